import PyProof.Rows.All
import Wide.All
import OpenK.AllK
import Wide.FinOn
import HandS.ExcCtx
import KE.KStateDown
import HandS.ForMost
import HandS.Exc
import HandS.ExcOwn
import HandS.WordsExc
import HandS.TryOnly
import HandS.TryMany
import HandS.ExcInit
import HandS.ExcField
import HandS.Deep
import HandS.TupAny
import HandS.Conv
import HandS.FStr
import HandS.Small
import HandS.Flow
import HandS.Style
import HandS.Steps
import HandS.IsInst
import HandS.Defaults
import HandS.Property
import HandS.MakeKw
import HandS.Wide
import HandS.Zip
import HandS.Strs
import HandS.Sort
import HandS.RaiseMore
import HandS.Codes
import HandS.Lambda
import KE.KNest
import PyProof.EqKinds
import PyProof.NeKinds
import HandS.RevTup
import KE.GoesMore
import HandS.HeadEnd
import HandS.Flt
import HandS.ClsMeth
import HandS.SortInts
import HandS.OwnEq
import KE.KCallOwn
import HandS.Dict
import HandS.Iter
import HandS.SetFor
import HandS.More
import HandS.Words
import HandS.Comp
import KE.KDictDisplayH
import HandS.ExcIs
import HandS.Head0
import HandS.Head1
import HandS.Head2
import HandS.HeadHook1
import HandS.HeadHook2
import KE.KExcInit
import HandS.HotCalls
import PyProof.ExcBaseAll.ArithmeticError
import HandS.SetTxtIn
import KE.KEqDict
import Wide.More
import KE.SortKeyHeap
import OpenK.KMeth
import KE.KOpsOwn
import KE.KDictPairs
import HandS.Remove
import HandS.TupMul
import KE.DataMinMax
import KE.SortData
import HandS.TupSets
import HandS.ExcValue
import HandS.EndTab
import PySem.Challenge.RW_bitplaces_k01_errors_and_limits
set_option Elab.async false
set_option linter.all false
set_option maxRecDepth 100000
set_option maxHeartbeats 2000000
namespace DL
open PySem PySem.Spec PyProof.Rows L2
inductive D where
  | non | bl (b : Bool) | int (i : Int) | str (s : Str) | tup (xs : List D) | lst (xs : List D)
  | scr (ns : List Int) | dct (kvs : List (Key × D)) | ins (C : Addr) (fs : List (Str × D)) | cls (C : Addr) | exn (a : Addr) (d : Option Addr) (C : Addr) (fs : List (Str × D)) | clo (f : Addr) (σ : List (Option V)) (ds : List (Nat × D))
  /-- an error that is held as a value, with its attributes -/
  | exv (C : Addr) (fs : List (Str × D))
  deriving Inhabited
abbrev Fg := PySem.W.Frag
/-- no table of a code object -/
def NT (o : HO) : Prop := ∀ ps, o ≠ .tbl ps
/-- all but tables stay -/
def SameN (H H' : Hp) : Prop := ∀ b o, H b = some o → NT o → H' b = some o
theorem Same.n {H H' : Hp} (e : Same H H') : SameN H H' := fun b o h _ => e b o h
theorem SameN.k {H H' : Hp} (e : SameN H H') {b : Addr} {o : HO} (h : H b = some o) (n : NT o := by intro ps z; cases z) : H' b = some o := e b o h n
theorem SameN.seq {K : Fg} {H H' : Hp} {a : Addr} {xs : List V} (e : SameN H H') (h : SqL K H a xs) : SqL K H' a xs := by
  rcases h with (h | ⟨o, h⟩) | h
  · exact .inl (.inl (e.k h))
  · exact .inl (.inr ⟨o, e.k h⟩)
  · exact .inr h
/-- a tuple all of whose object is known to be plain -/
def SqX (K : Fg) (G : Hp) (a : Addr) (vs : List V) : Prop := (∃ o, G a = some (.frz o (.tup vs)) ∧ o.dict = none) ∨
  ∃ (o : Obj) (its : Array Value) (n : Nat), K.lookup a = some o ∧ o.cls = .type "tuple" ∧ o.dict = none ∧ o.data = .seq its n ∧ its.size ≤ sizeLine ∧ Vals vs its.toList
theorem SqX.monoN {K : Fg} {G G' : Hp} {a : Addr} {vs : List V} (e : SameN G G') (h : SqX K G a vs) : SqX K G' a vs := by
  rcases h with ⟨o, h, d⟩ | h
  · exact .inl ⟨o, e.k h, d⟩
  · exact .inr h
theorem SqX.mono {K : Fg} {G G' : Hp} {a : Addr} {vs : List V} (e : Same G G') (h : SqX K G a vs) : SqX K G' a vs := h.monoN (Same.n e)
mutual
inductive Rp (K : Fg) (G : Hp) : V → D → Prop
  | non : Rp K G .non .non
  | bl (b : Bool) : Rp K G (.bl b) (.bl b)
  | int (i : Int) : Rp K G (.int i) (.int i)
  | cls (C : Addr) : Rp K G (.ref C) (.cls C)
  | str (s : Str) : Rp K G (.str s) (.str s)
  | tup {a : Addr} {vs : List V} {ds : List D} : SqX K G a vs → RpA K G vs ds → Rp K G (.ref a) (.tup ds)
  | lst {a : Addr} {vs : List V} {ds : List D} : G a = some (.lst vs) → RpA K G vs ds → Rp K G (.ref a) (.lst ds)
  | scr {a : Addr} {ns : List Int} : SqL K G a (ns.map V.int) → Rp K G (.ref a) (.scr ns)
  | dct {a : Addr} {o : Obj} {kvs : List (Key × V)} {kds : List (Key × D)} : G a = some (.frz o (.dK kvs)) → RpK K G kvs kds → Rp K G (.ref a) (.dct kds)
  | ins {a C dx : Addr} {fs : List (Str × V)} {ds : List (Str × D)} : G a = some (.ins C dx fs) → G dx = some (.own a) → RpF K G fs ds → Rp K G (.ref a) (.ins C ds)
  | exn0 {a C : Addr} : Rp K G (.ref a) (.exn a none C [])
  | exn1 {a d C : Addr} {fs : List (Str × V)} {ds : List (Str × D)} : G d = some (.xd fs) → RpF K G fs ds → Rp K G (.ref a) (.exn a (some d) C ds)
  | clo {f : Addr} {σ : List (Option V)} {ds : List (Nat × D)} : RpC K G σ ds → Rp K G (.ref f) (.clo f σ ds)
  | exv0 {a C : Addr} : G a = some (exo a C none) → Rp K G (.ref a) (.exv C [])
  | exv1 {a d C : Addr} {fs : List (Str × V)} {ds : List (Str × D)} : G a = some (exo a C (some d)) → G d = some (exd d fs) → RpF K G fs ds → Rp K G (.ref a) (.exv C ds)
inductive RpA (K : Fg) (G : Hp) : List V → List D → Prop
  | nil : RpA K G [] []
  | cons {v : V} {d : D} {vs : List V} {ds : List D} : Rp K G v d → RpA K G vs ds → RpA K G (v :: vs) (d :: ds)
inductive RpK (K : Fg) (G : Hp) : List (Key × V) → List (Key × D) → Prop
  | nil : RpK K G [] []
  | cons {k : Key} {v : V} {d : D} {vs : List (Key × V)} {ds : List (Key × D)} : Rp K G v d → RpK K G vs ds → RpK K G ((k, v) :: vs) ((k, d) :: ds)
inductive RpF (K : Fg) (G : Hp) : List (Str × V) → List (Str × D) → Prop
  | nil : RpF K G [] []
  | cons {k : Str} {v : V} {d : D} {vs : List (Str × V)} {ds : List (Str × D)} : Rp K G v d → RpF K G vs ds → RpF K G ((k, v) :: vs) ((k, d) :: ds)
/-- what a lambda has captured: slots of the frame around it, with their data -/
inductive RpC (K : Fg) (G : Hp) : List (Option V) → List (Nat × D) → Prop
  | nil {σ : List (Option V)} : RpC K G σ []
  | cons {σ : List (Option V)} {j : Nat} {v : V} {d : D} {ds : List (Nat × D)} : σ[j]? = some (some v) → Rp K G v d → RpC K G σ ds → RpC K G σ ((j, d) :: ds)
end
section
variable {K : Fg} {G G' : Hp}
mutual
theorem Rp.monoN (e : SameN G G') {v : V} {d : D} : Rp K G v d → Rp K G' v d
  | .non => .non
  | .bl b => .bl b
  | .int i => .int i
  | .cls C => .cls C
  | .str s => .str s
  | .tup h r => .tup (h.monoN e) (RpA.monoN e r)
  | .lst h r => .lst (e.k h) (RpA.monoN e r)
  | .scr h => .scr (e.seq h)
  | .dct h r => .dct (e.k h) (RpK.monoN e r)
  | .ins h h2 r => .ins (e.k h) (e.k h2) (RpF.monoN e r)
  | .exn0 => .exn0
  | .exn1 h r => .exn1 (e.k h) (RpF.monoN e r)
  | .clo r => .clo (RpC.monoN e r)
  | .exv0 h => .exv0 (e.k h)
  | .exv1 h h2 r => .exv1 (e.k h) (e.k h2) (RpF.monoN e r)
theorem RpA.monoN (e : SameN G G') {vs : List V} {ds : List D} : RpA K G vs ds → RpA K G' vs ds
  | .nil => .nil
  | .cons r t => .cons (Rp.monoN e r) (RpA.monoN e t)
theorem RpK.monoN (e : SameN G G') {vs : List (Key × V)} {ds : List (Key × D)} : RpK K G vs ds → RpK K G' vs ds
  | .nil => .nil
  | .cons r t => .cons (Rp.monoN e r) (RpK.monoN e t)
theorem RpF.monoN (e : SameN G G') {vs : List (Str × V)} {ds : List (Str × D)} : RpF K G vs ds → RpF K G' vs ds
  | .nil => .nil
  | .cons r t => .cons (Rp.monoN e r) (RpF.monoN e t)
theorem RpC.monoN (e : SameN G G') {σ : List (Option V)} {ds : List (Nat × D)} : RpC K G σ ds → RpC K G' σ ds
  | .nil => .nil
  | .cons h r t => .cons h (Rp.monoN e r) (RpC.monoN e t)
end
theorem Rp.mono (e : Same G G') {v : V} {d : D} (h : Rp K G v d) : Rp K G' v d := h.monoN (Same.n e)
theorem RpA.mono (e : Same G G') {vs : List V} {ds : List D} (h : RpA K G vs ds) : RpA K G' vs ds := h.monoN (Same.n e)
theorem RpK.mono (e : Same G G') {vs : List (Key × V)} {ds : List (Key × D)} (h : RpK K G vs ds) : RpK K G' vs ds := h.monoN (Same.n e)
theorem RpF.mono (e : Same G G') {vs : List (Str × V)} {ds : List (Str × D)} (h : RpF K G vs ds) : RpF K G' vs ds := h.monoN (Same.n e)
theorem sameT {H H' : Hp} {a : Addr} {xs : List V} (e : Same H H') (h : SqT K H a xs) : SqT K H' a xs := by
  rcases h with (h | ⟨o, h⟩) | h
  · exact .inl (.inl (e _ _ h))
  · exact .inl (.inr ⟨o, e _ _ h⟩)
  · exact .inr h
theorem RpA.length {vs : List V} {ds : List D} (r : RpA K G vs ds) : vs.length = ds.length := by
  induction ds generalizing vs with
  | nil => cases r; rfl
  | cons d ds ih => cases r with
    | cons r t => simp [ih t]
theorem RpA.get {vs : List V} {ds : List D} (r : RpA K G vs ds) {i : Nat} {d : D} (h : ds[i]? = some d) : ∃ v, vs[i]? = some v ∧ Rp K G v d := by
  induction ds generalizing vs i with
  | nil => simp at h
  | cons d0 ds ih => cases r with
    | cons r t =>
      cases i with
      | zero => simp at h; subst h; exact ⟨_, rfl, r⟩
      | succ i => simpa using ih t (i := i) (by simpa using h)
theorem RpA.append {vs us : List V} {ds es : List D} (r : RpA K G vs ds) (r' : RpA K G us es) : RpA K G (vs ++ us) (ds ++ es) := by
  induction ds generalizing vs with
  | nil => cases r; exact r'
  | cons d ds ih => cases r with
    | cons r t => exact .cons r (ih t)
theorem RpA.set {vs : List V} {ds : List D} (r : RpA K G vs ds) (i : Nat) {v : V} {d : D} (h : Rp K G v d) : RpA K G (vs.set i v) (ds.set i d) := by
  induction ds generalizing vs i with
  | nil => cases r; exact .nil
  | cons d0 ds ih => cases r with
    | cons r t => cases i with
      | zero => exact .cons h t
      | succ n => exact .cons r (ih t n)
theorem RpF.none {vs : List (Str × V)} {ds : List (Str × D)} (r : RpF K G vs ds) {k : Str} (h : ds.lookup k = Option.none) : vs.lookup k = Option.none := by
  induction ds generalizing vs with
  | nil => cases r; rfl
  | cons p ds ih => cases r with
    | cons r t =>
      rw [List.lookup_cons] at h ⊢
      split at h
      · cases h
      · exact ih t h
end
mutual
def D.py : D → PyData
  | .non => .none
  | .bl b => .bool b
  | .int i => .int i
  | .str s => .str s
  | .tup xs => .tuple (pyA xs)
  | .lst xs => .list (pyA xs)
  | .dct _ | .ins _ _ | .scr _ | .cls _ | .exn _ _ _ _ | .clo _ _ _ | .exv _ _ => .none
def pyA : List D → List PyData
  | [] => []
  | x :: xs => x.py :: pyA xs
end
mutual
/-- none but None, bools, ints, texts, tuples, lists -/
def D.pure : D → Bool
  | .non | .bl _ | .int _ | .str _ => true
  | .tup xs | .lst xs => pureA xs
  | .dct _ | .ins _ _ | .scr _ | .cls _ | .exn _ _ _ _ | .clo _ _ _ | .exv _ _ => false
def pureA : List D → Bool
  | [] => true
  | x :: xs => x.pure && pureA xs
end
/-- the names of defs that make lambdas -/
def lamNames : List Str := ["_law_right", "_law_many_right", "_law_alone", "_law_one_right", "_law_turn", "_law_tried", "_law_asked_right", "_law_is_so", "_law_near_right", "_law_all", "Book.__setitem__", "sets_of"]
/-- the code object of a method and its table -/
def gaX (K : Fg) (x : Str) : Addr := match PySem.W.nsIn K mainGlobals x with
  | some (some (.ref f)) => f
  | _ => 0
def tabM (K : Fg) (C : Addr) (m : Str) : Option (Addr × Addr) := match PySem.W.findIn K (.ref C) m with
  | some (some (.ref f)) => (match K.lookup f with
    | some o => (match o.data with
      | .func fd => (match fd.code with
        | .ref c => (match K.lookup c with
          | some u => (match u.data with
            | .fields vs => (match (vs[11]? : Option Value) with
              | some (.ref P) => some (c, P)
              | _ => none)
            | _ => none)
          | none => none)
        | _ => none)
      | _ => none)
    | none => none)
  | _ => none
def tabInX (K : Fg) (x : Str) : Option (Addr × Addr) := if x = "Book.__setitem__" then tabM K (gaX K "Book") "__setitem__" else PySem.W.tabIn K x
/-- the table of the code object of a def of the module -/
def tabOfN (K : Fg) (x : Str) : List (Addr × Str) := match tabInX K x with
  | some (_, P) => [(P, x ++ ".<locals>." ++ "<lambda>")]
  | none => []
def tabsK (K : Fg) : List (Addr × Str) := lamNames.flatMap (tabOfN K)
/-- the tables keep what is known of them -/
def TbS (K : Fg) (H H' : Hp) : Prop := ∀ p ∈ tabsK K, LamX.TabS H p.1 p.2 → LamX.TabS H' p.1 p.2
theorem TbS.refl {K : Fg} {H : Hp} : TbS K H H := fun _ _ h => h
theorem TbS.trans {K : Fg} {H H1 H2 : Hp} (a : TbS K H H1) (b : TbS K H1 H2) : TbS K H H2 := fun p hp h => b p hp (a p hp h)
theorem TbS.same {K : Fg} {H H' : Hp} (s : Same H H') : TbS K H H' := fun _ _ t => t.ext s
/-- neither a table nor a code object -/
def NX (o : HO) : Prop := NT o ∧ ∀ φ, o ≠ .ext φ
theorem TbS.upd {K : Fg} {H : Hp} {a : Addr} {o o' : HO} (h : H a = some o) (n : NX o) : TbS K H (upd H a o') := fun p _ ⟨ps, h1, h2, h3⟩ => by
  have ne : ∀ b u, H b = some u → u ≠ o → b ≠ a := fun b u e z y => z (by rw [y, h] at e; exact (Option.some.inj e).symm)
  refine ⟨ps, by rw [upd_ne (ne p.1 _ h1 (n.1 ps).symm)]; exact h1, h2, fun pos cv hc => ?_⟩
  obtain ⟨c, e1, e2⟩ := h3 pos cv hc
  exact ⟨c, e1, by rw [upd_ne (ne c _ e2 (by unfold LamX.CodeO; exact (n.2 _).symm))]; exact e2⟩
/-- what lies at a is neither a table nor a code object -/
def FreeX (H : Hp) (a : Addr) : Prop := ∀ u, H a = some u → NX u
theorem fx_none {H : Hp} {a : Addr} (h : H a = none) : FreeX H a := fun u e => by rw [h] at e; cases e
theorem fx_of {H : Hp} {a : Addr} {o : HO} (h : H a = some o) (n : NX o := by exact ⟨fun _ z => (nomatch z), fun _ z => (nomatch z)⟩) : FreeX H a := fun u e => by rw [h] at e; cases e; exact n
theorem TbS.updX {K : Fg} {H : Hp} {a : Addr} {o' : HO} (x : FreeX H a) : TbS K H (L2.upd H a o') := fun p hp t => by
  cases h : H a with
  | none => exact t.ext fun b u e => by rw [upd_ne (ne_of_none e h)]; exact e
  | some o => exact TbS.upd h (x o h) p hp t
structure Ext (K : Fg) (G H G' H' : Hp) : Prop where
  g : Same G G'
  h : SameN H H'
  s : Same G' H'
  nw : ∀ a o, G' a = some o → G a = some o ∨ H a = none
  al : ∀ a, H' a = none → H a = none
  tb : TbS K H H'
theorem Ext.k {K : Fg} {G H G' H' : Hp} (e : Ext K G H G' H') {a : Addr} {o : HO} (h : H a = some o) (n : NT o := by intro ps z; cases z) : H' a = some o := e.h a o h n
theorem Ext.of {K : Fg} {G H G' H' : Hp} (g : Same G G') (h : Same H H') (s : Same G' H') (nw : ∀ a o, G' a = some o → G a = some o ∨ H a = none) : Ext K G H G' H' := ⟨g, fun a o e _ => h a o e, s, nw, fun _ e => h.free e, .same h⟩
theorem Ext.refl {K : Fg} {G H : Hp} (s : Same G H) : Ext K G H G H := .of (Same.refl _) (Same.refl _) s fun _ _ h => .inl h
theorem Ext.trans {K : Fg} {G H G1 H1 G2 H2 : Hp} (a : Ext K G H G1 H1) (b : Ext K G1 H1 G2 H2) : Ext K G H G2 H2 := by
  refine ⟨a.g.trans b.g, fun c o e n => b.h c o (a.h c o e n) n, b.s, fun c o e => ?_, fun c e => a.al c (b.al c e), a.tb.trans b.tb⟩
  rcases b.nw c o e with e | e
  · exact a.nw c o e
  · exact .inr (a.al _ e)
theorem same_upd {H : Hp} {p : Addr} {o : HO} (h : H p = none) : Same H (upd H p o) := fun b u e => by
  rw [upd_ne (ne_of_none e h)]; exact e
/-- a new object, not frozen -/
theorem Ext.aside {K : Fg} {G H : Hp} {p : Addr} {o : HO} (s : Same G H) (h : H p = none) : Ext K G H G (upd H p o) :=
  .of (Same.refl _) (same_upd h) (s.trans (same_upd h)) fun _ _ e => .inl e
structure Exn where
  cls : Addr
  fs : List (Str × D)
inductive R (α : Type) where
  | ok (a : α) | ex (e : Exn) | st
def R.bind {α β : Type} (r : R α) (f : α → R β) : R β := match r with
  | .ok a => f a
  | .ex e => .ex e
  | .st => .st
@[simp] theorem R.bind_ok {α β : Type} (a : α) (f : α → R β) : (R.ok a).bind f = f a := rfl
@[simp] theorem R.bind_ex {α β : Type} (a : Exn) (f : α → R β) : (R.ex a : R α).bind f = .ex a := rfl
@[simp] theorem R.bind_st {α β : Type} (f : α → R β) : (R.st : R α).bind f = .st := rfl
def XkOk (K : Fg) (G H : Hp) (x : Exn) (d : Option Addr) : Prop := match d with
  | none => x.fs = []
  | some a => ∃ fs, G a = some (.xd fs) ∧ RpF K G fs x.fs
inductive Ow where
  | lst (ds : List D) | ll (dss : List (List D)) | dk (kvs : List (Key × D)) | dt (kvs : List (List Key × D)) | ins (C : Addr) (fs : List (Str × D)) | pr (d : D) (ds : List D)
  | clo (f : Addr) (σ : List (Option V)) (ds : List (Nat × D)) (j : Nat) (C : Addr) (fs : List (Str × D))
inductive Sl where
  | un | val (d : D) | own (t : Nat) (o : Ow)
/-- inner lists of a list -/
inductive LLs (K : Fg) (G H : Hp) : List Addr → List (List D) → Prop
  | nil : LLs K G H [] []
  | cons {a : Addr} {vs : List V} {ds : List D} {as : List Addr} {dss : List (List D)} : H a = some (.lst vs) → RpA K G vs ds → LLs K G H as dss → LLs K G H (a :: as) (ds :: dss)
inductive RpT (K : Fg) (G : Hp) : List (List Key × V) → List (List Key × D) → Prop
  | nil : RpT K G [] []
  | cons {k : List Key} {v : V} {d : D} {vs : List (List Key × V)} {ds : List (List Key × D)} : Rp K G v d → RpT K G vs ds → RpT K G ((k, v) :: vs) ((k, d) :: ds)
theorem RpT.mono {K : Fg} {G G' : Hp} (e : Same G G') {vs : List (List Key × V)} {ds : List (List Key × D)} (h : RpT K G vs ds) : RpT K G' vs ds := by
  induction h with
  | nil => exact .nil
  | cons r _ ih => exact .cons (r.mono e) ih
inductive Own (K : Fg) (G H : Hp) : V → Ow → List Addr → Prop
  | lst {a : Addr} {vs : List V} {ds : List D} : H a = some (.lst vs) → RpA K G vs ds → Own K G H (.ref a) (.lst ds) [a]
  | ll {a : Addr} {as : List Addr} {dss : List (List D)} : H a = some (.lst (as.map V.ref)) → LLs K G H as dss → Own K G H (.ref a) (.ll dss) (a :: as)
  | dk {a : Addr} {vs : List (Key × V)} {ds : List (Key × D)} : H a = some (.dK vs) → RpK K G vs ds → Own K G H (.ref a) (.dk ds) [a]
  | dt {a : Addr} {vs : List (List Key × V)} {ds : List (List Key × D)} : H a = some (.dT vs) → RpT K G vs ds → Own K G H (.ref a) (.dt ds) [a]
  | ins {a dx C : Addr} {vs : List (Str × V)} {fs : List (Str × D)} : H a = some (.ins C dx vs) → H dx = some (.own a) → RpF K G vs fs → Own K G H (.ref a) (.ins C fs) [a, dx]
  | clo {f a dx C : Addr} {σ : List (Option V)} {cs : List (Nat × D)} {j : Nat} {vs : List (Str × V)} {fs : List (Str × D)} : RpC K G σ cs → σ[j]? = some (some (.ref a)) → H a = some (.ins C dx vs) → H dx = some (.own a) → RpF K G vs fs → Own K G H (.ref f) (.clo f σ cs j C fs) [a, dx]
  | pr {p a : Addr} {u : V} {vs : List V} {d : D} {ds : List D} : SqX K G p [u, .ref a] → Rp K G u d → H a = some (.lst vs) → RpA K G vs ds → Own K G H (.ref p) (.pr d ds) [a]
inductive Sts (K : Fg) (θ : Nat → Addr) (G H : Hp) : List (Option V) → List Sl → List Addr → Prop
  | nil : Sts K θ G H [] [] []
  | un {v : Option V} {σ : List (Option V)} {ρ : List Sl} {W : List Addr} : Sts K θ G H σ ρ W → Sts K θ G H (v :: σ) (.un :: ρ) W
  | val {v : V} {d : D} {σ : List (Option V)} {ρ : List Sl} {W : List Addr} : Rp K G v d → Sts K θ G H σ ρ W → Sts K θ G H (some v :: σ) (.val d :: ρ) W
  | own {v : V} {t : Nat} {o : Ow} {fp : List Addr} {σ : List (Option V)} {ρ : List Sl} {W : List Addr} : Own K G H v o fp → (t = 0 ∨ v = .ref (θ t)) → Sts K θ G H σ ρ W → Sts K θ G H (some v :: σ) (.own t o :: ρ) (fp ++ W)
/-- the tables are not frozen, and known -/
def TbOk (K : Fg) (G H : Hp) : Prop := ∀ p ∈ tabsK K, G p.1 = none ∧ LamX.TabS H p.1 p.2
theorem TbOk.ext {K : Fg} {G H G' H' : Hp} (t : TbOk K G H) (nw : ∀ a o, G' a = some o → G a = some o ∨ H a = none) (tb : TbS K H H') : TbOk K G' H' := fun p hp => by
  obtain ⟨h1, h2⟩ := t p hp
  refine ⟨?_, tb p hp h2⟩
  cases q : G' p.1 with
  | none => rfl
  | some o =>
    obtain ⟨ps, h3, _⟩ := h2
    rcases nw _ _ q with z | z
    · rw [h1] at z; cases z
    · rw [h3] at z; cases z
structure Stt (K : Fg) (θ : Nat → Addr) (G H : Hp) (σ : List (Option V)) (ρ : List Sl) (W : List Addr) : Prop where
  same : Same G H
  sts : Sts K θ G H σ ρ W
  nd : W.Nodup
  out : ∀ a ∈ W, G a = none
  tab : TbOk K G H
section
variable {K : Fg} {θ : Nat → Addr} {G H G' H' : Hp} {σ : List (Option V)} {ρ : List Sl} {W fp : List Addr} {v : V} {o : Ow}
theorem LLs.ext {as : List Addr} {dss : List (List D)} (e : Ext K G H G' H') (h : LLs K G H as dss) : LLs K G' H' as dss := by
  induction h with
  | nil => exact .nil
  | cons h r _ ih => exact .cons (e.k h) (r.mono e.g) ih
theorem LLs.in_ {as : List Addr} {dss : List (List D)} (h : LLs K G H as dss) : ∀ a ∈ as, ∃ u, H a = some u := by
  induction h with
  | nil => intro a ha; cases ha
  | cons h r _ ih =>
    intro a ha
    rcases List.mem_cons.mp ha with rfl | ha
    · exact ⟨_, h⟩
    · exact ih a ha
theorem Own.ext (e : Ext K G H G' H') (h : Own K G H v o fp) : Own K G' H' v o fp := by
  cases h with
  | lst h r => exact .lst (e.k h) (r.mono e.g)
  | ll h r => exact .ll (e.k h) (r.ext e)
  | dk h r => exact .dk (e.k h) (r.mono e.g)
  | dt h r => exact .dt (e.k h) (r.mono e.g)
  | ins h h2 r => exact .ins (e.k h) (e.k h2) (r.mono e.g)
  | clo rc hs h h2 r => exact .clo (rc.monoN (Same.n e.g)) hs (e.k h) (e.k h2) (r.mono e.g)
  | pr h r h2 r2 => exact .pr (h.mono e.g) (r.mono e.g) (e.k h2) (r2.mono e.g)
theorem Own.in_ (h : Own K G H v o fp) : ∀ a ∈ fp, ∃ u, H a = some u := by
  intro a ha
  cases h with
  | lst h r => simp at ha; subst ha; exact ⟨_, h⟩
  | ll h r =>
    rcases List.mem_cons.mp ha with rfl | ha
    · exact ⟨_, h⟩
    · exact r.in_ a ha
  | dk h r => simp at ha; subst ha; exact ⟨_, h⟩
  | dt h r => simp at ha; subst ha; exact ⟨_, h⟩
  | ins h h2 r =>
    simp at ha
    rcases ha with rfl | rfl
    · exact ⟨_, h⟩
    · exact ⟨_, h2⟩
  | clo rc hs h h2 r =>
    simp at ha
    rcases ha with rfl | rfl
    · exact ⟨_, h⟩
    · exact ⟨_, h2⟩
  | pr h r h2 r2 => simp at ha; subst ha; exact ⟨_, h2⟩
theorem Sts.ext (e : Ext K G H G' H') (h : Sts K θ G H σ ρ W) : Sts K θ G' H' σ ρ W := by
  induction h with
  | nil => exact .nil
  | un _ ih => exact .un ih
  | val r _ ih => exact .val (r.mono e.g) ih
  | own r t _ ih => exact .own (r.ext e) t ih
theorem Sts.in_ (h : Sts K θ G H σ ρ W) : ∀ a ∈ W, ∃ u, H a = some u := by
  induction h with
  | nil => intro a ha; cases ha
  | un _ ih => exact ih
  | val _ _ ih => exact ih
  | own r _ _ ih =>
    intro a ha
    rcases List.mem_append.mp ha with h | h
    · exact r.in_ a h
    · exact ih a h
theorem Stt.ext (e : Ext K G H G' H') (h : Stt K θ G H σ ρ W) : Stt K θ G' H' σ ρ W := by
  refine ⟨e.s, h.sts.ext e, h.nd, fun a ha => ?_, h.tab.ext e.nw e.tb⟩
  cases q : G' a with
  | none => rfl
  | some u =>
    rcases e.nw a u q with z | z
    · rw [h.out a ha] at z; cases z
    · obtain ⟨u', hu⟩ := h.sts.in_ a ha
      rw [hu] at z; cases z
theorem Sts.len (h : Sts K θ G H σ ρ W) : σ.length = ρ.length := by
  induction h with
  | nil => rfl
  | un _ ih => simp [ih]
  | val _ _ ih => simp [ih]
  | own _ _ _ ih => simp [ih]
end
end DL
set_option Elab.async false
set_option linter.all false
set_option maxRecDepth 100000
set_option maxHeartbeats 2000000
namespace DL
open PySem PySem.Spec PyProof.Rows L2
abbrev ZK := Fg → Hp → Hp → V → D → Prop
def Zc : ZK := fun K G _ v d => Rp K G v d
def Zh : ZK := fun K G H v d => Rp K G v d ∨ ∃ a vs ds, v = .ref a ∧ d = .lst ds ∧ H a = some (.lst vs) ∧ RpA K G vs ds
def Zd : ZK := fun K _ H v d => Rp K H v d
class ZOk (Z : ZK) : Prop where
  ext : ∀ {K G H G' H' v d}, Ext K G H G' H' → Z K G H v d → Z K G' H' v d
  of : ∀ {K G H v d}, Same G H → Rp K G v d → Z K G H v d
  now : ∀ {K G H v d}, Same G H → Z K G H v d → Rp K H v d
instance : ZOk Zc := ⟨fun e h => Rp.mono e.g h, fun _ h => h, fun s h => Rp.mono s h⟩
instance : ZOk Zh := ⟨fun e h => by
    rcases h with h | ⟨a, vs, ds, h1, h2, h3, h4⟩
    · exact .inl (h.mono e.g)
    · exact .inr ⟨a, vs, ds, h1, h2, e.k h3, h4.mono e.g⟩, fun _ h => .inl h, fun s h => by
    rcases h with h | ⟨a, vs, ds, h1, h2, h3, h4⟩
    · exact h.mono s
    · subst h1 h2; exact .lst h3 (h4.mono s)⟩
instance : ZOk Zd := ⟨fun e h => Rp.monoN e.h h, fun s h => h.mono s, fun _ h => h⟩
theorem Zh.lst {K : Fg} {G H : Hp} {v : V} {ds : List D} (s : Same G H) (h : Zh K G H v (.lst ds)) : ∃ a vs, v = .ref a ∧ H a = some (.lst vs) ∧ RpA K G vs ds := by
  rcases h with h | ⟨a, vs, ds', h1, h2, h3, h4⟩
  · cases h with
    | lst h r => exact ⟨_, _, rfl, s _ _ h, r⟩
  · cases h2; exact ⟨a, vs, h1, h3, h4⟩
theorem Zh.tup {K : Fg} {G H : Hp} {v : V} {ds : List D} (s : Same G H) (h : Zh K G H v (.tup ds)) : ∃ a vs, v = .ref a ∧ SqX K H a vs ∧ RpA K G vs ds := by
  rcases h with h | ⟨a, vs, ds', h1, h2, h3, h4⟩
  · cases h with
    | tup h r => exact ⟨_, _, rfl, h.mono s, r⟩
  · cases h2
theorem Zh.int {K : Fg} {G H : Hp} {v : V} {i : Int} (h : Zh K G H v (.int i)) : v = .int i := by
  rcases h with h | ⟨a, vs, ds', h1, h2, h3, h4⟩
  · cases h; rfl
  · cases h2
theorem Zh.str {K : Fg} {G H : Hp} {v : V} {i : Str} (h : Zh K G H v (.str i)) : v = .str i := by
  rcases h with h | ⟨a, vs, ds', h1, h2, h3, h4⟩
  · cases h; rfl
  · cases h2
theorem Zh.bl {K : Fg} {G H : Hp} {v : V} {i : Bool} (h : Zh K G H v (.bl i)) : v = .bl i := by
  rcases h with h | ⟨a, vs, ds', h1, h2, h3, h4⟩
  · cases h; rfl
  · cases h2
theorem Zh.non {K : Fg} {G H : Hp} {v : V} (h : Zh K G H v .non) : v = .non := by
  rcases h with h | ⟨a, vs, ds', h1, h2, h3, h4⟩
  · cases h; rfl
  · cases h2
def Pk (Z : ZK) (K : Fg) (W : WX) (σ : L2.St) (θ : Nat → Addr) (G : Hp) (ρ : List Sl) (Ws : List Addr) (H : Hp) (r : R D) (Q : VK) : Prop :=
  Stt K θ G H σ ρ Ws ∧ match r with
    | .ok d => ∀ v G' H', Ext K G H G' H' → Z K G' H' v d → Q v H'
    | .ex x => ∀ d G' H', Ext K G H G' H' → XkOk K G' H' x d → W (.ref x.cls) d σ H'
    | .st => False
section
variable {Z Za : ZK} {K : Fg} {W : WX} {σ : L2.St} {θ : Nat → Addr} {G H G1 H1 : Hp} {ρ : List Sl} {Ws : List Addr} {r : R D} {Q Q' : VK} {d : D} {v : V}
theorem Pk.ext (h : Pk Z K W σ θ G ρ Ws H r Q) (e : Ext K G H G1 H1) : Pk Z K W σ θ G1 ρ Ws H1 r Q := by
  refine ⟨h.1.ext e, ?_⟩
  have h2 := h.2
  cases r with
  | ok d => exact fun v G' H' e' z => h2 v G' H' (e.trans e') z
  | ex x => exact fun v G' H' e' z => h2 v G' H' (e.trans e') z
  | st => exact h2
theorem Pk.bind {k : D → R D} (h : Pk Z K W σ θ G ρ Ws H (r.bind k) Q) : Pk Za K W σ θ G ρ Ws H r (fun v H1 => ∃ d G1, r = .ok d ∧ Ext K G H G1 H1 ∧ Za K G1 H1 v d ∧ Pk Z K W σ θ G1 ρ Ws H1 (k d) Q) := by
  refine ⟨h.1, ?_⟩
  cases r with
  | ok d => exact fun v G' H' e' z => ⟨d, G', rfl, e', z, Pk.ext h e'⟩
  | ex x => exact h.2
  | st => exact h.2
theorem Pk.same (h : Pk Z K W σ θ G ρ Ws H r Q) : Same G H := h.1.same
/-- the value is there, nothing is laid -/
theorem Pk.val (h : Pk Z K W σ θ G ρ Ws H (.ok d) Q) (z : Z K G H v d) : Q v H := h.2 v G H (Ext.refl h.1.same) z
end
def tZ (Z : ZK) (K : Fg) (W : WX) (g : List Sl → R D) : TE := fun σ H Q => ∃ θ G ρ Ws, Pk Z K W σ θ G ρ Ws H (g ρ) Q
structure DZ (Z : ZK) (X : Cx) (W : WX) (e : Expr) (g : List Sl → R D) : Prop where
  run : PE X e (tZ Z X.K W g)
abbrev DP := DZ Zc
section
variable {X : Cx} {W : WX} {e a b c : Expr} {g fa fb fc : List Sl → R D} {pos : Pos} {Z Za Zb : ZK}
def pVar (i : Nat) (ρ : List Sl) : R D := match ρ[i]? with
  | some (.val d) => .ok d
  | _ => .st
/-- .. or the list that it owns -/
def pVarQ (i : Nat) (ρ : List Sl) : R D := match ρ[i]? with
  | some (.val d) => .ok d
  | some (.own _ (.lst ds)) => .ok (.lst ds)
  | _ => .st
def pVarR (i : Nat) (ρ : List Sl) : R D := match ρ[i]? with
  | some (.val d) => .ok d
  | some (.own _ (.lst ds)) => .ok (.lst ds)
  | some (.own _ (.ll dss)) => .ok (.lst (dss.map .lst))
  | _ => .st
def pC (d : D) (_ : List Sl) : R D := .ok d
def p1 (f : D → R D) (ga : List Sl → R D) (ρ : List Sl) : R D := (ga ρ).bind f
def p2 (f : D → D → R D) (ga gb : List Sl → R D) (ρ : List Sl) : R D := (ga ρ).bind fun x => (gb ρ).bind fun y => f x y
def p3 (f : D → D → D → R D) (ga gb gc : List Sl → R D) (ρ : List Sl) : R D := (ga ρ).bind fun x => (gb ρ).bind fun y => (gc ρ).bind fun z => f x y z
def Tk (K : Fg) (W : WX) (σ : L2.St) (θ : Nat → Addr) (G : Hp) (ρ : List Sl) (Ws : List Addr) (H : Hp) (r : R Bool) (Q : Bool → Hp → Prop) : Prop :=
  Stt K θ G H σ ρ Ws ∧ match r with
    | .ok d => ∀ G' H', Ext K G H G' H' → Q d H'
    | .ex x => ∀ d G' H', Ext K G H G' H' → XkOk K G' H' x d → W (.ref x.cls) d σ H'
    | .st => False
def tT (K : Fg) (W : WX) (g : List Sl → R Bool) : TT := fun σ H Q => ∃ θ G ρ Ws, Tk K W σ θ G ρ Ws H (g ρ) Q
structure DT (X : Cx) (W : WX) (e : Expr) (g : List Sl → R Bool) : Prop where
  run : PT X e (tT X.K W g)
structure DW (X : Cx) (W : WX) (e : Expr) (g : List Sl → R Bool) : Prop where
  run : PW X e (tT X.K W g)
section
variable {K : Fg} {σ : L2.St} {θ : Nat → Addr} {G H G1 H1 : Hp} {ρ : List Sl} {Ws : List Addr} {r : R Bool} {Q Q' : Bool → Hp → Prop}
theorem Tk.ext (h : Tk K W σ θ G ρ Ws H r Q) (e : Ext K G H G1 H1) : Tk K W σ θ G1 ρ Ws H1 r Q := by
  refine ⟨h.1.ext e, ?_⟩
  have h2 := h.2
  cases r with
  | ok d => exact fun G' H' e' => h2 G' H' (e.trans e')
  | ex x => exact fun v G' H' e' z => h2 v G' H' (e.trans e') z
  | st => exact h2
theorem Tk.bind {k : Bool → R Bool} (h : Tk K W σ θ G ρ Ws H (r.bind k) Q) : Tk K W σ θ G ρ Ws H r (fun c H1 => ∃ G1, r = .ok c ∧ Ext K G H G1 H1 ∧ Tk K W σ θ G1 ρ Ws H1 (k c) Q) := by
  refine ⟨h.1, ?_⟩
  cases r with
  | ok d => exact fun G' H' e' => ⟨G', rfl, e', Tk.ext h e'⟩
  | ex x => exact h.2
  | st => exact h.2
theorem Tk.val {c : Bool} (h : Tk K W σ θ G ρ Ws H (.ok c) Q) : Q c H := h.2 G H (Ext.refl h.1.same)
end
def asB : D → R Bool
  | .bl b => .ok b
  | _ => .st
def b1 (f : D → R Bool) (g : List Sl → R D) (ρ : List Sl) : R Bool := (g ρ).bind f
def bAnd (f g : List Sl → R Bool) (ρ : List Sl) : R Bool := (f ρ).bind fun c => if c then g ρ else .ok false
def bOr (f g : List Sl → R Bool) (ρ : List Sl) : R Bool := (f ρ).bind fun c => if c then .ok true else g ρ
def bNot (f : List Sl → R Bool) (ρ : List Sl) : R Bool := (f ρ).bind fun c => .ok !c
theorem DW.dt {f : List Sl → R Bool} (h : DW X W a f) : DT X W a f := ⟨h.run.pt⟩
/-- and, or, not as values; all parts True or False but the last one -/
def pAnd (f g : List Sl → R D) (ρ : List Sl) : R D := (f ρ).bind fun x => match x with
  | .bl true => g ρ
  | .bl false => .ok (.bl false)
  | _ => .st
def pOr (f g : List Sl → R D) (ρ : List Sl) : R D := (f ρ).bind fun x => match x with
  | .bl true => .ok (.bl true)
  | .bl false => g ρ
  | _ => .st
def pIf (c : List Sl → R Bool) (f g : List Sl → R D) (ρ : List Sl) : R D := (c ρ).bind fun b => if b then f ρ else g ρ
def Ak (K : Fg) (W : WX) (σ : L2.St) (θ : Nat → Addr) (G : Hp) (ρ : List Sl) (Ws : List Addr) (H : Hp) (r : R (List D)) (Q : List V → Hp → Prop) : Prop :=
  Stt K θ G H σ ρ Ws ∧ match r with
    | .ok ds => ∀ vs G' H', Ext K G H G' H' → RpA K G' vs ds → Q vs H'
    | .ex x => ∀ d G' H', Ext K G H G' H' → XkOk K G' H' x d → W (.ref x.cls) d σ H'
    | .st => False
def aNil (_ : List Sl) : R (List D) := .ok []
def aCons (f : List Sl → R D) (g : List Sl → R (List D)) (ρ : List Sl) : R (List D) := (f ρ).bind fun x => (g ρ).bind fun xs => .ok (x :: xs)
section
variable {K : Fg} {σ : L2.St} {θ : Nat → Addr} {G H G1 H1 : Hp} {ρ : List Sl} {Ws : List Addr} {r : R (List D)} {Q Q' : List V → Hp → Prop}
theorem Ak.ext (h : Ak K W σ θ G ρ Ws H r Q) (e : Ext K G H G1 H1) : Ak K W σ θ G1 ρ Ws H1 r Q := by
  refine ⟨h.1.ext e, ?_⟩
  have h2 := h.2
  cases r with
  | ok d => exact fun v G' H' e' z => h2 v G' H' (e.trans e') z
  | ex x => exact fun v G' H' e' z => h2 v G' H' (e.trans e') z
  | st => exact h2
theorem Ak.bind {k : List D → R (List D)} (h : Ak K W σ θ G ρ Ws H (r.bind k) Q) : Ak K W σ θ G ρ Ws H r (fun v H1 => ∃ d G1, r = .ok d ∧ Ext K G H G1 H1 ∧ RpA K G1 v d ∧ Ak K W σ θ G1 ρ Ws H1 (k d) Q) := by
  refine ⟨h.1, ?_⟩
  cases r with
  | ok d => exact fun v G' H' e' z => ⟨d, G', rfl, e', z, Ak.ext h e'⟩
  | ex x => exact h.2
  | st => exact h.2
end
/-- small enough for a list -/
def fits {α : Type} (xs : List α) : Bool := decide (xs.length ≤ sizeLine)
def mkL (ds : List D) : R D := if fits ds then .ok (.lst ds) else .st
def pA (f : List D → R D) (g : List Sl → R (List D)) (ρ : List Sl) : R D := (g ρ).bind f
def isL : D → R D
  | .lst ds => .ok (.lst ds)
  | _ => .st
end
end DL
set_option Elab.async false
set_option linter.all false
set_option maxRecDepth 100000
set_option maxHeartbeats 4000000
namespace DL
open PySem PySem.Spec PySem.SeqAt PySem.MeetsSeq PySem.Builtin
end DL
namespace DL
open PySem PySem.Spec PySem.SeqAt PySem.MeetsSeq PySem.Builtin PyProof.Rows L2
end DL
namespace DL
open PySem PySem.Spec PySem.SeqAt PySem.MeetsSeq PySem.Builtin PyProof.Rows L2
end DL
set_option Elab.async false
set_option linter.all false
set_option maxRecDepth 100000
set_option maxHeartbeats 2000000
namespace DL
open PySem PySem.Spec PyProof.Rows L2
def addD : D → D → R D
  | .int i, .int j => .ok (.int (i + j))
  | .str s, .str t => if s.length + t.length ≤ sizeLine then .ok (.str (s ++ t)) else .st
  | .tup xs, .tup ys => if xs.length + ys.length ≤ sizeLine then .ok (.tup (xs ++ ys)) else .st
  | .lst xs, .lst ys => if xs.length + ys.length ≤ sizeLine then .ok (.lst (xs ++ ys)) else .st
  | _, _ => .st
def subD : D → D → R D := fun x y => match x, y with
  | .int i, .int j => .ok (.int (i - j))
  | _, _ => .st
def ltD : D → D → R D := fun x y => match x, y with
  | .int i, .int j => .ok (.bl (decide (i < j)))
  | _, _ => .st
def leD : D → D → R D := fun x y => match x, y with
  | .int i, .int j => .ok (.bl (decide (i ≤ j)))
  | _, _ => .st
def gtD : D → D → R D := fun x y => match x, y with
  | .int i, .int j => .ok (.bl (decide (j < i)))
  | _, _ => .st
def geD : D → D → R D := fun x y => match x, y with
  | .int i, .int j => .ok (.bl (decide (j ≤ i)))
  | _, _ => .st
def D.sh (d : D) : Bool := d.pure && SeqAt.shaped d.py
def strsO : List D → Option (List Str)
  | [] => some []
  | .str b :: xs => (strsO xs).map (b :: ·)
  | _ :: _ => none
/-- is there: a datum in a list or a tuple, a sign in a text -/
def inB (neg : Bool) (x y : D) : R D := match y with
  | .lst ds => if x.sh && (D.lst ds).sh then .ok (.bl (neg ^^ ds.any fun z => PyData.eqv z.py x.py)) else .st
  | .tup ds => if x.sh && (D.tup ds).sh then .ok (.bl (neg ^^ ds.any fun z => PyData.eqv z.py x.py)) else (match x with
    | .dct _ => (match strsO ds with
      | some _ => .ok (.bl neg)
      | none => .st)
    | _ => .st)
  | .str z => (match x with
    | .str c => if c.cps.size = 1 then .ok (.bl (neg ^^ decide (c.cps.getD 0 0 ∈ z.cps.toList))) else .ok (.bl (neg ^^ !(Builtin.Str.occurrences z c 0 z.length 1).isEmpty))
    | _ => .st)
  | _ => .st
def inD : D → D → R D := inB false
def lenD : D → R D
  | .str s => if s.length ≤ sizeLine then .ok (.int s.length) else .st
  | .lst xs => .ok (.int xs.length)
  | .tup xs => .ok (.int xs.length)
  | .scr xs => .ok (.int xs.length)
  | _ => .st
def ixD (x y : D) : R D := match x, y with
  | .lst xs, .int i => (match atI xs i with | some d => .ok d | none => .st)
  | .tup xs, .int i => (match atI xs i with | some d => .ok d | none => .st)
  | .scr xs, .int i => (match atI xs i with | some d => .ok (.int d) | none => .st)
  | .str z, .int i => if z.length ≤ sizeLine then (match atI z.cps.toList i with | some c => .ok (.str ⟨#[c]⟩) | none => .st) else .st
  | _, _ => .st
/-- the answer to isinstance of a built-in class -/
def isK (t : String) : D → R D
  | .non => .ok (.bl (t == "NoneType"))
  | .bl _ => .ok (.bl (t == "bool" || t == "int"))
  | .int _ => .ok (.bl (t == "int"))
  | .str _ => .ok (.bl (t == "str"))
  | .tup _ => .ok (.bl (t == "tuple"))
  | .lst _ => .ok (.bl (t == "list"))
  | .dct _ => .ok (.bl (t == "dict"))
  | _ => .st
def boolsO : List D → Option (List Bool)
  | [] => some []
  | .bl b :: xs => (boolsO xs).map (b :: ·)
  | _ :: _ => none
def intsO : List D → Option (List Int)
  | [] => some []
  | .int b :: xs => (intsO xs).map (b :: ·)
  | _ :: _ => none
@[simp] theorem bools_map : ∀ bs : List Bool, boolsO (bs.map D.bl) = some bs
  | [] => rfl
  | b :: bs => by simp [boolsO, bools_map bs]
@[simp] theorem ints_map : ∀ bs : List Int, intsO (bs.map D.int) = some bs
  | [] => rfl
  | b :: bs => by simp [intsO, ints_map bs]
@[simp] theorem strs_map : ∀ bs : List Str, strsO (bs.map D.str) = some bs
  | [] => rfl
  | b :: bs => by simp [strsO, strs_map bs]
def allD : D → R D
  | .lst xs => (match boolsO xs with | some bs => .ok (.bl (bs.all id)) | none => .st)
  | _ => .st
def absD : D → R D
  | .int i => .ok (.int (if i < 0 then -i else i))
  | _ => .st
def intD : D → R D
  | .int i => .ok (.int i)
  | .bl b => .ok (.int (if b then 1 else 0))
  | _ => .st
end DL
set_option Elab.async false
set_option linter.all false
set_option maxRecDepth 100000
set_option maxHeartbeats 2000000
namespace DL
open PySem PySem.Spec PyProof.Rows L2
end DL
set_option Elab.async false
set_option linter.all false
set_option maxRecDepth 100000
set_option maxHeartbeats 2000000
namespace DL
open PySem PySem.Spec PyProof.Rows L2
/-- a datum, or a tuple that is known by its items alone -/
inductive RpI (K : Fg) (G : Hp) : V → D → Prop
  | r {x : V} {d : D} : Rp K G x d → RpI K G x d
  | t {a : Addr} {vs : List V} {ds : List D} : G a = some (.tup vs) → RpA K G vs ds → RpI K G (.ref a) (.tup ds)
abbrev PZ := Fg → Hp → V → D → Prop
/-- the walk J gives these data, while what is frozen at G₀ stands -/
def GoesD (K : Fg) (Pz : PZ) (J : It) (G₀ : Hp) (items : List D) : Prop := ∀ (i : Nat) (G H : Hp), Same G₀ G → Same G H →
  (∀ d, items[i]? = some d → J.go i H ∧ ∀ x H', J.yld i H x H' → ∃ G', Ext K G H G' H' ∧ Pz K G' x d) ∧ (items.length ≤ i → J.stop i H)
def Ik (K : Fg) (Pz : PZ) (W : WX) (σ : L2.St) (θ : Nat → Addr) (G : Hp) (ρ : List Sl) (Ws : List Addr) (H : Hp) (r : R (List D)) (Rr : It → Hp → Prop) : Prop :=
  Stt K θ G H σ ρ Ws ∧ match r with
    | .ok items => ∀ J G' H', Ext K G H G' H' → GoesD K Pz J G' items → Rr J H'
    | .ex x => ∀ d G' H', Ext K G H G' H' → XkOk K G' H' x d → W (.ref x.cls) d σ H'
    | .st => False
section
variable {Z : ZK} {K : Fg} {W : WX} {σ : L2.St} {θ : Nat → Addr} {G H G1 H1 : Hp} {ρ : List Sl} {Ws : List Addr} {r : R (List D)} {Q : It → Hp → Prop} {Pz : PZ}
theorem Ik.ext (h : Ik K Pz W σ θ G ρ Ws H r Q) (e : Ext K G H G1 H1) : Ik K Pz W σ θ G1 ρ Ws H1 r Q := by
  refine ⟨h.1.ext e, ?_⟩
  have h2 := h.2
  cases r with
  | ok d => exact fun v G' H' e' z => h2 v G' H' (e.trans e') z
  | ex x => exact fun v G' H' e' z => h2 v G' H' (e.trans e') z
  | st => exact h2
end
theorem SqT.inj {K : Fg} {G H : Hp} {a : Addr} {xs ys : List V} (h : SqT K H a xs) (h' : SqT K H a ys) (hk : H a ≠ none ∨ (K.lookup a).isSome) : True := trivial
def signsD : D → R (List D)
  | .str z => .ok (z.cps.toList.map fun c => .str ⟨#[c]⟩)
  | _ => .st
def i1 (f : D → R (List D)) (g : List Sl → R D) (ρ : List Sl) : R (List D) := (g ρ).bind f
section
variable {K : Fg} {θ : Nat → Addr} {G H : Hp}
theorem Sts.wipe1 {σ : List (Option V)} {ρ : List Sl} {W : List Addr} (h : Sts K θ G H σ ρ W) (i : Nat) : ∃ W', Sts K θ G H (σ.set i none) (ρ.set i .un) W' ∧ W'.Sublist W := by
  induction h generalizing i with
  | nil => exact ⟨[], .nil, List.Sublist.refl _⟩
  | un _ ih =>
    cases i with
    | zero => exact ⟨_, .un ‹_›, List.Sublist.refl _⟩
    | succ i =>
      obtain ⟨W', h1, h2⟩ := ih i
      exact ⟨W', .un h1, h2⟩
  | val r0 _ ih =>
    cases i with
    | zero => exact ⟨_, .un ‹_›, List.Sublist.refl _⟩
    | succ i =>
      obtain ⟨W', h1, h2⟩ := ih i
      exact ⟨W', .val r0 h1, h2⟩
  | own r0 t0 _ ih =>
    cases i with
    | zero => exact ⟨_, .un ‹_›, List.sublist_append_right _ _⟩
    | succ i =>
      obtain ⟨W', h1, h2⟩ := ih i
      exact ⟨_, .own r0 t0 h1, (List.Sublist.refl _).append h2⟩
def wipeS (ρ : List Sl) : List Nat → List Sl
  | [] => ρ
  | v :: vs => (wipeS ρ vs).set v .un
theorem Stt.sub {σ σ' : List (Option V)} {ρ ρ' : List Sl} {W W' : List Addr} (h : Stt K θ G H σ ρ W) (h' : Sts K θ G H σ' ρ' W') (s : W'.Sublist W) : Stt K θ G H σ' ρ' W' :=
  ⟨h.same, h', h.nd.sublist s, fun a ha => h.out a (s.subset ha), h.tab⟩
theorem Stt.wipe {σ : List (Option V)} {ρ : List Sl} {W : List Addr} (h : Stt K θ G H σ ρ W) : ∀ vs : List Nat, ∃ W', Stt K θ G H (L2.wipe σ vs) (wipeS ρ vs) W' ∧ W'.Sublist W
  | [] => ⟨W, h, List.Sublist.refl _⟩
  | v :: vs => by
    obtain ⟨W1, h1, s1⟩ := Stt.wipe h vs
    obtain ⟨W2, h2, s2⟩ := h1.sts.wipe1 v
    exact ⟨W2, h1.sub h2 s2, s2.trans s1⟩
end
/-- a target: where a datum goes; vs: the slots that it sets -/
def TgOk (K : Fg) (Pz : PZ) (t : TG) (vs : List Nat) (f : D → List Sl → Option (List Sl)) : Prop := ∀ ⦃θ G H σ ρ W v d ρ' Q⦄, Stt K θ G H σ ρ W → Pz K G v d → f d ρ = some ρ' →
    (∀ σ' W', Stt K θ G H σ' ρ' W' → W'.Sublist W → (∀ us : List Nat, (∀ i ∈ vs, i ∈ us) → L2.wipe σ' us = L2.wipe σ us) → Q σ' H) → t v σ H Q
def gVar (i : Nat) (d : D) (ρ : List Sl) : Option (List Sl) := if i < ρ.length then some (ρ.set i (.val d)) else none
def gTupD (f : List D → List Sl → Option (List Sl)) (d : D) (ρ : List Sl) : Option (List Sl) := match d with
  | .tup ds => f ds ρ
  | _ => none
def gsCons (f : D → List Sl → Option (List Sl)) (g : List D → List Sl → Option (List Sl)) (ds : List D) (ρ : List Sl) : Option (List Sl) := match ds with
  | d :: r => (f d ρ).bind fun ρ1 => g r ρ1
  | [] => none
section
variable {K : Fg}
theorem TgOk.r {t : TG} {vs : List Nat} {f : D → List Sl → Option (List Sl)} (h : TgOk K RpI t vs f) : TgOk K Rp t vs f := fun _ _ _ _ _ _ _ _ _ _ S r e q => h S (.r r) e q
end
/-- the turns -/
def lcGo (f : D → List Sl → Option (List Sl)) (t : List Sl → R Bool) (g : List Sl → R D) (ρ : List Sl) : List D → R (List D)
  | [] => .ok []
  | d :: ds => match f d ρ with
    | none => .st
    | some ρ1 => (t ρ1).bind fun b => if b then (g ρ1).bind fun y => (lcGo f t g ρ ds).bind fun ys => .ok (y :: ys) else lcGo f t g ρ ds
def noEx {α : Type} : R α → R α
  | .ok a => .ok a
  | _ => .st
def pLc (src : List Sl → R (List D)) (vs : List Nat) (f : D → List Sl → Option (List Sl)) (t : List Sl → R Bool) (g : List Sl → R D) (ρ : List Sl) : R D :=
  (src ρ).bind fun items => (noEx (lcGo f t g (wipeS ρ vs) items)).bind mkL
def tYes' (_ : List Sl) : R Bool := .ok true
section
variable {K : Fg} {θ : Nat → Addr} {G H G0 H0 : Hp} {D0 : Addr} {o : HO}
theorem LLs.aside {as : List Addr} {dss : List (List D)} (h : LLs K G H as dss) (hd : D0 ∉ as) : LLs K G (upd H D0 o) as dss := by
  induction h with
  | nil => exact .nil
  | cons h r _ ih =>
    refine .cons (by rw [upd_ne (fun z => hd (by simp [z]))]; exact h) r (ih fun z => hd (List.mem_cons_of_mem _ z))
theorem Own.aside {v : V} {w : Ow} {fp : List Addr} (h : Own K G H v w fp) (hd : D0 ∉ fp) : Own K G (upd H D0 o) v w fp := by
  cases h with
  | lst h r => exact .lst (by rw [upd_ne (fun z => hd (by simp [z]))]; exact h) r
  | ll h r => exact .ll (by rw [upd_ne (fun z => hd (by simp [z]))]; exact h) (r.aside fun z => hd (List.mem_cons_of_mem _ z))
  | dk h r => exact .dk (by rw [upd_ne (fun z => hd (by simp [z]))]; exact h) r
  | dt h r => exact .dt (by rw [upd_ne (fun z => hd (by simp [z]))]; exact h) r
  | ins h h2 r => exact .ins (by rw [upd_ne (fun z => hd (by simp [z]))]; exact h) (by rw [upd_ne (fun z => hd (by simp [z]))]; exact h2) r
  | clo rc hs h h2 r => exact .clo rc hs (by rw [upd_ne (fun z => hd (by simp [z]))]; exact h) (by rw [upd_ne (fun z => hd (by simp [z]))]; exact h2) r
  | pr h r h2 r2 => exact .pr h r (by rw [upd_ne (fun z => hd (by simp [z]))]; exact h2) r2
theorem Sts.aside {σ : List (Option V)} {ρ : List Sl} {W : List Addr} (h : Sts K θ G H σ ρ W) (hd : D0 ∉ W) : Sts K θ G (upd H D0 o) σ ρ W := by
  induction h with
  | nil => exact .nil
  | un _ ih => exact .un (ih hd)
  | val r _ ih => exact .val r (ih hd)
  | own r t _ ih => exact .own (r.aside fun z => hd (List.mem_append_left _ z)) t (ih fun z => hd (List.mem_append_right _ z))
theorem same_aside (s : Same G H) (g : G D0 = none) : Same G (upd H D0 o) := fun b u e => by
  rw [upd_ne (ne_of_none e g)]; exact s b u e
theorem Stt.aside {σ : List (Option V)} {ρ : List Sl} {W : List Addr} (h : Stt K θ G H σ ρ W) (hd : D0 ∉ W) (g : G D0 = none) (hx : FreeX H D0 := by first | exact fx_none (by assumption) | exact fx_of (by assumption)) : Stt K θ G (upd H D0 o) σ ρ W :=
  ⟨same_aside h.same g, h.sts.aside hd, h.nd, h.out, h.tab.ext (fun _ _ z => .inl z) (TbS.updX hx)⟩
theorem upd_al {H : Hp} {a : Addr} {o : HO} {b : Addr} (h : upd H a o b = none) : H b = none := by
  by_cases hb : b = a
  · rw [hb, upd_same] at h; cases h
  · rwa [upd_ne hb] at h
end
end DL
set_option Elab.async false
set_option linter.all false
set_option maxRecDepth 100000
set_option maxHeartbeats 2000000
namespace DL
open PySem PySem.Spec PyProof.Rows L2
structure Fr (K : Fg) (G H : Hp) (W : List Addr) (G' H' : Hp) (W' : List Addr) : Prop where
  g : Same G G'
  k : ∀ a o, H a = some o → NT o → a ∉ W → H' a = some o
  w : ∀ a ∈ W', a ∈ W ∨ H a = none
  n : ∀ a o, G' a = some o → G a = some o ∨ a ∈ W ∨ H a = none
  al : ∀ a, H' a = none → H a = none
  tb : TbS K H H'
section
variable {K : Fg} {G H G1 H1 G2 H2 : Hp} {W W1 W2 : List Addr}
theorem Fr.refl : Fr K G H W G H W := ⟨Same.refl _, fun _ _ h _ _ => h, fun _ h => .inl h, fun _ _ h => .inl h, fun _ h => h, TbS.refl⟩
theorem Fr.of (e : Ext K G H G1 H1) : Fr K G H W G1 H1 W := ⟨e.g, fun a o h n _ => e.h a o h n, fun _ h => .inl h, fun a o h => (e.nw a o h).elim .inl fun z => .inr (.inr z), e.al, e.tb⟩
theorem Fr.trans (a : Fr K G H W G1 H1 W1) (b : Fr K G1 H1 W1 G2 H2 W2) : Fr K G H W G2 H2 W2 := by
  have back : ∀ c, c ∈ W1 ∨ H1 c = none → c ∈ W ∨ H c = none := fun c hc => by
    rcases hc with hc | hc
    · exact a.w c hc
    · exact .inr (a.al c hc)
  refine ⟨a.g.trans b.g, fun c o h n hw => b.k c o (a.k c o h n hw) n fun z => ?_, fun c hc => back c (b.w c hc), fun c o h => ?_, fun c h => a.al c (b.al c h), a.tb.trans b.tb⟩
  · rcases a.w c z with q | q
    · exact hw q
    · rw [h] at q; cases q
  · rcases b.n c o h with q | q
    · exact a.n c o q
    · exact .inr (back c q)
theorem Fr.kk (f : Fr K G H W G1 H1 W1) {a : Addr} {o : HO} (h : H a = some o) (hw : a ∉ W) (n : NT o := by intro ps z; cases z) : H1 a = some o := f.k a o h n hw
end
theorem LLs.keep {K : Fg} {G H G' H' : Hp} {as : List Addr} {dss : List (List D)} (h : LLs K G H as dss) (g : Same G G') (k : ∀ a ∈ as, ∀ u, NT u → H a = some u → H' a = some u) : LLs K G' H' as dss := by
  induction h with
  | nil => exact .nil
  | cons h r _ ih => exact .cons (k _ List.mem_cons_self _ (fun _ z => nomatch z) h) (r.mono g) (ih fun a ha => k a (List.mem_cons_of_mem _ ha))
theorem Own.keep {K : Fg} {G H G' H' : Hp} {v : V} {o : Ow} {fp : List Addr} (h : Own K G H v o fp) (g : Same G G') (k : ∀ a ∈ fp, ∀ u, NT u → H a = some u → H' a = some u) : Own K G' H' v o fp := by
  cases h with
  | lst h r => exact .lst (k _ (by simp) _ (fun _ z => nomatch z) h) (r.mono g)
  | ll h r => exact .ll (k _ List.mem_cons_self _ (fun _ z => nomatch z) h) (r.keep g fun a ha => k a (List.mem_cons_of_mem _ ha))
  | dk h r => exact .dk (k _ (by simp) _ (fun _ z => nomatch z) h) (r.mono g)
  | dt h r => exact .dt (k _ (by simp) _ (fun _ z => nomatch z) h) (r.mono g)
  | ins h h2 r => exact .ins (k _ (by simp) _ (fun _ z => nomatch z) h) (k _ (by simp) _ (fun _ z => nomatch z) h2) (r.mono g)
  | clo rc hs h h2 r => exact .clo (rc.monoN (Same.n g)) hs (k _ (by simp) _ (fun _ z => nomatch z) h) (k _ (by simp) _ (fun _ z => nomatch z) h2) (r.mono g)
  | pr h r h2 r2 => exact .pr (h.mono g) (r.mono g) (k _ (by simp) _ (fun _ z => nomatch z) h2) (r2.mono g)
section
variable {K : Fg} {θ : Nat → Addr} {G H : Hp}
theorem Sts.keep {G' H' : Hp} {σ : List (Option V)} {ρ : List Sl} {W : List Addr} (h : Sts K θ G H σ ρ W) (g : Same G G') (k : ∀ a ∈ W, ∀ u, NT u → H a = some u → H' a = some u) : Sts K θ G' H' σ ρ W := by
  induction h with
  | nil => exact .nil
  | un _ ih => exact .un (ih k)
  | val r _ ih => exact .val (r.mono g) (ih k)
  | own r t _ ih => exact .own (r.keep g fun a ha => k a (List.mem_append_left _ ha)) t (ih fun a ha => k a (List.mem_append_right _ ha))
/-- what is owned is frozen -/
def frz (G H : Hp) (fp : List Addr) : Hp := fun a => if a ∈ fp then H a else G a
theorem frz_g {fp : List Addr} (h : ∀ a ∈ fp, G a = none) : Same G (frz G H fp) := fun a o e => by
  unfold frz
  by_cases ha : a ∈ fp
  · rw [h a ha] at e; cases e
  · rw [if_neg ha]; exact e
def Ow.d : Ow → D
  | .lst ds => .lst ds
  | .ll dss => .lst (dss.map .lst)
  | .dk kvs => .dct kvs
  | .dt _ => .non
  | .ins C fs => .ins C fs
  | .pr d ds => .tup [d, .lst ds]
  | .clo _ _ _ _ _ _ => .non
def Ow.can : Ow → Bool
  | .dt _ | .dk _ | .clo _ _ _ _ _ _ => false
  | _ => true
theorem LLs.frz {as fp : List Addr} {dss : List (List D)} (h : LLs K G H as dss) (g : Same G (DL.frz G H fp)) (hs : ∀ a ∈ as, a ∈ fp) : RpA K (DL.frz G H fp) (as.map V.ref) (dss.map D.lst) := by
  induction h with
  | nil => exact .nil
  | cons h r _ ih =>
    refine .cons (.lst ?_ (r.mono g)) (ih fun a ha => hs a (List.mem_cons_of_mem _ ha))
    unfold DL.frz
    rw [if_pos (hs _ List.mem_cons_self)]
    exact h
theorem Own.frz {v : V} {o : Ow} {fp : List Addr} (h : Own K G H v o fp) (ho : o.can = true) (g0 : ∀ a ∈ fp, G a = none) : Rp K (DL.frz G H fp) v o.d := by
  have g := frz_g (H := H) g0
  cases h with
  | lst h r => exact .lst (by unfold DL.frz; rw [if_pos (by simp)]; exact h) (r.mono g)
  | ll h r => exact .lst (by unfold DL.frz; rw [if_pos List.mem_cons_self]; exact h) (r.frz g fun a ha => List.mem_cons_of_mem _ ha)
  | dk h r => cases ho
  | dt h r => cases ho
  | ins h h2 r => exact .ins (by unfold DL.frz; rw [if_pos (by simp)]; exact h) (by unfold DL.frz; rw [if_pos (by simp)]; exact h2) (r.mono g)
  | clo rc hs h h2 r => cases ho
  | pr h r h2 r2 => exact .tup (h.mono g) (.cons (r.mono g) (.cons (.lst (by unfold DL.frz; rw [if_pos (by simp)]; exact h2) (r2.mono g)) .nil))
theorem LLs.nt {as : List Addr} {dss : List (List D)} (h : LLs K G H as dss) : ∀ a ∈ as, ∃ u, H a = some u ∧ NX u := by
  induction h with
  | nil => intro a ha; cases ha
  | cons h r _ ih =>
    intro a ha
    rcases List.mem_cons.mp ha with rfl | ha
    · exact ⟨_, h, ⟨fun _ z => (nomatch z), fun _ z => (nomatch z)⟩⟩
    · exact ih a ha
theorem Own.nt {v : V} {o : Ow} {fp : List Addr} (h : Own K G H v o fp) : ∀ a ∈ fp, ∃ u, H a = some u ∧ NX u := by
  intro a ha
  cases h with
  | lst h r => simp at ha; subst ha; exact ⟨_, h, ⟨fun _ z => (nomatch z), fun _ z => (nomatch z)⟩⟩
  | ll h r =>
    rcases List.mem_cons.mp ha with rfl | ha
    · exact ⟨_, h, ⟨fun _ z => (nomatch z), fun _ z => (nomatch z)⟩⟩
    · exact r.nt a ha
  | dk h r => simp at ha; subst ha; exact ⟨_, h, ⟨fun _ z => (nomatch z), fun _ z => (nomatch z)⟩⟩
  | dt h r => simp at ha; subst ha; exact ⟨_, h, ⟨fun _ z => (nomatch z), fun _ z => (nomatch z)⟩⟩
  | ins h h2 r =>
    simp at ha
    rcases ha with rfl | rfl
    · exact ⟨_, h, ⟨fun _ z => (nomatch z), fun _ z => (nomatch z)⟩⟩
    · exact ⟨_, h2, ⟨fun _ z => (nomatch z), fun _ z => (nomatch z)⟩⟩
  | clo rc hs h h2 r =>
    simp at ha
    rcases ha with rfl | rfl
    · exact ⟨_, h, ⟨fun _ z => (nomatch z), fun _ z => (nomatch z)⟩⟩
    · exact ⟨_, h2, ⟨fun _ z => (nomatch z), fun _ z => (nomatch z)⟩⟩
  | pr h r h2 r2 => simp at ha; subst ha; exact ⟨_, h2, ⟨fun _ z => (nomatch z), fun _ z => (nomatch z)⟩⟩
theorem TbOk.frz {v : V} {o : Ow} {fp : List Addr} (t : TbOk K G H) (h : Own K G H v o fp) : TbOk K (DL.frz G H fp) H := fun p hp => by
  obtain ⟨h1, h2⟩ := t p hp
  refine ⟨?_, h2⟩
  unfold DL.frz
  by_cases ha : p.1 ∈ fp
  · obtain ⟨u, hu, n⟩ := h.nt _ ha
    obtain ⟨ps, h3, _⟩ := h2
    rw [h3] at hu
    exact absurd (Option.some.inj hu).symm (n.1 ps)
  · rw [if_neg ha]; exact h1
end
inductive RE where
  | ok (d : D) (ρ : List Sl) | ex (x : Exn) (ρ : List Sl) | st
def RE.bind (r : RE) (f : D → List Sl → RE) : RE := match r with
  | .ok d ρ => f d ρ
  | .ex x ρ => .ex x ρ
  | .st => .st
@[simp] theorem RE.bind_ok (d : D) (ρ : List Sl) (f : D → List Sl → RE) : (RE.ok d ρ).bind f = f d ρ := rfl
@[simp] theorem RE.bind_ex (d : Exn) (ρ : List Sl) (f : D → List Sl → RE) : (RE.ex d ρ).bind f = .ex d ρ := rfl
@[simp] theorem RE.bind_st (f : D → List Sl → RE) : (RE.st).bind f = .st := rfl
/-- a result that leaves the state -/
def up (r : R D) (ρ : List Sl) : RE := match r with
  | .ok d => .ok d ρ
  | .ex x => .ex x ρ
  | .st => .st
@[simp] theorem up_ok (d : D) (ρ : List Sl) : up (.ok d) ρ = .ok d ρ := rfl
@[simp] theorem up_st (ρ : List Sl) : up .st ρ = .st := rfl
def liftE (g : List Sl → R D) (ρ : List Sl) : RE := up (g ρ) ρ
def Ek (K : Fg) (W : WX) (σ : L2.St) (θ : Nat → Addr) (G H : Hp) (Ws : List Addr) (r : RE) (Q : VK) : Prop := match r with
  | .ok d ρ' => ∀ v G' H' W', Fr K G H Ws G' H' W' → Stt K θ G' H' σ ρ' W' → Rp K G' v d → Q v H'
  | .ex x ρ' => ∀ d G' H' W', Fr K G H Ws G' H' W' → Stt K θ G' H' σ ρ' W' → XkOk K G' H' x d → W (.ref x.cls) d σ H'
  | .st => False
def tE (K : Fg) (W : WX) (f : List Sl → RE) : TE := fun σ H Q => ∃ θ G ρ Ws, Stt K θ G H σ ρ Ws ∧ Ek K W σ θ G H Ws (f ρ) Q
structure DE (X : Cx) (W : WX) (e : Expr) (f : List Sl → RE) : Prop where
  run : PE X e (tE X.K W f)
section
variable {K : Fg} {W : WX} {σ : L2.St} {θ : Nat → Addr} {G H G1 H1 : Hp} {Ws W1 : List Addr} {r : RE} {Q Q' : VK}
theorem Ek.fr (h : Ek K W σ θ G H Ws r Q) (e : Fr K G H Ws G1 H1 W1) : Ek K W σ θ G1 H1 W1 r Q := by
  cases r with
  | ok d ρ' => exact fun v G' H' W' e' => h v G' H' W' (e.trans e')
  | ex x ρ' => exact fun v G' H' W' e' => h v G' H' W' (e.trans e')
  | st => exact h
theorem Ek.bind {k : D → List Sl → RE} (h : Ek K W σ θ G H Ws (r.bind k) Q) : Ek K W σ θ G H Ws r (fun v H1 => ∃ d ρ1 G1 W1, Fr K G H Ws G1 H1 W1 ∧ Stt K θ G1 H1 σ ρ1 W1 ∧ Rp K G1 v d ∧ Ek K W σ θ G1 H1 W1 (k d ρ1) Q) := by
  cases r with
  | ok d ρ' => exact fun v G' H' W' e' s z => ⟨d, ρ', G', W', e', s, z, h.fr e'⟩
  | ex x ρ' => exact h
  | st => exact h
end
def e1 (f : D → R D) (fa : List Sl → RE) (ρ : List Sl) : RE := (fa ρ).bind fun x ρ1 => up (f x) ρ1
def e2 (f : D → D → R D) (fa fb : List Sl → RE) (ρ : List Sl) : RE := (fa ρ).bind fun x ρ1 => (fb ρ1).bind fun y ρ2 => up (f x y) ρ2
inductive Fl where
  | nx | rt (d : D) | rtO (o : Ow) | bk | ct
inductive RS where
  | ok (f : Fl) (ρ : List Sl) | ex (x : Exn) (ρ : List Sl) | st
def Fin (K : Fg) (W : WX) (θ : Nat → Addr) (G H : Hp) (Ws : List Addr) (r : RS) (E : Ends) : Prop := match r with
  | .ok .nx ρ' => ∀ σ' G' H' W', Fr K G H Ws G' H' W' → Stt K θ G' H' σ' ρ' W' → E.nx σ' H'
  | .ok (.rt d) ρ' => ∀ v σ' G' H' W', Fr K G H Ws G' H' W' → Stt K θ G' H' σ' ρ' W' → Rp K G' v d → E.rt v H'
  | .ok (.rtO o) ρ' => ∀ v fp σ' G' H' W', Fr K G H Ws G' H' (fp ++ W') → Stt K θ G' H' σ' ρ' W' → Own K G' H' v o fp → fp.Nodup → (∀ a ∈ fp, a ∉ W') → (∀ a ∈ fp, G' a = none) → E.rt v H'
  | .ok .bk ρ' => ∀ σ' G' H' W', Fr K G H Ws G' H' W' → Stt K θ G' H' σ' ρ' W' → E.bk σ' H'
  | .ok .ct ρ' => ∀ σ' G' H' W', Fr K G H Ws G' H' W' → Stt K θ G' H' σ' ρ' W' → E.ct σ' H'
  | .ex x ρ' => ∀ d σ' G' H' W', Fr K G H Ws G' H' W' → Stt K θ G' H' σ' ρ' W' → XkOk K G' H' x d → W (.ref x.cls) d σ' H'
  | .st => False
def tSt (K : Fg) (W : WX) (f : List Sl → RS) : TS := fun E σ H => ∃ θ G ρ Ws, Stt K θ G H σ ρ Ws ∧ Fin K W θ G H Ws (f ρ) E
structure DSs (X : Cx) (W : WX) (s : List Stmt) (f : List Sl → RS) : Prop where
  run : PSs X s (tSt X.K W f)
section
variable {K : Fg} {W : WX} {θ : Nat → Addr} {G H G1 H1 : Hp} {Ws W1 : List Addr} {r : RS} {E E' : Ends}
theorem Fin.fr (h : Fin K W θ G H Ws r E) (e : Fr K G H Ws G1 H1 W1) : Fin K W θ G1 H1 W1 r E := by
  cases r with
  | ok f ρ' =>
    cases f with
    | nx => exact fun σ' G' H' W' e' => h σ' G' H' W' (e.trans e')
    | rt d => exact fun v σ' G' H' W' e' => h v σ' G' H' W' (e.trans e')
    | rtO o => exact fun v fp σ' G' H' W' e' => h v fp σ' G' H' W' (e.trans e')
    | bk => exact fun σ' G' H' W' e' => h σ' G' H' W' (e.trans e')
    | ct => exact fun σ' G' H' W' e' => h σ' G' H' W' (e.trans e')
  | ex x ρ' => exact fun d σ' G' H' W' e' => h d σ' G' H' W' (e.trans e')
  | st => exact h
theorem Fin.nx {ρ : List Sl} {σ : L2.St} (h : Fin K W θ G H Ws (.ok .nx ρ) E) (S : Stt K θ G H σ ρ Ws) : E.nx σ H := h σ G H Ws Fr.refl S
end
/-- an expression's result, then the rest -/
def RE.seq (r : RE) (k : D → List Sl → RS) : RS := match r with
  | .ok d ρ => k d ρ
  | .ex x ρ => .ex x ρ
  | .st => .st
def R.seq (r : R D) (ρ : List Sl) (k : D → RS) : RS := match r with
  | .ok d => k d
  | .ex x => .ex x ρ
  | .st => .st
def R.seqB (r : R Bool) (ρ : List Sl) (k : Bool → RS) : RS := match r with
  | .ok d => k d
  | .ex x => .ex x ρ
  | .st => .st
@[simp] theorem RE.seq_ok (d : D) (ρ : List Sl) (k : D → List Sl → RS) : (RE.ok d ρ).seq k = k d ρ := rfl
@[simp] theorem RE.seq_st (k : D → List Sl → RS) : RE.st.seq k = .st := rfl
@[simp] theorem R.seq_ok (d : D) (ρ : List Sl) (k : D → RS) : (R.ok d).seq ρ k = k d := rfl
@[simp] theorem R.seq_st (ρ : List Sl) (k : D → RS) : (R.st : R D).seq ρ k = .st := rfl
@[simp] theorem R.seqB_ok (d : Bool) (ρ : List Sl) (k : Bool → RS) : (R.ok d).seqB ρ k = k d := rfl
@[simp] theorem R.seqB_st (ρ : List Sl) (k : Bool → RS) : (R.st : R Bool).seqB ρ k = .st := rfl
def RS.then (r : RS) (g : List Sl → RS) : RS := match r with
  | .ok .nx ρ => g ρ
  | r => r
def sSeq (f g : List Sl → RS) (ρ : List Sl) : RS := (f ρ).then g
def sNext (ρ : List Sl) : RS := .ok .nx ρ
def sRet (g : List Sl → R D) (ρ : List Sl) : RS := (g ρ).seq ρ fun d => .ok (.rt d) ρ
def sRetE (g : List Sl → RE) (ρ : List Sl) : RS := (g ρ).seq fun d ρ1 => .ok (.rt d) ρ1
def sRetN (ρ : List Sl) : RS := .ok (.rt .non) ρ
def sExpr (g : List Sl → R D) (ρ : List Sl) : RS := (g ρ).seq ρ fun _ => .ok .nx ρ
def sExprE (g : List Sl → RE) (ρ : List Sl) : RS := (g ρ).seq fun _ ρ1 => .ok .nx ρ1
def sIf (c : List Sl → R Bool) (f g : List Sl → RS) (ρ : List Sl) : RS := (c ρ).seqB ρ fun b => if b then f ρ else g ρ
end DL
set_option Elab.async false
set_option linter.all false
set_option maxRecDepth 100000
set_option maxHeartbeats 2000000
namespace DL
open PySem PySem.Spec PyProof.Rows L2
def spD (K : Fg) (n : Nat) (F : List Sl → RS) : Sp := fun vs H Q E => vs.length = n ∧ ∃ θ G ρ W, Stt K θ G H (vs.map some) ρ W ∧ match F ρ with
  | .ok (.rt d) ρ' => ∀ v G' H' W', Fr K G H W G' H' W' → Stt K θ G' H' (vs.map some) ρ' W' → Rp K G' v d → Q v H'
  | .ok (.rtO o) ρ' => ∀ v fp G' H' W', Fr K G H W G' H' (fp ++ W') → Stt K θ G' H' (vs.map some) ρ' W' → Own K G' H' v o fp → fp.Nodup → (∀ a ∈ fp, a ∉ W') → (∀ a ∈ fp, G' a = none) → Q v H'
  | .ex x ρ' => ∀ d G' H' W', Fr K G H W G' H' W' → Stt K θ G' H' (vs.map some) ρ' W' → XkOk K G' H' x d → E (.ref x.cls) d H'
  | _ => False
/-- the parameters behind a call -/
def back : List Sl → List Sl → List Sl
  | [], _ => []
  | .val d :: r, _ :: s => .val d :: back r s
  | .own t _ :: r, .own t' o' :: s => (if t = t' ∧ t ≠ 0 then .own t o' else .un) :: back r s
  | _ :: r, _ :: s => .un :: back r s
  | _ :: r, [] => .un :: back r []
def runF (nl : Nat) (f : List Sl → RS) (ρ : List Sl) : RS := match f (ρ ++ List.replicate nl .un) with
  | .ok .nx ρ' => .ok (.rt .non) (back ρ ρ')
  | .ok (.rt d) ρ' => .ok (.rt d) (back ρ ρ')
  | .ok (.rtO o) ρ' => .ok (.rtO o) (back ρ ρ')
  | .ex x ρ' => .ex x (back ρ ρ')
  | _ => .st
/-- a def of the module by its name -/
structure FnD (P : Program) (w : World) (K : Fg) (mg : Str → Option Value) (base : Heap) (k : Nat) (x : Str) (ps : List Str) (F : List Sl → RS) : Prop where
  ex : ∃ f fd, FnOk P w K mg base (L2N.CX P w) k f fd ps (spD K ps.length F) ∧ mg x = some (.ref f) ∧ PySem.W.keepIn K (.ref f) = true ∧ Binds K fd ps []
section
variable {P : Program} {w : World} {K : Fg} {mg : Str → Option Value} {base : Heap}
theorem FnD.mono {j k : Nat} {x : Str} {ps : List Str} {F : List Sl → RS} (h : FnD P w K mg base j x ps F) (hk : j ≤ k) : FnD P w K mg base k x ps F :=
  let ⟨f, fd, a, b, c, d⟩ := h.ex; ⟨f, fd, a.mono hk, b, c, d⟩
end
def callV (F : List Sl → RS) (ds : List D) : R D := match F (ds.map .val) with
  | .ok (.rt d) _ => .ok d
  | .ex x _ => .ex x
  | _ => .st
theorem Fr.ext {K : Fg} {G H G' H' : Hp} {W' : List Addr} (f : Fr K G H [] G' H' W') (s : Same G' H') : Ext K G H G' H' := ⟨f.g, fun a o h n => f.k a o h n (by simp), s, fun a o h => by
  rcases f.n a o h with z | z | z
  · exact .inl z
  · cases z
  · exact .inr z, f.al, f.tb⟩
inductive RA where
  | ok (ds : List D) (ρ : List Sl) | ex (x : Exn) (ρ : List Sl) | st
def RE.bindA (r : RE) (f : D → List Sl → RA) : RA := match r with
  | .ok d ρ => f d ρ
  | .ex x ρ => .ex x ρ
  | .st => .st
def RA.bind (r : RA) (f : List D → List Sl → RA) : RA := match r with
  | .ok d ρ => f d ρ
  | .ex x ρ => .ex x ρ
  | .st => .st
def RA.bindE (r : RA) (f : List D → List Sl → RE) : RE := match r with
  | .ok d ρ => f d ρ
  | .ex x ρ => .ex x ρ
  | .st => .st
@[simp] theorem RE.bindA_ok (d : D) (ρ : List Sl) (f : D → List Sl → RA) : (RE.ok d ρ).bindA f = f d ρ := rfl
@[simp] theorem RA.bind_ok (d : List D) (ρ : List Sl) (f : List D → List Sl → RA) : (RA.ok d ρ).bind f = f d ρ := rfl
@[simp] theorem RA.bindE_ok (d : List D) (ρ : List Sl) (f : List D → List Sl → RE) : (RA.ok d ρ).bindE f = f d ρ := rfl
def Bk (K : Fg) (W : WX) (σ : L2.St) (θ : Nat → Addr) (G H : Hp) (Ws : List Addr) (r : RA) (Q : List V → Hp → Prop) : Prop := match r with
  | .ok ds ρ' => ∀ vs G' H' W', Fr K G H Ws G' H' W' → Stt K θ G' H' σ ρ' W' → RpA K G' vs ds → Q vs H'
  | .ex x ρ' => ∀ d G' H' W', Fr K G H Ws G' H' W' → Stt K θ G' H' σ ρ' W' → XkOk K G' H' x d → W (.ref x.cls) d σ H'
  | .st => False
def bNil (ρ : List Sl) : RA := .ok [] ρ
def bCons (f : List Sl → RE) (g : List Sl → RA) (ρ : List Sl) : RA := (f ρ).bindA fun x ρ1 => (g ρ1).bind fun xs ρ2 => .ok (x :: xs) ρ2
section
variable {K : Fg} {W : WX} {σ : L2.St} {θ : Nat → Addr} {G H G1 H1 : Hp} {Ws W1 : List Addr} {Q Q' : List V → Hp → Prop}
theorem Bk.fr {r : RA} (h : Bk K W σ θ G H Ws r Q) (e : Fr K G H Ws G1 H1 W1) : Bk K W σ θ G1 H1 W1 r Q := by
  cases r with
  | ok d ρ' => exact fun v G' H' W' e' => h v G' H' W' (e.trans e')
  | ex x ρ' => exact fun v G' H' W' e' => h v G' H' W' (e.trans e')
  | st => exact h
theorem Bk.bind {r : RA} {k : List D → List Sl → RA} (h : Bk K W σ θ G H Ws (r.bind k) Q) : Bk K W σ θ G H Ws r (fun v H1 => ∃ d ρ1 G1 W1, Fr K G H Ws G1 H1 W1 ∧ Stt K θ G1 H1 σ ρ1 W1 ∧ RpA K G1 v d ∧ Bk K W σ θ G1 H1 W1 (k d ρ1) Q) := by
  cases r with
  | ok d ρ' => exact fun v G' H' W' e' s z => ⟨d, ρ', G', W', e', s, z, h.fr e'⟩
  | ex x ρ' => exact h
  | st => exact h
theorem Ek.bk {r : RA} {k : List D → List Sl → RE} {Q : VK} (h : Ek K W σ θ G H Ws (r.bindE k) Q) : Bk K W σ θ G H Ws r (fun v H1 => ∃ d ρ1 G1 W1, Fr K G H Ws G1 H1 W1 ∧ Stt K θ G1 H1 σ ρ1 W1 ∧ RpA K G1 v d ∧ Ek K W σ θ G1 H1 W1 (k d ρ1) Q) := by
  cases r with
  | ok d ρ' => exact fun v G' H' W' e' s z => ⟨d, ρ', G', W', e', s, z, h.fr e'⟩
  | ex x ρ' => exact h
  | st => exact h
end
section
variable {X : Cx} {W : WX} {e : Expr} {es : List Expr} {fe : List Sl → RE} {fa : List Sl → RA} {pos p : Pos}
def eA (f : List D → R D) (g : List Sl → RA) (ρ : List Sl) : RE := (g ρ).bindE fun ds ρ1 => up (f ds) ρ1
end
end DL
set_option Elab.async false
set_option linter.all false
set_option maxRecDepth 100000
set_option maxHeartbeats 2000000
namespace DL
open PySem PySem.Spec PyProof.Rows L2
theorem LLs.get {K : Fg} {G H : Hp} {as : List Addr} {dss : List (List D)} (h : LLs K G H as dss) {j : Nat} {ds : List D} (e : dss[j]? = some ds) : ∃ a vs, as[j]? = some a ∧ H a = some (.lst vs) ∧ RpA K G vs ds := by
  induction h generalizing j with
  | nil => simp at e
  | cons h r _ ih =>
    cases j with
    | zero => simp at e; subst e; exact ⟨_, _, rfl, h, r⟩
    | succ j => simpa using ih (j := j) (by simpa using e)
theorem LLs.set {K : Fg} {G H : Hp} {as : List Addr} {dss : List (List D)} (h : LLs K G H as dss) (hn : as.Nodup) {j : Nat} {a : Addr} {vs : List V} {ds : List D} (e : as[j]? = some a) (r : RpA K G vs ds) : LLs K G (upd H a (.lst vs)) as (dss.set j ds) := by
  induction h generalizing j with
  | nil => simp at e
  | @cons b ws bs as dss h r0 t ih =>
    rw [List.nodup_cons] at hn
    cases j with
    | zero =>
      simp at e
      subst e
      exact .cons upd_same r (t.aside hn.1)
    | succ j =>
      have hb : b ≠ a := fun z => hn.1 (z ▸ List.mem_of_getElem? (by simpa using e))
      exact .cons (by rw [upd_ne hb]; exact h) r0 (ih hn.2 (by simpa using e))
theorem LLs.len {K : Fg} {G H : Hp} {as : List Addr} {dss : List (List D)} (h : LLs K G H as dss) : as.length = dss.length := by
  induction h with
  | nil => rfl
  | cons _ _ _ ih => simp [ih]
section
variable {X : Cx} {W : WX} {s : Stmt} {e : Expr} {g : List Sl → R D} {ge : List Sl → RE}
inductive AV where
  | v (d : D) | f (ds : List D) | o (w : Ow)
inductive AvOk (K : Fg) (G H0 H : Hp) : V → AV → List Addr → Prop
  | v {x : V} {d : D} : Rp K G x d → AvOk K G H0 H x (.v d) []
  | f {a : Addr} {vs : List V} {ds : List D} : H a = some (.lst vs) → RpA K G vs ds → H0 a = none → G a = none → AvOk K G H0 H (.ref a) (.f ds) [a]
  | o {x : V} {w : Ow} {fp : List Addr} : Own K G H x w fp → fp.Nodup → (∀ a ∈ fp, H0 a = none) → (∀ a ∈ fp, G a = none) → AvOk K G H0 H x (.o w) fp
inductive AvsOk (K : Fg) (G H0 H : Hp) : List V → List AV → List Addr → Prop
  | nil : AvsOk K G H0 H [] [] []
  | cons {x : V} {d : AV} {fp : List Addr} {xs : List V} {ds : List AV} {fps : List Addr} : AvOk K G H0 H x d fp → AvsOk K G H0 H xs ds fps → (∀ a ∈ fp, a ∉ fps) → AvsOk K G H0 H (x :: xs) (d :: ds) (fp ++ fps)
inductive RV where
  | ok (ds : List AV) (ρ : List Sl) | ex (x : Exn) (ρ : List Sl) | st
def vNil (ρ : List Sl) : RV := .ok [] ρ
def RV.bind (r : RV) (f : List AV → List Sl → RV) : RV := match r with
  | .ok d ρ => f d ρ
  | .ex x ρ => .ex x ρ
  | .st => .st
@[simp] theorem RV.bind_ok (d : List AV) (ρ : List Sl) (f : List AV → List Sl → RV) : (RV.ok d ρ).bind f = f d ρ := rfl
def Vk (K : Fg) (W : WX) (σ : L2.St) (θ : Nat → Addr) (G H : Hp) (Ws : List Addr) (r : RV) (Q : List V → Hp → Prop) : Prop := match r with
  | .ok ds ρ' => ∀ vs fp G' H' W', Fr K G H Ws G' H' W' → Stt K θ G' H' σ ρ' W' → AvsOk K G' H H' vs ds fp → (∀ a ∈ fp, a ∉ W') → Q vs H'
  | .ex x ρ' => ∀ d G' H' W', Fr K G H Ws G' H' W' → Stt K θ G' H' σ ρ' W' → XkOk K G' H' x d → W (.ref x.cls) d σ H'
  | .st => False
theorem AvOk.keep {K : Fg} {G H0 H G' H' : Hp} {W W' : List Addr} {x : V} {d : AV} {fp : List Addr} (h : AvOk K G H0 H x d fp) (fr : Fr K G H W G' H' W') (hw : ∀ a ∈ fp, a ∉ W) : AvOk K G' H0 H' x d fp := by
  cases h with
  | v r => exact .v (r.mono fr.g)
  | @f a vs ds h1 h2 h3 h4 =>
    refine .f (fr.kk h1 (hw a (by simp))) (h2.mono fr.g) h3 ?_
    cases q : G' a with
    | none => rfl
    | some u =>
      rcases fr.n a u q with z | z | z
      · rw [h4] at z; cases z
      · exact absurd z (hw a (by simp))
      · rw [h1] at z; cases z
  | o h1 h2 h3 h4 =>
    refine .o (h1.keep fr.g fun a ha u n hu => fr.k _ _ hu n (hw a ha)) h2 h3 fun a ha => ?_
    cases q : G' a with
    | none => rfl
    | some u =>
      obtain ⟨u0, hu0⟩ := h1.in_ a ha
      rcases fr.n a u q with z | z | z
      · rw [h4 a ha] at z; cases z
      · exact absurd z (hw a ha)
      · rw [hu0] at z; cases z
theorem AvsOk.old {K : Fg} {G H0 H1 H : Hp} {xs : List V} {ds : List AV} {fp : List Addr} (h : AvsOk K G H1 H xs ds fp) (s : ∀ a, H1 a = none → H0 a = none) : AvsOk K G H0 H xs ds fp := by
  induction h with
  | nil => exact .nil
  | cons h _ n ih =>
    refine .cons ?_ ih n
    cases h with
    | v r => exact .v r
    | f h1 h2 h3 h4 => exact .f h1 h2 (s _ h3) h4
    | o h1 h2 h3 h4 => exact .o h1 h2 (fun a ha => s _ (h3 a ha)) h4
theorem Vk.fr {K : Fg} {σ : L2.St} {θ : Nat → Addr} {G H G1 H1 : Hp} {Ws W1 : List Addr} {r : RV} {Q : List V → Hp → Prop} (h : Vk K W σ θ G H Ws r Q) (e : Fr K G H Ws G1 H1 W1) : Vk K W σ θ G1 H1 W1 r Q := by
  cases r with
  | ok d ρ' => exact fun vs fp G' H' W' e' S' z => h vs fp G' H' W' (e.trans e') S' (z.old e.al)
  | ex x ρ' => exact fun v G' H' W' e' => h v G' H' W' (e.trans e')
  | st => exact h
theorem AvsOk.keep {K : Fg} {G H0 H G' H' : Hp} {W W' : List Addr} {xs : List V} {ds : List AV} {fp : List Addr} (h : AvsOk K G H0 H xs ds fp) (fr : Fr K G H W G' H' W') (hw : ∀ a ∈ fp, a ∉ W) : AvsOk K G' H0 H' xs ds fp := by
  induction h with
  | nil => exact .nil
  | cons h _ n ih => exact .cons (h.keep fr fun a ha => hw a (List.mem_append_left _ ha)) (ih fun a ha => hw a (List.mem_append_right _ ha)) n
end
end DL
set_option Elab.async false
set_option linter.all false
set_option maxRecDepth 100000
set_option maxHeartbeats 2000000
namespace DL
open PySem PySem.Spec PyProof.Rows L2
structure FnOg (P : Program) (w : World) (K : Fg) (mg : Str → Option Value) (base : Heap) (k : Nat) (f : Addr) (fd : FuncData) (ps : List Str) (sp : Sp) : Prop where
  len : ∀ vs H Q E, sp vs H Q E → vs.length = ps.length
  run : ∀ {A : Around} {outer : List Env} {s : Shared} {H : Hp} {args : Args} {us : List Value} {vs : List V} {Q : VK} {E : XK}, A.guards = some [] → Room k A → Env0 P w K mg base A outer s H → BindsTo s fd args (ps.zip us) → Vals vs us → sp vs H Q E →
    codeAny (model P w) A (.call (.ref f) args) (CR (L2N.CX P w) outer P w H s Q E) s
section
variable {P : Program} {w : World} {K : Fg} {mg : Str → Option Value} {base : Heap} {j k : Nat} {f : Addr} {fd : FuncData} {ps : List Str} {sp : Sp}
theorem FnOg.mono (F : FnOg P w K mg base j f fd ps sp) (h : j ≤ k) : FnOg P w K mg base k f fd ps sp := ⟨F.len, fun hg hr => F.run hg (hr.mono h)⟩
theorem og_of_ok (F : FnOk P w K mg base (L2N.CX P w) k f fd ps sp) : FnOg P w K mg base k f fd ps sp := ⟨F.len, fun _ hr e0 hb r h => F.run _ _ _ _ _ _ _ _ _ hr e0 hb r h⟩
theorem FnOg.of {x qual : Str} {params : Arguments} {body : List Stmt} {scope : Scope} {dvs : List V} {kws : List (Str × V)} {N : List Str} (F : FunD K x qual params body scope dvs kws f fd) (S : FnScope N ps scope)
    (len : ∀ vs H Q E, sp vs H Q E → vs.length = ps.length)
    (hbody : ∀ (cdv : Value) (A : Around) (outer : List Env) (s : Shared) (H : Hp) (vs : List V) (Q : VK) (E : XK), A.guards = some [] → Room k (A.deeper (envOfC qual scope s.heap.objs.size f cdv)) → sp vs H Q E →
      ∃ t, PSs (cxOf (L2N.CX P w) P w K mg base N qual scope f cdv A outer s H E) body t ∧ t { nx := fun _ H' => Q .non H', rt := Q } (start N vs) H) : FnOg P w K mg base (k + 1) f fd ps sp := by
  obtain ⟨oc, od, dV, kV, doc, pm, an, cdv, ct, osl, rfl, lk, hcd, _, _⟩ := F.ex
  constructor
  · exact len
  · intro A outer s H args us vs Q E hgd hr e0 hb r hsp
    have KX := e0.mod.kin.keeps fun b o z => (e0.bs b o z).1
    refine codeAny_call_function hr.depth (KX _ _ lk) rfl S.co S.gen rfl (PySem.W.codeRec_of KX hcd) (hb _ _ _ _ ?_)
    refine wpAny_newFunctionEnv_cells S.kind ?_ fun env he s1 x1 => ?_
    · rintro ⟨n, v⟩ hy
      cases S.par n (List.of_mem_zip hy).1 with
      | inl q => exact .inl q
      | inr q => exact .inr ⟨q, PySem.W.cellsFrom_some _ _ _ (.inl q)⟩
    subst he
    have lim0 := e0.mod.nolimit.keeps fun b o z => (e0.bs b o z).1
    refine ⟨lim0.keeps x1.toInCall.keep, codeAny_func ?_⟩
    obtain ⟨t, ht, hq⟩ := hbody cdv A outer s H vs Q E hgd (hr.deeper _) hsp
    have I := inv_start (CX := L2N.CX P w) (E := E) (f := f) (cd := cdv) S hr.hd e0 (len _ _ _ _ hsp) r x1
    refine wpAny_mono (ht.run [] s1 (start N vs) H _ I hq) (fun fl s' hs => ?_) fun e s' hs => hs
    cases fl with
    | ret u => exact let ⟨v, σ', H', J, rv, q⟩ := hs; ⟨v, H', J.os, J.bare, J.base, J.hok, rv, q⟩
    | next => exact let ⟨σ', H', J, q⟩ := hs; ⟨V.non, H', J.os, J.bare, J.base, J.hok, rfl, q⟩
    | brk => exact hs.elim fun _ z => z.elim fun _ y => y.2.elim
    | cont => exact hs.elim fun _ z => z.elim fun _ y => y.2.elim
end
structure FnG (P : Program) (w : World) (K : Fg) (mg : Str → Option Value) (base : Heap) (k : Nat) (x : Str) (ps : List Str) (F : List Sl → RS) : Prop where
  ex : ∃ f fd, FnOg P w K mg base k f fd ps (spD K ps.length F) ∧ mg x = some (.ref f) ∧ PySem.W.keepIn K (.ref f) = true ∧ Binds K fd ps []
theorem FnD.g {P : Program} {w : World} {K : Fg} {mg : Str → Option Value} {base : Heap} {k : Nat} {x : Str} {ps : List Str} {F : List Sl → RS} (h : FnD P w K mg base k x ps F) : FnG P w K mg base k x ps F :=
  let ⟨f, fd, a, b, c, d⟩ := h.ex; ⟨f, fd, og_of_ok a, b, c, d⟩
theorem FnG.mono {P : Program} {w : World} {K : Fg} {mg : Str → Option Value} {base : Heap} {j k : Nat} {x : Str} {ps : List Str} {F : List Sl → RS} (h : FnG P w K mg base j x ps F) (hk : j ≤ k) : FnG P w K mg base k x ps F :=
  let ⟨f, fd, a, b, c, d⟩ := h.ex; ⟨f, fd, a.mono hk, b, c, d⟩
end DL
set_option Elab.async false
set_option linter.all false
set_option maxRecDepth 100000
set_option maxHeartbeats 2000000
namespace DL
open PySem PySem.Spec PyProof.Rows L2
inductive RB where
  | ok (b : Bool) (ρ : List Sl) | ex (x : Exn) (ρ : List Sl) | st
def RB.bind (r : RB) (f : Bool → List Sl → RB) : RB := match r with
  | .ok b ρ => f b ρ
  | .ex x ρ => .ex x ρ
  | .st => .st
def RB.bindE (r : RB) (f : Bool → List Sl → RE) : RE := match r with
  | .ok b ρ => f b ρ
  | .ex x ρ => .ex x ρ
  | .st => .st
def RB.seq (r : RB) (f : Bool → List Sl → RS) : RS := match r with
  | .ok b ρ => f b ρ
  | .ex x ρ => .ex x ρ
  | .st => .st
def RE.bindB (r : RE) (f : D → List Sl → RB) : RB := match r with
  | .ok b ρ => f b ρ
  | .ex x ρ => .ex x ρ
  | .st => .st
@[simp] theorem RB.bind_ok (b : Bool) (ρ : List Sl) (f : Bool → List Sl → RB) : (RB.ok b ρ).bind f = f b ρ := rfl
@[simp] theorem RB.bindE_ok (b : Bool) (ρ : List Sl) (f : Bool → List Sl → RE) : (RB.ok b ρ).bindE f = f b ρ := rfl
@[simp] theorem RB.seq_ok (b : Bool) (ρ : List Sl) (f : Bool → List Sl → RS) : (RB.ok b ρ).seq f = f b ρ := rfl
@[simp] theorem RE.bindB_ok (d : D) (ρ : List Sl) (f : D → List Sl → RB) : (RE.ok d ρ).bindB f = f d ρ := rfl
def Qk (K : Fg) (W : WX) (σ : L2.St) (θ : Nat → Addr) (G H : Hp) (Ws : List Addr) (r : RB) (Q : Bool → Hp → Prop) : Prop := match r with
  | .ok b ρ' => ∀ G' H' W', Fr K G H Ws G' H' W' → Stt K θ G' H' σ ρ' W' → Q b H'
  | .ex x ρ' => ∀ d G' H' W', Fr K G H Ws G' H' W' → Stt K θ G' H' σ ρ' W' → XkOk K G' H' x d → W (.ref x.cls) d σ H'
  | .st => False
section
variable {K : Fg} {W : WX} {σ : L2.St} {θ : Nat → Addr} {G H G1 H1 : Hp} {Ws W1 : List Addr} {ρ : List Sl} {Q Q' : Bool → Hp → Prop} {E : Ends}
theorem Qk.fr {r : RB} (h : Qk K W σ θ G H Ws r Q) (e : Fr K G H Ws G1 H1 W1) : Qk K W σ θ G1 H1 W1 r Q := by
  cases r with
  | ok d ρ' => exact fun G' H' W' e' => h G' H' W' (e.trans e')
  | ex x ρ' => exact fun v G' H' W' e' => h v G' H' W' (e.trans e')
  | st => exact h
theorem Qk.bind {r : RB} {k : Bool → List Sl → RB} (h : Qk K W σ θ G H Ws (r.bind k) Q) : Qk K W σ θ G H Ws r (fun b H1 => ∃ ρ1 G1 W1, Fr K G H Ws G1 H1 W1 ∧ Stt K θ G1 H1 σ ρ1 W1 ∧ Qk K W σ θ G1 H1 W1 (k b ρ1) Q) := by
  cases r with
  | ok d ρ' => exact fun G' H' W' e' s => ⟨ρ', G', W', e', s, h.fr e'⟩
  | ex x ρ' => exact h
  | st => exact h
theorem Qk.val {b : Bool} (S : Stt K θ G H σ ρ Ws) (h : Qk K W σ θ G H Ws (.ok b ρ) Q) : Q b H := h G H Ws Fr.refl S
/-- a pure end -/
def upB (r : R Bool) (ρ : List Sl) : RB := match r with
  | .ok d => .ok d ρ
  | .ex x => .ex x ρ
  | .st => .st
@[simp] theorem upB_ok (d : Bool) (ρ : List Sl) : upB (.ok d) ρ = .ok d ρ := rfl
end
def liftB (g : List Sl → R Bool) (ρ : List Sl) : RB := upB (g ρ) ρ
def q1 (f : D → R Bool) (g : List Sl → RE) (ρ : List Sl) : RB := (g ρ).bindB fun d ρ1 => upB (f d) ρ1
section
variable {X : Cx} {W : WX} {e a b c : Expr} {g : List Sl → RE} {fa fb : List Sl → RE} {pos : Pos} {f f' t : List Sl → RB} {m m' : List Sl → RS} {rest : List Expr}
inductive RI where
  | ok (items : List D) (ρ : List Sl) | ex (x : Exn) (ρ : List Sl) | st
def RE.bindI (r : RE) (f : D → List Sl → RI) : RI := match r with
  | .ok b ρ => f b ρ
  | .ex x ρ => .ex x ρ
  | .st => .st
@[simp] theorem RE.bindI_ok (d : D) (ρ : List Sl) (f : D → List Sl → RI) : (RE.ok d ρ).bindI f = f d ρ := rfl
end
end DL
set_option Elab.async false
set_option linter.all false
set_option maxRecDepth 100000
set_option maxHeartbeats 2000000
namespace DL
open PySem PySem.Spec PyProof.Rows L2
def ixKind : D → Bool
  | .tup xs => (strsO xs).isSome
  | .lst _ => true
  | _ => false
end DL
set_option Elab.async false
set_option linter.all false
set_option maxRecDepth 100000
set_option maxHeartbeats 2000000
namespace DL
open PySem PySem.Spec PyProof.Rows L2
section
variable {X : Cx} {W : WX} {e a b c : Expr} {fa fb fc : List Sl → R D} {ga gb : List Sl → RE} {pos : Pos} {Za Zb Zv : ZK}
/-- a op1 b op2 c -/
def pChain (f f' : D → D → R D) (ga gb gc : List Sl → R D) (ρ : List Sl) : R D := (ga ρ).bind fun x => (gb ρ).bind fun y => (f x y).bind fun z => match z with
  | .bl true => (gc ρ).bind fun w => f' y w
  | .bl false => .ok (.bl false)
  | _ => .st
end
end DL
set_option Elab.async false
set_option linter.all false
set_option maxRecDepth 100000
set_option maxHeartbeats 2000000
namespace DL
open PySem PySem.Spec PyProof.Rows L2
def Gk (K : Fg) (W : WX) (σ : L2.St) (θ : Nat → Addr) (G : Hp) (ρ : List Sl) (Ws : List Addr) (H : Hp) (r : R Ow) (Q : VK) : Prop :=
  Stt K θ G H σ ρ Ws ∧ match r with
    | .ok o => ∀ v fp G' H', Ext K G H G' H' → Own K G' H' v o fp → fp.Nodup → (∀ a ∈ fp, H a = none) → (∀ a ∈ fp, G' a = none) → Q v H'
    | .ex x => ∀ d G' H', Ext K G H G' H' → XkOk K G' H' x d → W (.ref x.cls) d σ H'
    | .st => False
def tG (K : Fg) (W : WX) (g : List Sl → R Ow) : TE := fun σ H Q => ∃ θ G ρ Ws, Gk K W σ θ G ρ Ws H (g ρ) Q
structure DG (X : Cx) (W : WX) (e : Expr) (g : List Sl → R Ow) : Prop where
  run : PE X e (tG X.K W g)
theorem Gk.ext {K : Fg} {σ : L2.St} {θ : Nat → Addr} {G H G1 H1 : Hp} {ρ : List Sl} {Ws : List Addr} {r : R Ow} {Q : VK} (h : Gk K W σ θ G ρ Ws H r Q) (e : Ext K G H G1 H1) : Gk K W σ θ G1 ρ Ws H1 r Q := by
  refine ⟨h.1.ext e, ?_⟩
  have h2 := h.2
  cases r with
  | ok o => exact fun v fp G' H' e' z n m g => h2 v fp G' H' (e.trans e') z n (fun a ha => e.al _ (m a ha)) g
  | ex x => exact fun v G' H' e' z => h2 v G' H' (e.trans e') z
  | st => exact h2
end DL
set_option Elab.async false
set_option linter.all false
set_option maxRecDepth 100000
set_option maxHeartbeats 2000000
namespace DL
open PySem PySem.Spec PyProof.Rows L2
theorem RpF.length {K : Fg} {G : Hp} {vs : List (Str × V)} {ds : List (Str × D)} (r : RpF K G vs ds) : vs.length = ds.length := by
  induction ds generalizing vs with
  | nil => cases r; rfl
  | cons p ds ih => cases r with
    | cons r t => simp [ih t]
section
variable {X : Cx} {W : WX} {e a b : Expr} {f : Str} {pos pos' : Pos} {g fa : List Sl → R D} {C : Addr} {Za : ZK}
/-- the getter of a property -/
structure PropD (P : Program) (w : World) (K : Fg) (mg : Str → Option Value) (base : Heap) (k : Nat) (C : Addr) (f : Str) (F : List Sl → RS) : Prop where
  ex : ∃ p g fd ps, PropOf K C f p g ∧ FnOk P w K mg base (L2N.CX P w) k g fd ps (spD K 1 F) ∧ Binds K fd ps []
theorem PropD.mono {P : Program} {w : World} {K : Fg} {mg : Str → Option Value} {base : Heap} {j k : Nat} {C : Addr} {f : Str} {F : List Sl → RS} (h : PropD P w K mg base j C f F) (hk : j ≤ k) : PropD P w K mg base k C f F :=
  let ⟨p, g, fd, ps, a, b, c⟩ := h.ex; ⟨p, g, fd, ps, a, b.mono hk, c⟩
end
section
variable {X : Cx} {W : WX} {elt tg iter : Expr} {ifs : List Expr} {scope : Scope} {own : List (Str × Nat)} {pos : Pos} {src : List Sl → R (List D)} {vs : List Nat} {f : D → List Sl → Option (List Sl)} {t : List Sl → R Bool} {g : List Sl → R D}
theorem LLs.append {K : Fg} {G H : Hp} {as bs : List Addr} {ds es : List (List D)} (h : LLs K G H as ds) (h' : LLs K G H bs es) : LLs K G H (as ++ bs) (ds ++ es) := by
  induction h with
  | nil => exact h'
  | cons h r _ ih => exact .cons h r ih
end
end DL
set_option Elab.async false
set_option linter.all false
set_option maxRecDepth 100000
set_option maxHeartbeats 2000000
namespace DL
open PySem PySem.Spec PyProof.Rows L2
end DL
set_option Elab.async false
set_option linter.all false
set_option maxRecDepth 100000
set_option maxHeartbeats 2000000
namespace DL
open PySem PySem.Spec PyProof.Rows L2
end DL
set_option Elab.async false
set_option linter.all false
set_option maxRecDepth 100000
set_option maxHeartbeats 2000000
namespace DL
open PySem PySem.Spec PyProof.Rows L2
/-- a method with a special name -/
structure DunD (P : Program) (w : World) (K : Fg) (mg : Str → Option Value) (base : Heap) (k : Nat) (C : Addr) (f : Str) (n : Nat) (F : List Sl → RS) : Prop where
  ex : ∃ m fd ps, PySem.W.findIn K (.ref C) f = some (some (.ref m)) ∧ PySem.W.isFn K (.ref m) = true ∧ FnOk P w K mg base (L2N.CX P w) k m fd ps (spD K n F) ∧ Binds K fd ps []
theorem DunD.mono {P : Program} {w : World} {K : Fg} {mg : Str → Option Value} {base : Heap} {j k n : Nat} {C : Addr} {f : Str} {F : List Sl → RS} (h : DunD P w K mg base j C f n F) (hk : j ≤ k) : DunD P w K mg base k C f n F :=
  let ⟨m, fd, ps, a, b, c, d⟩ := h.ex; ⟨m, fd, ps, a, b, c.mono hk, d⟩
end DL
set_option Elab.async false
set_option linter.all false
set_option maxRecDepth 100000
set_option maxHeartbeats 2000000
namespace DL
open PySem PySem.Spec PyProof.Rows L2
def keyD : D → Option Key
  | .int i => some (.inl i)
  | .str s => some (.inr s)
  | _ => none
def valD (kvs : List (Key × D)) (k : Key) : Option D := (kvs.find? fun kv => decide (kv.1 = k)).map (·.2)
section
variable {K : Fg} {G H : Hp}
theorem RpK.len {vs : List (Key × V)} {ds : List (Key × D)} (h : RpK K G vs ds) : vs.length = ds.length := by
  induction ds generalizing vs with
  | nil => cases h; rfl
  | cons d ds ih => cases h with
    | cons r t => simp [ih t]
theorem RpK.val {vs : List (Key × V)} {ds : List (Key × D)} (h : RpK K G vs ds) {k : Key} {d : D} (e : valD ds k = some d) : ∃ v, valV vs k = some v ∧ Rp K G v d := by
  induction ds generalizing vs with
  | nil => cases e
  | cons p ds ih => cases h with
    | @cons k0 v0 d0 vs ds r t =>
      by_cases q : k0 = k
      · subst q
        simp [valD] at e
        subst e
        exact ⟨v0, by simp [valV], r⟩
      · obtain ⟨v, h1, h2⟩ := ih t (by simpa [valD, q] using e)
        exact ⟨v, by simpa [valV, q] using h1, h2⟩
theorem RpK.any {vs : List (Key × V)} {ds : List (Key × D)} (h : RpK K G vs ds) (k : Key) : (vs.any fun kv => decide (kv.1 = k)) = ds.any fun kv => decide (kv.1 = k) := by
  induction ds generalizing vs with
  | nil => cases h; rfl
  | cons p ds ih => cases h with
    | cons r t => simp [ih t]
theorem RpK.map {vs : List (Key × V)} {ds : List (Key × D)} (h : RpK K G vs ds) (k : Key) {v : V} {d : D} (r0 : Rp K G v d) : RpK K G (vs.map fun kv => if kv.1 = k then (kv.1, v) else kv) (ds.map fun kv => if kv.1 = k then (kv.1, d) else kv) := by
  induction ds generalizing vs with
  | nil => cases h; exact .nil
  | cons p ds ih => cases h with
    | @cons k0 v0 d0 vs ds r t =>
      simp only [List.map_cons]
      by_cases q : k0 = k
      · rw [if_pos q, if_pos q]; exact .cons r0 (ih t)
      · rw [if_neg q, if_neg q]; exact .cons r (ih t)
theorem RpK.snoc {vs : List (Key × V)} {ds : List (Key × D)} (h : RpK K G vs ds) (k : Key) {v : V} {d : D} (r0 : Rp K G v d) : RpK K G (vs ++ [(k, v)]) (ds ++ [(k, d)]) := by
  induction ds generalizing vs with
  | nil => cases h; exact .cons r0 .nil
  | cons p ds ih => cases h with
    | cons r t => exact .cons r (ih t)
end
end DL
namespace DL
open PySem PySem.Spec PyProof.Rows L2
theorem own_dk {K : Fg} {G H : Hp} {v : V} {kvs : List (Key × D)} {fp : List Addr} (h : Own K G H v (.dk kvs) fp) : ∃ a vs, v = .ref a ∧ fp = [a] ∧ H a = some (.dK vs) ∧ RpK K G vs kvs := by
  cases h with
  | dk h r => exact ⟨_, _, rfl, rfl, h, r⟩
end DL
set_option Elab.async false
set_option linter.all false
set_option maxRecDepth 100000
set_option maxHeartbeats 3200000
namespace DL
open PySem PySem.Spec PyProof.Rows L2
end DL
set_option Elab.async false
set_option linter.all false
set_option maxRecDepth 100000
set_option maxHeartbeats 2000000
namespace DL
open PySem PySem.Spec PyProof.Rows L2
end DL
set_option Elab.async false
set_option linter.all false
set_option maxRecDepth 100000
set_option maxHeartbeats 2000000
namespace DL
open PySem PySem.Spec PyProof.Rows L2
end DL
set_option Elab.async false
set_option linter.all false
set_option maxRecDepth 100000
set_option maxHeartbeats 2000000
namespace DL
open PySem PySem.Spec PyProof.Rows L2
end DL
set_option Elab.async false
set_option linter.all false
set_option maxRecDepth 100000
set_option maxHeartbeats 2000000
namespace DL
open PySem PySem.Spec PyProof.Rows L2
inductive RG where
  | ok (o : Ow) (ρ : List Sl) | ex (x : Exn) (ρ : List Sl) | st
def Ok' (K : Fg) (W : WX) (σ : L2.St) (θ : Nat → Addr) (G H : Hp) (Ws : List Addr) (r : RG) (Q : VK) : Prop := match r with
  | .ok o ρ' => ∀ v fp G' H' W', Fr K G H Ws G' H' (fp ++ W') → Stt K θ G' H' σ ρ' W' → Own K G' H' v o fp → fp.Nodup → (∀ a ∈ fp, a ∉ W') → (∀ a ∈ fp, G' a = none) → Q v H'
  | .ex x ρ' => ∀ d G' H' W', Fr K G H Ws G' H' W' → Stt K θ G' H' σ ρ' W' → XkOk K G' H' x d → W (.ref x.cls) d σ H'
  | .st => False
def upG (r : R Ow) (ρ : List Sl) : RG := match r with
  | .ok o => .ok o ρ
  | .ex x => .ex x ρ
  | .st => .st
@[simp] theorem upG_ok (o : Ow) (ρ : List Sl) : upG (.ok o) ρ = .ok o ρ := rfl
section
variable {K : Fg} {W : WX} {σ : L2.St} {θ : Nat → Addr} {G H G1 H1 : Hp} {Ws W1 : List Addr} {Q : VK}
theorem Ok'.fr {r : RG} (h : Ok' K W σ θ G H Ws r Q) (e : Fr K G H Ws G1 H1 W1) : Ok' K W σ θ G1 H1 W1 r Q := by
  cases r with
  | ok o ρ' => exact fun v fp G' H' W' e' => h v fp G' H' W' (e.trans e')
  | ex x ρ' => exact fun v G' H' W' e' => h v G' H' W' (e.trans e')
  | st => exact h
end
def upI (r : R (List D)) (ρ : List Sl) : RI := match r with
  | .ok d => .ok d ρ
  | .ex x => .ex x ρ
  | .st => .st
@[simp] theorem upI_ok (d : List D) (ρ : List Sl) : upI (.ok d) ρ = .ok d ρ := rfl
def RB.bindA (r : RB) (f : Bool → List Sl → RA) : RA := match r with
  | .ok b ρ => f b ρ
  | .ex x ρ => .ex x ρ
  | .st => .st
@[simp] theorem RB.bindA_ok (b : Bool) (ρ : List Sl) (f : Bool → List Sl → RA) : (RB.ok b ρ).bindA f = f b ρ := rfl
end DL
set_option Elab.async false
set_option linter.all false
set_option maxRecDepth 100000
set_option maxHeartbeats 2000000
namespace DL
open PySem PySem.Spec PyProof.Rows L2
end DL
set_option Elab.async false
set_option linter.all false
set_option maxRecDepth 100000
set_option maxHeartbeats 2000000
namespace DL
open PySem PySem.Spec PyProof.Rows L2
end DL
set_option Elab.async false
set_option linter.all false
set_option maxRecDepth 100000
set_option maxHeartbeats 2000000
namespace DL
open PySem PySem.Spec PyProof.Rows L2
end DL
set_option Elab.async false
set_option linter.all false
set_option maxRecDepth 100000
set_option maxHeartbeats 2000000
namespace DL
open PySem PySem.Spec PyProof.Rows L2
def dkD : Ow → R D
  | .dk kvs => .ok (.dct kvs)
  | _ => .st
/-- a display of a dict, locked at once -/
def pFrzK (g : List Sl → R Ow) (ρ : List Sl) : R D := (g ρ).bind dkD
theorem DG.dk {X : Cx} {W : WX} {e : Expr} {g : List Sl → R Ow} (h : DG X W e g) : DP X W e (pFrzK g) :=
  ⟨⟨fun pins s σ H Q I ⟨θ, G, ρ, Ws, S, q⟩ => by
    unfold pFrzK at q
    cases hg : g ρ with
    | st => rw [hg] at q; exact q.elim
    | ex x =>
      rw [hg] at q
      exact h.run.run pins s σ H Q I ⟨θ, G, ρ, Ws, S, by rw [hg]; exact q⟩
    | ok o =>
      rw [hg] at q
      cases o with
      | dk kvs =>
        have q : ∀ v G' H', Ext X.K G H G' H' → Zc X.K G' H' v (.dct kvs) → Q v H' := q
        refine wpAny_mono (h.run.run pins s σ H (fun v H' => ∃ fp G', Ext X.K G H G' H' ∧ Own X.K G' H' v (.dk kvs) fp ∧ (∀ a ∈ fp, H a = none) ∧ (∀ a ∈ fp, G' a = none)) I ⟨θ, G, ρ, Ws, S, ?_⟩) (fun u s' hu => ?_) fun _ _ z => z
        · rw [hg]
          exact fun v fp G' H' e z n m g0 => ⟨fp, G', e, z, m, g0⟩
        · obtain ⟨v, H1, I1, rv, fp, G', ex, ow, m, g0⟩ := hu
          obtain ⟨a, vs, rfl, rfl, ha, r⟩ := own_dk ow
          obtain ⟨od, I2⟩ := I1.lock ha trivial
          have ga : G' a = none := g0 a (by simp)
          have hHa : H a = none := m a (by simp)
          refine ⟨.ref a, _, I2, rv, q (.ref a) (upd G' a (.frz od (.dK vs))) _ ⟨ex.g.trans (same_upd ga), fun b o hb nt => ?_, fun b o hb => ?_, fun b o hb => ?_, fun b hb => ex.al b (upd_al hb), ex.tb.trans (TbS.updX (fx_of ha))⟩ (.dct upd_same (r.mono (same_upd ga)))⟩
          · have : b ≠ a := fun z => by rw [z, hHa] at hb; cases hb
            rw [upd_ne this]; exact ex.h _ _ hb nt
          · by_cases hba : b = a
            · subst hba; rw [upd_same] at hb ⊢; exact hb
            · rw [upd_ne hba] at hb ⊢; exact ex.s _ _ hb
          · by_cases hba : b = a
            · subst hba; exact .inr hHa
            · rw [upd_ne hba] at hb; exact ex.nw _ _ hb
      | _ => exact q.elim⟩⟩
end DL
set_option Elab.async false
set_option linter.all false
set_option maxRecDepth 100000
set_option maxHeartbeats 2000000
namespace DL
open PySem PySem.Spec PyProof.Rows L2
end DL
set_option Elab.async false
set_option linter.all false
set_option maxRecDepth 100000
set_option maxHeartbeats 2000000
namespace DL
open PySem PySem.Spec PyProof.Rows L2
end DL
set_option Elab.async false
set_option linter.all false
set_option maxRecDepth 100000
set_option maxHeartbeats 2000000
namespace DL
open PySem PySem.Spec PyProof.Rows L2
end DL
set_option Elab.async false
set_option linter.all false
set_option maxRecDepth 100000
set_option maxHeartbeats 2000000
namespace DL
open PySem PySem.Spec PyProof.Rows L2
def keysD : List D → Option (List Key)
  | [] => some []
  | d :: ds => (keyD d).bind fun k => (keysD ds).bind fun ks => some (k :: ks)
def valT (kvs : List (List Key × D)) (k : List Key) : Option D := (kvs.find? fun kv => decide (kv.1 = k)).map (·.2)
section
variable {K : Fg} {G H : Hp}
theorem RpT.len {vs : List (List Key × V)} {ds : List (List Key × D)} (h : RpT K G vs ds) : vs.length = ds.length := by
  induction h with
  | nil => rfl
  | cons _ _ ih => simp [ih]
theorem RpT.val {vs : List (List Key × V)} {ds : List (List Key × D)} (h : RpT K G vs ds) (k : List Key) : (∃ v d, valV vs k = some v ∧ valT ds k = some d ∧ Rp K G v d) ∨ (valV vs k = none ∧ valT ds k = none) := by
  induction h with
  | nil => exact .inr ⟨rfl, rfl⟩
  | @cons k0 v0 d0 vs ds r t ih =>
    by_cases q : k0 = k
    · subst q
      exact .inl ⟨v0, d0, by simp [valV], by simp [valT], r⟩
    · rcases ih with ⟨v, d, h1, h2, h3⟩ | ⟨h1, h2⟩
      · exact .inl ⟨v, d, by simpa [valV, q] using h1, by simpa [valT, q] using h2, h3⟩
      · exact .inr ⟨by simpa [valV, q] using h1, by simpa [valT, q] using h2⟩
theorem RpT.any {vs : List (List Key × V)} {ds : List (List Key × D)} (h : RpT K G vs ds) (k : List Key) : (vs.any fun kv => decide (kv.1 = k)) = ds.any fun kv => decide (kv.1 = k) := by
  induction h with
  | nil => rfl
  | cons _ _ ih => simp [ih]
theorem RpT.map {vs : List (List Key × V)} {ds : List (List Key × D)} (h : RpT K G vs ds) (k : List Key) {v : V} {d : D} (r0 : Rp K G v d) : RpT K G (vs.map fun kv => if kv.1 = k then (kv.1, v) else kv) (ds.map fun kv => if kv.1 = k then (kv.1, d) else kv) := by
  induction h with
  | nil => exact .nil
  | @cons k0 v0 d0 vs ds r t ih =>
    simp only [List.map_cons]
    by_cases q : k0 = k
    · rw [if_pos q, if_pos q]; exact .cons r0 ih
    · rw [if_neg q, if_neg q]; exact .cons r ih
theorem RpT.snoc {vs : List (List Key × V)} {ds : List (List Key × D)} (h : RpT K G vs ds) (k : List Key) {v : V} {d : D} (r0 : Rp K G v d) : RpT K G (vs ++ [(k, v)]) (ds ++ [(k, d)]) := by
  induction h with
  | nil => exact .cons r0 .nil
  | cons r _ ih => exact .cons r ih
end
def Zf : ZK := fun _ _ H v d => ∃ a ds ks, v = .ref a ∧ d = .tup ds ∧ keysD ds = some ks ∧ H a = some (.tup (ks.map kV))
theorem Zf.ext {K : Fg} {G H G' H' : Hp} {v : V} {d : D} (e : Ext K G H G' H') (h : Zf K G H v d) : Zf K G' H' v d := by
  obtain ⟨a, ds, ks, h1, h2, h3, h4⟩ := h
  exact ⟨a, ds, ks, h1, h2, h3, e.k h4⟩
def getT (kvs : List (List Key × D)) (ks : List Key) : R D := match valT kvs ks with
  | some d => .ok d
  | none => .st
end DL
set_option Elab.async false
set_option linter.all false
set_option maxRecDepth 100000
set_option maxHeartbeats 2000000
namespace DL
open PySem PySem.Spec PyProof.Rows L2
end DL
set_option Elab.async false
set_option linter.all false
set_option maxRecDepth 100000
set_option maxHeartbeats 3200000
namespace DL
open PySem PySem.Spec PyProof.Rows L2
end DL
set_option Elab.async false
set_option linter.all false
set_option maxRecDepth 100000
set_option maxHeartbeats 2000000
namespace DL
open PySem PySem.Spec PyProof.Rows L2
def SqAt (t : Bool) (h : Heap) (l : Addr) (xs : Array Value) : Prop := match t with
  | true => h.IsTuple l xs
  | false => h.IsList l xs
def ItAt (t : Bool) (h : Heap) (i l : Addr) (k : Nat) : Prop := match t with
  | true => h.IsTupleIter i l k
  | false => h.IsListIter i l k
theorem ItAt.at {t : Bool} {h h' : Heap} {a l : Addr} {k : Nat} (x : ItAt t h a l k) (e : ∀ o, h.get? a = some o → h'.get? a = some o) : ItAt t h' a l k := by
  cases t
  · exact Heap.IsListIter.at x e
  · exact Heap.IsTupleIter.at x e
def SqK (t : Bool) (K : Fg) (H : Hp) (a : Addr) (xs : List V) : Prop := match t with
  | true => SqT K H a xs
  | false => SqL K H a xs
end DL
set_option Elab.async false
set_option linter.all false
set_option maxRecDepth 100000
set_option maxHeartbeats 2000000
namespace DL
open PySem PySem.Spec PyProof.Rows L2
end DL
set_option Elab.async false
set_option linter.all false
set_option maxRecDepth 100000
set_option maxHeartbeats 2000000
namespace DL
open PySem PySem.Spec PyProof.Rows L2
theorem SqAt.lt {t : Bool} {h : Heap} {l : Addr} {xs : Array Value} (x : SqAt t h l xs) : l < h.objs.size := by
  cases t
  · obtain ⟨o, e, _⟩ := (show h.IsList l xs from x)
    exact Heap.lt_size e
  · obtain ⟨o, e, _⟩ := (show h.IsTuple l xs from x)
    exact Heap.lt_size e
theorem SqK.same {t : Bool} {K : Fg} {H H' : Hp} {a : Addr} {xs : List V} (e : Same H H') (h : SqK t K H a xs) : SqK t K H' a xs := by
  cases t
  · exact e.seq h
  · exact sameT e h
end DL
set_option Elab.async false
set_option linter.all false
set_option maxRecDepth 100000
set_option maxHeartbeats 2000000
namespace DL
open PySem PySem.Spec PyProof.Rows L2
end DL
namespace DL
open PySem PySem.Spec PyProof.Rows L2
end DL
set_option Elab.async false
set_option linter.all false
set_option maxRecDepth 100000
set_option maxHeartbeats 2000000
namespace DL
open PySem PySem.Spec PyProof.Rows L2
end DL
set_option Elab.async false
set_option linter.all false
set_option maxRecDepth 100000
set_option maxHeartbeats 2000000
namespace DL
open PySem PySem.Spec PyProof.Rows L2
end DL
namespace PySem.W
open PySem PySem.Spec PySem.Calls PyProof.Rows
end PySem.W
namespace DL
open PySem PySem.Spec PyProof.Rows L2
end DL
set_option Elab.async false
set_option linter.all false
set_option maxRecDepth 100000
set_option maxHeartbeats 2000000
namespace DL
open PySem PySem.Spec PyProof.Rows L2
open Classical in
/-- job(), job the parameter at slot i, c the datum that stands for it, r what it comes to -/
noncomputable def pJob (c : D) (i : Nat) (r : R D) (ρ : List Sl) : R D := match ρ[i]? with
  | some (.val d) => if d = c then r else .st
  | _ => .st
/-- a def of the module with one parameter, which it calls -/
structure JobD (P : Program) (w : World) (K : Fg) (mg : Str → Option Value) (base : Heap) (k : Nat) (x a : Str) (nl : Nat) (m : D → R D → List Sl → RS) : Prop where
  ex : ∃ (f : Addr) (oc : Value) (od : Option Addr) (dV kV doc pm cdv ct : Value) (an : Option Addr) (params : Arguments) (body : List Stmt) (scope : Scope) (osl : Array (Option Value)) (N : List Str),
    mg x = some (.ref f) ∧ PySem.W.keepIn K (.ref f) = true ∧ K.lookup f = some ⟨oc, od, .func (PySem.W.fnOf x x params body scope dV kV doc pm an cdv ct), osl⟩ ∧ PySem.W.codeIn K cdv x = true ∧ L2.Binds K (PySem.W.fnOf x x params body scope dV kV doc pm an cdv ct) [a] [] ∧
      FnScope N [a] scope ∧ N.length = nl + 1 ∧ N[0]? = some a ∧ Vis scope a ∧
      ∀ (A : Around) (outer : List Env) (s : Shared) (H : Hp) (E : XK) (c : D) (r : R D), A.guards = some [] → Room k (A.deeper (envOfC x scope s.heap.objs.size f cdv)) →
        (∀ (W : WX) (pn : List (Addr × Obj)) (xe : Value → Shared → Prop) (p1 p2 : Pos), L2N.Takes ((cxOf (L2N.CX P w) P w K mg base N x scope f cdv A outer s H E).tr pn xe) W → DP ((cxOf (L2N.CX P w) P w K mg base N x scope f cdv A outer s H E).tr pn xe) W (.Call (.Name a p1) [] [] p2) (pJob c 0 r)) →
        DSs (cxOf (L2N.CX P w) P w K mg base N x scope f cdv A outer s H E) (fun cls d _ H => E cls d H) body (m c r)
theorem JobD.mono {P : Program} {w : World} {K : Fg} {mg : Str → Option Value} {base : Heap} {j k : Nat} {x a : Str} {nl : Nat} {m : D → R D → List Sl → RS} (J : JobD P w K mg base j x a nl m) (hk : j ≤ k) : JobD P w K mg base k x a nl m := by
  obtain ⟨f, oc, od, dV, kV, doc, pm, cdv, ct, an, params, body, scope, osl, N, h1, h2, h3, h4, h5, h6, h7, h8, h9, h10⟩ := J.ex
  exact ⟨f, oc, od, dV, kV, doc, pm, cdv, ct, an, params, body, scope, osl, N, h1, h2, h3, h4, h5, h6, h7, h8, h9, fun A outer s H E c r hg hr jb => h10 A outer s H E c r hg (hr.mono hk) jb⟩
theorem SameP.nt {H J : Hp} {P : Addr} {ps : Array Value} (hP : H P = some (.tbl ps)) (k : ∀ b o, b ≠ P → H b = some o → J b = some o) : SameN H J := fun b o e n => k b o (fun z => by rw [z, hP] at e; exact n ps (Option.some.inj e).symm) e
end DL
set_option Elab.async false
set_option linter.all false
set_option maxRecDepth 100000
set_option maxHeartbeats 2000000
namespace DL
open PySem PySem.Spec PyProof.Rows L2 He
end DL
set_option Elab.async false
set_option linter.all false
set_option maxRecDepth 100000
set_option maxHeartbeats 2000000
namespace PySem
namespace OEY
open PySem.W PySem.Calls PyProof.Rows PySem.HandSPX
abbrev aeTl : List Value := [.type "ArithmeticError", .type "Exception", .type "BaseException", .type "object"]
abbrev leTl : List Value := [.type "LookupError", .type "Exception", .type "BaseException", .type "object"]
def refsB (tl : List Value) : List Value → Bool
  | .ref _ :: r => refsB tl r
  | l => l == tl
end OEY
end PySem
namespace DL
open PySem PySem.Spec PyProof.Rows L2
end DL
set_option Elab.async false
set_option linter.all false
set_option maxRecDepth 100000
set_option maxHeartbeats 2000000
namespace DL
open PySem PySem.Spec PyProof.Rows L2
end DL
set_option Elab.async false
set_option linter.all false
set_option maxRecDepth 100000
set_option maxHeartbeats 2000000
namespace DL
open PySem PySem.Spec PyProof.Rows L2
end DL
set_option Elab.async false
set_option linter.all false
set_option maxRecDepth 100000
set_option maxHeartbeats 2000000
namespace DL
open PySem PySem.Spec PyProof.Rows L2
end DL
set_option Elab.async false
set_option linter.all false
set_option maxRecDepth 100000
set_option maxHeartbeats 2000000
namespace DL
open PySem PySem.Spec PyProof.Rows L2
end DL
set_option Elab.async false
set_option linter.all false
set_option maxRecDepth 100000
set_option maxHeartbeats 2000000
namespace DL
open PySem PySem.Spec PyProof.Rows L2
end DL
set_option Elab.async false
set_option linter.all false
set_option maxRecDepth 100000
set_option maxHeartbeats 2000000
namespace DL
open PySem PySem.Spec PyProof.Rows L2
end DL
set_option Elab.async false
set_option linter.all false
set_option maxRecDepth 100000
set_option maxHeartbeats 2000000
namespace DL
open PySem PySem.Spec PyProof.Rows L2
end DL
set_option Elab.async false
set_option linter.all false
set_option maxRecDepth 100000
set_option maxHeartbeats 2000000
namespace DL
open PySem PySem.Spec PyProof.Rows L2
structure CauD (P : Program) (w : World) (K : Fg) (mg : Str → Option Value) (base : Heap) (k : Nat) (x y : Str) (nl : Nat) (m : D → List Sl → RS) : Prop where
  ex : ∃ f fd, mg x = some (.ref f) ∧ PySem.W.keepIn K (.ref f) = true ∧ Binds K fd [y] [] ∧
    ∀ (A : Around) (outer : List Env) (s : Shared) (H : Hp) (Q : VK) (E : XK) (a C : Addr) (oe : Obj) (d : Option Addr) (fs : List (Str × D)), L2H.RoomH k A → L2H.PinOk outer H s (a, oe) → Env0 P w K mg base A outer s H → BindsTo s fd ⟨[.ref a], []⟩ [(y, .ref a)] →
      L2N.Zn (.ref C) d oe → (∃ vs, oe.data = .fields vs) → spD K 1 (runF nl (m (.exn a d C fs))) [.ref a] H Q E → codeAny (model P w) A (.call (.ref f) ⟨[.ref a], []⟩) (CR (L2N.CX P w) outer P w H s Q E) s
theorem CauD.mono {P : Program} {w : World} {K : Fg} {mg : Str → Option Value} {base : Heap} {j k : Nat} {x y : Str} {nl : Nat} {m : D → List Sl → RS} (J : CauD P w K mg base j x y nl m) (hk : j ≤ k) : CauD P w K mg base k x y nl m := by
  obtain ⟨f, fd, h1, h2, h3, h4⟩ := J.ex
  exact ⟨f, fd, h1, h2, h3, fun A outer s H Q E a C oe d fs hr => h4 A outer s H Q E a C oe d fs (hr.mono hk)⟩
end DL
set_option Elab.async false
set_option linter.all false
set_option maxRecDepth 100000
set_option maxHeartbeats 2000000
namespace DL
open PySem PySem.Spec PyProof.Rows L2
end DL
set_option Elab.async false
set_option linter.all false
set_option maxRecDepth 100000
set_option maxHeartbeats 2000000
namespace DL
open PySem PySem.Spec PyProof.Rows L2
end DL
set_option Elab.async false
set_option linter.all false
set_option maxRecDepth 100000
set_option maxHeartbeats 2000000
namespace DL
open PySem PySem.Spec PyProof.Rows L2
end DL
set_option Elab.async false
set_option linter.all false
set_option maxRecDepth 100000
set_option maxHeartbeats 2000000
namespace DL
open PySem PySem.Spec PyProof.Rows L2
end DL
set_option Elab.async false
set_option linter.all false
set_option maxRecDepth 100000
set_option maxHeartbeats 4000000
namespace DL
open PySem PySem.Spec PyProof.Rows L2
/-- a def of the module with one parameter, which it calls -/
structure JobE (P : Program) (w : World) (K : Fg) (mg : Str → Option Value) (base : Heap) (k : Nat) (x a : Str) (nl : Nat) (m : (List Sl → RE) → List Sl → RS) : Prop where
  ex : ∃ (f : Addr) (oc : Value) (od : Option Addr) (dV kV doc pm cdv ct : Value) (an : Option Addr) (params : Arguments) (body : List Stmt) (scope : Scope) (osl : Array (Option Value)) (N : List Str),
    mg x = some (.ref f) ∧ PySem.W.keepIn K (.ref f) = true ∧ K.lookup f = some ⟨oc, od, .func (PySem.W.fnOf x x params body scope dV kV doc pm an cdv ct), osl⟩ ∧ PySem.W.codeIn K cdv x = true ∧ L2.Binds K (PySem.W.fnOf x x params body scope dV kV doc pm an cdv ct) [a] [] ∧
      FnScope N [a] scope ∧ N.length = nl + 1 ∧ N[0]? = some a ∧ Vis scope a ∧
      ∀ (A : Around) (outer : List Env) (s : Shared) (H : Hp) (E : XK) (ej : List Sl → RE), A.guards = some [] → Room k (A.deeper (envOfC x scope s.heap.objs.size f cdv)) →
        (∀ (W : WX) (pn : List (Addr × Obj)) (xe : Value → Shared → Prop) (p1 p2 : Pos), L2N.Takes ((cxOf (L2N.CX P w) P w K mg base N x scope f cdv A outer s H E).tr pn xe) W → DE ((cxOf (L2N.CX P w) P w K mg base N x scope f cdv A outer s H E).tr pn xe) W (.Call (.Name a p1) [] [] p2) ej) →
        DSs (cxOf (L2N.CX P w) P w K mg base N x scope f cdv A outer s H E) (fun cls d _ H => E cls d H) body (m ej)
theorem JobE.mono {P : Program} {w : World} {K : Fg} {mg : Str → Option Value} {base : Heap} {j k : Nat} {x a : Str} {nl : Nat} {m : (List Sl → RE) → List Sl → RS} (J : JobE P w K mg base j x a nl m) (hk : j ≤ k) : JobE P w K mg base k x a nl m := by
  obtain ⟨f, oc, od, dV, kV, doc, pm, cdv, ct, an, params, body, scope, osl, N, h1, h2, h3, h4, h5, h6, h7, h8, h9, h10⟩ := J.ex
  exact ⟨f, oc, od, dV, kV, doc, pm, cdv, ct, an, params, body, scope, osl, N, h1, h2, h3, h4, h5, h6, h7, h8, h9, fun A outer s H E ej hg hr jb => h10 A outer s H E ej hg (hr.mono hk) jb⟩
end DL
set_option Elab.async false
set_option linter.all false
set_option maxRecDepth 100000
set_option maxHeartbeats 2000000
namespace DL
open PySem PySem.Spec PyProof.Rows L2
end DL
set_option Elab.async false
set_option linter.all false
set_option maxRecDepth 100000
set_option maxHeartbeats 2000000
namespace DL
open PySem PySem.Spec PyProof.Rows L2
end DL
set_option Elab.async false
set_option linter.all false
set_option maxRecDepth 100000
set_option maxHeartbeats 2000000
namespace DL
open PySem PySem.Spec PyProof.Rows L2 He
/-- where a def stands -/
inductive Ad where
  | glo (x : Str) | mem (C m : Str) | via (kind : String) (C f : Str)
def viaAd (K : Fg) (kind : String) (C f : Str) : Addr := match PySem.W.recIn K (ma K (ga K C) f) kind with
  | some (.ref g :: _) => g
  | _ => 0
def Ad.at (K : Fg) : Ad → Addr
  | .glo x => ga K x
  | .mem C m => ma K (ga K C) m
  | .via kind C f => viaAd K kind C f
structure Df where
  at_ : Ad
  name : Str
  qual : Str
  params : Arguments
  body : List Stmt
  scope : Scope
  dfl : List Dv := []
def fnAt (K : Fg) (a : Ad) : FnW := match K.lookup (a.at K) with
  | some ⟨_, _, .func fd, _⟩ => some (fd.name, fd.qualname, fd.params, fd.body, fd.scope, fd.globals, fd.closure, fd.builtins)
  | _ => none
def Df.val (d : Df) : FnW := some (d.name, d.qual, d.params, .stmts d.body, d.scope, mainGlobals, [], builtinsNs)
def Df.dvs (K : Fg) (d : Df) : List V := d.dfl.map (Dv.v K)
def Df.ok (K : Fg) (d : Df) : Bool := PySem.W.keepIn K (.ref (d.at_.at K)) && (match K.lookup (d.at_.at K) with
  | some ⟨_, _, .func fd, _⟩ => PySem.W.codeIn K fd.code d.qual && dflB K fd.defaults (d.dvs K)
  | _ => false)
inductive Fb where
  | prop (C f : Str) | tup0 (a : Dv) | clsi (C : Str) | kit (t : String) (C : Str) (b : Bool) | kitc (C' C : Str) (b : Bool) | own (C m : Str) | cmet (C m : Str) | nee (C : Str) | err (C fx : Str) | adr (C : Str) (n : Nat) | xf (C fx : Str) | exc (C : Str) | exm (C' C : Str) (b : Bool) | kitb (C : Str) (t : String) (b : Bool) | lam (x : Str) | lamU | errT (C fx : Str) | exc0 (C : Str)
def tup0B (K : Fg) (v : V) : Bool := match v with
  | .ref a => (match K.lookup a with
    | some ⟨.type c, none, .seq its _, _⟩ => decide (c = "tuple") && decide (its.toList = [])
    | _ => false)
  | _ => false
/-- an own error over ValueError -/
def oexB (K : Fg) (C : Addr) : Bool := match K.lookup C with
  | some ⟨.type "type", _, .cls cd, sl⟩ => (match cd.mro, sl.toList with
    | .ref C' :: bm, [_, _, _, _, some (.builtin n), _] => C' == C && n == "ValueError.__new__" && !cd.hasDel && PySem.HandSPX.refsVE bm && cd.hasDict
    | _, _ => false)
  | _ => false
/-- an own error over ArithmeticError or LookupError -/
def oexTB (K : Fg) (C : Addr) : Bool := match K.lookup C with
  | some ⟨.type "type", _, .cls cd, sl⟩ => (match cd.mro, sl.toList with
    | .ref C' :: bm, [_, _, _, _, some (.builtin n), _] => C' == C && (!cd.hasDel && (cd.hasDict && ((n == "ArithmeticError.__new__" && PySem.OEY.refsB PySem.OEY.aeTl bm) || (n == "LookupError.__new__" && PySem.OEY.refsB PySem.OEY.leTl bm))))
    | _, _ => false)
  | _ => false
def errTB (K : Fg) (C : Str) (fx : Str) : Bool := oexTB K (ga K C) && (eqO (PySem.W.findIn K (.ref (ga K C)) "__setattr__") (some (some (.builtin "object.__setattr__"))) && (decide (PySem.W.subIn K (.ref (ga K C)) (.type "BaseException") = some true) &&
  (decide (PySem.W.typeIn K (.ref (ga K C)) = some (.type "type")) && (PySem.W.keepIn K (.ref (ga K C)) && (eqO (PySem.W.findIn K (.ref (ga K C)) fx) (some none) && (eqO (PySem.W.findIn K (.ref (ga K C)) "__init__") (some (some (.ref (ma K (ga K C) "__init__")))) &&
    decide (PySem.W.typeIn K (.ref (ma K (ga K C) "__init__")) = some (.type "function"))))))))
def errB (K : Fg) (C : Str) (fx : Str) : Bool := oexB K (ga K C) && (eqO (PySem.W.findIn K (.ref (ga K C)) "__setattr__") (some (some (.builtin "object.__setattr__"))) && (decide (PySem.W.subIn K (.ref (ga K C)) (.type "BaseException") = some true) &&
  (decide (PySem.W.typeIn K (.ref (ga K C)) = some (.type "type")) && (PySem.W.keepIn K (.ref (ga K C)) && (eqO (PySem.W.findIn K (.ref (ga K C)) fx) (some none) && (eqO (PySem.W.findIn K (.ref (ga K C)) "__init__") (some (some (.ref (ma K (ga K C) "__init__")))) &&
    decide (PySem.W.typeIn K (.ref (ma K (ga K C) "__init__")) = some (.type "function"))))))))
def excB (K : Fg) (C : Addr) : Bool := eqO (PySem.W.findIn K (.ref C) "__getattribute__") (some (some (.builtin "BaseException.__getattribute__"))) && (eqO (PySem.W.findIn K (.ref C) "__getattr__") (some none) && (decide (PySem.W.subIn K (.ref C) (.type "BaseException") = some true) && (PySem.W.hasDictIn K C &&
  (eqO (PySem.W.findIn K (.ref C) "__class__") (some (some (.builtin "object.__class__"))) && (eqO (PySem.W.specialIn K (.builtin "object.__class__") "__get__") (some (some (.builtin "getset_descriptor.__get__"))) && (decide (PySem.W.takesIn K (.builtin "object.__class__") = some true) && decide (PySem.W.mroIn K C (.type "object") = some true)))))))
/-- an own error without an own `__init__`, over ArithmeticError -/
def exc0B (K : Fg) (C : Addr) : Bool := PySem.W.excIn K C [.type "ArithmeticError", .type "Exception", .type "BaseException", .type "object"] "ArithmeticError.__new__" && (PySem.W.keepIn K (.ref C) && (decide (PySem.W.subIn K (.ref C) (.type "BaseException") = some true) && decide (PySem.W.typeIn K (.ref C) = some (.type "type"))))
def Fb.ok (K : Fg) : Fb → Bool
  | .prop C f => eqO (PySem.W.findIn K (.ref (ga K C)) f) (some (some (.ref (ma K (ga K C) f)))) && (eqO (PySem.W.specialIn K (.ref (ma K (ga K C) f)) "__get__") (some (some (.builtin "property.__get__"))) &&
      (decide (PySem.W.takesIn K (.ref (ma K (ga K C) f)) = some true) && (match PySem.W.recIn K (ma K (ga K C) f) "property" with
        | some (.ref _ :: _) => true
        | _ => false)))
  | .tup0 a => tup0B K (a.v K)
  | .clsi C => (Fa.cls C).ok K && (eqO (PySem.W.findIn K (.ref (ga K C)) "__class__") (some (some (.builtin "object.__class__"))) && (eqO (PySem.W.specialIn K (.builtin "object.__class__") "__get__") (some (some (.builtin "getset_descriptor.__get__"))) &&
      (decide (PySem.W.takesIn K (.builtin "object.__class__") = some true) && decide (PySem.W.mroIn K (ga K C) (.type "object") = some true))))
  | .kit t C b => decide (PySem.W.kitOne K (.type t) (.ref (ga K C)) = some b)
  | .kitc C' C b => decide (PySem.W.kitOne K (.ref (ga K C')) (.ref (ga K C)) = some b)
  | .own C m => eqO (PySem.W.findIn K (.ref (ga K C)) m) (some (some (.ref (ma K (ga K C) m)))) && PySem.W.isFn K (.ref (ma K (ga K C) m))
  | .cmet C m => (match PySem.W.findCls K (.ref (ga K C)) (.type "type") m with
      | some (.get g p .none c) => decide (g = .builtin "classmethod.__get__") && (decide (p = .ref (ma K (ga K C) m)) && decide (c = .ref (ga K C)))
      | _ => false) && (PySem.W.readsIn K (ga K C) (.type "type") && (eqO (PySem.W.specialIn K (.ref (ga K C)) "__getattribute__") (some (some (.builtin "type.__getattribute__"))) && (match PySem.W.recIn K (ma K (ga K C) m) "classmethod" with
        | some (.ref g :: _) => PySem.W.fnIn K g
        | _ => false)))
  | .nee C => eqO (PySem.W.findIn K (.ref (ga K C)) "__ne__") (some (some (.builtin "object.__ne__")))
  | .err C fx => errB K C fx
  | .adr C n => decide (ga K C = n)
  | .xf C fx => xfB K (ga K C) && eqO (PySem.W.findIn K (.ref (ga K C)) fx) (some none)
  | .exc C => excB K (ga K C)
  | .exm C' C b => decide (PySem.W.exmOne K (.ref (ga K C')) (.ref (ga K C)) = some b)
  | .kitb C t b => decide (PySem.W.kitOne K (.ref (ga K C)) (.type t) = some b)
  | .lam x => (tabInX K x).isSome
  | .errT C fx => errTB K C fx
  | .exc0 C => exc0B K (ga K C)
  | .lamU => (tabsK K).all fun p => (tabsK K).all fun p' => !(p.1 == p'.1) || p.2 == p'.2
abbrev AlY : Type := Bool × List FnW
def obsY (fa : List Fa) (fb : List Fb) (fn : List Df) (K : Fg) : AlY := ((fa.all fun f => f.ok K) && (fb.all fun f => f.ok K) && fn.all fun d => d.ok K, fn.map fun d => fnAt K d.at_)
def valY (fn : List Df) : AlY := (true, fn.map Df.val)
def SaysY (fa : List Fa) (fb : List Fb) (fn : List Df) (K : Fg) : Prop := obsY fa fb fn K = valY fn
section
variable {fa : List Fa} {fb : List Fb} {fn : List Df} {K : Fg}
theorem SaysY.more (c : SaysY fa fb fn K) (i : Nat) {f : Fb} (h : fb[i]? = some f := by rfl) : f.ok K = true :=
  List.all_eq_true.mp (ba (ba (congrArg (fun z : AlY => z.1) c)).1).2 f (List.mem_of_getElem? h)
end
end DL
set_option Elab.async false
set_option linter.all false
set_option maxRecDepth 100000
set_option maxHeartbeats 2000000
namespace DM
open PySem PySem.Spec PyProof.Rows L2 He DL
noncomputable section
def m_is_name : List Sl → RS := (sSeq (sIf (bOr (bNot (b1 asB (p1 (isK "str") (pVar 0)))) (bNot (b1 asB (pChain leD leD (pC (.int 1)) (p1 lenD (pVar 0)) (pC (.int 8)))))) (sRet (pC (.bl false))) sNext) (sRet (pAnd (p2 inD (p2 ixD (pVar 0) (pC (.int 0))) (pC (.str "abcdefghijklmnopqrstuvwxyz"))) (p1 allD (p1 isL (pLc (i1 signsD (pVar 0)) [1] (gVar 1) tYes' (pOr (p2 inD (pVar 1) (pC (.str "abcdefghijklmnopqrstuvwxyz"))) (p2 inD (pVar 1) (pC (.str "0123456789"))))))))))
def F_is_name : List Sl → RS := runF 1 (m_is_name)
end
end DM
set_option Elab.async false
set_option linter.all false
set_option maxRecDepth 100000
set_option maxHeartbeats 2000000
namespace MA
open PySem PySem.Spec PyProof.Rows L2 He DL DM
section
variable {ρ ρ' : List Sl} {i j : Nat} {d x y : D} {f g h : List Sl → R D} {fe ge : List Sl → RE} {t u : List Sl → R Bool}
@[simp] theorem v_pVar : pVar i ρ = (match ρ[i]? with | some (.val d) => .ok d | _ => .st) := rfl
@[simp] theorem v_pVarQ : pVarQ i ρ = (match ρ[i]? with | some (.val d) => .ok d | some (.own _ (.lst ds)) => .ok (.lst ds) | _ => .st) := rfl
@[simp] theorem v_pVarR : pVarR i ρ = (match ρ[i]? with | some (.val d) => .ok d | some (.own _ (.lst ds)) => .ok (.lst ds) | some (.own _ (.ll dss)) => .ok (.lst (dss.map .lst)) | _ => .st) := rfl
@[simp] theorem v_pC : pC d ρ = .ok d := rfl
@[simp] theorem v_p1 {F : D → R D} : p1 F f ρ = (f ρ).bind F := rfl
@[simp] theorem v_p2 {F : D → D → R D} : p2 F f g ρ = (f ρ).bind fun x => (g ρ).bind fun y => F x y := rfl
@[simp] theorem v_p3 {F : D → D → D → R D} : p3 F f g h ρ = (f ρ).bind fun x => (g ρ).bind fun y => (h ρ).bind fun z => F x y z := rfl
@[simp] theorem v_aNil : aNil ρ = .ok [] := rfl
@[simp] theorem v_aCons {ga : List Sl → R (List D)} : aCons f ga ρ = (f ρ).bind fun x => (ga ρ).bind fun xs => .ok (x :: xs) := rfl
@[simp] theorem v_pA {F : List D → R D} {ga : List Sl → R (List D)} : pA F ga ρ = (ga ρ).bind F := rfl
@[simp] theorem v_b1 {F : D → R Bool} : b1 F f ρ = (f ρ).bind F := rfl
@[simp] theorem v_asB {b : Bool} : asB (.bl b) = .ok b := rfl
@[simp] theorem v_bAnd : bAnd t u ρ = (t ρ).bind fun c => if c then u ρ else .ok false := rfl
@[simp] theorem v_bOr : bOr t u ρ = (t ρ).bind fun c => if c then .ok true else u ρ := rfl
@[simp] theorem v_bNot : bNot t ρ = (t ρ).bind fun c => .ok !c := rfl
@[simp] theorem v_pIf : pIf t f g ρ = (t ρ).bind fun b => if b then f ρ else g ρ := rfl
@[simp] theorem v_pAnd : pAnd f g ρ = (f ρ).bind fun x => match x with | .bl true => g ρ | .bl false => .ok (.bl false) | _ => .st := rfl
@[simp] theorem v_pOr : pOr f g ρ = (f ρ).bind fun x => match x with | .bl true => .ok (.bl true) | .bl false => g ρ | _ => .st := rfl
@[simp] theorem v_liftE : liftE f ρ = up (f ρ) ρ := rfl
@[simp] theorem v_e1 {F : D → R D} : e1 F fe ρ = (fe ρ).bind fun x ρ1 => up (F x) ρ1 := rfl
@[simp] theorem v_e2 {F : D → D → R D} : e2 F fe ge ρ = (fe ρ).bind fun x ρ1 => (ge ρ1).bind fun y ρ2 => up (F x y) ρ2 := rfl
@[simp] theorem v_bNil : bNil ρ = .ok [] ρ := rfl
@[simp] theorem v_bCons {fa : List Sl → RA} : bCons fe fa ρ = (fe ρ).bindA fun x ρ1 => (fa ρ1).bind fun xs ρ2 => .ok (x :: xs) ρ2 := rfl
@[simp] theorem v_eA {F : List D → R D} {ga : List Sl → RA} : eA F ga ρ = (ga ρ).bindE fun ds ρ1 => up (F ds) ρ1 := rfl
@[simp] theorem v_vNil : vNil ρ = .ok [] ρ := rfl
@[simp] theorem v_liftB : liftB t ρ = upB (t ρ) ρ := rfl
@[simp] theorem v_q1 {F : D → R Bool} : q1 F fe ρ = (fe ρ).bindB fun d ρ1 => upB (F d) ρ1 := rfl
@[simp] theorem v_gVar : gVar i d ρ = (if i < ρ.length then some (ρ.set i (.val d)) else none) := rfl
@[simp] theorem v_gTupD {F : List D → List Sl → Option (List Sl)} {ds : List D} : gTupD F (.tup ds) ρ = F ds ρ := rfl
@[simp] theorem v_gsCons {F : D → List Sl → Option (List Sl)} {G : List D → List Sl → Option (List Sl)} {ds : List D} : gsCons F G (d :: ds) ρ = (F d ρ).bind fun ρ1 => G ds ρ1 := rfl
@[simp] theorem v_sNext : sNext ρ = .ok .nx ρ := rfl
@[simp] theorem v_sRetN : sRetN ρ = .ok (.rt .non) ρ := rfl
@[simp] theorem v_sRet : sRet f ρ = (f ρ).seq ρ fun d => .ok (.rt d) ρ := rfl
@[simp] theorem v_sRetE : sRetE fe ρ = (fe ρ).seq fun d ρ1 => .ok (.rt d) ρ1 := rfl
@[simp] theorem v_sExpr : sExpr f ρ = (f ρ).seq ρ fun _ => .ok .nx ρ := rfl
@[simp] theorem v_sExprE : sExprE fe ρ = (fe ρ).seq fun _ ρ1 => .ok .nx ρ1 := rfl
@[simp] theorem v_sIf {m m' : List Sl → RS} : sIf t m m' ρ = (t ρ).seqB ρ fun b => if b then m ρ else m' ρ := rfl
@[simp] theorem o_add {a b : Int} : addD (.int a) (.int b) = .ok (.int (a + b)) := rfl
@[simp] theorem o_sub {a b : Int} : subD (.int a) (.int b) = .ok (.int (a - b)) := rfl
@[simp] theorem o_lt {a b : Int} : ltD (.int a) (.int b) = .ok (.bl (decide (a < b))) := rfl
@[simp] theorem o_le {a b : Int} : leD (.int a) (.int b) = .ok (.bl (decide (a ≤ b))) := rfl
@[simp] theorem o_gt {a b : Int} : gtD (.int a) (.int b) = .ok (.bl (decide (b < a))) := rfl
@[simp] theorem o_ge {a b : Int} : geD (.int a) (.int b) = .ok (.bl (decide (b ≤ a))) := rfl
@[simp] theorem o_int {a : Int} : DL.intD (.int a) = .ok (.int a) := rfl
@[simp] theorem o_abs {a : Int} : absD (.int a) = .ok (.int (if a < 0 then -a else a)) := rfl
@[simp] theorem o_lenL {xs : List D} : lenD (.lst xs) = .ok (.int xs.length) := rfl
@[simp] theorem o_lenT {xs : List D} : lenD (.tup xs) = .ok (.int xs.length) := rfl
@[simp] theorem o_lenS {xs : List Int} : lenD (.scr xs) = .ok (.int xs.length) := rfl
end
end MA
set_option Elab.async false
set_option linter.all false
set_option maxRecDepth 100000
set_option maxHeartbeats 2000000
namespace MA
open PySem PySem.Spec PyProof.Rows L2 He DL DM
def arr {α : Type} (n : Nat) (g : Nat → α) : List α := (List.range n).map g
end MA
set_option Elab.async false
set_option linter.all false
set_option maxRecDepth 100000
set_option maxHeartbeats 2000000
set_option Elab.async false
set_option linter.all false
set_option maxRecDepth 100000
set_option maxHeartbeats 2000000
namespace MA
open PySem PySem.Spec PyProof.Rows L2 He DL DM
/-- plain data of a depth -/
structure Sd (k : Nat) (d : D) : Prop where
  p : d.pure = true
  c : d.py.canLay0 = true
  d : d.py.depth ≤ k
theorem Sd.mono {j k : Nat} {d : D} (h : Sd j d) (hk : j ≤ k) : Sd k d := ⟨h.p, h.c, Nat.le_trans h.d hk⟩
theorem Sd.sh {k : Nat} {d : D} (h : Sd k d) (hk : k ≤ 64) : d.sh = true := by
  unfold D.sh SeqAt.shaped
  rw [h.p, h.c, decide_eq_true (Nat.le_trans h.d hk)]
  rfl
theorem sd_str {s : Str} (h : PyData.canLay0 (.str s) = true) : Sd 0 (.str s) := ⟨rfl, h, Nat.le_refl _⟩
theorem sd_all {k : Nat} : ∀ {xs : List D}, (∀ x ∈ xs, Sd k x) → pureA xs = true ∧ PyData.canLayAll0 (pyA xs) = true ∧ PyData.depthAll (pyA xs) ≤ k
  | [], _ => ⟨rfl, rfl, Nat.zero_le _⟩
  | x :: xs, h => by
    obtain ⟨a, b, c⟩ := sd_all fun y hy => h y (List.mem_cons_of_mem _ hy)
    have hx := h x List.mem_cons_self
    refine ⟨by simp [pureA, hx.p, a], by simp [pyA, PyData.canLayAll0, hx.c, b], ?_⟩
    simp only [pyA, PyData.depthAll]
    exact Nat.max_le.mpr ⟨hx.d, c⟩
theorem sd_tup {k : Nat} {xs : List D} (h : ∀ x ∈ xs, Sd k x) : Sd (k + 1) (.tup xs) := by
  obtain ⟨a, b, c⟩ := sd_all h
  exact ⟨by simpa [D.pure] using a, by simpa [D.py, PyData.canLay0] using b, by simpa [D.py, PyData.depth] using c⟩
/-- a pair of texts -/
def pr (p : Str × Str) : D := .tup [.str p.1, .str p.2]
theorem eqv_str (x y : Str) : PyData.eqv (D.str x).py (D.str y).py = (x == y) := rfl
theorem o_inT {j k : Nat} {x : D} {ds : List D} (hx : Sd j x) (hy : Sd k (.tup ds)) (hj : j ≤ 64) (hk : k ≤ 64) : inD x (.tup ds) = .ok (.bl (ds.any fun z => PyData.eqv z.py x.py)) := by
  show (if x.sh && (D.tup ds).sh then R.ok (D.bl (false ^^ ds.any fun z => PyData.eqv z.py x.py)) else _) = _
  rw [hx.sh hj, hy.sh hk, Bool.false_xor]
  rfl
end MA
set_option Elab.async false
set_option linter.all false
namespace Gr
abbrev Es := List (Nat × Nat)
def Adj (L : Es) (u v : Nat) : Prop := (u, v) ∈ L ∨ (v, u) ∈ L
theorem Adj.symm {L : Es} {u v : Nat} (h : Adj L u v) : Adj L v u := Or.symm h
inductive Wk (L : Es) (u : Nat) : Nat → Nat → Prop
  | nil : Wk L u 0 u
  | snoc {k v w : Nat} : Wk L u k v → Adj L v w → Wk L u (k + 1) w
theorem Wk.trans {L : Es} {u v w : Nat} {j k : Nat} (a : Wk L u j v) (b : Wk L v k w) : Wk L u (j + k) w := by
  induction b with
  | nil => exact a
  | snoc _ e ih => exact .snoc ih e
theorem Wk.one {L : Es} {u v : Nat} (e : Adj L u v) : Wk L u 1 v := .snoc .nil e
theorem Wk.cast {L : Es} {u v : Nat} {j k : Nat} (a : Wk L u j v) (e : j = k) : Wk L u k v := e ▸ a
theorem Wk.symm {L : Es} {u v : Nat} {k : Nat} (a : Wk L u k v) : Wk L v k u := by
  induction a with
  | nil => exact .nil
  | snoc _ e ih => exact ((Wk.one e.symm).trans ih).cast (by omega)
theorem Wk.zero {L : Es} {u v : Nat} (a : Wk L u 0 v) : u = v := by cases a; rfl
theorem Wk.mono {L L' : Es} (h : ∀ u v, Adj L u v → Adj L' u v) {u v k : Nat} (a : Wk L u k v) : Wk L' u k v := by
  induction a with
  | nil => exact .nil
  | snoc _ e ih => exact .snoc ih (h _ _ e)
structure Dist (L : Es) (u v k : Nat) : Prop where
  w : Wk L u k v
  l : ∀ j, Wk L u j v → k ≤ j
theorem Dist.uniq {L : Es} {u v j k : Nat} (a : Dist L u v j) (b : Dist L u v k) : j = k := Nat.le_antisymm (a.l _ b.w) (b.l _ a.w)
theorem Dist.symm {L : Es} {u v k : Nat} (a : Dist L u v k) : Dist L v u k := ⟨a.w.symm, fun j w => a.l j w.symm⟩
theorem Dist.zero {L : Es} {u v : Nat} (a : Dist L u v 0) : u = v := a.w.zero
theorem Dist.adj {L : Es} {u v : Nat} (a : Dist L u v 1) : Adj L u v := by
  cases a.w with
  | snoc w e => cases w; exact e
theorem Dist.pred {L : Es} {u v k : Nat} (a : Dist L u v (k + 1)) : ∃ w, Dist L u w k ∧ Adj L w v := by
  cases a.w with
  | @snoc _ w _ b e => exact ⟨w, ⟨b, fun j c => by have := a.l _ (c.snoc e); omega⟩, e⟩
def Within (L : Es) (n : Nat) : Prop := ∀ p ∈ L, p.1 < n ∧ p.2 < n
theorem Within.adj {L : Es} {n u v : Nat} (h : Within L n) (e : Adj L u v) : u < n ∧ v < n := by
  rcases e with e | e
  · exact h _ e
  · exact ⟨(h _ e).2, (h _ e).1⟩
theorem Wk.lt {L : Es} {n u v k : Nat} (h : Within L n) (hu : u < n) (a : Wk L u k v) : v < n := by
  cases a with
  | nil => exact hu
  | snoc _ e => exact (h.adj e).2
theorem nodup_le {α : Type} [DecidableEq α] : ∀ (l m : List α), l.Nodup → (∀ x ∈ l, x ∈ m) → l.length ≤ m.length
  | [], m, _, _ => Nat.zero_le _
  | a :: l, m, nd, h => by
    have ha : a ∈ m := h a List.mem_cons_self
    have := nodup_le l (m.erase a) (List.nodup_cons.mp nd).2 fun x hx => by
      have hne : x ≠ a := fun z => (List.nodup_cons.mp nd).1 (z ▸ hx)
      exact (List.mem_erase_of_ne hne).mpr (h x (List.mem_cons_of_mem _ hx))
    rw [List.length_erase_of_mem ha] at this
    have h2 : 0 < m.length := List.length_pos_of_mem ha
    rw [List.length_cons]
    omega
/-- a row of places of each lesser distance -/
theorem Dist.row {L : Es} {n u : Nat} (h : Within L n) (hu : u < n) : ∀ {k v : Nat}, Dist L u v k → ∃ l : List Nat, l.length = k + 1 ∧ l.Nodup ∧ (∀ x ∈ l, x < n) ∧ ∀ x ∈ l, ∃ j, j ≤ k ∧ Dist L u x j := by
  intro k
  induction k with
  | zero =>
    intro v a
    refine ⟨[v], rfl, by simp, fun x hx => ?_, fun x hx => ⟨0, Nat.le_refl _, ?_⟩⟩
    · simp at hx; subst hx; exact a.w.lt h hu
    · simp at hx; subst hx; exact a
  | succ k ih =>
    intro v a
    obtain ⟨w, b, e⟩ := a.pred
    obtain ⟨l, h1, h2, h3, h4⟩ := ih b
    refine ⟨v :: l, by simp [h1], List.nodup_cons.mpr ⟨fun hv => ?_, h2⟩, fun x hx => ?_, fun x hx => ?_⟩
    · obtain ⟨j, hj, c⟩ := h4 v hv
      have := a.uniq c
      omega
    · rcases List.mem_cons.mp hx with rfl | hx
      · exact a.w.lt h hu
      · exact h3 x hx
    · rcases List.mem_cons.mp hx with rfl | hx
      · exact ⟨k + 1, Nat.le_refl _, a⟩
      · obtain ⟨j, hj, c⟩ := h4 x hx
        exact ⟨j, by omega, c⟩
theorem Dist.lt {L : Es} {n u v k : Nat} (h : Within L n) (hu : u < n) (a : Dist L u v k) : k < n := by
  obtain ⟨l, h1, h2, h3, _⟩ := a.row h hu
  have := nodup_le l (List.range n) h2 fun x hx => List.mem_range.mpr (h3 x hx)
  rw [List.length_range] at this
  omega
def Hang (L : Es) (n : Nat) : Prop := ∀ v, v < n → ∃ k, Wk L 0 k v
end Gr
set_option Elab.async false
set_option linter.all false
namespace Gr
/-- what is known behind round k -/
structure Lev (L : Es) (u k : Nat) (g : Nat → Option Nat) (row : List Nat) : Prop where
  g : ∀ v d, g v = some d ↔ Dist L u v d ∧ d ≤ k
  r : ∀ v, v ∈ row ↔ Dist L u v k
  nd : row.Nodup
theorem Lev.lt {L : Es} {n u k : Nat} {g : Nat → Option Nat} {row : List Nat} (h : Lev L u k g row) (hw : Within L n) (hu : u < n) (hr : row ≠ []) : k < n := by
  cases row with
  | nil => exact absurd rfl hr
  | cons v row => exact ((h.r v).mp List.mem_cons_self).lt hw hu
theorem Lev.len {L : Es} {n u k : Nat} {g : Nat → Option Nat} {row : List Nat} (h : Lev L u k g row) (hw : Within L n) (hu : u < n) : row.length ≤ n := by
  have := nodup_le row (List.range n) h.nd fun x hx => List.mem_range.mpr (((h.r x).mp hx).w.lt hw hu)
  rwa [List.length_range] at this
inductive WkB (L : Es) (m u : Nat) : Nat → Nat → Prop
  | nil : WkB L m u 0 u
  | one {v : Nat} : Adj L u v → WkB L m u 1 v
  | snoc {k v w : Nat} : WkB L m u k v → v < m → Adj L v w → WkB L m u (k + 1) w
theorem Wk.b {L : Es} {n u k v : Nat} (h : Within L n) (a : Wk L u k v) : WkB L n u k v := by
  induction a with
  | nil => exact .nil
  | @snoc k v w a e ih => exact .snoc ih (h.adj e).1 e
end Gr
set_option Elab.async false
set_option linter.all false
set_option maxRecDepth 100000
set_option maxHeartbeats 2000000
namespace MA
open PySem PySem.Spec PyProof.Rows L2 He DL DM Gr
section
variable {α β : Type} {n i j : Nat} {g h : Nat → α}
theorem arr_map (f : α → β) : (arr n g).map f = arr n fun i => f (g i) := by simp [arr]
theorem arr_mem {x : α} : x ∈ arr n g ↔ ∃ i, i < n ∧ g i = x := by simp [arr]
end
end MA
set_option Elab.async false
set_option linter.all false
set_option maxRecDepth 100000
set_option maxHeartbeats 8000000
set_option Elab.async false
set_option linter.all false
namespace Gr
structure Bd (n : Nat) (L : Es) : Prop where
  w : Within L n
  irr : ∀ p ∈ L, p.1 ≠ p.2
  pw : L.Pairwise fun p q => p ≠ q ∧ p ≠ (q.2, q.1)
theorem Bd.nil (n : Nat) : Bd n [] := ⟨fun p h => by simp at h, fun p h => by simp at h, .nil⟩
theorem Bd.mono {n m : Nat} {L : Es} (h : Bd n L) (hm : n ≤ m) : Bd m L := ⟨fun p hp => by have := h.w p hp; omega, h.irr, h.pw⟩
def SameAdj (L M : Es) : Prop := ∀ u v, Adj L u v ↔ Adj M u v
theorem SameAdj.refl (L : Es) : SameAdj L L := fun _ _ => Iff.rfl
theorem SameAdj.trans {L M N : Es} (h : SameAdj L M) (k : SameAdj M N) : SameAdj L N := fun u v => (h u v).trans (k u v)
theorem Hang.same {L M : Es} {n : Nat} (h : Hang L n) (e : SameAdj L M) : Hang M n := fun v hv => by
  obtain ⟨k, w⟩ := h v hv
  exact ⟨k, w.mono fun u v a => (e u v).mp a⟩
theorem Adj.more {L M : Es} {u v : Nat} (h : Adj L u v) : Adj (L ++ M) u v := h.elim (fun h => .inl (List.mem_append_left _ h)) fun h => .inr (List.mem_append_left _ h)
theorem Hang.more {L M : Es} {n : Nat} (h : Hang L n) : Hang (L ++ M) n := fun v hv => by
  obtain ⟨k, w⟩ := h v hv
  exact ⟨k, w.mono fun u v a => a.more⟩
end Gr
set_option Elab.async false
set_option linter.all false
set_option maxRecDepth 100000
set_option maxHeartbeats 2000000
namespace MA
open PySem PySem.Spec PyProof.Rows L2 He DL DM Gr
structure Nms (n : Nat) (nm : Nat → Str) : Prop where
  inj : ∀ i j, i < n → j < n → nm i = nm j → i = j
  fine : ∀ i, i < n → PyData.canLay0 (.str (nm i)) = true
  name : ∀ i, i < n → callV F_is_name [.str (nm i)] = .ok (.bl true)
  lo : 1 ≤ n
  hi : n ≤ 14
  sz : ∀ i, i < n → (nm i).cps.size ≤ 8
def twA (n : Nat) (nm : Nat → Str) : List D := arr n fun i => .str (nm i)
def twD (n : Nat) (nm : Nat → Str) : D := .tup (twA n nm)
section
variable {n : Nat} {nm : Nat → Str} {L M : Es} (N : Nms n nm)
include N
theorem Nms.sd {i : Nat} (h : i < n) : Sd 0 (.str (nm i)) := sd_str (N.fine i h)
theorem Nms.sdA {k : Nat} (h : k ≤ n) : Sd 1 (.tup (twA k nm)) := sd_tup fun x hx => by
  obtain ⟨i, hi, rfl⟩ := arr_mem.mp hx
  exact N.sd (by omega)
theorem Nms.any {k i : Nat} (hk : k ≤ n) (hi : i < n) : ((twA k nm).any fun z => PyData.eqv z.py (D.str (nm i)).py) = decide (i < k) := by
  rw [Bool.eq_iff_iff, List.any_eq_true, decide_eq_true_eq]
  constructor
  · rintro ⟨z, hz, e⟩
    obtain ⟨j, hj, rfl⟩ := arr_mem.mp hz
    rw [eqv_str, beq_iff_eq] at e
    have := N.inj j i (by omega) hi e
    omega
  · intro h
    exact ⟨.str (nm i), arr_mem.mpr ⟨i, h, rfl⟩, by rw [eqv_str]; exact beq_self_eq_true _⟩
theorem Nms.in_ {k i : Nat} (hk : k ≤ n) (hi : i < n) : inD (.str (nm i)) (.tup (twA k nm)) = .ok (.bl (decide (i < k))) := by
  rw [o_inT (N.sd hi) (N.sdA hk) (by omega) (by omega), N.any hk hi]
theorem Nms.kind : ixKind (twD n nm) = true := by
  have h1 : strsO (twA n nm) = some (arr n nm) := by
    have := DL.strs_map (arr n nm)
    rwa [arr_map] at this
  unfold ixKind twD
  dsimp only
  rw [h1]; rfl
end
end MA
set_option Elab.async false
set_option linter.all false
set_option maxRecDepth 100000
set_option maxHeartbeats 2000000
namespace MA
open PySem PySem.Spec PyProof.Rows L2 He DL DM Gr
theorem lt_size {k : Nat} (h : k < 1000000) : k < sizeLine := by rw [sizeLine_eq]; omega
end MA
set_option Elab.async false
set_option linter.all false
set_option maxRecDepth 100000
set_option maxHeartbeats 2000000
set_option Elab.async false
set_option linter.all false
set_option maxRecDepth 100000
set_option maxHeartbeats 2000000
set_option Elab.async false
set_option linter.all false
set_option maxRecDepth 100000
set_option maxHeartbeats 4000000
set_option Elab.async false
set_option linter.all false
set_option maxRecDepth 100000
set_option maxHeartbeats 4000000
set_option Elab.async false
set_option linter.all false
set_option maxRecDepth 100000
set_option maxHeartbeats 4000000
namespace MA
open PySem PySem.Spec PyProof.Rows L2 He DL DM Gr
/-- plain data of a depth and a weight -/
structure Sw (k w : Nat) (x : D) : Prop extends Sd k x where
  w : x.py.weight ≤ w
  i : x.py.intsShort 13 = true
  s : x.py.showable = true
theorem Sw.mono {k k' w w' : Nat} {d : D} (h : Sw k w d) (hk : k ≤ k') (hw : w ≤ w') : Sw k' w' d := ⟨h.toSd.mono hk, Nat.le_trans h.w hw, h.i, h.s⟩
end MA
set_option Elab.async false
set_option linter.all false
set_option maxRecDepth 100000
set_option maxHeartbeats 8000000
set_option Elab.async false
set_option linter.all false
set_option maxRecDepth 100000
set_option maxHeartbeats 8000000
set_option Elab.async false
set_option linter.all false
set_option maxRecDepth 100000
set_option maxHeartbeats 2000000
namespace DM
open PySem PySem.Spec PyProof.Rows L2 He DL
end DM
set_option Elab.async false
set_option linter.all false
set_option maxRecDepth 100000
set_option maxHeartbeats 2000000
set_option Elab.async false
set_option linter.all false
set_option maxRecDepth 100000
set_option maxHeartbeats 8000000
set_option Elab.async false
set_option linter.all false
set_option maxRecDepth 100000
set_option maxHeartbeats 2000000
namespace DM
open PySem PySem.Spec PyProof.Rows L2 He DL
end DM
set_option Elab.async false
set_option linter.all false
set_option maxRecDepth 100000
set_option maxHeartbeats 2000000
namespace DM
open PySem PySem.Spec PyProof.Rows L2 He DL
end DM
set_option Elab.async false
set_option linter.all false
set_option maxRecDepth 100000
set_option maxHeartbeats 2000000
namespace DM
open PySem PySem.Spec PyProof.Rows L2 He DL
end DM
set_option Elab.async false
set_option linter.all false
set_option maxRecDepth 100000
set_option maxHeartbeats 2000000
namespace DL
open PySem PySem.Spec PyProof.Rows L2
end DL
set_option Elab.async false
set_option linter.all false
set_option maxRecDepth 100000
set_option maxHeartbeats 2000000
namespace DL
open PySem PySem.Spec PyProof.Rows L2
end DL
set_option Elab.async false
set_option linter.all false
set_option maxRecDepth 100000
set_option maxHeartbeats 2000000
namespace DL
open PySem PySem.Spec PyProof.Rows L2
end DL
set_option Elab.async false
set_option linter.all false
set_option maxRecDepth 100000
set_option maxHeartbeats 2000000
namespace DM
open PySem PySem.Spec PyProof.Rows L2 He DL
end DM
set_option Elab.async false
set_option linter.all false
set_option maxRecDepth 100000
set_option maxHeartbeats 2000000
namespace DL
open PySem PySem.Spec PyProof.Rows L2
end DL
set_option Elab.async false
set_option linter.all false
set_option maxRecDepth 100000
set_option maxHeartbeats 2000000
namespace DL
open PySem PySem.Spec PyProof.Rows L2
end DL
set_option Elab.async false
set_option linter.all false
set_option maxRecDepth 100000
set_option maxHeartbeats 2000000
namespace DL
open PySem PySem.Spec PyProof.Rows L2
end DL
set_option Elab.async false
set_option linter.all false
set_option maxRecDepth 100000
set_option maxHeartbeats 2000000
namespace DL
open PySem PySem.Spec PyProof.Rows L2
structure CauG (P : Program) (w : World) (K : Fg) (mg : Str → Option Value) (base : Heap) (k : Nat) (x y : Str) (nl : Nat) (m : D → List Sl → RS) : Prop where
  ex : ∃ f fd, mg x = some (.ref f) ∧ PySem.W.keepIn K (.ref f) = true ∧ Binds K fd [y] [] ∧
    ∀ (A : Around) (outer : List Env) (s : Shared) (H : Hp) (Q : VK) (E : XK) (a C : Addr) (oe : Obj) (d : Option Addr) (fs : List (Str × D)), A.guards = some [] → A.handled = some (.ref a) → L2H.RoomH k A → L2H.PinOk outer H s (a, oe) → Env0 P w K mg base A outer s H → BindsTo s fd ⟨[.ref a], []⟩ [(y, .ref a)] →
      L2N.Zn (.ref C) d oe → (∃ vs, oe.data = .fields vs) → spD K 1 (runF nl (m (.exn a d C fs))) [.ref a] H Q E → codeAny (model P w) A (.call (.ref f) ⟨[.ref a], []⟩) (CR (L2N.CX P w) outer P w H s Q E) s
theorem CauG.mono {P : Program} {w : World} {K : Fg} {mg : Str → Option Value} {base : Heap} {j k : Nat} {x y : Str} {nl : Nat} {m : D → List Sl → RS} (J : CauG P w K mg base j x y nl m) (hk : j ≤ k) : CauG P w K mg base k x y nl m := by
  obtain ⟨f, fd, h1, h2, h3, h4⟩ := J.ex
  exact ⟨f, fd, h1, h2, h3, fun A outer s H Q E a C oe d fs hgd hh hr => h4 A outer s H Q E a C oe d fs hgd hh (hr.mono hk)⟩
end DL
set_option Elab.async false
set_option linter.all false
set_option maxRecDepth 100000
set_option maxHeartbeats 2000000
namespace DM
open PySem PySem.Spec PyProof.Rows L2 He DL
end DM
set_option Elab.async false
set_option linter.all false
set_option maxRecDepth 100000
set_option maxHeartbeats 2000000
namespace DL
open PySem PySem.Spec PyProof.Rows L2
end DL
set_option Elab.async false
set_option linter.all false
set_option maxRecDepth 100000
set_option maxHeartbeats 2000000
namespace DM
open PySem PySem.Spec PyProof.Rows L2 He DL
end DM
set_option Elab.async false
set_option linter.all false
set_option maxRecDepth 100000
set_option maxHeartbeats 2000000
namespace DL
open PySem PySem.Spec PyProof.Rows L2
end DL
set_option Elab.async false
set_option linter.all false
set_option maxRecDepth 100000
set_option maxHeartbeats 2000000
namespace DL
open PySem PySem.Spec PyProof.Rows L2
end DL
set_option Elab.async false
set_option linter.all false
set_option maxRecDepth 100000
set_option maxHeartbeats 2000000
namespace DM
open PySem PySem.Spec PyProof.Rows L2 He DL
end DM
set_option Elab.async false
set_option linter.all false
set_option maxRecDepth 100000
set_option maxHeartbeats 2000000
namespace DM
open PySem PySem.Spec PyProof.Rows L2 He DL
end DM
set_option Elab.async false
set_option linter.all false
set_option maxRecDepth 100000
set_option maxHeartbeats 2000000
namespace DL
open PySem PySem.Spec PyProof.Rows L2 He
end DL
set_option Elab.async false
set_option linter.all false
set_option maxRecDepth 100000
set_option maxHeartbeats 2000000
namespace DL
open PySem PySem.Spec PyProof.Rows L2
/-- a method with a special name, its function known -/
structure DunX (P : Program) (w : World) (K : Fg) (mg : Str → Option Value) (base : Heap) (k : Nat) (C : Addr) (f : Str) (n : Nat) (F : List Sl → RS) : Prop where
  ex : ∃ m fd ps, PySem.W.findIn K (.ref C) f = some (some (.ref m)) ∧ PySem.W.isFn K (.ref m) = true ∧ PySem.W.fnIn K m = true ∧ FnOk P w K mg base (L2N.CX P w) k m fd ps (spD K n F) ∧ Binds K fd ps []
theorem DunX.mono {P : Program} {w : World} {K : Fg} {mg : Str → Option Value} {base : Heap} {j k n : Nat} {C : Addr} {f : Str} {F : List Sl → RS} (h : DunX P w K mg base j C f n F) (hk : j ≤ k) : DunX P w K mg base k C f n F :=
  let ⟨m, fd, ps, a, b, b2, c, d⟩ := h.ex; ⟨m, fd, ps, a, b, b2, c.mono hk, d⟩
end DL
set_option Elab.async false
set_option linter.all false
set_option maxRecDepth 100000
set_option maxHeartbeats 2000000
namespace DL
open PySem PySem.Spec PyProof.Rows L2
end DL
set_option Elab.async false
set_option linter.all false
set_option maxRecDepth 100000
set_option maxHeartbeats 2000000
namespace DL
open PySem PySem.Spec PyProof.Rows L2
end DL
set_option Elab.async false
set_option linter.all false
set_option maxRecDepth 100000
set_option maxHeartbeats 2000000
namespace DL
open PySem PySem.Spec PyProof.Rows L2
end DL
set_option Elab.async false
set_option linter.all false
set_option maxRecDepth 100000
set_option maxHeartbeats 2000000
namespace DL
open PySem PySem.Spec PySem.SeqAt PySem.MeetsSeq PySem.Builtin PyProof.Rows L2
end DL
set_option Elab.async false
set_option linter.all false
set_option maxRecDepth 100000
set_option maxHeartbeats 2000000
namespace DM
open PySem PySem.Spec PyProof.Rows L2 He DL
end DM
set_option Elab.async false
set_option linter.all false
set_option maxRecDepth 100000
set_option maxHeartbeats 2000000
namespace DL
open PySem PySem.Spec PyProof.Rows L2
end DL
set_option Elab.async false
set_option linter.all false
set_option maxRecDepth 100000
set_option maxHeartbeats 2000000
namespace DL
open PySem PySem.Spec PyProof.Rows L2
end DL
set_option Elab.async false
set_option linter.all false
set_option maxRecDepth 100000
set_option maxHeartbeats 2000000
namespace DM
open PySem PySem.Spec PyProof.Rows L2 He DL
end DM
set_option Elab.async false
set_option linter.all false
set_option maxRecDepth 100000
set_option maxHeartbeats 2000000
namespace DL
open PySem PySem.Spec PyProof.Rows L2
end DL
set_option Elab.async false
set_option linter.all false
set_option maxRecDepth 100000
set_option maxHeartbeats 2000000
namespace DM
open PySem PySem.Spec PyProof.Rows L2 He DL
end DM
set_option Elab.async false
set_option linter.all false
set_option maxRecDepth 100000
set_option maxHeartbeats 2000000
namespace DM
open PySem PySem.Spec PyProof.Rows L2 He DL
end DM
set_option Elab.async false
set_option linter.all false
set_option maxRecDepth 100000
set_option maxHeartbeats 2000000
namespace DL
open PySem PySem.Spec PyProof.Rows L2
end DL
set_option Elab.async false
set_option linter.all false
set_option maxRecDepth 100000
set_option maxHeartbeats 2000000
namespace DM
open PySem PySem.Spec PyProof.Rows L2 He DL
end DM
set_option Elab.async false
set_option linter.all false
set_option maxRecDepth 100000
set_option maxHeartbeats 2000000
namespace DL
open PySem PySem.Spec PyProof.Rows L2
end DL
set_option Elab.async false
set_option linter.all false
set_option maxRecDepth 100000
set_option maxHeartbeats 2000000
namespace DL
open PySem PySem.Spec PyProof.Rows L2
theorem LLs.snoc {K : Fg} {G H : Hp} {as : List Addr} {dss : List (List D)} (h : LLs K G H as dss) {p : Addr} {vs : List V} {ds : List D} (hp : H p = some (.lst vs)) (r : RpA K G vs ds) : LLs K G H (as ++ [p]) (dss ++ [ds]) := by
  induction h with
  | nil => exact .cons hp r .nil
  | cons h0 r0 _ ih => exact .cons h0 r0 ih
end DL
set_option Elab.async false
set_option linter.all false
set_option maxRecDepth 100000
set_option maxHeartbeats 2000000
namespace DM
open PySem PySem.Spec PyProof.Rows L2 He DL
end DM
set_option Elab.async false
set_option linter.all false
set_option maxRecDepth 100000
set_option maxHeartbeats 2000000
namespace DL
open PySem PySem.Spec PyProof.Rows L2
end DL
set_option Elab.async false
set_option linter.all false
set_option maxRecDepth 100000
set_option maxHeartbeats 4000000
namespace DL
open PySem PySem.Spec PyProof.Rows L2
end DL
set_option Elab.async false
set_option linter.all false
set_option maxRecDepth 100000
set_option maxHeartbeats 2000000
namespace DM
open PySem PySem.Spec PyProof.Rows L2 He DL
end DM
set_option Elab.async false
set_option linter.all false
set_option maxRecDepth 100000
set_option maxHeartbeats 2000000
namespace DM
open PySem PySem.Spec PyProof.Rows L2 He DL
end DM
set_option Elab.async false
set_option linter.all false
set_option maxRecDepth 100000
set_option maxHeartbeats 2000000
namespace DM
open PySem PySem.Spec PyProof.Rows L2 He DL
end DM
set_option Elab.async false
set_option linter.all false
set_option maxRecDepth 100000
set_option maxHeartbeats 2000000
namespace DL
open PySem PySem.Spec PyProof.Rows L2 He
end DL
set_option Elab.async false
set_option linter.all false
set_option maxRecDepth 100000
set_option maxHeartbeats 2000000
namespace DL
open PySem PySem.Spec PyProof.Rows L2 He
end DL
set_option Elab.async false
set_option linter.all false
set_option maxRecDepth 100000
set_option maxHeartbeats 2000000
namespace DL
open PySem PySem.Spec PyProof.Rows L2 He
end DL
set_option Elab.async false
set_option linter.all false
set_option maxRecDepth 100000
set_option maxHeartbeats 2000000
namespace DL
open PySem PySem.Spec PyProof.Rows L2 He
end DL
set_option Elab.async false
set_option linter.all false
set_option maxRecDepth 100000
set_option maxHeartbeats 2000000
namespace DL
open PySem PySem.Spec PyProof.Rows L2
end DL
set_option Elab.async false
set_option linter.all false
set_option maxRecDepth 100000
set_option maxHeartbeats 2000000
namespace DM
open PySem PySem.Spec PyProof.Rows L2 He DL
end DM
set_option Elab.async false
set_option linter.all false
set_option maxRecDepth 100000
set_option maxHeartbeats 2000000
namespace DL
open PySem PySem.Spec PyProof.Rows L2 He
end DL
namespace DL
open PySem PySem.Spec PyProof.Rows L2 He
end DL
set_option Elab.async false
set_option linter.all false
set_option maxRecDepth 100000
set_option maxHeartbeats 2000000
namespace DM
open PySem PySem.Spec PyProof.Rows L2 He DL
end DM
set_option Elab.async false
set_option linter.all false
set_option maxRecDepth 100000
set_option maxHeartbeats 2000000
namespace DL
open PySem PySem.Spec PyProof.Rows L2
end DL
set_option Elab.async false
set_option linter.all false
set_option maxRecDepth 100000
set_option maxHeartbeats 2000000
namespace DM
open PySem PySem.Spec PyProof.Rows L2 He DL
end DM
set_option Elab.async false
set_option linter.all false
set_option maxRecDepth 100000
set_option maxHeartbeats 2000000
namespace DL
open PySem PySem.Spec PyProof.Rows L2
end DL
set_option Elab.async false
set_option linter.all false
set_option maxRecDepth 100000
set_option maxHeartbeats 2000000
namespace DL
open PySem PySem.Spec PyProof.Rows L2 He
end DL
set_option Elab.async false
set_option linter.all false
set_option maxRecDepth 100000
set_option maxHeartbeats 2000000
namespace DM
open PySem PySem.Spec PyProof.Rows L2 He DL
end DM
set_option Elab.async false
set_option linter.all false
set_option maxRecDepth 100000
set_option maxHeartbeats 2000000
namespace DM
open PySem PySem.Spec PyProof.Rows L2 He DL
end DM
set_option Elab.async false
set_option linter.all false
set_option maxRecDepth 100000
set_option maxHeartbeats 2000000
namespace DM
open PySem PySem.Spec PyProof.Rows L2 He DL
end DM
set_option Elab.async false
set_option linter.all false
set_option maxRecDepth 100000
set_option maxHeartbeats 2000000
namespace DL
open PySem PySem.Spec PySem.SeqAt PySem.MeetsSeq PySem.Builtin PyProof.Rows L2
/-- what is shown of some data at a value -/
def Shw (prog : Program) (w : World) (h : Heap) (u : Value) (d : PyData) : Prop :=
  ∃ as bs, Reads h u d as ∧ ReadAtMost h d.depth bs ∧ ReprK prog w bs h d.depth u d.shown
def ShwA (prog : Program) (w : World) (h : Heap) (us : List Value) (ds : List PyData) : Prop :=
  ∃ as bs, ReadsAll h us ds as ∧ ReadAtMost h (PyData.depthAll ds) bs ∧ ReprAllK prog w bs h (PyData.depthAll ds) us (PyData.shownAll ds)
section
variable {prog : Program} {w : World} {h : Heap}
theorem ShwA.nil : ShwA prog w h [] [] := ⟨[], [], .nil, (fun _ h => nomatch h), by simp only [PyData.shownAll]; exact .nil⟩
theorem ShwA.cons {u : Value} {us : List Value} {d : PyData} {ds : List PyData} (r : Shw prog w h u d) (t : ShwA prog w h us ds) : ShwA prog w h (u :: us) (d :: ds) := by
  obtain ⟨a1, b1, r1, hb1, k1⟩ := r
  obtain ⟨a2, b2, r2, hb2, k2⟩ := t
  refine ⟨a1 ++ a2, b1 ++ b2, .cons r1 r2, ?_, ?_⟩
  · intro b hm
    simp only [PyData.depthAll]
    rcases List.mem_append.mp hm with hm | hm
    · obtain ⟨d', as', r', hd'⟩ := hb1 b hm
      exact ⟨d', as', r', Nat.le_trans hd' (Nat.le_max_left _ _)⟩
    · obtain ⟨d', as', r', hd'⟩ := hb2 b hm
      exact ⟨d', as', r', Nat.le_trans hd' (Nat.le_max_right _ _)⟩
  · simp only [PyData.depthAll, PyData.shownAll]
    exact .cons ((k1.more fun b hb => List.mem_append_left _ hb).level_le (Nat.le_max_left _ _)) (k2.more_le (fun b hb => List.mem_append_right _ hb) (Nat.le_max_right _ _))
theorem Shw.none : Shw prog w h .none .none := ⟨[], [], .none, (fun _ h => nomatch h), by simp only [PyData.shown]; exact .of_is ReprIs.none _ _ _⟩
theorem Shw.bool (b : Bool) : Shw prog w h (.bool b) (.bool b) := ⟨[], [], .bool b, (fun _ h => nomatch h), by simp only [PyData.shown]; exact .of_is (ReprIs.bool b) _ _ _⟩
theorem Shw.int {i : Int} {t : Tok} (hs : (PyData.int i).showable = true) : Shw prog w h (.int i t) (.int i) := ⟨[], [], .int i t, (fun _ h => nomatch h), by simp only [PyData.shown]; exact .of_is (ReprIs.int t (by simpa [PyData.showable] using hs)) _ _ _⟩
theorem Shw.str {x : Str} {t : Tok} (hz : (PyData.str x).shown.length ≤ sizeLine) : Shw prog w h (.str x t) (.str x) := ⟨[], [], .str x t, (fun _ h => nomatch h), by simp only [PyData.shown]; exact .of_is (ReprIs.str x t (by simpa only [PyData.shown] using hz)) _ _ _⟩
theorem Shw.list {a : Addr} {o : Obj} {vs : Array Value} {n : Nat} {xs : List PyData} (h1 : h.get? a = some o) (h2 : o.cls = .type "list") (h3 : o.data = .seq vs n) (t : ShwA prog w h vs.toList xs) : Shw prog w h (.ref a) (.list xs) := by
  obtain ⟨as, bs, h4, hb, hk⟩ := t
  have r : Reads h (.ref a) (.list xs) _ := .list h1 h2 h3 h4
  have hna : a ∉ bs := not_mem_of_deeper r (by simp only [PyData.depth]; omega) hb
  refine ⟨_, a :: bs, r, ReadAtMost.cons r (by simp only [PyData.depth]; omega) hb, ?_⟩
  simp only [PyData.depth, PyData.shown]
  obtain ⟨l⟩ := vs
  cases l with
  | nil =>
    have h4' : ReadsAll h [] xs _ := h4
    cases h4'
    simp only [PyData.shownAll, listText_nil]
    exact ReprK.listEmpty h1 h2 h3
  | cons x l => exact ReprK.list h1 h2 h3 hna (by simpa using hk.length_eq) (fun i y e => hk.item i y (by simpa using e))
theorem Shw.tuple {a : Addr} {o : Obj} {vs : Array Value} {n : Nat} {xs : List PyData} (h1 : h.get? a = some o) (h2 : o.cls = .type "tuple") (h3 : o.data = .seq vs n) (t : ShwA prog w h vs.toList xs) : Shw prog w h (.ref a) (.tuple xs) := by
  obtain ⟨as, bs, h4, hb, hk⟩ := t
  have r : Reads h (.ref a) (.tuple xs) _ := .tuple h1 h2 h3 h4
  have hna : a ∉ bs := not_mem_of_deeper r (by simp only [PyData.depth]; omega) hb
  refine ⟨_, a :: bs, r, ReadAtMost.cons r (by simp only [PyData.depth]; omega) hb, ?_⟩
  simp only [PyData.depth, PyData.shown]
  exact ReprK.tuple h1 h2 h3 hna hk
theorem Shw.dict {a : Addr} {o : Obj} {es : Array DictEntry} {n : Nat} {kvs : List (PyData × PyData)} (h1 : h.get? a = some o) (h2 : o.cls = .type "dict") (h3 : o.data = .dict es n) (hsys : (a == sysModules) = false)
    (t1 : ShwA prog w h (es.toList.map (·.key)) (kvs.map (·.1))) (t2 : ShwA prog w h (es.toList.map (·.val)) (kvs.map (·.2))) : Shw prog w h (.ref a) (.dict kvs) := by
  obtain ⟨a1, b1, h4, hb1, k1⟩ := t1
  obtain ⟨a2, b2, h5, hb2, k2⟩ := t2
  have r : Reads h (.ref a) (.dict kvs) _ := .dict h1 h2 h3 h4 h5
  have hb : ReadAtMost h (PyData.depthKv kvs) (b1 ++ b2) := (hb1.mono (PyData.depthAll_keys_le kvs)).append (hb2.mono (PyData.depthAll_vals_le kvs))
  have hna : a ∉ b1 ++ b2 := not_mem_of_deeper r (by simp only [PyData.depth]; omega) hb
  refine ⟨_, a :: (b1 ++ b2), r, ReadAtMost.cons r (by simp only [PyData.depth]; omega) hb, ?_⟩
  simp only [PyData.depth, PyData.shown, PyData.shownKv_eq]
  exact ReprK.dict h1 h2 h3 hsys hna (ReprEntriesK.of_two es.toList _ _
    (k1.more_le (fun b hb => List.mem_append_left _ hb) (PyData.depthAll_keys_le kvs)) (k2.more_le (fun b hb => List.mem_append_right _ hb) (PyData.depthAll_vals_le kvs)))
end
end DL
namespace DL
open PySem PySem.Spec PySem.SeqAt PySem.MeetsSeq PySem.Builtin PyProof.Rows L2
end DL
set_option Elab.async false
set_option linter.all false
set_option maxRecDepth 100000
set_option maxHeartbeats 2000000
namespace DM
open PySem PySem.Spec PyProof.Rows L2 He DL
end DM
set_option Elab.async false
set_option linter.all false
set_option maxRecDepth 100000
set_option maxHeartbeats 2000000
namespace DL
open PySem PySem.Spec PyProof.Rows L2
end DL
set_option Elab.async false
set_option linter.all false
set_option maxRecDepth 100000
set_option maxHeartbeats 2000000
namespace PySem
end PySem
set_option Elab.async false
set_option linter.all false
set_option maxRecDepth 100000
set_option maxHeartbeats 2000000
namespace DL
open PySem PySem.Spec PyProof.Rows L2
end DL
set_option Elab.async false
set_option linter.all false
set_option maxRecDepth 100000
set_option maxHeartbeats 2000000
namespace DM
open PySem PySem.Spec PyProof.Rows L2 He DL
end DM
set_option Elab.async false
set_option linter.all false
set_option maxRecDepth 100000
set_option maxHeartbeats 8000000
set_option Elab.async false
set_option linter.all false
set_option maxRecDepth 100000
set_option maxHeartbeats 8000000
set_option Elab.async false
set_option linter.all false
set_option maxRecDepth 100000
set_option maxHeartbeats 8000000
set_option Elab.async false
set_option linter.all false
set_option maxRecDepth 100000
set_option maxHeartbeats 2000000
namespace DL
open PySem PySem.Spec PyProof.Rows L2 He
def tbB (o : Obj) : Bool := match o with
  | ⟨.none, none, .fields vs, sl⟩ => vs.toList.isEmpty && sl.toList.isEmpty
  | _ => false
theorem tbB_ok {o : Obj} (e : tbB o = true) : o = { cls := .none, data := .fields #[] } := by
  unfold tbB at e
  split at e
  · rename_i vs sl
    obtain ⟨e1, e2⟩ := ba e
    obtain ⟨l⟩ := vs
    obtain ⟨m⟩ := sl
    simp only [List.isEmpty_iff] at e1 e2
    subst e1 e2
    rfl
  · cases e
def isStrB : Value → Bool | .str _ _ => true | _ => false
def isIntB' : Value → Bool | .int _ _ => true | _ => false
def isBlB : Value → Bool | .bool _ => true | _ => false
def cdB (o : Obj) (c P : Addr) : Bool := match o with
  | ⟨.type t, _, .fields vs, _⟩ => t == "code" && ((match (vs[11]? : Option Value) with | some (.ref P') => P' == P | _ => false) && (isStrB (vs.getD 18 .none) && (isIntB' (vs.getD 7 .none) && (isBlB (vs.getD 9 .none) && (isIntB' (vs.getD 10 .none) && !(c == P))))))
  | _ => false
theorem cdB_ok {h : Heap} {o : Obj} {c P : Addr} (ho : h.get? c = some o) (e : cdB o c P = true) : PySem.W.CodeHd h c P := by
  unfold cdB at e
  split at e
  · rename_i t d vs sl
    obtain ⟨e1, e⟩ := ba e
    obtain ⟨e2, e⟩ := ba e
    obtain ⟨e3, e⟩ := ba e
    obtain ⟨e4, e⟩ := ba e
    obtain ⟨e5, e⟩ := ba e
    obtain ⟨e6, e7⟩ := ba e
    have t11 : (vs[11]? : Option Value) = some (.ref P) := by
      split at e2
      · rename_i P' q
        rw [q, beq_iff_eq.mp e2]
      · cases e2
    have ex3 : ∃ f tf, vs.getD 18 .none = .str f tf := by
      revert e3
      cases vs.getD 18 .none <;> intro e3 <;> first | exact ⟨_, _, rfl⟩ | cases e3
    have ex4 : ∃ f tf, vs.getD 7 .none = .int f tf := by
      revert e4
      cases vs.getD 7 .none <;> intro e3 <;> first | exact ⟨_, _, rfl⟩ | cases e3
    have ex5 : ∃ f, vs.getD 9 .none = .bool f := by
      revert e5
      cases vs.getD 9 .none <;> intro e3 <;> first | exact ⟨_, rfl⟩ | cases e3
    have ex6 : ∃ f tf, vs.getD 10 .none = .int f tf := by
      revert e6
      cases vs.getD 10 .none <;> intro e3 <;> first | exact ⟨_, _, rfl⟩ | cases e3
    obtain ⟨a1, b1, h3⟩ := ex3
    obtain ⟨a2, b2, h4⟩ := ex4
    obtain ⟨a3, h5⟩ := ex5
    obtain ⟨a4, b4, h6⟩ := ex6
    refine ⟨_, vs, a1, b1, a2, b2, a3, a4, b4, ho, by rw [beq_iff_eq.mp e1], rfl, t11, ?_, h3, h4, h5, h6, fun z => ?_⟩
    · rw [Array.getD_eq_getD_getElem?, t11]; rfl
    · rw [z] at e7; simp at e7
  · cases e
def tabsB (g : Addr → Option Obj) (K : Fg) : Bool := lamNames.all fun x => match tabInX K x with
  | none => true
  | some (c, P) => (K.lookup P).isNone && ((match g P with | some o => tbB o | none => false) && (match K.lookup c with | some o => cdB o c P | none => false))
def TabsH (K : Fg) (h : Heap) : Prop := ∀ x ∈ lamNames, ∀ c P, tabInX K x = some (c, P) → K.lookup P = none ∧ h.get? P = some { cls := .none, data := .fields #[] } ∧ PySem.W.CodeHd h c P
theorem tabsB_ok {h : Heap} {K : Fg} (X : K.In h) (e : tabsB h.get? K = true) : TabsH K h := fun x hx c P ht => by
  have e1 := List.all_eq_true.mp e x hx
  rw [ht] at e1
  obtain ⟨e1, e2⟩ := ba e1
  obtain ⟨e2, e3⟩ := ba e2
  refine ⟨by cases q : K.lookup P <;> simp_all, ?_, ?_⟩
  · split at e2
    · rename_i o q
      rw [q, tbB_ok e2]
    · cases e2
  · split at e3
    · rename_i o q
      exact cdB_ok (X _ _ q) e3
    · cases e3
theorem TabsH.keeps {K : Fg} {h h' : Heap} (t : TabsH K h) (k : ∀ b o, h.get? b = some o → h'.get? b = some o) : TabsH K h' := fun x hx c P ht => by
  obtain ⟨h1, h2, h3⟩ := t x hx c P ht
  exact ⟨h1, k _ _ h2, h3.keeps k⟩
end DL
set_option Elab.async false
set_option linter.all false
set_option maxRecDepth 100000
set_option maxHeartbeats 0
namespace Lk01
open PySem PySem.Spec PyProof.Rows L2 He DL DM
def top (i : Nat) : Stmt := PySem.Challenge.pw_bitplaces_k01_errors_and_limits.main.body.getD i (.Pass ⟨0, 0, 0, 0⟩)
def mem (i j : Nat) : Stmt := match top i with
  | .ClassDef _ _ _ b _ _ _ _ _ _ _ => b.getD j (.Pass ⟨0, 0, 0, 0⟩)
  | s => s
abbrev s__law_drop : Stmt := (top 31)
def d__law_drop : Df := ⟨(.glo "_law_drop"), "_law_drop", "_law_drop", defArgs s__law_drop, defBody s__law_drop, defScope s__law_drop, []⟩
abbrev s__law_from : Stmt := (top 32)
def d__law_from : Df := ⟨(.glo "_law_from"), "_law_from", "_law_from", defArgs s__law_from, defBody s__law_from, defScope s__law_from, []⟩
abbrev s__law_given_errors : Stmt := (top 34)
def d__law_given_errors : Df := ⟨(.glo "_law_given_errors"), "_law_given_errors", "_law_given_errors", defArgs s__law_given_errors, defBody s__law_given_errors, defScope s__law_given_errors, []⟩
abbrev s__law_sort : Stmt := (top 33)
def d__law_sort : Df := ⟨(.glo "_law_sort"), "_law_sort", "_law_sort", defArgs s__law_sort, defBody s__law_sort, defScope s__law_sort, []⟩
abbrev s__law_index_errors : Stmt := (top 35)
def d__law_index_errors : Df := ⟨(.glo "_law_index_errors"), "_law_index_errors", "_law_index_errors", defArgs s__law_index_errors, defBody s__law_index_errors, defScope s__law_index_errors, []⟩
abbrev s__law_right : Stmt := (top 36)
def d__law_right : Df := ⟨(.glo "_law_right"), "_law_right", "_law_right", defArgs s__law_right, defBody s__law_right, defScope s__law_right, []⟩
abbrev s__law_phial_of : Stmt := (top 30)
def d__law_phial_of : Df := ⟨(.glo "_law_phial_of"), "_law_phial_of", "_law_phial_of", defArgs s__law_phial_of, defBody s__law_phial_of, defScope s__law_phial_of, []⟩
abbrev s_law : Stmt := (top 37)
def d_law : Df := ⟨(.glo "law"), "law", "law", defArgs s_law, defBody s_law, defScope s_law, []⟩
abbrev s_Apart___init__ : Stmt := (mem 19 0)
def d_Apart___init__ : Df := ⟨(.mem "Apart" "__init__"), "__init__", "Apart.__init__", defArgs s_Apart___init__, defBody s_Apart___init__, defScope s_Apart___init__, []⟩
abbrev s_Broken___init__ : Stmt := (mem 23 0)
def d_Broken___init__ : Df := ⟨(.mem "Broken" "__init__"), "__init__", "Broken.__init__", defArgs s_Broken___init__, defBody s_Broken___init__, defScope s_Broken___init__, []⟩
abbrev s_InvalidDoubts___init__ : Stmt := (mem 15 0)
def d_InvalidDoubts___init__ : Df := ⟨(.mem "InvalidDoubts" "__init__"), "__init__", "InvalidDoubts.__init__", defArgs s_InvalidDoubts___init__, defBody s_InvalidDoubts___init__, defScope s_InvalidDoubts___init__, []⟩
abbrev s_InvalidIndex___init__ : Stmt := (mem 6 0)
def d_InvalidIndex___init__ : Df := ⟨(.mem "InvalidIndex" "__init__"), "__init__", "InvalidIndex.__init__", defArgs s_InvalidIndex___init__, defBody s_InvalidIndex___init__, defScope s_InvalidIndex___init__, []⟩
abbrev s_InvalidLot___init__ : Stmt := (mem 11 0)
def d_InvalidLot___init__ : Df := ⟨(.mem "InvalidLot" "__init__"), "__init__", "InvalidLot.__init__", defArgs s_InvalidLot___init__, defBody s_InvalidLot___init__, defScope s_InvalidLot___init__, []⟩
abbrev s_InvalidName___init__ : Stmt := (mem 4 0)
def d_InvalidName___init__ : Df := ⟨(.mem "InvalidName" "__init__"), "__init__", "InvalidName.__init__", defArgs s_InvalidName___init__, defBody s_InvalidName___init__, defScope s_InvalidName___init__, []⟩
abbrev s_InvalidNumber___init__ : Stmt := (mem 3 0)
def d_InvalidNumber___init__ : Df := ⟨(.mem "InvalidNumber" "__init__"), "__init__", "InvalidNumber.__init__", defArgs s_InvalidNumber___init__, defBody s_InvalidNumber___init__, defScope s_InvalidNumber___init__, []⟩
abbrev s_InvalidOffers___init__ : Stmt := (mem 14 0)
def d_InvalidOffers___init__ : Df := ⟨(.mem "InvalidOffers" "__init__"), "__init__", "InvalidOffers.__init__", defArgs s_InvalidOffers___init__, defBody s_InvalidOffers___init__, defScope s_InvalidOffers___init__, []⟩
abbrev s_InvalidRead___init__ : Stmt := (mem 13 0)
def d_InvalidRead___init__ : Df := ⟨(.mem "InvalidRead" "__init__"), "__init__", "InvalidRead.__init__", defArgs s_InvalidRead___init__, defBody s_InvalidRead___init__, defScope s_InvalidRead___init__, []⟩
abbrev s_InvalidRows___init__ : Stmt := (mem 12 0)
def d_InvalidRows___init__ : Df := ⟨(.mem "InvalidRows" "__init__"), "__init__", "InvalidRows.__init__", defArgs s_InvalidRows___init__, defBody s_InvalidRows___init__, defScope s_InvalidRows___init__, []⟩
abbrev s_InvalidText___init__ : Stmt := (mem 2 0)
def d_InvalidText___init__ : Df := ⟨(.mem "InvalidText" "__init__"), "__init__", "InvalidText.__init__", defArgs s_InvalidText___init__, defBody s_InvalidText___init__, defScope s_InvalidText___init__, []⟩
abbrev s_InvalidTie___init__ : Stmt := (mem 7 0)
def d_InvalidTie___init__ : Df := ⟨(.mem "InvalidTie" "__init__"), "__init__", "InvalidTie.__init__", defArgs s_InvalidTie___init__, defBody s_InvalidTie___init__, defScope s_InvalidTie___init__, []⟩
abbrev s_InvalidTies___init__ : Stmt := (mem 10 0)
def d_InvalidTies___init__ : Df := ⟨(.mem "InvalidTies" "__init__"), "__init__", "InvalidTies.__init__", defArgs s_InvalidTies___init__, defBody s_InvalidTies___init__, defScope s_InvalidTies___init__, []⟩
abbrev s_InvalidTowns___init__ : Stmt := (mem 9 0)
def d_InvalidTowns___init__ : Df := ⟨(.mem "InvalidTowns" "__init__"), "__init__", "InvalidTowns.__init__", defArgs s_InvalidTowns___init__, defBody s_InvalidTowns___init__, defScope s_InvalidTowns___init__, []⟩
abbrev s_InvalidWish___init__ : Stmt := (mem 5 0)
def d_InvalidWish___init__ : Df := ⟨(.mem "InvalidWish" "__init__"), "__init__", "InvalidWish.__init__", defArgs s_InvalidWish___init__, defBody s_InvalidWish___init__, defScope s_InvalidWish___init__, []⟩
abbrev s_NotAWeb___init__ : Stmt := (mem 8 0)
def d_NotAWeb___init__ : Df := ⟨(.mem "NotAWeb" "__init__"), "__init__", "NotAWeb.__init__", defArgs s_NotAWeb___init__, defBody s_NotAWeb___init__, defScope s_NotAWeb___init__, []⟩
abbrev s_TooMany___init__ : Stmt := (mem 21 0)
def d_TooMany___init__ : Df := ⟨(.mem "TooMany" "__init__"), "__init__", "TooMany.__init__", defArgs s_TooMany___init__, defBody s_TooMany___init__, defScope s_TooMany___init__, []⟩
abbrev s_UnknownName___init__ : Stmt := (mem 17 0)
def d_UnknownName___init__ : Df := ⟨(.mem "UnknownName" "__init__"), "__init__", "UnknownName.__init__", defArgs s_UnknownName___init__, defBody s_UnknownName___init__, defScope s_UnknownName___init__, []⟩
def fa0 : List Fa := [.glo "_law_drop", .glo "_law_from", .glo "_law_given_errors", .glo "_law_sort", .glo "_law_index_errors", .glo "_law_right", .glo "_law_phial_of", .glo "law", .int "MOST_TOWNS" 14, .int "MOST_TIES" 60, .int "MOST_OFFERS" 6, .int "MOST_DOUBTS" 8, .int "MOST_BITS" 60, .free "repr", .free "len", .free "min", .free "max", .free "range", .free "all", .free "enumerate"]
def fa1 : List Fa := [.free "int", .free "abs", .free "isinstance", .free "ValueError", .free "LookupError", .free "ArithmeticError", .free "divmod", .glo "Apart", .glo "Broken", .glo "InvalidDoubts", .glo "InvalidIndex", .glo "InvalidLot", .glo "InvalidName", .glo "InvalidNumber", .glo "InvalidOffers", .glo "InvalidRead", .glo "InvalidRows", .glo "InvalidText", .glo "InvalidTie", .glo "InvalidTies"]
def fa2 : List Fa := [.glo "InvalidTowns", .glo "InvalidWish", .glo "NotAWeb", .glo "TooMany", .glo "UnknownName", .glo "NoBits", .glo "NothingToUndo", .glo "NoAnswer", .glo "WrongName", .glo "WrongValue"]
def fa : List Fa := fa0 ++ fa1 ++ fa2
def fb0 : List Fb := [.errT "Apart" "given", .errT "Broken" "index", .err "InvalidDoubts" "index", .err "InvalidIndex" "given", .err "InvalidLot" "index", .err "InvalidName" "given", .err "InvalidNumber" "given", .err "InvalidOffers" "index", .err "InvalidRead" "index", .err "InvalidRows" "index", .err "InvalidText" "given", .err "InvalidTie" "given", .err "InvalidTies" "index", .err "InvalidTowns" "index", .err "InvalidWish" "given", .err "NotAWeb" "given", .errT "TooMany" "given", .errT "UnknownName" "given", .exc0 "NoBits", .exc0 "NothingToUndo"]
def fb1 : List Fb := [.xf "InvalidText" "given", .xf "InvalidNumber" "given", .xf "InvalidName" "given", .xf "InvalidWish" "given", .xf "InvalidIndex" "given", .xf "InvalidTie" "given", .xf "NotAWeb" "given", .xf "UnknownName" "given", .xf "Apart" "given", .xf "TooMany" "given", .xf "InvalidTowns" "index", .xf "InvalidTies" "index", .xf "InvalidLot" "index", .xf "InvalidRows" "index", .xf "InvalidRead" "index", .xf "InvalidOffers" "index", .xf "InvalidDoubts" "index", .xf "Broken" "index", .exc "UnknownName", .exc "Apart"]
def fb2 : List Fb := [.exc "TooMany", .exc "Broken", .exc "NoBits", .exc "NothingToUndo", .exc "InvalidTowns", .exc "InvalidTies", .exc "InvalidLot", .exc "InvalidRows", .exc "InvalidRead", .exc "InvalidOffers", .exc "InvalidDoubts", .kitc "Apart" "InvalidText" false, .kitc "Broken" "InvalidText" false, .kitc "InvalidDoubts" "InvalidText" false, .kitc "InvalidIndex" "InvalidText" false, .kitc "InvalidLot" "InvalidText" false, .kitc "InvalidName" "InvalidText" false, .kitc "InvalidNumber" "InvalidText" false, .kitc "InvalidOffers" "InvalidText" false, .kitc "InvalidRead" "InvalidText" false]
def fb3 : List Fb := [.kitc "InvalidRows" "InvalidText" false, .kitc "InvalidText" "InvalidText" true, .kitc "InvalidTie" "InvalidText" false, .kitc "InvalidTies" "InvalidText" false, .kitc "InvalidTowns" "InvalidText" false, .kitc "InvalidWish" "InvalidText" false, .kitc "NotAWeb" "InvalidText" false, .kitc "TooMany" "InvalidText" false, .kitc "UnknownName" "InvalidText" false, .kitc "NoBits" "InvalidText" false, .kitc "NothingToUndo" "InvalidText" false, .kitc "Apart" "InvalidNumber" false, .kitc "Broken" "InvalidNumber" false, .kitc "InvalidDoubts" "InvalidNumber" false, .kitc "InvalidIndex" "InvalidNumber" false, .kitc "InvalidLot" "InvalidNumber" false, .kitc "InvalidName" "InvalidNumber" false, .kitc "InvalidNumber" "InvalidNumber" true, .kitc "InvalidOffers" "InvalidNumber" false, .kitc "InvalidRead" "InvalidNumber" false]
def fb4 : List Fb := [.kitc "InvalidRows" "InvalidNumber" false, .kitc "InvalidText" "InvalidNumber" false, .kitc "InvalidTie" "InvalidNumber" false, .kitc "InvalidTies" "InvalidNumber" false, .kitc "InvalidTowns" "InvalidNumber" false, .kitc "InvalidWish" "InvalidNumber" false, .kitc "NotAWeb" "InvalidNumber" false, .kitc "TooMany" "InvalidNumber" false, .kitc "UnknownName" "InvalidNumber" false, .kitc "NoBits" "InvalidNumber" false, .kitc "NothingToUndo" "InvalidNumber" false, .kitc "Apart" "InvalidName" false, .kitc "Broken" "InvalidName" false, .kitc "InvalidDoubts" "InvalidName" false, .kitc "InvalidIndex" "InvalidName" false, .kitc "InvalidLot" "InvalidName" false, .kitc "InvalidName" "InvalidName" true, .kitc "InvalidNumber" "InvalidName" false, .kitc "InvalidOffers" "InvalidName" false, .kitc "InvalidRead" "InvalidName" false]
def fb5 : List Fb := [.kitc "InvalidRows" "InvalidName" false, .kitc "InvalidText" "InvalidName" false, .kitc "InvalidTie" "InvalidName" false, .kitc "InvalidTies" "InvalidName" false, .kitc "InvalidTowns" "InvalidName" false, .kitc "InvalidWish" "InvalidName" false, .kitc "NotAWeb" "InvalidName" false, .kitc "TooMany" "InvalidName" false, .kitc "UnknownName" "InvalidName" false, .kitc "NoBits" "InvalidName" false, .kitc "NothingToUndo" "InvalidName" false, .kitc "Apart" "InvalidWish" false, .kitc "Broken" "InvalidWish" false, .kitc "InvalidDoubts" "InvalidWish" false, .kitc "InvalidIndex" "InvalidWish" false, .kitc "InvalidLot" "InvalidWish" false, .kitc "InvalidName" "InvalidWish" false, .kitc "InvalidNumber" "InvalidWish" false, .kitc "InvalidOffers" "InvalidWish" false, .kitc "InvalidRead" "InvalidWish" false]
def fb6 : List Fb := [.kitc "InvalidRows" "InvalidWish" false, .kitc "InvalidText" "InvalidWish" false, .kitc "InvalidTie" "InvalidWish" false, .kitc "InvalidTies" "InvalidWish" false, .kitc "InvalidTowns" "InvalidWish" false, .kitc "InvalidWish" "InvalidWish" true, .kitc "NotAWeb" "InvalidWish" false, .kitc "TooMany" "InvalidWish" false, .kitc "UnknownName" "InvalidWish" false, .kitc "NoBits" "InvalidWish" false, .kitc "NothingToUndo" "InvalidWish" false, .kitc "Apart" "InvalidIndex" false, .kitc "Broken" "InvalidIndex" false, .kitc "InvalidDoubts" "InvalidIndex" false, .kitc "InvalidIndex" "InvalidIndex" true, .kitc "InvalidLot" "InvalidIndex" false, .kitc "InvalidName" "InvalidIndex" false, .kitc "InvalidNumber" "InvalidIndex" false, .kitc "InvalidOffers" "InvalidIndex" false, .kitc "InvalidRead" "InvalidIndex" false]
def fb7 : List Fb := [.kitc "InvalidRows" "InvalidIndex" false, .kitc "InvalidText" "InvalidIndex" false, .kitc "InvalidTie" "InvalidIndex" false, .kitc "InvalidTies" "InvalidIndex" false, .kitc "InvalidTowns" "InvalidIndex" false, .kitc "InvalidWish" "InvalidIndex" false, .kitc "NotAWeb" "InvalidIndex" false, .kitc "TooMany" "InvalidIndex" false, .kitc "UnknownName" "InvalidIndex" false, .kitc "NoBits" "InvalidIndex" false, .kitc "NothingToUndo" "InvalidIndex" false, .kitc "Apart" "InvalidTie" false, .kitc "Broken" "InvalidTie" false, .kitc "InvalidDoubts" "InvalidTie" false, .kitc "InvalidIndex" "InvalidTie" false, .kitc "InvalidLot" "InvalidTie" false, .kitc "InvalidName" "InvalidTie" false, .kitc "InvalidNumber" "InvalidTie" false, .kitc "InvalidOffers" "InvalidTie" false, .kitc "InvalidRead" "InvalidTie" false]
def fb8 : List Fb := [.kitc "InvalidRows" "InvalidTie" false, .kitc "InvalidText" "InvalidTie" false, .kitc "InvalidTie" "InvalidTie" true, .kitc "InvalidTies" "InvalidTie" false, .kitc "InvalidTowns" "InvalidTie" false, .kitc "InvalidWish" "InvalidTie" false, .kitc "NotAWeb" "InvalidTie" false, .kitc "TooMany" "InvalidTie" false, .kitc "UnknownName" "InvalidTie" false, .kitc "NoBits" "InvalidTie" false, .kitc "NothingToUndo" "InvalidTie" false, .kitc "Apart" "NotAWeb" false, .kitc "Broken" "NotAWeb" false, .kitc "InvalidDoubts" "NotAWeb" false, .kitc "InvalidIndex" "NotAWeb" false, .kitc "InvalidLot" "NotAWeb" false, .kitc "InvalidName" "NotAWeb" false, .kitc "InvalidNumber" "NotAWeb" false, .kitc "InvalidOffers" "NotAWeb" false, .kitc "InvalidRead" "NotAWeb" false]
def fb9 : List Fb := [.kitc "InvalidRows" "NotAWeb" false, .kitc "InvalidText" "NotAWeb" false, .kitc "InvalidTie" "NotAWeb" false, .kitc "InvalidTies" "NotAWeb" false, .kitc "InvalidTowns" "NotAWeb" false, .kitc "InvalidWish" "NotAWeb" false, .kitc "NotAWeb" "NotAWeb" true, .kitc "TooMany" "NotAWeb" false, .kitc "UnknownName" "NotAWeb" false, .kitc "NoBits" "NotAWeb" false, .kitc "NothingToUndo" "NotAWeb" false, .kitc "Apart" "InvalidTowns" false, .kitc "Broken" "InvalidTowns" false, .kitc "InvalidDoubts" "InvalidTowns" false, .kitc "InvalidIndex" "InvalidTowns" false, .kitc "InvalidLot" "InvalidTowns" false, .kitc "InvalidName" "InvalidTowns" false, .kitc "InvalidNumber" "InvalidTowns" false, .kitc "InvalidOffers" "InvalidTowns" false, .kitc "InvalidRead" "InvalidTowns" false]
def fb10 : List Fb := [.kitc "InvalidRows" "InvalidTowns" false, .kitc "InvalidText" "InvalidTowns" false, .kitc "InvalidTie" "InvalidTowns" false, .kitc "InvalidTies" "InvalidTowns" false, .kitc "InvalidTowns" "InvalidTowns" true, .kitc "InvalidWish" "InvalidTowns" false, .kitc "NotAWeb" "InvalidTowns" false, .kitc "TooMany" "InvalidTowns" false, .kitc "UnknownName" "InvalidTowns" false, .kitc "NoBits" "InvalidTowns" false, .kitc "NothingToUndo" "InvalidTowns" false, .kitc "Apart" "InvalidTies" false, .kitc "Broken" "InvalidTies" false, .kitc "InvalidDoubts" "InvalidTies" false, .kitc "InvalidIndex" "InvalidTies" false, .kitc "InvalidLot" "InvalidTies" false, .kitc "InvalidName" "InvalidTies" false, .kitc "InvalidNumber" "InvalidTies" false, .kitc "InvalidOffers" "InvalidTies" false, .kitc "InvalidRead" "InvalidTies" false]
def fb11 : List Fb := [.kitc "InvalidRows" "InvalidTies" false, .kitc "InvalidText" "InvalidTies" false, .kitc "InvalidTie" "InvalidTies" false, .kitc "InvalidTies" "InvalidTies" true, .kitc "InvalidTowns" "InvalidTies" false, .kitc "InvalidWish" "InvalidTies" false, .kitc "NotAWeb" "InvalidTies" false, .kitc "TooMany" "InvalidTies" false, .kitc "UnknownName" "InvalidTies" false, .kitc "NoBits" "InvalidTies" false, .kitc "NothingToUndo" "InvalidTies" false, .kitc "Apart" "InvalidLot" false, .kitc "Broken" "InvalidLot" false, .kitc "InvalidDoubts" "InvalidLot" false, .kitc "InvalidIndex" "InvalidLot" false, .kitc "InvalidLot" "InvalidLot" true, .kitc "InvalidName" "InvalidLot" false, .kitc "InvalidNumber" "InvalidLot" false, .kitc "InvalidOffers" "InvalidLot" false, .kitc "InvalidRead" "InvalidLot" false]
def fb12 : List Fb := [.kitc "InvalidRows" "InvalidLot" false, .kitc "InvalidText" "InvalidLot" false, .kitc "InvalidTie" "InvalidLot" false, .kitc "InvalidTies" "InvalidLot" false, .kitc "InvalidTowns" "InvalidLot" false, .kitc "InvalidWish" "InvalidLot" false, .kitc "NotAWeb" "InvalidLot" false, .kitc "TooMany" "InvalidLot" false, .kitc "UnknownName" "InvalidLot" false, .kitc "NoBits" "InvalidLot" false, .kitc "NothingToUndo" "InvalidLot" false, .kitc "Apart" "InvalidRows" false, .kitc "Broken" "InvalidRows" false, .kitc "InvalidDoubts" "InvalidRows" false, .kitc "InvalidIndex" "InvalidRows" false, .kitc "InvalidLot" "InvalidRows" false, .kitc "InvalidName" "InvalidRows" false, .kitc "InvalidNumber" "InvalidRows" false, .kitc "InvalidOffers" "InvalidRows" false, .kitc "InvalidRead" "InvalidRows" false]
def fb13 : List Fb := [.kitc "InvalidRows" "InvalidRows" true, .kitc "InvalidText" "InvalidRows" false, .kitc "InvalidTie" "InvalidRows" false, .kitc "InvalidTies" "InvalidRows" false, .kitc "InvalidTowns" "InvalidRows" false, .kitc "InvalidWish" "InvalidRows" false, .kitc "NotAWeb" "InvalidRows" false, .kitc "TooMany" "InvalidRows" false, .kitc "UnknownName" "InvalidRows" false, .kitc "NoBits" "InvalidRows" false, .kitc "NothingToUndo" "InvalidRows" false, .kitc "Apart" "InvalidRead" false, .kitc "Broken" "InvalidRead" false, .kitc "InvalidDoubts" "InvalidRead" false, .kitc "InvalidIndex" "InvalidRead" false, .kitc "InvalidLot" "InvalidRead" false, .kitc "InvalidName" "InvalidRead" false, .kitc "InvalidNumber" "InvalidRead" false, .kitc "InvalidOffers" "InvalidRead" false, .kitc "InvalidRead" "InvalidRead" true]
def fb14 : List Fb := [.kitc "InvalidRows" "InvalidRead" false, .kitc "InvalidText" "InvalidRead" false, .kitc "InvalidTie" "InvalidRead" false, .kitc "InvalidTies" "InvalidRead" false, .kitc "InvalidTowns" "InvalidRead" false, .kitc "InvalidWish" "InvalidRead" false, .kitc "NotAWeb" "InvalidRead" false, .kitc "TooMany" "InvalidRead" false, .kitc "UnknownName" "InvalidRead" false, .kitc "NoBits" "InvalidRead" false, .kitc "NothingToUndo" "InvalidRead" false, .kitc "Apart" "InvalidOffers" false, .kitc "Broken" "InvalidOffers" false, .kitc "InvalidDoubts" "InvalidOffers" false, .kitc "InvalidIndex" "InvalidOffers" false, .kitc "InvalidLot" "InvalidOffers" false, .kitc "InvalidName" "InvalidOffers" false, .kitc "InvalidNumber" "InvalidOffers" false, .kitc "InvalidOffers" "InvalidOffers" true, .kitc "InvalidRead" "InvalidOffers" false]
def fb15 : List Fb := [.kitc "InvalidRows" "InvalidOffers" false, .kitc "InvalidText" "InvalidOffers" false, .kitc "InvalidTie" "InvalidOffers" false, .kitc "InvalidTies" "InvalidOffers" false, .kitc "InvalidTowns" "InvalidOffers" false, .kitc "InvalidWish" "InvalidOffers" false, .kitc "NotAWeb" "InvalidOffers" false, .kitc "TooMany" "InvalidOffers" false, .kitc "UnknownName" "InvalidOffers" false, .kitc "NoBits" "InvalidOffers" false, .kitc "NothingToUndo" "InvalidOffers" false, .kitc "Apart" "InvalidDoubts" false, .kitc "Broken" "InvalidDoubts" false, .kitc "InvalidDoubts" "InvalidDoubts" true, .kitc "InvalidIndex" "InvalidDoubts" false, .kitc "InvalidLot" "InvalidDoubts" false, .kitc "InvalidName" "InvalidDoubts" false, .kitc "InvalidNumber" "InvalidDoubts" false, .kitc "InvalidOffers" "InvalidDoubts" false, .kitc "InvalidRead" "InvalidDoubts" false]
def fb16 : List Fb := [.kitc "InvalidRows" "InvalidDoubts" false, .kitc "InvalidText" "InvalidDoubts" false, .kitc "InvalidTie" "InvalidDoubts" false, .kitc "InvalidTies" "InvalidDoubts" false, .kitc "InvalidTowns" "InvalidDoubts" false, .kitc "InvalidWish" "InvalidDoubts" false, .kitc "NotAWeb" "InvalidDoubts" false, .kitc "TooMany" "InvalidDoubts" false, .kitc "UnknownName" "InvalidDoubts" false, .kitc "NoBits" "InvalidDoubts" false, .kitc "NothingToUndo" "InvalidDoubts" false, .kitc "Apart" "UnknownName" false, .kitc "Broken" "UnknownName" false, .kitc "InvalidDoubts" "UnknownName" false, .kitc "InvalidIndex" "UnknownName" false, .kitc "InvalidLot" "UnknownName" false, .kitc "InvalidName" "UnknownName" false, .kitc "InvalidNumber" "UnknownName" false, .kitc "InvalidOffers" "UnknownName" false, .kitc "InvalidRead" "UnknownName" false]
def fb17 : List Fb := [.kitc "InvalidRows" "UnknownName" false, .kitc "InvalidText" "UnknownName" false, .kitc "InvalidTie" "UnknownName" false, .kitc "InvalidTies" "UnknownName" false, .kitc "InvalidTowns" "UnknownName" false, .kitc "InvalidWish" "UnknownName" false, .kitc "NotAWeb" "UnknownName" false, .kitc "TooMany" "UnknownName" false, .kitc "UnknownName" "UnknownName" true, .kitc "NoBits" "UnknownName" false, .kitc "NothingToUndo" "UnknownName" false, .kitc "Apart" "Apart" true, .kitc "Broken" "Apart" false, .kitc "InvalidDoubts" "Apart" false, .kitc "InvalidIndex" "Apart" false, .kitc "InvalidLot" "Apart" false, .kitc "InvalidName" "Apart" false, .kitc "InvalidNumber" "Apart" false, .kitc "InvalidOffers" "Apart" false, .kitc "InvalidRead" "Apart" false]
def fb18 : List Fb := [.kitc "InvalidRows" "Apart" false, .kitc "InvalidText" "Apart" false, .kitc "InvalidTie" "Apart" false, .kitc "InvalidTies" "Apart" false, .kitc "InvalidTowns" "Apart" false, .kitc "InvalidWish" "Apart" false, .kitc "NotAWeb" "Apart" false, .kitc "TooMany" "Apart" false, .kitc "UnknownName" "Apart" false, .kitc "NoBits" "Apart" false, .kitc "NothingToUndo" "Apart" false, .kitc "Apart" "TooMany" false, .kitc "Broken" "TooMany" false, .kitc "InvalidDoubts" "TooMany" false, .kitc "InvalidIndex" "TooMany" false, .kitc "InvalidLot" "TooMany" false, .kitc "InvalidName" "TooMany" false, .kitc "InvalidNumber" "TooMany" false, .kitc "InvalidOffers" "TooMany" false, .kitc "InvalidRead" "TooMany" false]
def fb19 : List Fb := [.kitc "InvalidRows" "TooMany" false, .kitc "InvalidText" "TooMany" false, .kitc "InvalidTie" "TooMany" false, .kitc "InvalidTies" "TooMany" false, .kitc "InvalidTowns" "TooMany" false, .kitc "InvalidWish" "TooMany" false, .kitc "NotAWeb" "TooMany" false, .kitc "TooMany" "TooMany" true, .kitc "UnknownName" "TooMany" false, .kitc "NoBits" "TooMany" false, .kitc "NothingToUndo" "TooMany" false, .kitc "Apart" "NoBits" false, .kitc "Broken" "NoBits" false, .kitc "InvalidDoubts" "NoBits" false, .kitc "InvalidIndex" "NoBits" false, .kitc "InvalidLot" "NoBits" false, .kitc "InvalidName" "NoBits" false, .kitc "InvalidNumber" "NoBits" false, .kitc "InvalidOffers" "NoBits" false, .kitc "InvalidRead" "NoBits" false]
def fb20 : List Fb := [.kitc "InvalidRows" "NoBits" false, .kitc "InvalidText" "NoBits" false, .kitc "InvalidTie" "NoBits" false, .kitc "InvalidTies" "NoBits" false, .kitc "InvalidTowns" "NoBits" false, .kitc "InvalidWish" "NoBits" false, .kitc "NotAWeb" "NoBits" false, .kitc "TooMany" "NoBits" false, .kitc "UnknownName" "NoBits" false, .kitc "NoBits" "NoBits" true, .kitc "NothingToUndo" "NoBits" false, .kitc "Apart" "NothingToUndo" false, .kitc "Broken" "NothingToUndo" false, .kitc "InvalidDoubts" "NothingToUndo" false, .kitc "InvalidIndex" "NothingToUndo" false, .kitc "InvalidLot" "NothingToUndo" false, .kitc "InvalidName" "NothingToUndo" false, .kitc "InvalidNumber" "NothingToUndo" false, .kitc "InvalidOffers" "NothingToUndo" false, .kitc "InvalidRead" "NothingToUndo" false]
def fb21 : List Fb := [.kitc "InvalidRows" "NothingToUndo" false, .kitc "InvalidText" "NothingToUndo" false, .kitc "InvalidTie" "NothingToUndo" false, .kitc "InvalidTies" "NothingToUndo" false, .kitc "InvalidTowns" "NothingToUndo" false, .kitc "InvalidWish" "NothingToUndo" false, .kitc "NotAWeb" "NothingToUndo" false, .kitc "TooMany" "NothingToUndo" false, .kitc "UnknownName" "NothingToUndo" false, .kitc "NoBits" "NothingToUndo" false, .kitc "NothingToUndo" "NothingToUndo" true, .kitc "Apart" "Broken" false, .kitc "Broken" "Broken" true, .kitc "InvalidDoubts" "Broken" false, .kitc "InvalidIndex" "Broken" false, .kitc "InvalidLot" "Broken" false, .kitc "InvalidName" "Broken" false, .kitc "InvalidNumber" "Broken" false, .kitc "InvalidOffers" "Broken" false, .kitc "InvalidRead" "Broken" false]
def fb22 : List Fb := [.kitc "InvalidRows" "Broken" false, .kitc "InvalidText" "Broken" false, .kitc "InvalidTie" "Broken" false, .kitc "InvalidTies" "Broken" false, .kitc "InvalidTowns" "Broken" false, .kitc "InvalidWish" "Broken" false, .kitc "NotAWeb" "Broken" false, .kitc "TooMany" "Broken" false, .kitc "UnknownName" "Broken" false, .kitc "NoBits" "Broken" false, .kitc "NothingToUndo" "Broken" false, .kitc "Apart" "WrongValue" false, .kitc "Broken" "WrongValue" false, .kitc "InvalidDoubts" "WrongValue" true, .kitc "InvalidIndex" "WrongValue" true, .kitc "InvalidLot" "WrongValue" true, .kitc "InvalidName" "WrongValue" true, .kitc "InvalidNumber" "WrongValue" true, .kitc "InvalidOffers" "WrongValue" true, .kitc "InvalidRead" "WrongValue" true]
def fb23 : List Fb := [.kitc "InvalidRows" "WrongValue" true, .kitc "InvalidText" "WrongValue" true, .kitc "InvalidTie" "WrongValue" true, .kitc "InvalidTies" "WrongValue" true, .kitc "InvalidTowns" "WrongValue" true, .kitc "InvalidWish" "WrongValue" true, .kitc "NotAWeb" "WrongValue" true, .kitc "TooMany" "WrongValue" false, .kitc "UnknownName" "WrongValue" false, .kitc "NoBits" "WrongValue" false, .kitc "NothingToUndo" "WrongValue" false, .kitc "Apart" "WrongName" false, .kitc "Broken" "WrongName" false, .kitc "InvalidDoubts" "WrongName" false, .kitc "InvalidIndex" "WrongName" false, .kitc "InvalidLot" "WrongName" false, .kitc "InvalidName" "WrongName" false, .kitc "InvalidNumber" "WrongName" false, .kitc "InvalidOffers" "WrongName" false, .kitc "InvalidRead" "WrongName" false]
def fb24 : List Fb := [.kitc "InvalidRows" "WrongName" false, .kitc "InvalidText" "WrongName" false, .kitc "InvalidTie" "WrongName" false, .kitc "InvalidTies" "WrongName" false, .kitc "InvalidTowns" "WrongName" false, .kitc "InvalidWish" "WrongName" false, .kitc "NotAWeb" "WrongName" false, .kitc "TooMany" "WrongName" false, .kitc "UnknownName" "WrongName" true, .kitc "NoBits" "WrongName" false, .kitc "NothingToUndo" "WrongName" false, .kitc "Apart" "NoAnswer" true, .kitc "Broken" "NoAnswer" true, .kitc "InvalidDoubts" "NoAnswer" false, .kitc "InvalidIndex" "NoAnswer" false, .kitc "InvalidLot" "NoAnswer" false, .kitc "InvalidName" "NoAnswer" false, .kitc "InvalidNumber" "NoAnswer" false, .kitc "InvalidOffers" "NoAnswer" false, .kitc "InvalidRead" "NoAnswer" false]
def fb25 : List Fb := [.kitc "InvalidRows" "NoAnswer" false, .kitc "InvalidText" "NoAnswer" false, .kitc "InvalidTie" "NoAnswer" false, .kitc "InvalidTies" "NoAnswer" false, .kitc "InvalidTowns" "NoAnswer" false, .kitc "InvalidWish" "NoAnswer" false, .kitc "NotAWeb" "NoAnswer" false, .kitc "TooMany" "NoAnswer" true, .kitc "UnknownName" "NoAnswer" false, .kitc "NoBits" "NoAnswer" true, .kitc "NothingToUndo" "NoAnswer" true, .kitb "Apart" "ValueError" false, .kitb "Broken" "ValueError" false, .kitb "InvalidDoubts" "ValueError" true, .kitb "InvalidIndex" "ValueError" true, .kitb "InvalidLot" "ValueError" true, .kitb "InvalidName" "ValueError" true, .kitb "InvalidNumber" "ValueError" true, .kitb "InvalidOffers" "ValueError" true, .kitb "InvalidRead" "ValueError" true]
def fb26 : List Fb := [.kitb "InvalidRows" "ValueError" true, .kitb "InvalidText" "ValueError" true, .kitb "InvalidTie" "ValueError" true, .kitb "InvalidTies" "ValueError" true, .kitb "InvalidTowns" "ValueError" true, .kitb "InvalidWish" "ValueError" true, .kitb "NotAWeb" "ValueError" true, .kitb "TooMany" "ValueError" false, .kitb "UnknownName" "ValueError" false, .kitb "NoBits" "ValueError" false, .kitb "NothingToUndo" "ValueError" false, .kitb "Apart" "LookupError" false, .kitb "Broken" "LookupError" false, .kitb "InvalidDoubts" "LookupError" false, .kitb "InvalidIndex" "LookupError" false, .kitb "InvalidLot" "LookupError" false, .kitb "InvalidName" "LookupError" false, .kitb "InvalidNumber" "LookupError" false, .kitb "InvalidOffers" "LookupError" false, .kitb "InvalidRead" "LookupError" false]
def fb27 : List Fb := [.kitb "InvalidRows" "LookupError" false, .kitb "InvalidText" "LookupError" false, .kitb "InvalidTie" "LookupError" false, .kitb "InvalidTies" "LookupError" false, .kitb "InvalidTowns" "LookupError" false, .kitb "InvalidWish" "LookupError" false, .kitb "NotAWeb" "LookupError" false, .kitb "TooMany" "LookupError" false, .kitb "UnknownName" "LookupError" true, .kitb "NoBits" "LookupError" false, .kitb "NothingToUndo" "LookupError" false, .kitb "Apart" "ArithmeticError" true, .kitb "Broken" "ArithmeticError" true, .kitb "InvalidDoubts" "ArithmeticError" false, .kitb "InvalidIndex" "ArithmeticError" false, .kitb "InvalidLot" "ArithmeticError" false, .kitb "InvalidName" "ArithmeticError" false, .kitb "InvalidNumber" "ArithmeticError" false, .kitb "InvalidOffers" "ArithmeticError" false, .kitb "InvalidRead" "ArithmeticError" false]
def fb28 : List Fb := [.kitb "InvalidRows" "ArithmeticError" false, .kitb "InvalidText" "ArithmeticError" false, .kitb "InvalidTie" "ArithmeticError" false, .kitb "InvalidTies" "ArithmeticError" false, .kitb "InvalidTowns" "ArithmeticError" false, .kitb "InvalidWish" "ArithmeticError" false, .kitb "NotAWeb" "ArithmeticError" false, .kitb "TooMany" "ArithmeticError" true, .kitb "UnknownName" "ArithmeticError" false, .kitb "NoBits" "ArithmeticError" true, .kitb "NothingToUndo" "ArithmeticError" true, .exc "InvalidText", .exc "InvalidNumber", .exc "InvalidName", .exc "InvalidWish", .exc "InvalidIndex", .exc "InvalidTie", .exc "NotAWeb"]
def fb : List Fb := fb0 ++ fb1 ++ fb2 ++ fb3 ++ fb4 ++ fb5 ++ fb6 ++ fb7 ++ fb8 ++ fb9 ++ fb10 ++ fb11 ++ fb12 ++ fb13 ++ fb14 ++ fb15 ++ fb16 ++ fb17 ++ fb18 ++ fb19 ++ fb20 ++ fb21 ++ fb22 ++ fb23 ++ fb24 ++ fb25 ++ fb26 ++ fb27 ++ fb28
def fn0 : List Df := [d__law_drop, d__law_from, d__law_given_errors, d__law_sort, d__law_index_errors, d__law_right, d__law_phial_of, d_law, d_Apart___init__, d_Broken___init__, d_InvalidDoubts___init__, d_InvalidIndex___init__, d_InvalidLot___init__, d_InvalidName___init__, d_InvalidNumber___init__, d_InvalidOffers___init__, d_InvalidRead___init__, d_InvalidRows___init__, d_InvalidText___init__, d_InvalidTie___init__]
def fn1 : List Df := [d_InvalidTies___init__, d_InvalidTowns___init__, d_InvalidWish___init__, d_NotAWeb___init__, d_TooMany___init__, d_UnknownName___init__]
def fn : List Df := fn0 ++ fn1
end Lk01
set_option Elab.async false
set_option linter.all false
set_option maxRecDepth 100000
set_option maxHeartbeats 2000000
namespace DL
open PySem PySem.Spec PyProof.Rows L2 He
section
variable {β : Type}
def frN (n : Nat) (k : Nat → β) : β := match n with
  | 0 => k 0
  | m + 1 => k (Nat.succ m)
theorem frN_eq (n : Nat) (k : Nat → β) : frN n k = k n := by cases n <;> rfl
def frO (o : Obj) (k : Obj → β) : β := match o with
  | ⟨c, d, dt, sl⟩ => match dt with
    | .seq a b => k ⟨c, d, .seq a b, sl⟩
    | .fields a => k ⟨c, d, .fields a, sl⟩
    | .func a => k ⟨c, d, .func a, sl⟩
    | dt => k ⟨c, d, dt, sl⟩
theorem frO_eq (o : Obj) (k : Obj → β) : frO o k = k o := by
  obtain ⟨c, d, dt, sl⟩ := o
  cases dt <;> rfl
/-- those of a list that were not met yet (newest first), and what is met then -/
def newsM : List Addr → Nat → List Addr → (List Addr → Nat → β) → β
  | [], s, acc, k => k acc s
  | a :: r, s, acc, k => frN a fun a => match Nat.testBit s a with
    | true => newsM r s acc k
    | false => frN (Nat.lor s (Nat.shiftLeft 1 a)) fun s => newsM r s (a :: acc) k
theorem newsM_ex : ∀ (l : List Addr) (s : Nat) (acc : List Addr), ∃ r : List Addr × Nat, ∀ k : List Addr → Nat → β, newsM l s acc k = k r.1 r.2
  | [], s, acc => ⟨(acc, s), fun _ => rfl⟩
  | a :: l, s, acc => by
    cases q : Nat.testBit s a with
    | true =>
      obtain ⟨r, hr⟩ := newsM_ex l s acc
      refine ⟨r, fun k => ?_⟩
      unfold newsM
      rw [frN_eq]; simp only [q]; exact hr k
    | false =>
      obtain ⟨r, hr⟩ := newsM_ex l (Nat.lor s (Nat.shiftLeft 1 a)) (a :: acc)
      refine ⟨r, fun k => ?_⟩
      unfold newsM
      rw [frN_eq]; simp only [q]; rw [frN_eq]; exact hr k
/-- the objects themselves, put ahead of K; the tables of methods left out -/
def gatM (g : Addr → Option Obj) : List Addr → Fg → (Fg → β) → β
  | [], K, k => k K
  | a :: r, K, k => match g a with
    | none => gatM g r K k
    | some o => frO o fun o => match tbB o with
      | true => gatM g r K k
      | false => gatM g r ((a, o) :: K) k
theorem gatM_ex {g : Addr → Option Obj} : ∀ (l : List Addr) (K : Fg), (∀ p ∈ K, g p.1 = some p.2) → ∃ K' : Fg, (∀ p ∈ K', g p.1 = some p.2) ∧ ∀ k : Fg → β, gatM g l K k = k K'
  | [], K, h => ⟨K, h, fun _ => rfl⟩
  | a :: r, K, h => by
    cases q : g a with
    | none =>
      obtain ⟨K', h', e⟩ := gatM_ex r K h
      exact ⟨K', h', fun k => by unfold gatM; simp only [q]; exact e k⟩
    | some o =>
      cases z : tbB o with
      | true =>
        obtain ⟨K', h', e⟩ := gatM_ex r K h
        exact ⟨K', h', fun k => by unfold gatM; simp only [q]; rw [frO_eq]; simp only [z]; exact e k⟩
      | false =>
        obtain ⟨K', h', e⟩ := gatM_ex r ((a, o) :: K) (fun p hp => by
          rcases List.mem_cons.mp hp with rfl | hp
          · exact q
          · exact h p hp)
        exact ⟨K', h', fun k => by unfold gatM; simp only [q]; rw [frO_eq]; simp only [z]; exact e k⟩
def refsM (g : Addr → Option Obj) (as : List Addr) : List Addr := as.flatMap fun a => match g a with
  | some o => refsD o
  | none => []
/-- level by level; all that was met, newest first -/
def levM (g : Addr → Option Obj) : Nat → List Addr → Nat → List Addr → (List Addr → β) → β
  | 0, _, _, all, k => k all
  | n + 1, l, s, all, k => newsM (refsM g l) s [] fun l' s' => levM g n l' s' (l' ++ all) k
theorem levM_ex {g : Addr → Option Obj} : ∀ (n : Nat) (l : List Addr) (s : Nat) (all : List Addr), ∃ r : List Addr, ∀ k : List Addr → β, levM g n l s all k = k r
  | 0, l, s, all => ⟨all, fun _ => rfl⟩
  | n + 1, l, s, all => by
    obtain ⟨r, hr⟩ := newsM_ex (β := β) (refsM g l) s []
    obtain ⟨r', hr'⟩ := levM_ex (g := g) n r.1 r.2 (r.1 ++ all)
    exact ⟨r', fun k => by unfold levM; rw [hr]; exact hr' k⟩
def colM (g : Addr → Option Obj) (n : Nat) (k : Fg → β) : β := levM g n [mainGlobals] (Nat.shiftLeft 1 mainGlobals) [mainGlobals] fun all => gatM g (PySem.cStatics :: all) [] k
theorem colM_ex (g : Addr → Option Obj) (n : Nat) : ∃ K : Fg, (∀ p ∈ K, g p.1 = some p.2) ∧ ∀ k : Fg → β, colM g n k = k K := by
  obtain ⟨r, hr⟩ := levM_ex (β := β) (g := g) n [mainGlobals] (Nat.shiftLeft 1 mainGlobals) [mainGlobals]
  obtain ⟨K, hK, e⟩ := gatM_ex (β := β) (g := g) (PySem.cStatics :: r) [] (fun _ h => by cases h)
  exact ⟨K, hK, fun k => by unfold colM; rw [hr]; exact e k⟩
end
theorem fg_mem {a : Addr} {o : Obj} : ∀ {K : Fg}, K.lookup a = some o → (a, o) ∈ K
  | [], e => nomatch (show (none : Option Obj) = some o from e)
  | (b, ob) :: r, e => by
    have e2 : (match a == b with | true => some ob | false => List.lookup a r) = some o := e
    cases q : (a == b) with
    | true =>
      rw [q] at e2
      rw [beq_iff_eq.mp q, ← Option.some.inj e2]
      exact List.mem_cons_self
    | false =>
      rw [q] at e2
      exact List.mem_cons_of_mem _ (fg_mem e2)
def obsYM (n : Nat) (fa : List Fa) (fb : List Fb) (fn : List Df) (g : Addr → Option Obj) : Bool × AlY :=
  colM g n fun K => (tabsB g K, obsY fa fb fn K)
def hookYM (n : Nat) (fa : List Fa) (fb : List Fb) (fn : List Df) : PySem.W.Hook where
  α := Bool × AlY
  obs := fun s => obsYM n fa fb fn s.heap.get?
  val := fun _ => (true, valY fn)
  says := fun _ h => ∃ K : Fg, K.In h ∧ SaysY fa fb fn K ∧ TabsH K h
  of := fun _ s e => by
    obtain ⟨K, hK, q⟩ := colM_ex (β := Bool × AlY) s.heap.get? n
    have e1 : obsYM n fa fb fn s.heap.get? = (true, valY fn) := e
    unfold obsYM at e1
    rw [q] at e1
    have hin : K.In s.heap := fun a o h => hK _ (fg_mem h)
    exact ⟨K, hin, congrArg (fun z : Bool × AlY => z.2) e1, tabsB_ok hin (congrArg (fun z : Bool × AlY => z.1) e1)⟩
  keeps := fun _ _ _ ⟨K, hK, c, t⟩ k => ⟨K, PySem.W.Frag.In.keeps hK k, c, t.keeps k⟩
end DL
set_option Elab.async false
set_option linter.all false
set_option maxRecDepth 100000
set_option maxHeartbeats 0
namespace Lk01
open PySem PySem.Spec PyProof.Rows L2 He DL
abbrev Rr : PySem.W.OpenRow := PySem.W.OpenLaw.row PySem.Challenge.rw_bitplaces_k01_errors_and_limits
abbrev hk : PySem.W.Hook := hookYM 5 fa fb fn
def ob (s : PySem.W.SharedT) : Bool × AlY := obsYM 5 fa fb fn (HandSHeadRun.getT s)
def loose0 : List PySem.Str := ["WrongValue", "InvalidText", "InvalidNumber", "InvalidName", "InvalidWish", "InvalidIndex", "InvalidTie", "NotAWeb", "InvalidTowns", "InvalidTies", "InvalidLot", "InvalidRows", "InvalidRead", "InvalidOffers", "InvalidDoubts", "WrongName", "UnknownName", "NoAnswer", "Apart", "NoBits", "TooMany", "NothingToUndo", "Broken", "MOST_TOWNS", "MOST_TIES"]
def loose1 : List PySem.Str := ["MOST_OFFERS", "MOST_DOUBTS", "MOST_BITS", "_law_phial_of", "_law_drop", "_law_from", "_law_sort", "_law_given_errors", "_law_index_errors", "_law_right"]
def loose : List PySem.Str := loose0 ++ loose1
theorem run (w : World) : HandSHeadRun.RunEq Rr (PySem.W.view Rr.prog [37]) hk ob 40000 loose w := by
  intro os
  kernel_rfl
end Lk01
open PySem PySem.W PySem.Calls PyProof.Rows
set_option Elab.async false
set_option linter.all false
set_option maxRecDepth 100000
set_option maxHeartbeats 2000000
namespace DL
open PySem PySem.Spec PyProof.Rows L2
theorem SqX.t {K : Fg} {G : Hp} {a : Addr} {vs : List V} (h : SqX K G a vs) : SqT K G a vs := by
  rcases h with ⟨o, h, _⟩ | ⟨o, its, n, h1, h2, h3, h4, h5, h6⟩
  · exact .inl (.inr ⟨o, h⟩)
  · exact .inr ⟨o, its, n, h1, h2, h4, h5, h6⟩
theorem SqX.plain {X : Cx} {pins : List (Addr × Obj)} {σ : L2.St} {H : Hp} {s : Shared} {a : Addr} {vs : List V} (I : Inv X pins σ H s) (h : SqX X.K H a vs) : ∃ o, s.heap.get? a = some o ∧ o.dict = none ∧ o.cls = .type "tuple" := by
  rcases h with ⟨o, h, d⟩ | ⟨o, its, n, h1, h2, h3, _⟩
  · obtain ⟨e, _, its, _, o', e', hc, _⟩ := I.hok a _ h
    rw [e] at e'; cases e'
    exact ⟨o, e, d, hc⟩
  · exact ⟨o, I.kIn a o h1, h3, h2⟩
section
variable {K : Fg} {G G' : Hp}
theorem RpA.take {vs : List V} {ds : List D} (r : RpA K G vs ds) (n : Nat) : RpA K G (vs.take n) (ds.take n) := by
  induction ds generalizing vs n with
  | nil => cases r; simp; exact .nil
  | cons d ds ih => cases r with
    | cons r t => cases n with
      | zero => exact .nil
      | succ n => exact .cons r (ih t n)
theorem RpA.drop {vs : List V} {ds : List D} (r : RpA K G vs ds) (n : Nat) : RpA K G (vs.drop n) (ds.drop n) := by
  induction ds generalizing vs n with
  | nil => cases r; simp; exact .nil
  | cons d ds ih => cases r with
    | cons r t => cases n with
      | zero => exact .cons r t
      | succ n => exact ih t n
theorem RpA.reverse {vs : List V} {ds : List D} (r : RpA K G vs ds) : RpA K G vs.reverse ds.reverse := by
  induction ds generalizing vs with
  | nil => cases r; exact .nil
  | cons d0 ds ih => cases r with
    | cons r t => simp only [List.reverse_cons]; exact (ih t).append (.cons r .nil)
theorem RpA.eraseIdx {vs : List V} {ds : List D} (r : RpA K G vs ds) (i : Nat) : RpA K G (vs.eraseIdx i) (ds.eraseIdx i) := by
  induction ds generalizing vs i with
  | nil => cases r; exact .nil
  | cons d0 ds ih => cases r with
    | cons r t => cases i with
      | zero => exact t
      | succ n => exact .cons r (ih t n)
theorem RpA.ofInts : ∀ (ss : List Int), RpA K G (ss.map V.int) (ss.map D.int)
  | [] => .nil
  | s :: ss => .cons (.int s) (RpA.ofInts ss)
theorem RpF.look {vs : List (Str × V)} {ds : List (Str × D)} (r : RpF K G vs ds) {k : Str} {d : D} (h : ds.lookup k = some d) : ∃ v, vs.lookup k = some v ∧ Rp K G v d := by
  induction ds generalizing vs with
  | nil => simp at h
  | cons p ds ih => cases r with
    | cons r t =>
      rw [List.lookup_cons] at h ⊢
      split at h
      · cases h; exact ⟨_, rfl, r⟩
      · exact ih t h
end
section
variable {K : Fg} {G : Hp}
mutual
theorem Rp.dp {v : V} {d : D} : Rp K G v d → d.pure = true → Dp K G v d.py
  | .non, _ => .non
  | .bl b, _ => .bl b
  | .int i, _ => .int i
  | .str s, _ => .str s
  | .tup h r, p => .tup h.t (RpA.dp r (by simpa [D.pure] using p))
  | .lst h r, p => .lst (SqL.of h) (RpA.dp r (by simpa [D.pure] using p))
  | .scr _, p => by simp [D.pure] at p
  | .dct _ _, p => by simp [D.pure] at p
  | .ins _ _ _, p => by simp [D.pure] at p
  | .cls _, p => by simp [D.pure] at p
  | .exn0, p => by simp [D.pure] at p
  | .exn1 _ _, p => by simp [D.pure] at p
  | .clo _, p => by simp [D.pure] at p
  | .exv0 _, p => by simp [D.pure] at p
  | .exv1 _ _ _, p => by simp [D.pure] at p
theorem RpA.dp {vs : List V} {ds : List D} : RpA K G vs ds → pureA ds = true → DpAll K G vs (pyA ds)
  | .nil, _ => .nil
  | .cons r t, p => by
    simp only [pureA, Bool.and_eq_true] at p
    exact .cons (Rp.dp r p.1) (RpA.dp t p.2)
end
end
/-- a new object, frozen -/
theorem Ext.new {K : Fg} {G H : Hp} {p : Addr} {o : HO} (s : Same G H) (h : H p = none) : Ext K G H (upd G p o) (upd H p o) := by
  have gp : G p = none := s.free h
  refine .of (same_upd gp) (same_upd h) (fun b u e => ?_) fun b u e => ?_
  · by_cases hb : b = p
    · subst hb; rw [upd_same] at e ⊢; exact e
    · rw [upd_ne hb] at e ⊢; exact s b u e
  · by_cases hb : b = p
    · subst hb; exact .inr h
    · rw [upd_ne hb] at e; exact .inl e
section
variable {K : Fg} {θ : Nat → Addr} {G H G' H' : Hp} {σ : List (Option V)} {ρ : List Sl} {W fp : List Addr} {v : V} {o : Ow}
theorem Sts.val_at {i : Nat} {d : D} (h : Sts K θ G H σ ρ W) (e : ρ[i]? = some (.val d)) : ∃ v, σ[i]? = some (some v) ∧ Rp K G v d := by
  induction h generalizing i with
  | nil => simp at e
  | un _ ih => cases i with
    | zero => simp at e
    | succ i => simpa using ih (i := i) (by simpa using e)
  | val r _ ih => cases i with
    | zero => simp at e; subst e; exact ⟨_, rfl, r⟩
    | succ i => simpa using ih (i := i) (by simpa using e)
  | own r _ _ ih => cases i with
    | zero => simp at e
    | succ i => simpa using ih (i := i) (by simpa using e)
theorem Sts.own_at {i t : Nat} {o : Ow} (h : Sts K θ G H σ ρ W) (e : ρ[i]? = some (.own t o)) : ∃ v fp, σ[i]? = some (some v) ∧ Own K G H v o fp ∧ (∀ a ∈ fp, a ∈ W) ∧ (t = 0 ∨ v = .ref (θ t)) := by
  induction h generalizing i with
  | nil => simp at e
  | un _ ih => cases i with
    | zero => simp at e
    | succ i => simpa using ih (i := i) (by simpa using e)
  | val r _ ih => cases i with
    | zero => simp at e
    | succ i => simpa using ih (i := i) (by simpa using e)
  | own r tt _ ih => cases i with
    | zero => simp at e; obtain ⟨rfl, rfl⟩ := e; exact ⟨_, _, rfl, r, fun a ha => List.mem_append_left _ ha, tt⟩
    | succ i =>
      obtain ⟨v, fp, h1, h2, h3, h4⟩ := ih (i := i) (by simpa using e)
      exact ⟨v, fp, by simpa using h1, h2, fun a ha => List.mem_append_right _ (h3 a ha), h4⟩
end
end DL
set_option Elab.async false
set_option linter.all false
set_option maxRecDepth 100000
set_option maxHeartbeats 2000000
namespace DL
open PySem PySem.Spec PyProof.Rows L2
section
variable {Z Za : ZK} {K : Fg} {W : WX} {σ : L2.St} {θ : Nat → Addr} {G H G1 H1 : Hp} {ρ : List Sl} {Ws : List Addr} {r : R D} {Q Q' : VK} {d : D} {v : V}
theorem Pk.imp (h : Pk Z K W σ θ G ρ Ws H r Q) (q : ∀ v H', Q v H' → Q' v H') : Pk Z K W σ θ G ρ Ws H r Q' := by
  refine ⟨h.1, ?_⟩
  have h2 := h.2
  cases r with
  | ok d => exact fun v G' H' e' z => q _ _ (h2 v G' H' e' z)
  | ex x => exact h2
  | st => exact h2
/-- a new object, frozen -/
theorem Pk.new {p : Addr} {o : HO} (h : Pk Z K W σ θ G ρ Ws H (.ok d) Q) (hp : H p = none) (z : Z K (upd G p o) (upd H p o) (.ref p) d) : Q (.ref p) (upd H p o) :=
  h.2 _ _ _ (Ext.new h.1.same hp) z
end
theorem new_lst {K : Fg} {G H : Hp} {p : Addr} {vs : List V} {ds : List D} (hp : H p = none) (s : Same G H) (r : RpA K G vs ds) : Rp K (upd G p (.lst vs)) (.ref p) (.lst ds) :=
  .lst upd_same (r.mono (same_upd (s.free hp)))
theorem new_tup {K : Fg} {G H : Hp} {p : Addr} {o : Obj} {vs : List V} {ds : List D} (hp : H p = none) (ho : o.dict = none) (s : Same G H) (r : RpA K G vs ds) : Rp K (upd G p (.frz o (.tup vs))) (.ref p) (.tup ds) :=
  .tup (.inl ⟨o, upd_same, ho⟩) (r.mono (same_upd (s.free hp)))
/-- a new plain tuple laid -/
theorem tup_laid {X : Cx} {pins : List (Addr × Obj)} {σ : L2.St} {H : Hp} {s : Shared} {vs : List V} {its : List Value} {t' : Nat} (I : Inv X pins σ H s) (z : vs.length ≤ sizeLine) (r : Vals vs its) :
    Inv X pins σ (upd H s.heap.objs.size (.frz { cls := .type "tuple", data := .seq its.toArray } (.tup vs))) { s with heap := s.heap.push { cls := .type "tuple", data := .seq its.toArray }, toks := t' } :=
  I.laid (fun b u e => Heap.get?_push_of_some _ e) (Nat.le_refl _) ⟨Heap.get?_push_size _ rfl, z, its, r, ⟨_, Heap.get?_push_size _ rfl, rfl, _, rfl⟩⟩
def tTupX (t : TA) : TE := fun σ H Q => t σ H fun xs H1 => xs.length ≤ sizeLine ∧ ∀ p o, H1 p = none → o.dict = none → Q (.ref p) (upd H1 p (.frz o (.tup xs)))
theorem pe_tupX {X : Cx} {es : List Expr} {t : TA} {x1} {pos : Pos} (h : PA X es t) : PE X (.Tuple es x1 pos) (tTupX t) := ⟨fun pins s σ H Q I hq =>
  wpAny_Tuple_spliced (thn (h.run pos pins s σ H _ I hq) fun us s1 ⟨xs, H1, I1, r, z, q⟩ => ⟨by rw [← r.length]; exact z, ⟨.ref s1.heap.objs.size, _, tup_laid (t' := s1.toks) I1 z r, rfl, q _ _ (I1.hok.fresh (Nat.le_refl _)) rfl⟩⟩)⟩
abbrev DQ := DZ Zh
abbrev DR := DZ Zd
/-- a reading by a stronger one -/
theorem PE.conseq {X : Cx} {e : Expr} {t t' : TE} (h : PE X e t) (w : ∀ σ H Q, t' σ H Q → t σ H Q) : PE X e t' := ⟨fun pins s σ H Q I q => h.run pins s σ H Q I (w _ _ _ q)⟩
theorem PT.conseq {X : Cx} {e : Expr} {t t' : TT} (h : PT X e t) (w : ∀ σ H Q, t' σ H Q → t σ H Q) : PT X e t' := ⟨fun pins s σ H Q I q => h.run pins s σ H Q I (w _ _ _ q)⟩
theorem PW.conseq {X : Cx} {e : Expr} {t t' : TT} (h : PW X e t) (w : ∀ σ H Q, t' σ H Q → t σ H Q) : PW X e t' := ⟨fun wh pins s σ H Q I q => h.run wh pins s σ H Q I (w _ _ _ q)⟩
theorem PA.conseq {X : Cx} {e : List Expr} {t t' : TA} (h : PA X e t) (w : ∀ σ H Q, t' σ H Q → t σ H Q) : PA X e t' := ⟨fun pos pins s σ H Q I q => h.run pos pins s σ H Q I (w _ _ _ q)⟩
theorem PS.conseq {X : Cx} {e : Stmt} {t t' : TS} (h : PS X e t) (w : ∀ D σ H, t' D σ H → t D σ H) : PS X e t' := ⟨fun pins s σ H D I q => h.run pins s σ H D I (w _ _ _ q)⟩
theorem PSs.conseq {X : Cx} {e : List Stmt} {t t' : TS} (h : PSs X e t) (w : ∀ D σ H, t' D σ H → t D σ H) : PSs X e t' := ⟨fun pins s σ H D I q => h.run pins s σ H D I (w _ _ _ q)⟩
section
variable {X : Cx} {W : WX} {e a b c : Expr} {g fa fb fc : List Sl → R D} {pos : Pos} {Z Za Zb : ZK}
theorem DZ.weak [ZOk Z] (h : DP X W e g) : DZ Z X W e g := ⟨PE.conseq h.run fun σ H Q ⟨θ, G, ρ, Ws, q⟩ => ⟨θ, G, ρ, Ws, q.1, by
  have q2 := q.2
  cases hg : g ρ with
  | ok d => rw [hg] at q2; exact fun v G' H' e z => q2 v G' H' e (ZOk.of e.s z)
  | ex x => rw [hg] at q2; exact q2
  | st => rw [hg] at q2; exact q2⟩⟩
theorem DZ.dirty [ZOk Z] (h : DZ Z X W e g) : DR X W e g := ⟨PE.conseq h.run fun σ H Q ⟨θ, G, ρ, Ws, q⟩ => ⟨θ, G, ρ, Ws, q.1, by
  have q2 := q.2
  cases hg : g ρ with
  | ok d => rw [hg] at q2; exact fun v G' H' e z => q2 v G' H' e (ZOk.now e.s z)
  | ex x => rw [hg] at q2; exact q2
  | st => rw [hg] at q2; exact q2⟩⟩
theorem dp_var {i : Nat} {x : Str} (h : PE X (.Name x pos) (tVar i)) : DP X W (.Name x pos) (pVar i) := ⟨PE.conseq h fun σ H Q ⟨θ, G, ρ, Ws, q⟩ => by
  unfold pVar at q
  cases e : ρ[i]? with
  | none => rw [e] at q; exact q.2.elim
  | some s =>
    rw [e] at q
    cases s with
    | val d =>
      obtain ⟨v, h1, h2⟩ := q.1.sts.val_at e
      exact ⟨v, h1, q.val h2⟩
    | un => exact q.2.elim
    | own _ _ => exact q.2.elim⟩
theorem dq_var {i : Nat} {x : Str} (h : PE X (.Name x pos) (tVar i)) : DQ X W (.Name x pos) (pVarQ i) := ⟨PE.conseq h fun σ H Q ⟨θ, G, ρ, Ws, q⟩ => by
  unfold pVarQ at q
  cases e : ρ[i]? with
  | none => rw [e] at q; exact q.2.elim
  | some s =>
    rw [e] at q
    cases s with
    | val d =>
      obtain ⟨v, h1, h2⟩ := q.1.sts.val_at e
      exact ⟨v, h1, q.val (.inl h2)⟩
    | un => exact q.2.elim
    | own t o =>
      cases o with
      | lst ds =>
        obtain ⟨v, fp, h1, h2, _⟩ := q.1.sts.own_at e
        cases h2 with
        | lst h2 h3 => exact ⟨_, h1, q.val (.inr ⟨_, _, _, rfl, rfl, h2, h3⟩)⟩
      | _ => exact q.2.elim⟩
theorem LLs.now {K : Fg} {G H : Hp} (s : Same G H) {as : List Addr} {dss : List (List D)} (h : LLs K G H as dss) : RpA K H (as.map V.ref) (dss.map D.lst) := by
  induction h with
  | nil => exact .nil
  | cons h r _ ih => exact .cons (.lst h (r.mono s)) ih
theorem dp_c {v : V} {d : D} (h : PE X e (tC v)) (r : ∀ G, Rp X.K G v d) : DP X W e (pC d) := ⟨PE.conseq h fun σ H Q ⟨θ, G, ρ, Ws, q⟩ => q.val (r G)⟩
theorem dp_int {i : Int} {j} : DP X W (.Constant (.int i) j pos) (pC (.int i)) := dp_c pe_int fun _ => .int i
theorem dp_bl {i : Bool} {j} : DP X W (.Constant (.bool i) j pos) (pC (.bl i)) := dp_c pe_bl fun _ => .bl i
theorem dp_non {j} : DP X W (.Constant .none j pos) (pC .non) := dp_c pe_non fun _ => .non
theorem dp_str {i : Str} {j} : DP X W (.Constant (.str i) j pos) (pC (.str i)) := dp_c pe_str fun _ => .str i
/-- by values: one, two, three operands -/
def Op1 (K : Fg) (Za : ZK) (r : V → Hp → VK → Prop) (f : D → R D) : Prop := ∀ {W σ θ G ρ Ws H x a Q}, Za K G H x a → Pk Zc K W σ θ G ρ Ws H (f a) Q → r x H Q
def Op2 (K : Fg) (Za Zb : ZK) (r : V → V → Hp → VK → Prop) (f : D → D → R D) : Prop := ∀ {W σ θ G ρ Ws H x y a b Q}, Za K G H x a → Zb K G H y b → Pk Zc K W σ θ G ρ Ws H (f a b) Q → r x y H Q
theorem tZ_1 [ZOk Za] {r : V → Hp → VK → Prop} {f : D → R D} {K : Fg} (op : Op1 K Za r f) {σ H Q} (h : tZ Zc K W (p1 f fa) σ H Q) : tZ Za K W fa σ H fun x H1 => r x H1 Q := by
  obtain ⟨θ, G, ρ, Ws, q⟩ := h
  exact ⟨θ, G, ρ, Ws, (q.bind (Za := Za)).imp fun x H1 ⟨d, G1, _, e, z, q1⟩ => op z q1⟩
theorem tZ_2 [ZOk Za] [ZOk Zb] {r : V → V → Hp → VK → Prop} {f : D → D → R D} {K : Fg} (op : Op2 K Za Zb r f) {σ H Q} (h : tZ Zc K W (p2 f fa fb) σ H Q) : tZ Za K W fa σ H fun x H1 => tZ Zb K W fb σ H1 fun y H2 => r x y H2 Q := by
  obtain ⟨θ, G, ρ, Ws, q⟩ := h
  exact ⟨θ, G, ρ, Ws, (q.bind (Za := Za)).imp fun x H1 ⟨d, G1, _, e, z, q1⟩ => ⟨θ, G1, ρ, Ws, (q1.bind (Za := Zb)).imp fun y H2 ⟨d2, G2, _, e2, z2, q2⟩ => op (ZOk.ext e2 z) z2 q2⟩⟩
/-- x op y -/
theorem dp_bin [ZOk Za] [ZOk Zb] {op : Operator} {r : R2} {f : D → D → R D} (ho : OpR X (binaryOp op) r) (hd : Op2 X.K Za Zb r f) (ha : DZ Za X W a fa) (hb : DZ Zb X W b fb) : DP X W (.BinOp a op b pos) (p2 f fa fb) :=
  ⟨PE.conseq (pe_op ho ha.run hb.run) fun _ _ _ h => tZ_2 hd h⟩
theorem dp_un [ZOk Za] {op : UnaryOp} {r} {f : D → R D} (ho : UnR X (unaryOp op) r) (hd : Op1 X.K Za r f) (ha : DZ Za X W a fa) : DP X W (.UnaryOp op a pos) (p1 f fa) :=
  ⟨PE.conseq (pe_un ho ha.run) fun _ _ _ h => tZ_1 hd h⟩
theorem dp_cmp [ZOk Za] [ZOk Zb] {op : CmpOp} {r : R2} {f : D → D → R D} (ho : OpR X (compareOp op) r) (hd : Op2 X.K Za Zb r f) (ha : DZ Za X W a fa) (hb : DZ Zb X W b fb) (hm : behindInMarks op b = false) : DP X W (.Compare a [op] [b] pos) (p2 f fa fb) :=
  ⟨PE.conseq (pe_cmpR ho ha.run hb.run hm) fun _ _ _ h => tZ_2 hd h⟩
/-- x[i] -/
theorem dp_ix [ZOk Za] [ZOk Zb] {r : R2} {f : D → D → R D} (ho : IxR X r) (hd : Op2 X.K Za Zb r f) (ha : DZ Za X W a fa) (hb : DZ Zb X W b fb) (hs : PlainIx b) : DP X W (.Subscript a b pos) (p2 f fa fb) :=
  ⟨PE.conseq (pe_ix ho ha.run hb.run hs) fun _ _ _ h => tZ_2 hd h⟩
/-- f(a), f(a, b): what is built in, by the rule of its call -/
theorem dp_call1 [ZOk Za] {r : List V → Hp → VK → Prop} {f : D → R D} (hd : Op1 X.K Za (fun x => r [x]) f) (ha : DZ Za X W a fa) (hpe : ∀ t, PA X [a] t → PE X e (tCB r t))
    (hs : starEach [a] X.env = (false, eval a X.env) :: starEach [] X.env := by rfl) : DP X W e (p1 f fa) :=
  ⟨PE.conseq (hpe _ (pa_cons ha.run pa_nil hs)) fun _ _ _ h => tZ_1 hd h⟩
theorem dp_call2 [ZOk Za] [ZOk Zb] {r : List V → Hp → VK → Prop} {f : D → D → R D} (hd : Op2 X.K Za Zb (fun x y => r [x, y]) f) (ha : DZ Za X W a fa) (hb : DZ Zb X W b fb) (hpe : ∀ t, PA X [a, b] t → PE X e (tCB r t))
    (hs : starEach [a, b] X.env = (false, eval a X.env) :: starEach [b] X.env := by rfl) (hs2 : starEach [b] X.env = (false, eval b X.env) :: starEach [] X.env := by rfl) : DP X W e (p2 f fa fb) :=
  ⟨PE.conseq (hpe _ (pa_cons ha.run (pa_cons hb.run pa_nil hs2) hs)) fun _ _ _ h => tZ_2 hd h⟩
section
variable {K : Fg} {σ : L2.St} {θ : Nat → Addr} {G H G1 H1 : Hp} {ρ : List Sl} {Ws : List Addr} {r : R Bool} {Q Q' : Bool → Hp → Prop}
theorem Tk.imp (h : Tk K W σ θ G ρ Ws H r Q) (q : ∀ v H', Q v H' → Q' v H') : Tk K W σ θ G ρ Ws H r Q' := by
  refine ⟨h.1, ?_⟩
  have h2 := h.2
  cases r with
  | ok d => exact fun G' H' e' => q _ _ (h2 G' H' e')
  | ex x => exact h2
  | st => exact h2
theorem Tk.pk {r : R D} {k : D → R Bool} {Z : ZK} (h : Tk K W σ θ G ρ Ws H (r.bind k) Q) : Pk Z K W σ θ G ρ Ws H r (fun v H1 => ∃ d G1, r = .ok d ∧ Ext K G H G1 H1 ∧ Z K G1 H1 v d ∧ Tk K W σ θ G1 ρ Ws H1 (k d) Q) := by
  refine ⟨h.1, ?_⟩
  cases r with
  | ok d => exact fun v G' H' e' z => ⟨d, G', rfl, e', z, Tk.ext h e'⟩
  | ex x => exact h.2
  | st => exact h.2
theorem Pk.tk {r : R Bool} {k : Bool → R D} {Z : ZK} {Q : VK} (h : Pk Z K W σ θ G ρ Ws H (r.bind k) Q) : Tk K W σ θ G ρ Ws H r (fun c H1 => ∃ G1, r = .ok c ∧ Ext K G H G1 H1 ∧ Pk Z K W σ θ G1 ρ Ws H1 (k c) Q) := by
  refine ⟨h.1, ?_⟩
  cases r with
  | ok d => exact fun G' H' e' => ⟨G', rfl, e', Pk.ext h e'⟩
  | ex x => exact h.2
  | st => exact h.2
end
theorem dt_val (h : DP X W e g) (he : ∀ whole, isTrue e X.env whole = (do let v ← whole; standAt e.pos; holding [v] (truthy v)) := by intro _; rfl) : DT X W e (b1 asB g) :=
  ⟨PT.conseq (pt_val h.run he) fun σ H Q ⟨θ, G, ρ, Ws, q⟩ => ⟨θ, G, ρ, Ws, (Tk.pk q).imp fun v H1 ⟨d, G1, _, e, z, q1⟩ => by
    cases d with
    | bl b => cases z; exact ⟨_, rfl, q1.val⟩
    | _ => exact q1.2.elim⟩⟩
theorem dw_or1 {f : List Sl → R Bool} (h : DT X W a f) : DW X W (.BoolOp .Or [a] pos) f := ⟨pw_or1 h.run⟩
theorem dw_or {f f' : List Sl → R Bool} {rest : List Expr} (h : DT X W a f) (h' : DW X W (.BoolOp .Or (b :: rest) pos) f') : DW X W (.BoolOp .Or (a :: b :: rest) pos) (bOr f f') :=
  ⟨PW.conseq (pw_or h.run h'.run) fun σ H Q ⟨θ, G, ρ, Ws, q⟩ => ⟨θ, G, ρ, Ws, (Tk.bind q).imp fun c H1 ⟨G1, _, e, q1⟩ => by
    cases c with
    | true => exact iteT q1.val
    | false => exact iteF ⟨θ, G1, ρ, Ws, q1⟩⟩⟩
def notD : D → R D
  | .bl b => .ok (.bl !b)
  | _ => .st
theorem dp_if {t : List Sl → R Bool} (hc : DT X W c t) (ha : DZ Z X W a fa) (hb : DZ Z X W b fb) : DZ Z X W (.IfExp c a b pos) (pIf t fa fb) :=
  ⟨PE.conseq (pe_ifExp hc.run ha.run hb.run) fun σ H Q ⟨θ, G, ρ, Ws, q⟩ => ⟨θ, G, ρ, Ws, (Pk.tk q).imp fun c H1 ⟨G1, _, e, q1⟩ => by
    cases c with
    | true => exact iteT ⟨θ, G1, ρ, Ws, q1⟩
    | false => exact iteF ⟨θ, G1, ρ, Ws, q1⟩⟩⟩
def tA (K : Fg) (W : WX) (g : List Sl → R (List D)) : TA := fun σ H Q => ∃ θ G ρ Ws, Ak K W σ θ G ρ Ws H (g ρ) Q
structure DA (X : Cx) (W : WX) (es : List Expr) (g : List Sl → R (List D)) : Prop where
  run : PA X es (tA X.K W g)
section
variable {K : Fg} {σ : L2.St} {θ : Nat → Addr} {G H G1 H1 : Hp} {ρ : List Sl} {Ws : List Addr} {r : R (List D)} {Q Q' : List V → Hp → Prop}
theorem Ak.imp (h : Ak K W σ θ G ρ Ws H r Q) (q : ∀ v H', Q v H' → Q' v H') : Ak K W σ θ G ρ Ws H r Q' := by
  refine ⟨h.1, ?_⟩
  have h2 := h.2
  cases r with
  | ok d => exact fun v G' H' e' z => q _ _ (h2 v G' H' e' z)
  | ex x => exact h2
  | st => exact h2
theorem Ak.pk {r : R D} {k : D → R (List D)} {Z : ZK} (h : Ak K W σ θ G ρ Ws H (r.bind k) Q) : Pk Z K W σ θ G ρ Ws H r (fun v H1 => ∃ d G1, r = .ok d ∧ Ext K G H G1 H1 ∧ Z K G1 H1 v d ∧ Ak K W σ θ G1 ρ Ws H1 (k d) Q) := by
  refine ⟨h.1, ?_⟩
  cases r with
  | ok d => exact fun v G' H' e' z => ⟨d, G', rfl, e', z, Ak.ext h e'⟩
  | ex x => exact h.2
  | st => exact h.2
theorem Pk.ak {r : R (List D)} {k : List D → R D} {Z : ZK} {Q : VK} (h : Pk Z K W σ θ G ρ Ws H (r.bind k) Q) : Ak K W σ θ G ρ Ws H r (fun v H1 => ∃ d G1, r = .ok d ∧ Ext K G H G1 H1 ∧ RpA K G1 v d ∧ Pk Z K W σ θ G1 ρ Ws H1 (k d) Q) := by
  refine ⟨h.1, ?_⟩
  cases r with
  | ok d => exact fun v G' H' e' z => ⟨d, G', rfl, e', z, Pk.ext h e'⟩
  | ex x => exact h.2
  | st => exact h.2
end
theorem da_nil : DA X W [] aNil := ⟨PA.conseq pa_nil fun σ H Q ⟨θ, G, ρ, Ws, q⟩ => q.2 _ _ _ (Ext.refl q.1.same) .nil⟩
theorem da_cons {es : List Expr} {ga : List Sl → R (List D)} (h : DP X W e g) (t : DA X W es ga) (hs : starEach (e :: es) X.env = (false, eval e X.env) :: starEach es X.env := by rfl) : DA X W (e :: es) (aCons g ga) :=
  ⟨PA.conseq (pa_cons h.run t.run hs) fun σ H Q ⟨θ, G, ρ, Ws, q⟩ => ⟨θ, G, ρ, Ws, (Ak.pk (Z := Zc) q).imp fun v H1 ⟨d, G1, _, e1, z, q1⟩ => ⟨θ, G1, ρ, Ws, (Ak.bind q1).imp fun vs H2 ⟨ds, G2, _, e2, z2, q2⟩ =>
    q2.2 _ _ _ (Ext.refl q2.1.same) (.cons (Rp.mono e2.g z) z2)⟩⟩⟩
def mkT (ds : List D) : R D := if fits ds then .ok (.tup ds) else .st
theorem dp_tup {es : List Expr} {ga : List Sl → R (List D)} {x1} (h : DA X W es ga) : DP X W (.Tuple es x1 pos) (pA mkT ga) :=
  ⟨PE.conseq (pe_tupX h.run) fun σ H Q ⟨θ, G, ρ, Ws, q⟩ => ⟨θ, G, ρ, Ws, (Pk.ak q).imp fun vs H1 ⟨ds, G1, _, e1, z, q1⟩ => by
    unfold mkT at q1
    by_cases hf : fits ds = true
    · rw [if_pos hf] at q1
      exact ⟨by rw [z.length]; exact of_decide_eq_true hf, fun p o hp ho => q1.new hp (new_tup hp ho q1.same z)⟩
    · rw [if_neg hf] at q1; exact q1.2.elim⟩⟩
def Fk (K : Fg) (W : WX) (σ : L2.St) (θ : Nat → Addr) (G : Hp) (ρ : List Sl) (Ws : List Addr) (H : Hp) (r : R D) (Q : VK) : Prop :=
  Stt K θ G H σ ρ Ws ∧ match r with
    | .ok (.lst ds) => ∀ p vs G' H', Ext K G H G' H' → H p = none → G' p = none → H' p = some (.lst vs) → RpA K G' vs ds → Q (.ref p) H'
    | .ok _ => False
    | .ex x => ∀ d G' H', Ext K G H G' H' → XkOk K G' H' x d → W (.ref x.cls) d σ H'
    | .st => False
def tF (K : Fg) (W : WX) (g : List Sl → R D) : TE := fun σ H Q => ∃ θ G ρ Ws, Fk K W σ θ G ρ Ws H (g ρ) Q
structure DF (X : Cx) (W : WX) (e : Expr) (g : List Sl → R D) : Prop where
  run : PE X e (tF X.K W g)
theorem Ext.froze {K : Fg} {G H G' H' : Hp} {p : Addr} {o : HO} (e : Ext K G H G' H') (h0 : H p = none) (g0 : G' p = none) (h1 : H' p = some o) : Ext K G H (upd G' p o) H' := by
  refine ⟨e.g.trans (same_upd g0), e.h, fun b u q => ?_, fun b u q => ?_, e.al, e.tb⟩
  · by_cases hb : b = p
    · subst hb; rw [upd_same] at q; cases q; exact h1
    · rw [upd_ne hb] at q; exact e.s b u q
  · by_cases hb : b = p
    · subst hb; exact .inr h0
    · rw [upd_ne hb] at q; exact e.nw b u q
theorem tF_of {K : Fg} {σ : L2.St} {H : Hp} {Q : VK} (h : tZ Zc K W (p1 isL g) σ H Q) : tF K W g σ H Q := by
  obtain ⟨θ, G, ρ, Ws, q⟩ := h
  exact ⟨θ, G, ρ, Ws, q.1, by
  have q2 := q.2
  unfold p1 at q2
  cases hg : g ρ with
  | ok d =>
    rw [hg] at q2
    cases d with
    | lst ds => exact fun p vs G' H' e h0 g0 h1 r => q2 _ _ _ (e.froze h0 g0 h1) (.lst upd_same (r.mono (same_upd g0)))
    | _ => exact q2
  | ex x => rw [hg] at q2; exact q2
  | st => rw [hg] at q2; exact q2⟩
theorem DF.dp (h : DF X W e g) : DP X W e (p1 isL g) := ⟨PE.conseq h.run fun _ _ _ => tF_of⟩
theorem df_lst {es : List Expr} {ga : List Sl → R (List D)} (h : DA X W es ga) : DF X W (.List es pos) (pA mkL ga) :=
  ⟨PE.conseq (pe_lst h.run) fun σ H Q ⟨θ, G, ρ, Ws, q⟩ => ⟨θ, G, ρ, Ws, q.1, by
    have q2 := q.2
    unfold pA at q2
    cases hg : ga ρ with
    | ok ds =>
      rw [hg] at q2
      have q2 : match mkL ds with | .ok (.lst ds) => ∀ p vs G' H', Ext X.K G H G' H' → H p = none → G' p = none → H' p = some (.lst vs) → RpA X.K G' vs ds → Q (.ref p) H' | .ok _ => False | .ex x => ∀ d G' H', Ext X.K G H G' H' → XkOk X.K G' H' x d → W (.ref x.cls) d σ H' | .st => False := q2
      intro vs G1 H1 e1 z
      unfold mkL at q2
      by_cases hf : fits ds = true
      · rw [if_pos hf] at q2
        refine ⟨by rw [z.length]; exact of_decide_eq_true hf, fun p hp => q2 p vs G1 _ (e1.trans (Ext.aside e1.s hp)) (e1.al _ hp) (e1.s.free hp) upd_same z⟩
      · rw [if_neg hf] at q2; exact q2.elim
    | ex x => rw [hg] at q2; exact q2
    | st => rw [hg] at q2; exact q2⟩⟩
end
end DL
set_option Elab.async false
set_option linter.all false
set_option maxRecDepth 100000
set_option maxHeartbeats 4000000
namespace DL
open PySem PySem.Spec PySem.SeqAt PySem.MeetsSeq PySem.Builtin
end DL
namespace DL
open PySem PySem.Spec PySem.SeqAt PySem.MeetsSeq PySem.Builtin PyProof.Rows L2
end DL
namespace DL
open PySem PySem.Spec PySem.SeqAt PySem.MeetsSeq PySem.Builtin PyProof.Rows L2
/-- a list with items and an empty one -/
def rL0 (K : Fg) (neg : Bool) : R2 := fun x y H Q => ∃ (a b : Addr) (x0 : V) (xs : List V), x = .ref a ∧ [y] = [V.ref b] ∧ SqL K H a (x0 :: xs) ∧ SqL K H b [] ∧ Q (.bl neg) H
theorem op_eqL0 {X : Cx} (hu : X.A.units + 64 < cLine) : OpR X (compareOp .Eq) (rL0 X.K false) := by
  intro pins s σ H x y v u Q I rx ry h
  obtain ⟨a, b, x0, xs, rfl, hy, ha, hb, q⟩ := h
  cases hy
  cases rx; cases ry
  obtain ⟨its, rv, t1, _⟩ := I.list ha
  obtain ⟨its2, rv2, t2, _⟩ := I.list hb
  cases rv2
  cases rv with
  | cons r1 r2 =>
    exact SeqAt.eq_list_lengthsAt t1.isList t2.isList (by simp) (by omega) ⟨.bl _, H, I, rfl, q⟩
theorem op_neL0 {X : Cx} (hu : X.A.units + 64 < cLine) : OpR X (compareOp .NotEq) (rL0 X.K true) := by
  intro pins s σ H x y v u Q I rx ry h
  obtain ⟨a, b, x0, xs, rfl, hy, ha, hb, q⟩ := h
  cases hy
  cases rx; cases ry
  obtain ⟨its, rv, t1, _⟩ := I.list ha
  obtain ⟨its2, rv2, t2, _⟩ := I.list hb
  cases rv2
  cases rv with
  | cons r1 r2 =>
    exact SeqAt.RcNeAt.lists_lengths t1.isList t2.isList (by simp) (by omega) _ _ _ _ ⟨.bl _, H, I, rfl, q⟩
end DL
set_option Elab.async false
set_option linter.all false
set_option maxRecDepth 100000
set_option maxHeartbeats 2000000
namespace DL
open PySem PySem.Spec PyProof.Rows L2
section
variable {K : Fg} {G H : Hp} {W : WX} {σ : L2.St} {θ : Nat → Addr} {ρ : List Sl} {Ws : List Addr} {Q : VK} {v : V}
/-- an end that is not there -/
theorem Pk.no {Z : ZK} {C : Prop} (h : Pk Z K W σ θ G ρ Ws H .st Q) : C := h.2.elim
end
section
variable {X : Cx}
def rCatX (K : Fg) : R2 := fun x y H Q => ∃ a b xs ys, x = .ref a ∧ y = .ref b ∧ SqT K H a xs ∧ SqT K H b ys ∧ xs.length + ys.length ≤ sizeLine ∧
  (xs = [] → Q (.ref b) H) ∧ (xs ≠ [] → ys = [] → Q (.ref a) H) ∧ (xs ≠ [] → ys ≠ [] → ∀ p o, H p = none → o.dict = none → Q (.ref p) (upd H p (.frz o (.tup (xs ++ ys)))))
theorem op_catX : OpR X (binaryOp .Add) (rCatX X.K) := by
  intro pins s σ H x y v u Q I rx ry h
  obtain ⟨a, b, xs, ys, rfl, rfl, ha, hb, hz, q0, q1, q2⟩ := h
  cases rx
  cases ry
  obtain ⟨its, r1, p1, _⟩ := I.tuple ha
  obtain ⟨its2, r2, p2, _⟩ := I.tuple hb
  by_cases hx : xs = []
  · subst hx
    cases r1
    exact cat_tup0 p1 p2 ⟨.ref b, H, I, rfl, q0 rfl⟩
  · refine HT.cat_tup p1 p2 (fun z => hx (r1.nil_iff.mp z)) (fun z => ⟨.ref a, H, I, rfl, q1 hx (r2.nil_iff.mp z)⟩) (fun z => ?_) (by rw [← r1.length, ← r2.length]; exact hz)
    exact ⟨.ref s.heap.objs.size, _, tup_laid (t' := s.toks) I (by rw [List.length_append]; exact hz) (r1.append r2), rfl, q2 hx (fun w => z (r2.nil_iff.mpr w)) _ _ (I.hok.fresh (Nat.le_refl _)) rfl⟩
def rSlX (K : Fg) : V → Option Int → Option Int → Hp → VK → Prop := fun x lo hi H Q => ∃ a xs, x = .ref a ∧ SqT K H a xs ∧
  (HT.sIx xs.length 0 lo = 0 ∧ HT.sIx xs.length xs.length hi = xs.length → Q (.ref a) H) ∧ (¬ (HT.sIx xs.length 0 lo = 0 ∧ HT.sIx xs.length xs.length hi = xs.length) → ∀ p o, H p = none → o.dict = none → Q (.ref p) (upd H p (.frz o (.tup (cutV xs lo hi)))))
theorem sl_tupX : SlR X (rSlX X.K) := by
  intro pins s σ H x v vl vu lo hi sl Q I rx hs pl pu h
  obtain ⟨a, xs, rfl, hx, q1, q2⟩ := h
  cases rx
  obtain ⟨its, r, ht, hz⟩ := I.tuple hx
  have hl : its.toArray.size = xs.length := by rw [List.size_toArray]; exact r.length.symm
  by_cases hw : HT.sIx xs.length 0 lo = 0 ∧ HT.sIx xs.length xs.length hi = xs.length
  · exact ⟨"tuple", _, PyProof.Rows.slot_tuple_getitem.lookup, ht.typeIs, getItem_tuple_whole ht hs pl pu (by rw [hl]; exact hw) ⟨.ref a, H, I, rfl, q1 hw⟩⟩
  · refine ⟨"tuple", _, PyProof.Rows.slot_tuple_getitem.lookup, ht.typeIs, HT.getItem_tuple_cut ht hs pl pu (by rw [hl]; exact hw) ?_ (by rw [hl]; exact hz)⟩
    rw [hl]
    exact ⟨.ref s.heap.objs.size, _, tup_laid (t' := s.toks) I (Nat.le_trans (cutV_length xs lo hi) hz) ((r.drop (HT.sIx xs.length 0 lo)).take (HT.sIx xs.length xs.length hi - HT.sIx xs.length 0 lo)), rfl, q2 hw _ _ (I.hok.fresh (Nat.le_refl _)) rfl⟩
end
def rAddA (K : Fg) : R2 := fun x y H Q => (rI0 fun i j => .int (i + j)) x y H Q ∨ (∃ i j, x = .str i ∧ y = .str j ∧ i.length + j.length ≤ sizeLine ∧ Q (.str (i ++ j)) H) ∨ rCatX K x y H Q ∨ rCat x y H Q
theorem opA_add {X : Cx} : OpR X (binaryOp .Add) (rAddA X.K) := OpR.or op_add (OpR.or op_add_str (OpR.or op_catX op_cat))
theorem od_add {K : Fg} : Op2 K Zh Zh (rAddA K) addD := by
  intro W σ θ G ρ Ws H x y a b Q hx hy q
  have s := q.same
  unfold addD at q
  split at q
  · exact .inl ⟨_, _, hx.int, hy.int, q.val (.int _)⟩
  · split at q
    · rename_i h; exact .inr (.inl ⟨_, _, hx.str, hy.str, h, q.val (.str _)⟩)
    · exact q.no
  · split at q
    · rename_i xs ys h
      obtain ⟨a, vs, rfl, h1, r1⟩ := hx.tup s
      obtain ⟨b, us, rfl, h2, r2⟩ := hy.tup s
      have hz : vs.length + us.length ≤ sizeLine := by rw [r1.length, r2.length]; exact h
      refine .inr (.inr (.inl ⟨a, b, vs, us, rfl, rfl, h1.t, h2.t, hz, fun e => ?_, fun _ e => ?_, fun _ _ p o hp ho => ?_⟩))
      · subst e
        cases r1
        rcases hy with hy | ⟨_, _, _, _, h3, _⟩
        · exact q.val hy
        · cases h3
      · subst e
        cases r2
        rcases hx with hx | ⟨_, _, _, _, h3, _⟩
        · rw [List.append_nil] at q; exact q.val hx
        · cases h3
      · exact q.new hp (new_tup hp ho s (r1.append r2))
    · exact q.no
  · split at q
    · rename_i xs ys h
      obtain ⟨a, vs, rfl, h1, r1⟩ := hx.lst s
      obtain ⟨b, us, rfl, h2, r2⟩ := hy.lst s
      exact .inr (.inr (.inr ⟨a, b, vs, us, rfl, rfl, h1, h2, by rw [r1.length, r2.length]; exact h, fun p hp => q.new hp (new_lst hp s (r1.append r2))⟩))
    · exact q.no
  · exact q.no
theorem od_intB {K : Fg} {g : Int → Int → Bool} : Op2 K Zh Zh (rI0 fun i j => .bl (g i j)) (fun x y => match x, y with
    | .int i, .int j => .ok (.bl (g i j))
    | _, _ => .st) := by
  intro W σ θ G ρ Ws H x y a b Q hx hy q
  dsimp only at q
  split at q
  · exact ⟨_, _, hx.int, hy.int, q.val (.bl _)⟩
  · exact q.no
def iMul (i j : Int) : Bool := (decide (-(2 ^ 64) < i) && decide (i < 2 ^ 64)) || (decide (-(2 ^ 64) < j) && decide (j < 2 ^ 64))
def mulD : D → D → R D := fun x y => match x, y with
  | .int i, .int j => if iMul i j then .ok (.int (i * j)) else .st
  | .lst xs, .int k => if 0 ≤ k ∧ k < 2 ^ 63 ∧ xs.length * k.toNat ≤ sizeLine then .ok (.lst (List.replicate k.toNat xs).flatten) else .st
  | _, _ => .st
theorem RpA.rep {K : Fg} {G : Hp} {vs : List V} {ds : List D} (r : RpA K G vs ds) : ∀ n : Nat, RpA K G (List.replicate n vs).flatten (List.replicate n ds).flatten
  | 0 => .nil
  | n + 1 => by
    rw [List.replicate_succ, List.replicate_succ, List.flatten_cons, List.flatten_cons]
    exact r.append (RpA.rep r n)
theorem opA_mul {X : Cx} : OpR X (binaryOp .Mult) (fun x y H Q => (rI CMul fun i j => .int (i * j)) x y H Q ∨ rRep x y H Q) := OpR.or op_mul op_rep
theorem od_mul {K : Fg} : Op2 K Zh Zh (fun x y H Q => (rI CMul fun i j => .int (i * j)) x y H Q ∨ rRep x y H Q) mulD := by
  intro W σ θ G ρ Ws H x y a b Q hx hy q
  have s := q.same
  unfold mulD at q
  split at q
  · split at q
    · rename_i i j h
      unfold iMul at h
      simp only [Bool.or_eq_true, Bool.and_eq_true, decide_eq_true_eq] at h
      exact .inl ⟨_, _, hx.int, hy.int, h, q.val (.int _)⟩
    · exact q.no
  · split at q
    · rename_i xs k h
      obtain ⟨a, vs, rfl, h1, r1⟩ := hx.lst s
      exact .inr ⟨a, k, vs, rfl, hy.int, h1, by omega, h.2.1, by rw [r1.length]; exact h.2.2, fun p hp => q.new hp (new_lst hp s (r1.rep _))⟩
    · exact q.no
  · exact q.no
def fdivD : D → D → R D := fun x y => match x, y with
  | .int i, .int j => if 0 < j ∧ j < 1073741824 then .ok (.int (i / j)) else .st
  | _, _ => .st
theorem od_fdiv {K : Fg} : Op2 K Zh Zh (rI CDiv fun i j => .int (i / j)) fdivD := by
  intro W σ θ G ρ Ws H x y a b Q hx hy q
  unfold fdivD at q
  split at q
  · split at q
    · rename_i h; exact ⟨_, _, hx.int, hy.int, h, q.val (.int _)⟩
    · exact q.no
  · exact q.no
def modD : D → D → R D := fun x y => match x, y with
  | .int i, .int j => if 0 < j then .ok (.int (i % j)) else .st
  | _, _ => .st
theorem od_mod {K : Fg} : Op2 K Zh Zh (rI (fun _ j => 0 < j) fun i j => .int (i % j)) modD := by
  intro W σ θ G ρ Ws H x y a b Q hx hy q
  unfold modD at q
  split at q
  · split at q
    · rename_i h; exact ⟨_, _, hx.int, hy.int, h, q.val (.int _)⟩
    · exact q.no
  · exact q.no
def powD : D → D → R D := fun x y => match x, y with
  | .int i, .int j => if 0 ≤ j ∧ j ≤ 1000000 ∧ i.natAbs < 2 ^ 64 then .ok (.int (i ^ j.toNat)) else .st
  | _, _ => .st
theorem od_pow {K : Fg} : Op2 K Zh Zh (rI CPow fun i j => .int (i ^ j.toNat)) powD := by
  intro W σ θ G ρ Ws H x y a b Q hx hy q
  unfold powD at q
  split at q
  · split at q
    · rename_i h; exact ⟨_, _, hx.int, hy.int, h, q.val (.int _)⟩
    · exact q.no
  · exact q.no
theorem od_lt {K : Fg} : Op2 K Zh Zh (rI0 fun i j => .bl (decide (i < j))) ltD := od_intB
theorem od_gt {K : Fg} : Op2 K Zh Zh (rI0 fun i j => .bl (decide (j < i))) gtD := od_intB
theorem od_ge {K : Fg} : Op2 K Zh Zh (rI0 fun i j => .bl (decide (j ≤ i))) geD := od_intB
def negD : D → R D
  | .int i => .ok (.int (-i))
  | _ => .st
theorem od_neg {K : Fg} : Op1 K Zh (rU fun i => .int (-i)) negD := by
  intro W σ θ G ρ Ws H x a Q hx q
  unfold negD at q
  split at q
  · exact ⟨_, hx.int, q.val (.int _)⟩
  · exact q.no
def strEq (neg : Bool) (x y : D) : R D := match x, y with
  | .str s, .str t => .ok (.bl (neg ^^ decide (s = t)))
  | .lst (_ :: _), .lst [] => .ok (.bl neg)
  | _, _ => .st
def eqD (x y : D) : R D := if x.sh && y.sh then .ok (.bl (PyData.eqv x.py y.py)) else strEq false x y
def neD (x y : D) : R D := if x.sh && y.sh then .ok (.bl (!PyData.eqv x.py y.py)) else strEq true x y
def rEqX (K : Fg) : R2 := fun x y H Q => rEqD K x y H Q ∨ rEq x y H Q ∨ rL0 K false x y H Q
def rNeX (K : Fg) : R2 := fun x y H Q => rNeD K x y H Q ∨ rNe x y H Q ∨ rL0 K true x y H Q
theorem op_eqX {X : Cx} (hu : X.A.units + 64 < cLine) : OpR X (compareOp .Eq) (rEqX X.K) := OpR.or (op_eqD hu) (OpR.or op_eq (op_eqL0 hu))
theorem op_neX {X : Cx} (hu : X.A.units + 64 < cLine) : OpR X (compareOp .NotEq) (rNeX X.K) := OpR.or (op_neD hu) (OpR.or op_ne (op_neL0 hu))
theorem rp_str {K : Fg} {H : Hp} {x : V} {s : Str} (h : Rp K H x (.str s)) : x = .str s := by cases h; rfl
theorem dec_strV {s t : Str} : decide (V.str s = V.str t) = decide (s = t) := by
  rw [Bool.eq_iff_iff]
  simp
theorem sh_dp {K : Fg} {H : Hp} {v : V} {d : D} (r : Rp K H v d) (h : d.sh = true) : Dp K H v d.py ∧ SeqAt.shaped d.py = true := by
  unfold D.sh at h
  rw [Bool.and_eq_true] at h
  exact ⟨r.dp h.1, h.2⟩
theorem od_eq {K : Fg} : Op2 K Zd Zd (rEqX K) eqD := by
  intro W σ θ G ρ Ws H x y a b Q hx hy q
  unfold eqD at q
  split at q
  · rename_i h
    rw [Bool.and_eq_true] at h
    obtain ⟨d1, s1⟩ := sh_dp hx h.1
    obtain ⟨d2, s2⟩ := sh_dp hy h.2
    exact .inl ⟨_, _, d1, d2, s1, s2, q.val (.bl _)⟩
  · unfold strEq at q
    split at q
    · rename_i s t _
      rw [rp_str hx, rp_str hy]
      refine .inr (.inl ⟨rfl, ?_⟩)
      rw [dec_strV]
      have z := q.val (.bl _)
      rwa [Bool.false_xor] at z
    · cases hx with
      | lst h r =>
        cases hy with
        | lst h2 r2 =>
          cases r2
          cases r with
          | cons _ _ => exact .inr (.inr ⟨_, _, _, _, rfl, rfl, SqL.of h, SqL.of h2, q.val (.bl _)⟩)
    · exact q.no
theorem od_ne {K : Fg} : Op2 K Zd Zd (rNeX K) neD := by
  intro W σ θ G ρ Ws H x y a b Q hx hy q
  unfold neD at q
  split at q
  · rename_i h
    rw [Bool.and_eq_true] at h
    obtain ⟨d1, s1⟩ := sh_dp hx h.1
    obtain ⟨d2, s2⟩ := sh_dp hy h.2
    exact .inl ⟨_, _, d1, d2, s1, s2, q.val (.bl _)⟩
  · unfold strEq at q
    split at q
    · rename_i s t _
      rw [rp_str hx, rp_str hy]
      refine .inr (.inl ⟨rfl, ?_⟩)
      rw [dec_strV]
      have z := q.val (.bl _)
      rwa [Bool.true_xor] at z
    · cases hx with
      | lst h r =>
        cases hy with
        | lst h2 r2 =>
          cases r2
          cases r with
          | cons _ _ => exact .inr (.inr ⟨_, _, _, _, rfl, rfl, SqL.of h, SqL.of h2, q.val (.bl _)⟩)
    · exact q.no
def D.isNon : D → Bool
  | .non => true
  | _ => false
def isD (x y : D) : R D := match y with
  | .non => .ok (.bl x.isNon)
  | _ => .st
def isnD (x y : D) : R D := match y with
  | .non => .ok (.bl (!x.isNon))
  | _ => .st
theorem od_len {K : Fg} : Op1 K Zd (fun x H Q => ∃ y n, [x] = [y] ∧ LenV K y H n ∧ Q (.int n) H) lenD := by
  intro W σ θ G ρ Ws H x a Q hx q
  unfold lenD at q
  split at q
  · cases hx
    split at q
    · rename_i h; exact ⟨_, _, rfl, ⟨h, rfl⟩, q.val (.int _)⟩
    · exact q.no
  · cases hx with
    | lst h r => exact ⟨_, _, rfl, .inl ⟨_, SqL.of h, rfl⟩, by rw [r.length]; exact q.val (.int _)⟩
  · cases hx with
    | tup h r => exact ⟨_, _, rfl, .inr ⟨_, h.t, rfl⟩, by rw [r.length]; exact q.val (.int _)⟩
  · cases hx with
    | scr h => exact ⟨_, _, rfl, .inl ⟨_, h, rfl⟩, by rw [List.length_map]; exact q.val (.int _)⟩
  · exact q.no
theorem RpA.atI {K : Fg} {G : Hp} {vs : List V} {ds : List D} (r : RpA K G vs ds) {i : Int} {d : D} (h : L2.atI ds i = some d) : ∃ v, L2.atI vs i = some v ∧ Rp K G v d := by
  unfold L2.atI at h ⊢
  rw [r.length]
  cases e : ixN ds.length i with
  | none => rw [e] at h; cases h
  | some j => rw [e] at h; exact r.get h
def rIxA (K : Fg) : R2 := fun x y H Q => rIxL K x y H Q ∨ rIxT K x y H Q ∨ rIxS x y H Q
theorem ixA {X : Cx} : IxR X (rIxA X.K) := IxR.or ix_list (IxR.or ix_tup ix_str)
theorem od_ix {K : Fg} : Op2 K Zh Zh (rIxA K) ixD := by
  intro W σ θ G ρ Ws H x y a b Q hx hy q
  have s := q.same
  unfold ixD at q
  split at q
  · rename_i xs i
    split at q
    · rename_i d e
      obtain ⟨a, vs, rfl, h1, r1⟩ := hx.lst s
      obtain ⟨v, e1, r2⟩ := r1.atI e
      exact .inl ⟨a, vs, i, v, rfl, hy.int, SqL.of h1, e1, q.val r2⟩
    · exact q.no
  · rename_i xs i
    split at q
    · rename_i d e
      obtain ⟨a, vs, rfl, h1, r1⟩ := hx.tup s
      obtain ⟨v, e1, r2⟩ := r1.atI e
      exact .inr (.inl ⟨a, vs, i, v, rfl, hy.int, h1.t, e1, q.val r2⟩)
    · exact q.no
  · rename_i xs i
    split at q
    · rename_i d e
      rcases hx with hx | ⟨_, _, _, _, h3, _⟩
      · cases hx with
        | scr h =>
          obtain ⟨v, e1, r2⟩ := (RpA.ofInts (K := K) (G := G) xs).atI (d := .int d) (i := i) (by
            unfold L2.atI at e ⊢
            rw [List.length_map]
            cases e2 : ixN xs.length i with
            | none => rw [e2] at e; cases e
            | some j =>
              rw [e2] at e
              have e : xs[j]? = some d := e
              simp [e])
          exact .inl ⟨_, _, i, v, rfl, hy.int, s.seq h, e1, q.val r2⟩
      · cases h3
    · exact q.no
  · rename_i z i
    split at q
    · rename_i hz
      split at q
      · rename_i c e
        exact .inr (.inr ⟨z, i, c, hx.str, hy.int, hz, e, q.val (.str _)⟩)
      · exact q.no
    · exact q.no
  · exact q.no
/-- a part of a slice: left out, or an int -/
def oNone (_ : List Sl) : R (Option Int) := .ok none
def oSome (g : List Sl → R D) (ρ : List Sl) : R (Option Int) := (g ρ).bind fun d => match d with
  | .int i => .ok (some i)
  | _ => .st
def cutD {α : Type} (xs : List α) (lo hi : Option Int) : List α := (xs.drop (HT.sIx xs.length 0 lo)).take (HT.sIx xs.length xs.length hi - HT.sIx xs.length 0 lo)
theorem cutV_eq (xs : List V) (lo hi : Option Int) : cutV xs lo hi = cutD xs lo hi := rfl
theorem RpA.cut {K : Fg} {G : Hp} {vs : List V} {ds : List D} (r : RpA K G vs ds) (lo hi : Option Int) : RpA K G (cutV vs lo hi) (cutD ds lo hi) := by
  rw [cutV_eq]
  unfold cutD
  rw [r.length]
  exact (r.drop _).take _
theorem RpA.cutInts {K : Fg} {G : Hp} (ns : List Int) (lo hi : Option Int) : RpA K G (cutV (ns.map V.int) lo hi) ((cutD ns lo hi).map D.int) := by
  have r := (RpA.ofInts (K := K) (G := G) ns).cut lo hi
  have e : cutD (ns.map D.int) lo hi = (cutD ns lo hi).map D.int := by
    unfold cutD
    rw [List.length_map, List.map_take, List.map_drop]
  rw [e] at r
  exact r
def slD (x : D) (lo hi : Option Int) : R D := match x with
  | .lst xs => .ok (.lst (cutD xs lo hi))
  | .tup xs => .ok (.tup (cutD xs lo hi))
  | .scr xs => .ok (.lst ((cutD xs lo hi).map .int))
  | .str z => if z.length ≤ sizeLine then .ok (.str (cutS z lo hi)) else .st
  | _ => .st
def pSl (ga : List Sl → R D) (gl gh : List Sl → R (Option Int)) (ρ : List Sl) : R D := (ga ρ).bind fun x => (gl ρ).bind fun l => (gh ρ).bind fun h => slD x l h
def rSlAll (K : Fg) : V → Option Int → Option Int → Hp → VK → Prop := fun x lo hi H Q => rSlL K x lo hi H Q ∨ rSlX K x lo hi H Q ∨ rSlS x lo hi H Q
theorem slAll {X : Cx} : SlR X (rSlAll X.K) := SlR.or sl_list (SlR.or sl_tupX sl_str)
structure DO (X : Cx) (W : WX) (e : Option Expr) (g : List Sl → R (Option Int)) : Prop where
  run : PO X e fun σ H Q => ∃ θ G ρ Ws, Stt X.K θ G H σ ρ Ws ∧ match g ρ with
    | .ok d => ∀ G' H', Ext X.K G H G' H' → Q d H'
    | .ex x => ∀ d G' H', Ext X.K G H G' H' → XkOk X.K G' H' x d → W (.ref x.cls) d σ H'
    | .st => False
theorem PO.conseq {X : Cx} {e : Option Expr} {t t' : TO} (h : PO X e t) (w : ∀ σ H Q, t' σ H Q → t σ H Q) : PO X e t' := ⟨fun pins s σ H Q I q => h.run pins s σ H Q I (w _ _ _ q)⟩
section
variable {X : Cx} {W : WX} {e : Expr} {g : List Sl → R D} {pos p2 : Pos}
theorem do_none : DO X W none oNone := ⟨PO.conseq po_none fun σ H Q ⟨θ, G, ρ, Ws, s, q⟩ => q G H (Ext.refl s.same)⟩
theorem do_some (h : DP X W e g) : DO X W (some e) (oSome g) := ⟨PO.conseq (po_some h.run) fun σ H Q ⟨θ, G, ρ, Ws, s, q⟩ => ⟨θ, G, ρ, Ws, s, by
  unfold oSome at q
  cases hg : g ρ with
  | ok d =>
    rw [hg] at q
    cases d with
    | int i =>
      intro v G' H' e z
      cases z
      exact ⟨i, rfl, q G' H' e⟩
    | _ => exact q.elim
  | ex x => rw [hg] at q; exact q
  | st => rw [hg] at q; exact q⟩⟩
theorem cutD_whole {α : Type} (xs : List α) (lo hi : Option Int) (h : HT.sIx xs.length 0 lo = 0 ∧ HT.sIx xs.length xs.length hi = xs.length) : cutD xs lo hi = xs := by
  unfold cutD
  rw [h.1, h.2]
  simp
theorem dp_slice {lo hi : Option Expr} {gl gh : List Sl → R (Option Int)} (he : DQ X W e g) (hl : DO X W lo gl) (hh : DO X W hi gh) : DP X W (.Subscript e (.Slice lo hi none p2) pos) (pSl g gl gh) := by
  refine ⟨PE.conseq (pe_slice slAll he.run hl.run hh.run) fun σ H Q ⟨θ, G, ρ, Ws, q⟩ => ⟨θ, G, ρ, Ws, (q.bind (Za := Zh)).imp fun x H1 ⟨d, G1, _, e1, z, q1⟩ => ⟨θ, G1, ρ, Ws, q1.1, ?_⟩⟩⟩
  have q2 := q1.2
  cases hgl : gl ρ with
  | st => rw [hgl] at q2; exact q2
  | ex x => rw [hgl] at q2; exact q2
  | ok l =>
    rw [hgl] at q2
    intro G2 H2 e2
    have z2 : Zh X.K G2 H2 x d := ZOk.ext e2 z
    refine ⟨θ, G2, ρ, Ws, q1.1.ext e2, ?_⟩
    have q2 : match (gh ρ).bind fun h => slD d l h with | .ok d => ∀ v G' H', Ext X.K G1 H1 G' H' → Zc X.K G' H' v d → Q v H' | .ex x => ∀ d G' H', Ext X.K G1 H1 G' H' → XkOk X.K G' H' x d → W (.ref x.cls) d σ H' | .st => False := q2
    cases hgh : gh ρ with
    | st => rw [hgh] at q2; exact q2
    | ex x => rw [hgh] at q2; exact fun d G' H' e' => q2 d G' H' (e2.trans e')
    | ok h =>
      rw [hgh] at q2
      intro G3 H3 e3
      have z3 : Zh X.K G3 H3 x d := ZOk.ext e3 z2
      have q3 : Pk Zc X.K W σ θ G3 ρ Ws H3 (slD d l h) Q := Pk.ext (G := G1) (H := H1) ⟨q1.1, q2⟩ (e2.trans e3)
      have s := q3.same
      show rSlAll X.K x l h H3 Q
      unfold slD at q3
      split at q3
      · obtain ⟨a, vs, rfl, h1, r1⟩ := z3.lst s
        exact .inl ⟨a, vs, rfl, SqL.of h1, fun p hp => q3.new hp (new_lst hp s (r1.cut l h))⟩
      · obtain ⟨a, vs, rfl, h1, r1⟩ := z3.tup s
        refine .inr (.inl ⟨a, vs, rfl, h1.t, fun hw => ?_, fun hw p o hp ho => q3.new hp (new_tup hp ho s (r1.cut l h))⟩)
        rw [r1.length] at hw
        rw [cutD_whole _ _ _ hw] at q3
        rcases z3 with z3 | ⟨_, _, _, _, h5, _⟩
        · exact q3.val z3
        · cases h5
      · rcases z3 with z3 | ⟨_, _, _, _, h5, _⟩
        · cases z3 with
          | scr hq => exact .inl ⟨_, _, rfl, s.seq hq, fun p hp => q3.new hp (new_lst hp s (RpA.cutInts _ _ _))⟩
        · cases h5
      · split at q3
        · rename_i hz
          exact .inr (.inr ⟨_, z3.str, hz, q3.val (.str _)⟩)
        · exact q3.no
      · exact q3.no
end
theorem bools_eq : ∀ {xs : List D} {bs : List Bool}, boolsO xs = some bs → xs = bs.map D.bl
  | [], bs, h => by cases h; rfl
  | .bl b :: xs, bs, h => by
    simp only [boolsO, Option.map_eq_some_iff] at h
    obtain ⟨cs, h1, h2⟩ := h
    subst h2
    rw [bools_eq h1]; rfl
  | .non :: xs, bs, h | .int _ :: xs, bs, h | .str _ :: xs, bs, h | .tup _ :: xs, bs, h | .lst _ :: xs, bs, h | .scr _ :: xs, bs, h | .dct _ :: xs, bs, h | .ins _ _ :: xs, bs, h => by cases h
theorem RpA.bls {K : Fg} {G : Hp} {vs : List V} {ss : List Bool} (r : RpA K G vs (ss.map D.bl)) : vs = ss.map V.bl := by
  induction ss generalizing vs with
  | nil => cases r; rfl
  | cons s ss ih => cases r with
    | cons r t => cases r; simp [ih t]
theorem od_all {K : Fg} : Op1 K Zh (fun x H Q => rAll K [x] H Q) allD := by
  intro W σ θ G ρ Ws H x a Q hx q
  have s := q.same
  unfold allD at q
  split at q
  · split at q
    · rename_i bs e
      obtain ⟨a, vs, rfl, h1, r1⟩ := hx.lst s
      rw [bools_eq e] at r1
      rw [r1.bls] at h1
      exact ⟨a, bs, rfl, SqL.of h1, q.val (.bl _)⟩
    · exact q.no
  · exact q.no
def maxD : D → D → R D := fun x y => match x, y with
  | .int i, .int j => .ok (.int (if j > i then j else i))
  | _, _ => .st
def minD : D → D → R D := fun x y => match x, y with
  | .int i, .int j => .ok (.int (if j < i then j else i))
  | _, _ => .st
theorem od_abs {K : Fg} : Op1 K Zh (fun x H Q => ∃ i, [x] = [V.int i] ∧ Q (.int (if i < 0 then -i else i)) H) absD := by
  intro W σ θ G ρ Ws H x a Q hx q
  unfold absD at q
  split at q
  · exact ⟨_, by rw [hx.int], q.val (.int _)⟩
  · exact q.no
theorem od_intc {K : Fg} : Op1 K Zh (fun x H Q => (∃ i, [x] = [V.int i] ∧ Q (.int i) H) ∨ ∃ k, [x] = [V.bl k] ∧ Q (.int (if k then 1 else 0)) H) intD := by
  intro W σ θ G ρ Ws H x a Q hx q
  unfold intD at q
  split at q
  · exact .inl ⟨_, by rw [hx.int], q.val (.int _)⟩
  · exact .inr ⟨_, by rw [hx.bl], q.val (.int _)⟩
  · exact q.no
theorem od_max {K : Fg} : Op2 K Zh Zh (fun x y H Q => ∃ i j, [x, y] = [V.int i, V.int j] ∧ Q (.int (if j > i then j else i)) H) maxD := by
  intro W σ θ G ρ Ws H x y a b Q hx hy q
  unfold maxD at q
  split at q
  · exact ⟨_, _, by rw [hx.int, hy.int], q.val (.int _)⟩
  · exact q.no
theorem od_min {K : Fg} : Op2 K Zh Zh (fun x y H Q => ∃ i j, [x, y] = [V.int i, V.int j] ∧ Q (.int (if j < i then j else i)) H) minD := by
  intro W σ θ G ρ Ws H x y a b Q hx hy q
  unfold minD at q
  split at q
  · exact ⟨_, _, by rw [hx.int, hy.int], q.val (.int _)⟩
  · exact q.no
def tupD : D → R D
  | .lst xs => .ok (.tup xs)
  | .tup xs => .ok (.tup xs)
  | _ => .st
/-- the place of the first equal item -/
def firstEq (ds : List D) (x : D) : Option Nat := ds.findIdx? fun z => PyData.eqv z.py x.py
end DL
set_option Elab.async false
set_option linter.all false
set_option maxRecDepth 100000
set_option maxHeartbeats 2000000
namespace DL
open PySem PySem.Spec PyProof.Rows L2
section
variable {X : Cx} {tg l : Expr} {tl : TE}
def iSeq (K : Fg) (tl : TE) : TI := fun σ H R => tl σ H fun x H1 => (∃ a xs, x = .ref a ∧ SqL K H1 a xs ∧ R (Itl K a) H1) ∨ (∃ a xs, x = .ref a ∧ SqT K H1 a xs ∧ R (Itt K a) H1)
theorem fp_one {pins : List (Addr × Obj)} {σ : L2.St} {H : Hp} {s : Shared} (I : Inv X pins σ H s) : ∀ b ∈ [s.heap.objs.size], FpOk X pins H b := fun b hb => by
  rw [List.mem_singleton.mp hb]
  exact I.fpOk (Nat.le_refl _) (I.hok.fresh (Nat.le_refl _))
theorem pi_seq (hl : PE X l tl) : PI X tg l (iSeq X.K tl) := ⟨fun pins s σ H R I h => thn (hl.run pins s σ H _ I h) fun v s1 ⟨x, H1, I1, r1, q1⟩ => by
  have fp := fp_one I1
  rcases q1 with ⟨a, xs, e, hq, q⟩ | ⟨a, xs, e, hq, q⟩
  · subst e; cases r1
    obtain ⟨its, rv, p, hz⟩ := I1.list hq
    exact wpAny_pyIter_list p.isList ⟨_, _, _, _, H1, rfl, I1.kept (t' := s1.toks) (fun b o e => Heap.get?_push_of_some _ e), turn_list a _, ⟨_, Heap.get?_push_size _ rfl, rfl, rfl⟩, fp, q⟩
  · subst e; cases r1
    obtain ⟨its, rv, p, hz⟩ := I1.tuple hq
    exact wpAny_pyIter_tuple (show s1.heap.IsTuple a its.toArray from p) ⟨_, _, _, _, H1, rfl, I1.kept (t' := s1.toks) (fun b o e => Heap.get?_push_of_some _ e), turn_tuple a _, ⟨_, Heap.get?_push_size _ rfl, rfl, rfl⟩, fp, q⟩⟩
end
theorem meets_enum_tup (t : Addr) (vs : Array Value) : Meets (Builtin.«enumerate.__new__» ⟨[.type "enumerate", .ref t], []⟩) (fun _ R s => s.heap.IsTuple t vs ∧
      R (.ok (.ret (.ref (s.heap.push { cls := .type "tuple_iterator", data := .fields #[.ref t, .int 0 0] }).objs.size)))
        { s with heap := (s.heap.push { cls := .type "tuple_iterator", data := .fields #[.ref t, .int 0 0] }).push { cls := .type "enumerate", data := .fields #[.none, .bool false, .ref s.heap.objs.size, rawInt 0, .none, .none] } }) :=
  .of_wp fun prog w A R s hh => by
    obtain ⟨⟨⟨c0, dct, dt, sl⟩, hl, hc, n, hd⟩, hr⟩ := hh
    obtain ⟨hp, g, dr, tk, os⟩ := s
    have hc' : c0 = .type "tuple" := hc
    have hd' : dt = .seq vs n := hd
    subst hc' hd'
    have hsub := sub_enumerate
    have hT : Heap.IsTuple (Shared.heap ⟨hp, g, dr, tk, os⟩) t vs := ⟨_, hl, rfl, n, rfl⟩
    wp_walk using AutoSeq1.wpAny_loadPart' hl
    refine wpAny_stack_any fun st => wpAny_pure ?_
    split
    · rename_i cc _ _ _ _ _
      cases (cc == Value.type "enumerate") <;> (wp_walk using AutoSeq1.wpAny_loadPart' hl, wpAny_pyIter_tuple hT; exact ⟨_, rfl, hr⟩)
    · wp_walk using AutoSeq1.wpAny_loadPart' hl, wpAny_pyIter_tuple hT
      exact ⟨_, rfl, hr⟩
theorem call_enum_tup {prog : Program} {w : World} {A : Around} {E : Value → Shared → Prop} {s : Shared} {t : Addr} {vs : Array Value} {Q : Value → Shared → Prop} (hT : s.heap.IsTuple t vs)
    (h : ∀ h', IsEnum h' (s.heap.objs.size + 1) s.heap.objs.size 0 .none → h'.IsTupleIter s.heap.objs.size t 0 → (∀ b o, s.heap.get? b = some o → h'.get? b = some o) → Q (.ref (s.heap.objs.size + 1)) { s with heap := h' }) :
    wpAny (model prog w) A (call (.type "enumerate") [.ref t]) Q E s := by
  refine callType_new F.called_enumerate (by decide) (F.typeCall_enumerate_1 _) (F.newCall_enumerate_1 _) (fun obj => F.args_object_init_2 obj _) F.entry_enumerate_new (meets_enum_tup t vs) ⟨hT, ?_⟩
  have hz : (s.heap.push { cls := .type "tuple_iterator", data := .fields #[.ref t, .int 0 0] }).objs.size = s.heap.objs.size + 1 := Heap.size_push ..
  have he := Heap.get?_push_size (s.heap.push { cls := .type "tuple_iterator", data := .fields #[.ref t, .int 0 0] }) (o := { cls := .type "enumerate", data := .fields #[.none, .bool false, .ref s.heap.objs.size, rawInt 0, .none, .none] }) rfl
  show _ ∧ _
  rw [hz] at he ⊢
  exact ⟨⟨_, he, rfl⟩, h _ he ⟨_, Heap.get?_push_of_some _ (Heap.get?_push_size _ rfl), rfl, rfl⟩ fun b o x => Heap.get?_push_of_some _ (Heap.get?_push_of_some _ x)⟩
def IteT (K : Fg) (a : Addr) : It :=
  ⟨fun i H => ∃ xs x, SqT K H a xs ∧ xs[i]? = some x, fun i H v H' => ∃ T x, v = .ref T ∧ H T = none ∧ H' = upd H T (.tup [.int (i : Nat), x]) ∧ ∀ xs, SqT K H a xs → xs[i]? = some x, fun i H => ∃ xs, SqT K H a xs ∧ xs.length ≤ i⟩
theorem turn_enumT {P : Program} {w : World} {K : Fg} {elts : List Expr} {kk : Nat} {tpos : Pos} (a e it : Addr) :
    Turn P w K (.Tuple elts kk tpos) (IteT K a) [e, it] e (fun i h => (∃ old, IsEnum h e it ((i : Nat) : Int) old) ∧ h.IsTupleIter it a i ∧ e ≠ it) := by
  have two : ∀ b, b ∈ [e, it] → b = e ∨ b = it := fun b hb => by simpa using hb
  refine ⟨List.mem_cons_self, fun i h st b hb => ?_, fun i h h' st k => ⟨⟨_, k e List.mem_cons_self _ st.1.choose_spec⟩, st.2.1.at fun o q => k it (List.mem_cons_of_mem _ List.mem_cons_self) o q, st.2.2⟩, ?_, ?_, fun A i s Q E st h => wpAny_pyIter_enum st.1.choose_spec h⟩
  · obtain ⟨⟨old, he⟩, ⟨o, ho, _, hd⟩, _⟩ := st
    rcases two b hb with z | z
    · exact ⟨_, z ▸ he, fun v q => by cases q⟩
    · exact ⟨o, z ▸ ho, fun v q => by rw [hd] at q; cases q⟩
  · intro X hP hw hK hc i pins s σ H E I hf st hg
    subst hP hw hK
    obtain ⟨⟨old, he⟩, hit, hne⟩ := st
    obtain ⟨xs, x, hq, hx⟩ := hg
    obtain ⟨its, rv, p, hz⟩ := I.tuple hq
    have hT : s.heap.IsTuple a its.toArray := p
    obtain ⟨u, hu, ru⟩ := rv.get hx
    have lte := Heap.lt_size he
    have lti : it < s.heap.objs.size := let ⟨_, q, _⟩ := hit; Heap.lt_size q
    obtain ⟨oT, hoT, hcT, nT, hdT⟩ := hT
    have nit : a ≠ it := fun z => by
      obtain ⟨oi, hoi, hci, _⟩ := hit
      rw [← z, hoT] at hoi; cases hoi; rw [hcT] at hci; exact absurd hci (by decide)
    have ne : a ≠ e := fun z => by rw [z, he] at hoT; cases hoT; exact absurd (show Value.type "enumerate" = Value.type "tuple" from hcT) (by decide)
    have hl : its.length = xs.length := rv.length.symm
    have hi : i < xs.length := (List.getElem?_eq_some_iff.mp hx).1
    refine wpAny_pyNext_enum_itemD (Draws.tuple (prog := X.prog) (w := X.w) (A := X.A.in1) (I.ok.hd hc) it a nit its.toArray) he ⟨hit, ⟨oT, hoT, hcT, nT, hdT⟩⟩ (by simpa using (by omega : i < its.length)) hne (by simp [hne, ne.symm]) fun y h' tk hy ho hst hT' hsz hk => ?_
    have ey : y = u := by
      have h1 : its[i]? = some y := by simpa using hy
      rw [hu] at h1; exact (Option.some.inj h1).symm
    subst ey
    refine ⟨_, rfl, wpAny_letOwnedTupleGo_enum (s := { s with heap := h', toks := tk + 1 }) ho fun h2 he2 sb => ?_⟩
    have gT : h2.get? s.heap.objs.size = some { cls := .type "tuple", data := .seq #[.int i tk, y] } := (sb.2 _ (Nat.ne_of_gt lte)).trans hT'
    have keep2 : ∀ b ob, b ∉ [e, it] → s.heap.get? b = some ob → h2.get? b = some ob := fun b ob hb q => (sb.2 b fun z => hb (z ▸ List.mem_cons_self)).trans (hk b ob (fun z => hb (z ▸ List.mem_cons_self)) (fun z => hb (z ▸ List.mem_cons_of_mem _ List.mem_cons_self)) q)
    have I1 := I.turnedNew (ch := [e, it]) (h' := h2) (t' := tk + 1) (T := s.heap.objs.size) (ob := .tup [.int (i : Nat), x]) keep2 hf (Nat.le_refl _)
      ⟨by show 2 ≤ sizeLine; decide, [.int i tk, y], .cons ⟨_, rfl⟩ (.cons ru .nil), ⟨_, gT, rfl, _, rfl⟩⟩
    refine ⟨.ref s.heap.objs.size, _, I1, rfl, ⟨_, x, rfl, I.hok.fresh (Nat.le_refl _), rfl, fun ys hy => by rw [I.tuple_inj hy hq]; exact hx⟩, ⟨⟨y, ?_⟩, hst.1.at fun o q => (sb.2 it (Ne.symm hne)).trans q, hne⟩, fun b hb => ?_⟩
    · have e1 : ((i + 1 : Nat) : Int) = (i : Int) + 1 := by omega
      rw [e1]; exact he2
    · have lb : b < s.heap.objs.size := (two b hb).elim (fun z => z ▸ lte) fun z => z ▸ lti
      rw [upd_ne (Nat.ne_of_lt lb)]
      exact (hf b hb).1
  · intro X hP hw hK hc i pins s σ H E I hf st hg
    subst hP hw hK
    obtain ⟨⟨old, he⟩, hit, hne⟩ := st
    obtain ⟨xs, hq, hx⟩ := hg
    obtain ⟨its, rv, p, hz⟩ := I.tuple hq
    obtain ⟨oT, hoT, hcT, nT, hdT⟩ := p
    have nit : a ≠ it := fun z => by
      obtain ⟨oi, hoi, hci, _⟩ := hit
      rw [← z, hoT] at hoi; cases hoi; rw [hcT] at hci; exact absurd hci (by decide)
    obtain ⟨f0, f1, f2, f3, f4, f5⟩ := hf it (List.mem_cons_of_mem _ List.mem_cons_self)
    have hle : its.length ≤ i := by rw [← rv.length]; exact hx
    -- the iterator stands behind the last item: the walk is empty from there
    have D0 : Draws X.prog X.w X.A.in1 it [it, a] 0 (fun _ _ => False) (fun _ h => h.IsTupleIter it a i ∧ h.IsTuple a its.toArray) := ⟨fun _ _ st => let ⟨o, ho, _⟩ := st.1; ⟨o, ho⟩,
      fun _ _ _ st hk => ⟨st.1.at fun o q => hk it (by simp) o q, st.2.at fun o q => hk a (by simp) o q⟩, fun j _ _ _ hj => absurd hj (Nat.not_lt_zero _),
      fun s Q E st hE => wpAny_nextOf_tuple_end (I.ok.hd hc) st.1 st.2 (by simpa using hle) hE⟩
    exact wpAny_pyNext_enum_endD D0 he ⟨hit, ⟨oT, hoT, hcT, nT, hdT⟩⟩ fun h' eb => ⟨rfl, I.turned (t' := s.toks) (fun b o hb q => eb b o hb q) f0 f1 f3 f4 f5⟩
section
variable {X : Cx} {e : Expr} {te : TE} {p pos tpos : Pos} {elts : List Expr} {kk : Nat}
def iEnumA (K : Fg) (te : TE) : TI := fun σ H R => te σ H fun x H1 => (∃ a xs, x = .ref a ∧ SqL K H1 a xs ∧ R (Ite K a) H1) ∨ (∃ a xs, x = .ref a ∧ SqT K H1 a xs ∧ R (IteT K a) H1)
theorem pi_enumA (hg : Gl X "enumerate") (hm : X.mg "enumerate" = none) (he : PE X e te) (hs : starEach [e] X.env = (false, eval e X.env) :: starEach [] X.env := by rfl) (hs' : starEach [e] X.env = [(false, eval e X.env)] := by rfl) :
    PI X (.Tuple elts kk tpos) (.Call (.Name "enumerate" p) [e] [] pos) (iEnumA X.K te) := ⟨fun pins s σ H R I h => by
  let Q : List V → Hp → Prop := fun vs H1 => match vs with
    | [x] => (∃ a xs, x = V.ref a ∧ SqL X.K H1 a xs ∧ R (Ite X.K a) H1) ∨ (∃ a xs, x = V.ref a ∧ SqT X.K H1 a xs ∧ R (IteT X.K a) H1)
    | _ => False
  refine Call_ (ld_blt I hg hm boot_enumerate (PyProof.Rows.callWith_type1 (thn ((pa_cons he pa_nil hs).run pos pins s σ H Q I h) fun us s1 hv => ?_) hs' rfl))
  obtain ⟨vs, H1, I1, r1, q1⟩ := hv
  match vs, r1, q1 with
  | [x], .cons r .nil, q1 =>
    have fpe : ∀ b ∈ [s1.heap.objs.size + 1, s1.heap.objs.size], FpOk X pins H1 b := fun b hb => by
      have hb' : b = s1.heap.objs.size + 1 ∨ b = s1.heap.objs.size := by simpa using hb
      have hle : s1.heap.objs.size ≤ b := by omega
      exact I1.fpOk hle (I1.hok.fresh hle)
    rcases q1 with ⟨a, xs, ea, hq, q⟩ | ⟨a, xs, ea, hq, q⟩
    · subst ea; cases r
      obtain ⟨its, rv, p', hz⟩ := I1.list hq
      refine call_enumerate_list p'.isList fun h' he' hit hsz hk => wpAny_pyIter_enum he' ?_
      exact ⟨_, _, _, _, H1, rfl, I1.kept (t' := s1.toks) hk, turn_enum a (s1.heap.objs.size + 1) s1.heap.objs.size, ⟨⟨.none, he'⟩, hit, Nat.succ_ne_self _⟩, fpe, q⟩
    · subst ea; cases r
      obtain ⟨its, rv, p', hz⟩ := I1.tuple hq
      refine call_enum_tup (show s1.heap.IsTuple a its.toArray from p') fun h' he' hit hk => wpAny_pyIter_enum he' ?_
      exact ⟨_, _, _, _, H1, rfl, I1.kept (t' := s1.toks) hk, turn_enumT a (s1.heap.objs.size + 1) s1.heap.objs.size, ⟨⟨.none, he'⟩, hit, Nat.succ_ne_self _⟩, fpe, q⟩⟩
end
end DL
set_option Elab.async false
set_option linter.all false
set_option maxRecDepth 100000
set_option maxHeartbeats 2000000
namespace DL
open PySem PySem.Spec PyProof.Rows L2
def tI (K : Fg) (Pz : PZ) (W : WX) (g : List Sl → R (List D)) : TI := fun σ H Rr => ∃ θ G ρ Ws, Ik K Pz W σ θ G ρ Ws H (g ρ) Rr
structure DI (X : Cx) (Pz : PZ) (W : WX) (tg iter : Expr) (g : List Sl → R (List D)) : Prop where
  run : PI X tg iter (tI X.K Pz W g)
theorem PI.conseq {X : Cx} {tg e : Expr} {t t' : TI} (h : PI X tg e t) (w : ∀ σ H Q, t' σ H Q → t σ H Q) : PI X tg e t' := ⟨fun pins s σ H Q I q => h.run pins s σ H Q I (w _ _ _ q)⟩
section
variable {Z : ZK} {K : Fg} {W : WX} {σ : L2.St} {θ : Nat → Addr} {G H G1 H1 : Hp} {ρ : List Sl} {Ws : List Addr} {r : R (List D)} {Q : It → Hp → Prop} {Pz : PZ}
theorem Ik.pk {r : R D} {k : D → R (List D)} (h : Ik K Pz W σ θ G ρ Ws H (r.bind k) Q) : Pk Z K W σ θ G ρ Ws H r (fun v H1 => ∃ d G1, r = .ok d ∧ Ext K G H G1 H1 ∧ Z K G1 H1 v d ∧ Ik K Pz W σ θ G1 ρ Ws H1 (k d) Q) := by
  refine ⟨h.1, ?_⟩
  cases r with
  | ok d => exact fun v G' H' e' z => ⟨d, G', rfl, e', z, Ik.ext h e'⟩
  | ex x => exact h.2
  | st => exact h.2
theorem Ik.goes {items : List D} {J : It} (h : Ik K Pz W σ θ G ρ Ws H (.ok items) Q) (g : GoesD K Pz J G items) : Q J H := h.2 J G H (Ext.refl h.1.same) g
end
theorem goes_list {K : Fg} {G : Hp} {a : Addr} {vs : List V} {ds : List D} (h : G a = some (.lst vs)) (r : RpA K G vs ds) : GoesD K Rp (Itl K a) G ds := by
  intro i G1 H1 s1 s2
  have h2 : SqL K H1 a vs := SqL.of (s2 _ _ (s1 _ _ h))
  refine ⟨fun d hd => ?_, fun hl => ⟨vs, h2, by rw [r.length]; exact hl⟩⟩
  obtain ⟨v, hv, rv⟩ := r.get hd
  refine ⟨⟨vs, v, h2, hv⟩, fun x H' y => ?_⟩
  obtain ⟨e, y⟩ := y
  subst e
  have := y vs h2
  rw [hv] at this
  cases this
  exact ⟨G1, Ext.refl s2, rv.mono s1⟩
theorem goes_scr {K : Fg} {G : Hp} {a : Addr} {ns : List Int} (h : SqL K G a (ns.map V.int)) : GoesD K Rp (Itl K a) G (ns.map D.int) := by
  intro i G1 H1 s1 s2
  have h2 : SqL K H1 a (ns.map V.int) := s2.seq (s1.seq h)
  have r : RpA K G (ns.map V.int) (ns.map D.int) := RpA.ofInts ns
  refine ⟨fun d hd => ?_, fun hl => ⟨_, h2, by rw [r.length]; exact hl⟩⟩
  obtain ⟨v, hv, rv⟩ := r.get hd
  refine ⟨⟨_, v, h2, hv⟩, fun x H' y => ?_⟩
  obtain ⟨e, y⟩ := y
  subst e
  have := y _ h2
  rw [hv] at this
  cases this
  exact ⟨G1, Ext.refl s2, rv.mono s1⟩
theorem goes_tup {K : Fg} {G : Hp} {a : Addr} {vs : List V} {ds : List D} (h : SqT K G a vs) (r : RpA K G vs ds) : GoesD K Rp (Itt K a) G ds := by
  intro i G1 H1 s1 s2
  have h2 : SqT K H1 a vs := sameT s2 (sameT s1 h)
  refine ⟨fun d hd => ?_, fun hl => ⟨vs, h2, by rw [r.length]; exact hl⟩⟩
  obtain ⟨v, hv, rv⟩ := r.get hd
  refine ⟨⟨vs, v, h2, hv⟩, fun x H' y => ?_⟩
  obtain ⟨e, y⟩ := y
  subst e
  have := y vs h2
  rw [hv] at this
  cases this
  exact ⟨G1, Ext.refl s2, rv.mono s1⟩
theorem goes_range {K : Fg} {G : Hp} (lo : Int) (n : Nat) : GoesD K Rp (Itr lo n) G ((List.range n).map fun (k : Nat) => D.int (lo + k)) := by
  intro i G1 H1 s1 s2
  refine ⟨fun d hd => ?_, fun hl => by show n ≤ i; simpa using hl⟩
  rw [List.getElem?_map] at hd
  have hi : i < n := by
    cases q : (List.range n)[i]? with
    | none => rw [q] at hd; cases hd
    | some j => simpa using (List.getElem?_eq_some_iff.mp q).1
  rw [List.getElem?_range hi] at hd
  cases hd
  refine ⟨hi, fun x H' y => ?_⟩
  obtain ⟨e, y⟩ := y
  subst e y
  exact ⟨G1, Ext.refl s2, .int _⟩
def numbered (k : Nat) : List D → List D
  | [] => []
  | d :: ds => .tup [.int (k : Nat), d] :: numbered (k + 1) ds
theorem numbered_len : ∀ (ds : List D) (k : Nat), (numbered k ds).length = ds.length
  | [], _ => rfl
  | d :: ds, k => by simp [numbered, numbered_len ds]
theorem numbered_get : ∀ (ds : List D) (k i : Nat) (d : D), (numbered k ds)[i]? = some d → ∃ d', ds[i]? = some d' ∧ d = .tup [.int ((k + i : Nat) : Int), d']
  | [], k, i, d, h => by simp [numbered] at h
  | x :: ds, k, 0, d, h => by simp [numbered] at h; exact ⟨x, rfl, h.symm⟩
  | x :: ds, k, i + 1, d, h => by
    obtain ⟨d', h1, h2⟩ := numbered_get ds (k + 1) i d (by simpa [numbered] using h)
    refine ⟨d', by simpa using h1, ?_⟩
    rw [h2, show k + 1 + i = k + (i + 1) by omega]
theorem goes_enum {K : Fg} {G : Hp} {a : Addr} {vs : List V} {ds : List D} (h : G a = some (.lst vs)) (r : RpA K G vs ds) : GoesD K RpI (Ite K a) G (numbered 0 ds) := by
  intro i G1 H1 s1 s2
  have h2 : SqL K H1 a vs := SqL.of (s2 _ _ (s1 _ _ h))
  refine ⟨fun d hd => ?_, fun hl => ⟨vs, h2, by rw [r.length, ← numbered_len ds 0]; exact hl⟩⟩
  obtain ⟨d', hd', ed⟩ := numbered_get ds 0 i d hd
  obtain ⟨v, hv, rv⟩ := r.get hd'
  refine ⟨⟨vs, v, h2, hv⟩, fun x H' y => ?_⟩
  obtain ⟨T, u, rfl, hT, rfl, y⟩ := y
  have := y vs h2
  rw [hv] at this
  cases this
  subst ed
  rw [Nat.zero_add]
  exact ⟨_, Ext.new s2 hT, RpI.t upd_same (RpA.mono (same_upd (s2.free hT)) (.cons (.int _) (.cons (rv.mono s1) .nil)))⟩
theorem goes_enumT {K : Fg} {G : Hp} {a : Addr} {vs : List V} {ds : List D} (h : SqT K G a vs) (r : RpA K G vs ds) : GoesD K RpI (IteT K a) G (numbered 0 ds) := by
  intro i G1 H1 s1 s2
  have h2 : SqT K H1 a vs := sameT s2 (sameT s1 h)
  refine ⟨fun d hd => ?_, fun hl => ⟨vs, h2, by rw [r.length, ← numbered_len ds 0]; exact hl⟩⟩
  obtain ⟨d', hd', ed⟩ := numbered_get ds 0 i d hd
  obtain ⟨v, hv, rv⟩ := r.get hd'
  refine ⟨⟨vs, v, h2, hv⟩, fun x H' y => ?_⟩
  obtain ⟨T, u, rfl, hT, rfl, y⟩ := y
  have := y vs h2
  rw [hv] at this
  cases this
  subst ed
  rw [Nat.zero_add]
  exact ⟨_, Ext.new s2 hT, RpI.t upd_same (RpA.mono (same_upd (s2.free hT)) (.cons (.int _) (.cons (rv.mono s1) .nil)))⟩
def itemsD : D → R (List D)
  | .lst xs => .ok xs
  | .tup xs => .ok xs
  | .scr ns => .ok (ns.map .int)
  | _ => .st
def enumD : D → R (List D)
  | .lst xs => .ok (numbered 0 xs)
  | .tup xs => .ok (numbered 0 xs)
  | _ => .st
def rangeD (lo hi : Int) : List D := (List.range (hi - lo).toNat).map fun (k : Nat) => D.int (lo + k)
def ok62 (i : Int) : Bool := decide (-(2 ^ 62) ≤ i) && decide (i < 2 ^ 62)
def iRange1 (g : List Sl → R D) (ρ : List Sl) : R (List D) := (g ρ).bind fun d => match d with
  | .int j => if ok62 j then .ok (rangeD 0 j) else .st
  | _ => .st
section
variable {X : Cx} {W : WX} {tg e a b : Expr} {g fa fb : List Sl → R D} {p pos tpos : Pos} {elts : List Expr} {kk : Nat}
theorem di_seq (h : DP X W e g) : DI X Rp W tg e (i1 itemsD g) := ⟨PI.conseq (pi_seq h.run) fun σ H R ⟨θ, G, ρ, Ws, q⟩ => ⟨θ, G, ρ, Ws, (Ik.pk (Z := Zc) q).imp fun v H1 ⟨d, G1, _, e1, z, q1⟩ => by
  have s := q1.1.same
  unfold itemsD at q1
  cases z with
  | lst hl r => exact .inl ⟨_, _, rfl, SqL.of (s _ _ hl), q1.goes (goes_list hl r)⟩
  | tup ht r => exact .inr ⟨_, _, rfl, sameT s ht.t, q1.goes (goes_tup ht.t r)⟩
  | scr hs => exact .inl ⟨_, _, rfl, s.seq hs, q1.goes (goes_scr hs)⟩
  | _ => exact q1.2.elim⟩⟩
theorem di_enum (hg : Gl X "enumerate") (hm : X.mg "enumerate" = none) (h : DP X W e g) (hs : starEach [e] X.env = (false, eval e X.env) :: starEach [] X.env := by rfl) (hs' : starEach [e] X.env = [(false, eval e X.env)] := by rfl) :
    DI X RpI W (.Tuple elts kk tpos) (.Call (.Name "enumerate" p) [e] [] pos) (i1 enumD g) := ⟨PI.conseq (pi_enumA hg hm h.run hs hs') fun σ H R ⟨θ, G, ρ, Ws, q⟩ => ⟨θ, G, ρ, Ws, (Ik.pk (Z := Zc) q).imp fun v H1 ⟨d, G1, _, e1, z, q1⟩ => by
  have s := q1.1.same
  unfold enumD at q1
  cases z with
  | lst hl r => exact .inl ⟨_, _, rfl, SqL.of (s _ _ hl), q1.goes (goes_enum hl r)⟩
  | tup ht r => exact .inr ⟨_, _, rfl, sameT s ht.t, q1.goes (goes_enumT ht.t r)⟩
  | _ => exact q1.2.elim⟩⟩
theorem ok62_of {i : Int} (h : ok62 i = true) : -(2 ^ 62) ≤ i ∧ i < 2 ^ 62 := by
  simpa [ok62] using h
theorem di_range1 (hg : Gl X "range") (hm : X.mg "range" = none) (h : DP X W a fa) (hs : starEach [a] X.env = (false, eval a X.env) :: starEach [] X.env := by rfl) (hs' : starEach [a] X.env = [(false, eval a X.env)] := by rfl) :
    DI X Rp W tg (.Call (.Name "range" p) [a] [] pos) (iRange1 fa) := ⟨PI.conseq (pi_range1 hg hm (pa_cons h.run pa_nil hs) hs') fun σ H R ⟨θ, G, ρ, Ws, q⟩ => ⟨θ, G, ρ, Ws, (Ik.pk (Z := Zc) q).imp fun v H1 ⟨d, G1, _, e1, z, q1⟩ => by
  cases z with
  | int j =>
    dsimp only at q1
    split at q1
    · rename_i hj
      obtain ⟨h1, h2⟩ := ok62_of hj
      refine ⟨j, rfl, h1, h2, q1.goes ?_⟩
      have := goes_range (K := X.K) (G := G1) 0 j.toNat
      unfold rangeD
      rw [Int.sub_zero]
      exact this
    · exact q1.2.elim
  | _ => exact q1.2.elim⟩⟩
end
section
variable {K : Fg} {θ : Nat → Addr} {G H : Hp}
theorem Sts.put {σ : List (Option V)} {ρ : List Sl} {W : List Addr} (h : Sts K θ G H σ ρ W) {i : Nat} {v : V} {d : D} (hi : i < ρ.length) (r : Rp K G v d) : ∃ W', Sts K θ G H (σ.set i (some v)) (ρ.set i (.val d)) W' ∧ W'.Sublist W := by
  induction h generalizing i with
  | nil => cases hi
  | un _ ih =>
    cases i with
    | zero => exact ⟨_, .val r ‹_›, List.Sublist.refl _⟩
    | succ i =>
      obtain ⟨W', h1, h2⟩ := ih (i := i) (by simpa using hi)
      exact ⟨W', .un h1, h2⟩
  | val r0 _ ih =>
    cases i with
    | zero => exact ⟨_, .val r ‹_›, List.Sublist.refl _⟩
    | succ i =>
      obtain ⟨W', h1, h2⟩ := ih (i := i) (by simpa using hi)
      exact ⟨W', .val r0 h1, h2⟩
  | own r0 t0 _ ih =>
    cases i with
    | zero => exact ⟨_, .val r ‹_›, List.sublist_append_right _ _⟩
    | succ i =>
      obtain ⟨W', h1, h2⟩ := ih (i := i) (by simpa using hi)
      exact ⟨_, .own r0 t0 h1, (List.Sublist.refl _).append h2⟩
theorem Stt.put {σ : List (Option V)} {ρ : List Sl} {W : List Addr} (h : Stt K θ G H σ ρ W) {i : Nat} {v : V} {d : D} (hi : i < ρ.length) (r : Rp K G v d) : ∃ W', Stt K θ G H (σ.set i (some v)) (ρ.set i (.val d)) W' ∧ W'.Sublist W := by
  obtain ⟨W', h1, h2⟩ := h.sts.put hi r
  exact ⟨W', h.sub h1 h2, h2⟩
end
def TgsOk (K : Fg) (t : TGs) (vs : List Nat) (f : List D → List Sl → Option (List Sl)) : Prop := ∀ ⦃θ G H σ ρ W xs ds ρ' Q⦄, Stt K θ G H σ ρ W → RpA K G xs ds → f ds ρ = some ρ' →
    (∀ σ' W', Stt K θ G H σ' ρ' W' → W'.Sublist W → (∀ us : List Nat, (∀ i ∈ vs, i ∈ us) → L2.wipe σ' us = L2.wipe σ us) → Q σ' H) → t xs σ H Q
def gsNil (ds : List D) (ρ : List Sl) : Option (List Sl) := match ds with
  | [] => some ρ
  | _ => none
theorem wipe_set {σ : L2.St} {i : Nat} {x : Option V} : ∀ {us : List Nat}, i ∈ us → L2.wipe (σ.set i x) us = L2.wipe σ us
  | [], h => by cases h
  | u :: us, h => by
    unfold L2.wipe
    by_cases hu : i ∈ us
    · rw [wipe_set hu]
    · have e : i = u := by
        rcases List.mem_cons.mp h with e | e
        · exact e
        · exact absurd e hu
      subst e
      -- setting i at the end hides what stood there
      have key : ∀ (ws : List Nat), (L2.wipe (σ.set i x) ws).set i none = (L2.wipe σ ws).set i none := by
        intro ws
        induction ws with
        | nil => unfold L2.wipe; rw [List.set_set]
        | cons w ws ih =>
          unfold L2.wipe
          by_cases hw : w = i
          · subst hw; rw [List.set_set, List.set_set]; exact ih
          · rw [List.set_comm _ _ hw, List.set_comm _ _ hw, ih]
      exact key us
section
variable {K : Fg}
theorem tg_name (i : Nat) : TgOk K Rp (gName i) [i] (gVar i) := fun {θ G H σ ρ W v d ρ' Q} S r e q => by
  unfold gVar at e
  split at e
  · rename_i hi
    cases e
    obtain ⟨W', S', sb⟩ := S.put hi r
    exact q _ W' S' sb fun us hu => wipe_set (hu i List.mem_cons_self)
  · cases e
theorem tgs_nil : TgsOk K gNil [] gsNil := fun {θ G H σ ρ W xs ds ρ' Q} S r e q => by
  cases r with
  | nil => cases e; exact ⟨rfl, q _ _ S (List.Sublist.refl _) fun _ _ => rfl⟩
  | cons _ _ => cases e
theorem tgs_cons {t1 : TG} {t2 : TGs} {vs us : List Nat} {f : D → List Sl → Option (List Sl)} {g : List D → List Sl → Option (List Sl)} (r1 : TgOk K Rp t1 vs f) (r2 : TgsOk K t2 us g) : TgsOk K (gCons t1 t2) (vs ++ us) (gsCons f g) := fun {θ G H σ ρ W xs ds ρ' Q} S r e q => by
  cases r with
  | nil => cases e
  | @cons v d xs ds r rt =>
    unfold gsCons at e
    simp only [Option.bind_eq_some_iff] at e
    obtain ⟨ρ1, e1, e2⟩ := e
    refine ⟨v, xs, rfl, r1 S r e1 fun σ1 W1 S1 sb1 w1 => ?_⟩
    exact r2 S1 rt e2 fun σ2 W2 S2 sb2 w2 => q _ _ S2 (sb2.trans sb1) fun ws hw => (w2 ws fun i hi => hw i (List.mem_append_right _ hi)).trans (w1 ws fun i hi => hw i (List.mem_append_left _ hi))
theorem tg_tup {t1 : TGs} {vs : List Nat} {f : List D → List Sl → Option (List Sl)} {n : Nat} (r1 : TgsOk K t1 vs f) (hf : ∀ ds ρ ρ', f ds ρ = some ρ' → ds.length = n) : TgOk K RpI (gTup K n t1) vs (gTupD f) := fun {θ G H σ ρ W v d ρ' Q} S r e q => by
  cases r with
  | r r => cases r with
    | tup ht r => exact ⟨_, _, rfl, sameT S.same ht.t, by rw [r.length]; exact hf _ _ _ e, r1 S r e q⟩
    | _ => cases e
  | t ht r => exact ⟨_, _, rfl, SqT.of (S.same _ _ ht), by rw [r.length]; exact hf _ _ _ e, r1 S r e q⟩
theorem len_nil (ds : List D) (ρ ρ' : List Sl) (h : gsNil ds ρ = some ρ') : ds.length = 0 := by
  cases ds with
  | nil => rfl
  | cons _ _ => cases h
theorem len_cons {f : D → List Sl → Option (List Sl)} {g : List D → List Sl → Option (List Sl)} {n : Nat} (hg : ∀ ds ρ ρ', g ds ρ = some ρ' → ds.length = n) (ds : List D) (ρ ρ' : List Sl) (h : gsCons f g ds ρ = some ρ') : ds.length = n + 1 := by
  cases ds with
  | nil => cases h
  | cons d ds =>
    unfold gsCons at h
    simp only [Option.bind_eq_some_iff] at h
    obtain ⟨ρ1, _, e⟩ := h
    simp [hg _ _ _ e]
end
/-- nothing may leave -/
abbrev W0 : WX := fun _ _ _ _ => False
structure DTs (X : Cx) (W : WX) (ifs : List Expr) (g : List Sl → R Bool) : Prop where
  run : PTs X ifs (tT X.K W g)
theorem PTs.conseq {X : Cx} {e : List Expr} {t t' : TT} (h : PTs X e t) (w : ∀ σ H Q, t' σ H Q → t σ H Q) : PTs X e t' := ⟨fun pins s σ H Q I q => h.run pins s σ H Q I (w _ _ _ q)⟩
theorem dts_nil {X : Cx} {W : WX} : DTs X W [] tYes' := ⟨PTs.conseq pts_nil fun σ H Q ⟨θ, G, ρ, Ws, q⟩ => Tk.val q⟩
theorem dts_one {X : Cx} {W : WX} {c : Expr} {g : List Sl → R Bool} (h : DT X W c g) : DTs X W [c] g := ⟨pts_one h.run⟩
section
variable {K : Fg} {θ : Nat → Addr} {G H G0 H0 : Hp} {D0 : Addr} {o : HO}
theorem Ext.updD (e : Ext K G0 H0 G H) (h0 : H0 D0 = none) (g : G D0 = none) (hx : FreeX H D0 := by first | exact fx_none (by assumption) | exact fx_of (by assumption)) : Ext K G0 H0 G (upd H D0 o) :=
  ⟨e.g, fun b u q n => by rw [upd_ne (ne_of_none q h0)]; exact e.h b u q n, same_aside e.s g, e.nw, fun b q => e.al b (upd_al q), e.tb.trans (TbS.updX hx)⟩
end
section
variable {X : Cx} {W : WX} {elt tg iter : Expr} {ifs : List Expr} {scope : Scope} {own : List (Str × Nat)} {pos : Pos} {src : List Sl → R (List D)} {vs : List Nat} {f : D → List Sl → Option (List Sl)} {t : List Sl → R Bool} {g : List Sl → R D}
theorem lc_turns {wi : TI} {gg : TG} {K : Fg} {Pz : PZ} (hg : TgOk K Pz gg vs f)
    {us : List Nat} (hv : ∀ i ∈ vs, i ∈ us) {θ : Nat → Addr} {G H : Hp} {σ : L2.St} {ρ : List Sl} {Ws : List Addr} (S : Stt K θ G H σ ρ Ws) {items all : List D} (hall : lcGo f t g (wipeS ρ us) items = .ok all) (hfit : all.length ≤ sizeLine)
    {J : It} (hJ : GoesD K Pz J G items) {D0 : Addr} (hD : H D0 = none) {Q : VK}
    (q : ∀ p xs G' H', Ext K G H G' H' → H p = none → G' p = none → H' p = some (.lst xs) → RpA K G' xs all → Q (.ref p) H') :
    ∃ Wi : Nat → Nat → Hp → Prop, (∃ m, Wi 0 m (upd H D0 (.lst []))) ∧ ∀ i m H, Wi i m H →
      (J.stop i H ∧ Q (.ref D0) H) ∨ (J.go i H ∧ ∃ Nx : Hp → Prop, (∀ H', Nx H' → ∃ m', m' < m ∧ Wi (i + 1) m' H') ∧ ∀ x H', J.yld i H x H' → gg x (L2.wipe σ us) H' fun σ2 H2 => L2.wipe σ2 us = L2.wipe σ us ∧ tT K W0 t σ2 H2 fun b H3 =>
        if b = true then tZ Zc K W0 g σ2 H3 fun y H4 => ∃ acc, H4 D0 = some (.lst acc) ∧ acc.length < sizeLine ∧ Nx (upd H4 D0 (.lst (acc ++ [y]))) else Nx H3) := by
  have gD : G D0 = none := S.same.free hD
  have nW : D0 ∉ Ws := fun z => by
    obtain ⟨u, hu⟩ := S.sts.in_ D0 z
    rw [hD] at hu; cases hu
  -- what holds at turn i: ys is made
  let Wi : Nat → Nat → Hp → Prop := fun i m H1 => m = items.length - i ∧ i ≤ items.length ∧ ∃ G1 acc ys zs, Ext K G H G1 H1 ∧ G1 D0 = none ∧ H1 D0 = some (.lst acc) ∧ RpA K G1 acc ys ∧ lcGo f t g (wipeS ρ us) (items.drop i) = .ok zs ∧ all = ys ++ zs ∧ Stt K θ G1 H1 σ ρ Ws
  refine ⟨Wi, ⟨items.length, rfl, Nat.zero_le _, G, [], [], all, (Ext.refl S.same).updD hD gD, gD, upd_same, .nil, by simpa using hall, rfl, S.aside nW gD⟩, ?_⟩
  rintro i m H1 ⟨rfl, hi, G1, acc, ys, zs, e1, g1, h1, ra, hz, ea, S1⟩
  by_cases hlt : i < items.length
  · refine .inr ?_
    obtain ⟨d, hd⟩ : ∃ d, items[i]? = some d := ⟨_, List.getElem?_eq_getElem hlt⟩
    obtain ⟨go, yl⟩ := (hJ i G1 H1 e1.g S1.same).1 d hd
    have hdr : items.drop i = d :: items.drop (i + 1) := by
      rw [List.drop_eq_getElem_cons hlt]
      rw [List.getElem?_eq_getElem hlt] at hd
      cases hd; rfl
    rw [hdr] at hz
    refine ⟨go, Wi (i + 1) (items.length - (i + 1)), fun H' w' => ⟨_, by omega, w'⟩, fun x H' y => ?_⟩
    obtain ⟨G2, e2, rx⟩ := yl x H' y
    unfold lcGo at hz
    cases hf : f d (wipeS ρ us) with
    | none => rw [hf] at hz; cases hz
    | some ρ2 =>
      rw [hf] at hz
      have hz : ((t ρ2).bind fun b => if b then (g ρ2).bind fun y => (lcGo f t g (wipeS ρ us) (items.drop (i + 1))).bind fun ys => .ok (y :: ys) else lcGo f t g (wipeS ρ us) (items.drop (i + 1))) = .ok zs := hz
      have S2 := S1.ext e2
      obtain ⟨Wp, Sw, sbw⟩ := S2.wipe us
      refine hg Sw rx hf fun σ2 W2 S3 sb3 wq => ⟨(wq us hv).trans ?_, ?_⟩
      · -- wiping twice
        have idem : ∀ (ws : List Nat) (τ : L2.St), (∀ i ∈ ws, i ∈ us) → L2.wipe (L2.wipe τ ws) us = L2.wipe τ us := by
          intro ws
          induction ws with
          | nil => intro τ _; rfl
          | cons w ws ih =>
            intro τ hw
            show L2.wipe ((L2.wipe τ ws).set w none) us = _
            rw [wipe_set (hw w List.mem_cons_self)]
            exact ih τ fun i hi => hw i (List.mem_cons_of_mem _ hi)
        exact idem us σ fun _ h => h
      · cases ht : t ρ2 with
        | st => rw [ht] at hz; cases hz
        | ex x => rw [ht] at hz; cases hz
        | ok b =>
          rw [ht] at hz
          refine ⟨θ, G2, ρ2, W2, S3, ?_⟩
          rw [ht]
          intro G3 H3 e3
          have e13 := e2.trans e3
          have g3 : G3 D0 = none := by
            cases q3 : G3 D0 with
            | none => rfl
            | some u =>
              rcases e13.nw D0 u q3 with z | z
              · rw [g1] at z; cases z
              · rw [h1] at z; cases z
          have h3 : H3 D0 = some (.lst acc) := e13.k h1
          cases b with
          | false =>
            refine iteF ⟨rfl, hlt, G3, acc, ys, zs, e1.trans e13, g3, h3, ra.mono e13.g, hz, ea, S1.ext e13⟩
          | true =>
            refine iteT ?_
            have hz : ((g ρ2).bind fun y => (lcGo f t g (wipeS ρ us) (items.drop (i + 1))).bind fun ys => .ok (y :: ys)) = .ok zs := hz
            cases hgv : g ρ2 with
            | st => rw [hgv] at hz; cases hz
            | ex x => rw [hgv] at hz; cases hz
            | ok dy =>
              rw [hgv] at hz
              refine ⟨θ, G3, ρ2, W2, S3.ext e3, ?_⟩
              rw [hgv]
              intro yv G4 H4 e4 ry
              cases hr : lcGo f t g (wipeS ρ us) (items.drop (i + 1)) with
              | st => rw [hr] at hz; cases hz
              | ex x => rw [hr] at hz; cases hz
              | ok zs' =>
                rw [hr] at hz
                have hz : R.ok (dy :: zs') = .ok zs := hz
                cases hz
                have e14 := e13.trans e4
                have g4 : G4 D0 = none := by
                  cases q4 : G4 D0 with
                  | none => rfl
                  | some u =>
                    rcases e14.nw D0 u q4 with z | z
                    · rw [g1] at z; cases z
                    · rw [h1] at z; cases z
                have hlen : acc.length < sizeLine := by
                  rw [ra.length]
                  rw [ea, List.length_append, List.length_cons] at hfit
                  omega
                have h4 := e14.k h1
                refine ⟨acc, h4, hlen, rfl, hlt, G4, acc ++ [yv], ys ++ [dy], zs', (e1.trans e14).updD hD g4, g4, upd_same, (ra.mono e14.g).append (.cons ry .nil), hr, by rw [ea]; simp, (S1.ext e14).aside nW g4⟩
  · have e : i = items.length := by omega
    subst e
    rw [List.drop_length] at hz
    have hz : R.ok ([] : List D) = .ok zs := hz
    cases hz
    rw [List.append_nil] at ea
    subst ea
    exact .inl ⟨(hJ _ G1 H1 e1.g S1.same).2 (Nat.le_refl _), q D0 acc G1 H1 e1 hD g1 h1 ra⟩
/-- the reading of a comprehension -/
theorem tLc_ok {gg : TG} {Pz : PZ} (hg : TgOk X.K Pz gg vs f) {us : List Nat} (hv : ∀ i ∈ vs, i ∈ us) {σ : L2.St} {H : Hp} {Q : VK} (h : tF X.K W (pLc src us f t g) σ H Q) :
    tLc (tI X.K Pz W src) gg (tT X.K W0 t) (tZ Zc X.K W0 g) us σ H Q := by
  obtain ⟨θ, G, ρ, Ws, S, q⟩ := h
  refine ⟨θ, G, ρ, Ws, S, ?_⟩
  unfold pLc at q
  cases hs : src ρ with
  | st => rw [hs] at q; exact q
  | ex x => rw [hs] at q; exact q
  | ok items =>
    rw [hs] at q
    intro J G1 H1 e1 hJ D0 hD
    cases hl : lcGo f t g (wipeS ρ us) items with
    | st => rw [R.bind_ok, hl] at q; exact q.elim
    | ex x => rw [R.bind_ok, hl] at q; exact q.elim
    | ok all =>
      rw [R.bind_ok, hl] at q
      have q : match mkL all with | .ok (.lst ds) => ∀ p vs G' H', Ext X.K G H G' H' → H p = none → G' p = none → H' p = some (.lst vs) → RpA X.K G' vs ds → Q (.ref p) H' | .ok _ => False | .ex x => ∀ d G' H', Ext X.K G H G' H' → XkOk X.K G' H' x d → W (.ref x.cls) d σ H' | .st => False := q
      unfold mkL at q
      by_cases hf : fits all = true
      · rw [if_pos hf] at q
        exact lc_turns (wi := tI X.K Pz W src) hg hv (S.ext e1) hl (of_decide_eq_true hf) hJ hD fun p xs G' H' e' hp gp hp' r => q p xs G' H' (e1.trans e') (e1.al _ hp) gp hp' r
      · rw [if_neg hf] at q; exact q.elim
theorem df_lc (hc : X.calm = true) (hN : X.N.Nodup) {Pz : PZ} (hi : DI X Pz W tg iter src) (ok : BlkOk X.N X.env.scope scope own) {gg : TG}
    (hgP : ∀ (s : Shared) (H : Hp) (C : Addr) (cl : List (Str × Addr)) (fp : List Addr), PG (X.blk s H scope (compEnvC scope cl C X.env) fp) tg gg)
    (hg : TgOk X.K Pz gg vs f) (hv : ∀ i ∈ vs, i ∈ own.map (·.2))
    (ht : ∀ (s : Shared) (H : Hp) (C : Addr) (cl : List (Str × Addr)) (fp : List Addr), DTs (X.blk s H scope (compEnvC scope cl C X.env) fp) W0 ifs t)
    (he : ∀ (s : Shared) (H : Hp) (C : Addr) (cl : List (Str × Addr)) (fp : List Addr), DP (X.blk s H scope (compEnvC scope cl C X.env) fp) W0 elt g)
    (hs : ∀ x, foldedSetIterable iter X.env x = pure x := by intro _; rfl) : DF X W (.ListComp elt [⟨tg, iter, ifs, 0⟩] scope pos) (pLc src (own.map (·.2)) f t g) :=
  ⟨PE.conseq (pe_lc hc hN hi.run ok hgP (fun s H C cl fp => (ht s H C cl fp).run) (fun s H C cl fp => (he s H C cl fp).run) hs) fun σ H Q q => tLc_ok hg hv q⟩
end
end DL
set_option Elab.async false
set_option linter.all false
set_option maxRecDepth 100000
set_option maxHeartbeats 2000000
namespace DL
open PySem PySem.Spec PyProof.Rows L2
section
variable {K : Fg} {G H G1 H1 G2 H2 : Hp} {W W1 W2 : List Addr}
theorem Fr.less (a : Fr K G H W G1 H1 W1) (h : ∀ c ∈ W2, c ∈ W1) : Fr K G H W G1 H1 W2 := ⟨a.g, a.k, fun c hc => a.w c (h c hc), a.n, a.al, a.tb⟩
end
section
variable {K : Fg} {θ : Nat → Addr} {G H : Hp}
theorem Sts.focus {σ : List (Option V)} {ρ : List Sl} {W : List Addr} (h : Sts K θ G H σ ρ W) {i t : Nat} {o : Ow} (e : ρ[i]? = some (.own t o)) :
    ∃ v fp A B, σ[i]? = some (some v) ∧ Own K G H v o fp ∧ (t = 0 ∨ v = .ref (θ t)) ∧ W = A ++ fp ++ B ∧
      ∀ G' H', Same G G' → (∀ a ∈ A ++ B, ∀ u, NT u → H a = some u → H' a = some u) →
        (∀ o' fp', Own K G' H' v o' fp' → Sts K θ G' H' σ (ρ.set i (.own t o')) (A ++ fp' ++ B)) ∧ (∀ d, Rp K G' v d → Sts K θ G' H' σ (ρ.set i (.val d)) (A ++ B)) := by
  induction h generalizing i with
  | nil => simp at e
  | un h0 ih =>
    cases i with
    | zero => simp at e
    | succ i =>
      obtain ⟨v, fp, A, B, h1, h2, h3, h4, h5⟩ := ih (i := i) (by simpa using e)
      refine ⟨v, fp, A, B, by simpa using h1, h2, h3, h4, fun G' H' g k => ⟨fun o' fp' q => .un ((h5 G' H' g k).1 o' fp' q), fun d q => .un ((h5 G' H' g k).2 d q)⟩⟩
  | val r0 h0 ih =>
    cases i with
    | zero => simp at e
    | succ i =>
      obtain ⟨v, fp, A, B, h1, h2, h3, h4, h5⟩ := ih (i := i) (by simpa using e)
      refine ⟨v, fp, A, B, by simpa using h1, h2, h3, h4, fun G' H' g k => ⟨fun o' fp' q => .val (r0.mono g) ((h5 G' H' g k).1 o' fp' q), fun d q => .val (r0.mono g) ((h5 G' H' g k).2 d q)⟩⟩
  | @own v0 t0 o0 fp0 σ0 ρ0 W0 r0 tt0 h0 ih =>
    cases i with
    | zero =>
      simp at e
      obtain ⟨rfl, rfl⟩ := e
      refine ⟨v0, fp0, [], W0, rfl, r0, tt0, rfl, fun G' H' g k => ?_⟩
      have hk := h0.keep g (fun a ha u n hu => k a (by simpa using ha) u n hu)
      exact ⟨fun o' fp' q => .own q tt0 hk, fun d q => .val q hk⟩
    | succ i =>
      obtain ⟨v, fp, A, B, h1, h2, h3, h4, h5⟩ := ih (i := i) (by simpa using e)
      subst h4
      refine ⟨v, fp, fp0 ++ A, B, by simpa using h1, h2, h3, by simp, fun G' H' g k => ?_⟩
      have ho := r0.keep (G' := G') (H' := H') g fun a ha u n hu => k a (by simp [ha]) u n hu
      obtain ⟨z1, z2⟩ := h5 G' H' g fun a ha u n hu => k a (by simp only [List.append_assoc]; exact List.mem_append_right _ ha) u n hu
      refine ⟨fun o' fp' q => ?_, fun d q => ?_⟩
      · have := Sts.own ho tt0 (z1 o' fp' q)
        simpa [List.append_assoc] using this
      · have := Sts.own ho tt0 (z2 d q)
        simpa [List.append_assoc] using this
theorem nodup_mid {A fp B : List Addr} (h : (A ++ fp ++ B).Nodup) : fp.Nodup ∧ (A ++ B).Nodup ∧ ∀ a ∈ fp, a ∉ A ++ B := by
  have p : (A ++ fp ++ B).Perm (fp ++ (A ++ B)) := by
    rw [List.append_assoc]
    refine (List.perm_append_comm_assoc A fp B).trans ?_
    exact List.Perm.refl _
  have h2 := p.nodup_iff.mp h
  rw [List.nodup_append] at h2
  exact ⟨h2.1, h2.2.1, fun a ha hb => h2.2.2 a ha a hb rfl⟩
theorem nodup_mid' {A fp B : List Addr} (h1 : fp.Nodup) (h2 : (A ++ B).Nodup) (h3 : ∀ a ∈ fp, a ∉ A ++ B) : (A ++ fp ++ B).Nodup := by
  have p : (A ++ fp ++ B).Perm (fp ++ (A ++ B)) := by
    rw [List.append_assoc]
    exact List.perm_append_comm_assoc A fp B
  refine p.nodup_iff.mpr (List.nodup_append.mpr ⟨h1, h2, fun a ha b hb z => h3 a ha (z ▸ hb)⟩)
theorem frz_s {fp : List Addr} (s : Same G H) : Same (frz G H fp) H := fun a o e => by
  unfold frz at e
  by_cases ha : a ∈ fp
  · rw [if_pos ha] at e; exact e
  · rw [if_neg ha] at e; exact s a o e
/-- a new owned thing at slot i -/
theorem Sts.putOwn {σ : List (Option V)} {ρ : List Sl} {W : List Addr} (h : Sts K θ G H σ ρ W) {i : Nat} {v : V} {o : Ow} {fp : List Addr} (hi : i < ρ.length) (r : Own K G H v o fp) :
    ∃ A B, Sts K θ G H (σ.set i (some v)) (ρ.set i (.own 0 o)) (A ++ fp ++ B) ∧ (A ++ B).Sublist W := by
  induction h generalizing i with
  | nil => cases hi
  | un h0 ih =>
    cases i with
    | zero => exact ⟨[], _, .own r (.inl rfl) h0, List.Sublist.refl _⟩
    | succ i =>
      obtain ⟨A, B, h1, h2⟩ := ih (i := i) (by simpa using hi)
      exact ⟨A, B, .un h1, h2⟩
  | val r0 h0 ih =>
    cases i with
    | zero => exact ⟨[], _, .own r (.inl rfl) h0, List.Sublist.refl _⟩
    | succ i =>
      obtain ⟨A, B, h1, h2⟩ := ih (i := i) (by simpa using hi)
      exact ⟨A, B, .val r0 h1, h2⟩
  | @own v0 k0 o0 fp0 σ0 ρ0 W0 r0 t0 h0 ih =>
    cases i with
    | zero => exact ⟨[], _, .own r (.inl rfl) h0, List.sublist_append_right _ _⟩
    | succ i =>
      obtain ⟨A, B, h1, h2⟩ := ih (i := i) (by simpa using hi)
      refine ⟨fp0 ++ A, B, ?_, ?_⟩
      · have := Sts.own r0 t0 h1
        simpa [List.append_assoc] using this
      · simpa [List.append_assoc] using (List.Sublist.refl fp0).append h2
theorem Stt.putOwn {σ : List (Option V)} {ρ : List Sl} {W : List Addr} (h : Stt K θ G H σ ρ W) {i : Nat} {v : V} {o : Ow} {fp : List Addr} (hi : i < ρ.length) (r : Own K G H v o fp) (hn : fp.Nodup) (hd : ∀ a ∈ fp, a ∉ W) (hg : ∀ a ∈ fp, G a = none) :
    ∃ W', Stt K θ G H (σ.set i (some v)) (ρ.set i (.own 0 o)) W' ∧ ∀ a ∈ W', a ∈ fp ∨ a ∈ W := by
  obtain ⟨A, B, h1, h2⟩ := h.sts.putOwn hi r
  have mem : ∀ a ∈ A ++ fp ++ B, a ∈ fp ∨ a ∈ W := fun a ha => by
    rcases List.mem_append.mp ha with q | q
    · rcases List.mem_append.mp q with q | q
      · exact .inr (h2.subset (List.mem_append_left _ q))
      · exact .inl q
    · exact .inr (h2.subset (List.mem_append_right _ q))
  refine ⟨_, ⟨h.same, h1, nodup_mid' hn (h.nd.sublist h2) fun a ha hb => hd a ha (h2.subset hb), fun a ha => (mem a ha).elim (hg a) (h.out a), h.tab⟩, mem⟩
end
section
variable {K : Fg} {W : WX} {σ : L2.St} {θ : Nat → Addr} {G H G1 H1 : Hp} {Ws W1 : List Addr} {r : RE} {Q Q' : VK}
theorem Ek.imp (h : Ek K W σ θ G H Ws r Q) (q : ∀ v H', Q v H' → Q' v H') : Ek K W σ θ G H Ws r Q' := by
  cases r with
  | ok d ρ' => exact fun v G' H' W' e' s z => q _ _ (h v G' H' W' e' s z)
  | ex x ρ' => exact h
  | st => exact h
/-- a pure end -/
theorem Ek.pk {r : R D} {ρ : List Sl} (S : Stt K θ G H σ ρ Ws) (h : Ek K W σ θ G H Ws (up r ρ) Q) : Pk Zc K W σ θ G ρ Ws H r Q := by
  refine ⟨S, ?_⟩
  cases r with
  | ok d => exact fun v G' H' e z => h v G' H' Ws (Fr.of e) (S.ext e) z
  | ex x => exact fun v G' H' e z => h v G' H' Ws (Fr.of e) (S.ext e) z
  | st => exact h
end
section
variable {X : Cx} {W : WX} {e a b c : Expr} {g : List Sl → R D} {fa fb fc : List Sl → RE} {pos : Pos} {Za Zb : ZK}
theorem DP.de (h : DP X W e g) : DE X W e (liftE g) := ⟨PE.conseq h.run fun σ H Q ⟨θ, G, ρ, Ws, S, q⟩ => ⟨θ, G, ρ, Ws, Ek.pk S q⟩⟩
theorem tE_2 [ZOk Za] [ZOk Zb] {r : V → V → Hp → VK → Prop} {f : D → D → R D} {K : Fg} (op : Op2 K Za Zb r f) {σ H Q} (h : tE K W (e2 f fa fb) σ H Q) : tE K W fa σ H fun x H1 => tE K W fb σ H1 fun y H2 => r x y H2 Q := by
  obtain ⟨θ, G, ρ, Ws, S, q⟩ := h
  exact ⟨θ, G, ρ, Ws, S, q.bind.imp fun x H1 ⟨d, ρ1, G1, W1, _, S1, z, q1⟩ => ⟨θ, G1, ρ1, W1, S1, q1.bind.imp fun y H2 ⟨d2, ρ2, G2, W2, f2, S2, z2, q2⟩ => op (ZOk.of S2.same (z.mono f2.g)) (ZOk.of S2.same z2) (Ek.pk S2 q2)⟩⟩
theorem de_ix [ZOk Za] [ZOk Zb] {r : R2} {f : D → D → R D} (ho : IxR X r) (hd : Op2 X.K Za Zb r f) (ha : DE X W a fa) (hb : DE X W b fb) (hs : PlainIx b) : DE X W (.Subscript a b pos) (e2 f fa fb) :=
  ⟨PE.conseq (pe_ix ho ha.run hb.run hs) fun _ _ _ h => tE_2 hd h⟩
end
structure DS (X : Cx) (W : WX) (s : Stmt) (f : List Sl → RS) : Prop where
  run : PS X s (tSt X.K W f)
section
variable {K : Fg} {W : WX} {σ : L2.St} {θ : Nat → Addr} {G H : Hp} {Ws : List Addr} {E : Ends} {ρ : List Sl}
theorem Fin.ek {r : RE} {k : D → List Sl → RS} (h : Fin K W θ G H Ws (r.seq k) E) : Ek K W σ θ G H Ws r fun v H1 => ∃ d ρ1 G1 W1, Fr K G H Ws G1 H1 W1 ∧ Stt K θ G1 H1 σ ρ1 W1 ∧ Rp K G1 v d ∧ Fin K W θ G1 H1 W1 (k d ρ1) E := by
  cases r with
  | ok d ρ' => exact fun v G' H' W' e' s z => ⟨d, ρ', G', W', e', s, z, h.fr e'⟩
  | ex x ρ' => exact fun d G' H' W' e' s z => h d σ G' H' W' e' s z
  | st => exact h
theorem Fin.pk {Z : ZK} {r : R D} {k : D → RS} (S : Stt K θ G H σ ρ Ws) (h : Fin K W θ G H Ws (r.seq ρ k) E) : Pk Z K W σ θ G ρ Ws H r fun v H1 => ∃ d G1, Ext K G H G1 H1 ∧ Stt K θ G1 H1 σ ρ Ws ∧ Z K G1 H1 v d ∧ Fin K W θ G1 H1 Ws (k d) E := by
  refine ⟨S, ?_⟩
  cases r with
  | ok d => exact fun v G' H' e' z => ⟨d, G', e', S.ext e', z, h.fr (Fr.of e')⟩
  | ex x => exact fun d G' H' e' z => h d σ G' H' Ws (Fr.of e') (S.ext e') z
  | st => exact h
theorem Fin.tk {r : R Bool} {k : Bool → RS} (S : Stt K θ G H σ ρ Ws) (h : Fin K W θ G H Ws (r.seqB ρ k) E) : Tk K W σ θ G ρ Ws H r fun c H1 => ∃ G1, Ext K G H G1 H1 ∧ Stt K θ G1 H1 σ ρ Ws ∧ Fin K W θ G1 H1 Ws (k c) E := by
  refine ⟨S, ?_⟩
  cases r with
  | ok d => exact fun G' H' e' => ⟨G', e', S.ext e', h.fr (Fr.of e')⟩
  | ex x => exact fun d G' H' e' z => h d σ G' H' Ws (Fr.of e') (S.ext e') z
  | st => exact h
end
def sNever (_ : List Sl) : RS := .st
def sAsg (f : D → List Sl → Option (List Sl)) (g : List Sl → R D) (ρ : List Sl) : RS := (g ρ).seq ρ fun d => match f d ρ with
  | some ρ' => .ok .nx ρ'
  | none => .st
def sAsgE (f : D → List Sl → Option (List Sl)) (g : List Sl → RE) (ρ : List Sl) : RS := (g ρ).seq fun d ρ1 => match f d ρ1 with
  | some ρ' => .ok .nx ρ'
  | none => .st
/-- a new list that the name is to own -/
def sOwn (i : Nat) (g : List Sl → R D) (ρ : List Sl) : RS := (g ρ).seq ρ fun d => match d with
  | .lst ds => if i < ρ.length then .ok .nx (ρ.set i (.own 0 (.lst ds))) else .st
  | _ => .st
def sRetF (g : List Sl → R D) (ρ : List Sl) : RS := (g ρ).seq ρ fun d => match d with
  | .lst ds => .ok (.rtO (.lst ds)) ρ
  | _ => .st
/-- slot i's thing is frozen: no Python of its own -/
def frzS (i : Nat) (ρ : List Sl) : List Sl := match ρ[i]? with
  | some (.own 0 o) => if o.can then ρ.set i (.val o.d) else ρ
  | _ => ρ
section
variable {X : Cx} {W : WX} {s : Stmt} {ss : List Stmt} {e c : Expr} {g : List Sl → R D} {ge : List Sl → RE} {f f' : List Sl → RS} {pos : Pos}
theorem dss_nil : DSs X W [] sNext := ⟨PSs.conseq pss_nil fun E σ H ⟨θ, G, ρ, Ws, S, q⟩ => q.nx S⟩
theorem dss_cons (h : DS X W s f) (t : DSs X W ss f') : DSs X W (s :: ss) (sSeq f f') := ⟨PSs.conseq (pss_cons h.run t.run) fun E σ H ⟨θ, G, ρ, Ws, S, q⟩ => ⟨θ, G, ρ, Ws, S, by
  unfold sSeq at q
  cases hf : f ρ with
  | st => rw [hf] at q; exact q
  | ex x ρ' => rw [hf] at q; exact q
  | ok fl ρ' =>
    rw [hf] at q
    cases fl with
    | nx => exact fun σ' G' H' W' e' S' => ⟨θ, G', ρ', W', S', Fin.fr (show Fin X.K W θ G H Ws (f' ρ') E from q) e'⟩
    | rt d => exact q
    | rtO o => exact q
    | bk => exact q
    | ct => exact q⟩⟩
theorem dss_one (h : DS X W s f) : DSs X W [s] f := ⟨pss_one h.run⟩
theorem ds_asg' {gg : TG} {vs : List Nat} {tf : D → List Sl → Option (List Sl)} (hg : TgOk X.K Rp gg vs tf) (hp : PS X s (tAsg (tZ Zc X.K W g) gg)) : DS X W s (sAsg tf g) :=
  ⟨PS.conseq hp fun E σ H ⟨θ, G, ρ, Ws, S, q⟩ => ⟨θ, G, ρ, Ws, (Fin.pk (Z := Zc) S q).imp fun v H1 ⟨d, G1, e1, S1, z, q1⟩ => by
    cases hf : tf d ρ with
    | none => rw [hf] at q1; exact q1.elim
    | some ρ' =>
      rw [hf] at q1
      exact hg S1 z hf fun σ' W' S' sb _ => q1 σ' G1 H1 W' (Fr.refl.less fun a ha => sb.subset ha) S'⟩⟩
theorem ds_asgE {gg : TG} {vs : List Nat} {tf : D → List Sl → Option (List Sl)} (hg : TgOk X.K Rp gg vs tf) (he : DE X W e ge) (hps : ∀ te, PE X e te → PS X s (tAsg te gg)) : DS X W s (sAsgE tf ge) :=
  ⟨PS.conseq (hps _ he.run) fun E σ H ⟨θ, G, ρ, Ws, S, q⟩ => ⟨θ, G, ρ, Ws, S, (Fin.ek q).imp fun v H1 ⟨d, ρ1, G1, W1, e1, S1, z, q1⟩ => by
    cases hf : tf d ρ1 with
    | none => rw [hf] at q1; exact q1.elim
    | some ρ' =>
      rw [hf] at q1
      exact hg S1 z hf fun σ' W' S' sb _ => q1 σ' G1 H1 W' (Fr.refl.less fun a ha => sb.subset ha) S'⟩⟩
theorem ds_asg {gg : TG} {vs : List Nat} {tf : D → List Sl → Option (List Sl)} (hg : TgOk X.K Rp gg vs tf) (he : DP X W e g) (hps : ∀ te, PE X e te → PS X s (tAsg te gg)) : DS X W s (sAsg tf g) := ds_asg' hg (hps _ he.run)
theorem PS.dp {gg : TG} (h : PS X s (tAsg (tF X.K W g) gg)) : PS X s (tAsg (tZ Zc X.K W (p1 isL g)) gg) := PS.conseq h fun E σ H q => tF_of q
theorem ds_ret (he : DP X W e g) : DS X W (.Return (some e) pos) (sRet g) := ⟨PS.conseq (ps_ret he.run) fun E σ H ⟨θ, G, ρ, Ws, S, q⟩ => ⟨θ, G, ρ, Ws, (Fin.pk (Z := Zc) S q).imp fun v H1 ⟨d, G1, e1, S1, z, q1⟩ => q1 v σ G1 H1 Ws Fr.refl S1 z⟩⟩
theorem ds_retE (he : DE X W e ge) : DS X W (.Return (some e) pos) (sRetE ge) := ⟨PS.conseq (ps_ret he.run) fun E σ H ⟨θ, G, ρ, Ws, S, q⟩ => ⟨θ, G, ρ, Ws, S, (Fin.ek q).imp fun v H1 ⟨d, ρ1, G1, W1, e1, S1, z, q1⟩ => q1 v σ G1 H1 W1 Fr.refl S1 z⟩⟩
theorem ds_retF (he : DF X W e g) : DS X W (.Return (some e) pos) (sRetF g) := ⟨PS.conseq (ps_ret he.run) fun E σ H ⟨θ, G, ρ, Ws, S, q⟩ => ⟨θ, G, ρ, Ws, S, by
    unfold sRetF at q
    cases hv : g ρ with
    | st => rw [hv] at q; exact q
    | ex x => rw [hv] at q; exact fun d G' H' e' z => q d σ G' H' Ws (Fr.of e') (S.ext e') z
    | ok d =>
      rw [hv] at q
      cases d with
      | lst ds =>
        intro p vs G' H' e' hp gp hp' r
        have nW : p ∉ Ws := fun z => by
          obtain ⟨u, hu⟩ := S.sts.in_ p z
          rw [hp] at hu; cases hu
        refine q (.ref p) [p] σ G' H' Ws ⟨e'.g, fun a o h n _ => e'.h a o h n, fun a ha => ?_, fun a o h => (e'.nw a o h).elim .inl fun z => .inr (.inr z), e'.al, e'.tb⟩ (S.ext e') (.lst hp' r) (by simp) (fun a ha => by rw [List.mem_singleton.mp ha]; exact nW) (fun a ha => by rw [List.mem_singleton.mp ha]; exact gp)
        rcases List.mem_append.mp ha with z | z
        · rw [List.mem_singleton.mp z]; exact .inr hp
        · exact .inl z
      | _ => exact q⟩⟩
theorem ds_if {t : List Sl → R Bool} {a b : List Stmt} (hc : DT X W c t) (ha : DSs X W a f) (hb : DSs X W b f') : DS X W (.If c a b pos) (sIf t f f') :=
  ⟨PS.conseq (ps_if hc.run ha.run hb.run) fun E σ H ⟨θ, G, ρ, Ws, S, q⟩ => ⟨θ, G, ρ, Ws, (Fin.tk S q).imp fun c H1 ⟨G1, e1, S1, q1⟩ => by
    cases c with
    | true => exact iteT ⟨θ, G1, ρ, Ws, S1, q1⟩
    | false => exact iteF ⟨θ, G1, ρ, Ws, S1, q1⟩⟩⟩
def forGo (tf : D → List Sl → Option (List Sl)) (body : List Sl → RS) : List D → List Sl → RS
  | [], ρ => .ok .nx ρ
  | d :: ds, ρ => match tf d ρ with
    | none => .st
    | some ρ1 => match body ρ1 with
      | .ok .nx ρ2 => forGo tf body ds ρ2
      | .ok .ct ρ2 => forGo tf body ds ρ2
      | .ok .bk ρ2 => .ok .nx ρ2
      | r => r
def sFor (src : List Sl → R (List D)) (tf : D → List Sl → Option (List Sl)) (body : List Sl → RS) (ρ : List Sl) : RS := match src ρ with
  | .ok items => forGo tf body items ρ
  | .ex x => .ex x ρ
  | .st => .st
theorem for_turns {K : Fg} {Pz : PZ} {gg : TG} {vs : List Nat} {tf : D → List Sl → Option (List Sl)} (hg : TgOk K Pz gg vs tf) {J : It} {items : List D} {θ : Nat → Addr} {G H : Hp} {σ : L2.St} {ρ : List Sl} {Ws : List Addr} (S : Stt K θ G H σ ρ Ws) (hJ : GoesD K Pz J G items) {E : Ends}
    (q : Fin K W θ G H Ws (forGo tf f items ρ) E) : ∃ Wi : Nat → Nat → L2.St → Hp → Prop, (∃ m, Wi 0 m σ H) ∧ ∀ i m σ H, Wi i m σ H →
      (J.stop i H ∧ E.nx σ H) ∨ (J.go i H ∧ ∃ N : L2.St → Hp → Prop, (∀ σ' H', N σ' H' → ∃ m', m' < m ∧ Wi (i + 1) m' σ' H') ∧ ∀ x H', J.yld i H x H' → gg x σ H' fun σ2 H2 => tSt K W f { E with nx := N, ct := N, bk := E.nx } σ2 H2) := by
  let Wi : Nat → Nat → L2.St → Hp → Prop := fun i m σ1 H1 => m = items.length - i ∧ i ≤ items.length ∧ ∃ G1 ρ1 W1, Fr K G H Ws G1 H1 W1 ∧ Stt K θ G1 H1 σ1 ρ1 W1 ∧ Fin K W θ G1 H1 W1 (forGo tf f (items.drop i) ρ1) E
  refine ⟨Wi, ⟨items.length, rfl, Nat.zero_le _, G, ρ, Ws, Fr.refl, S, q⟩, ?_⟩
  rintro i m σ1 H1 ⟨rfl, hi, G1, ρ1, W1, fr, S1, q1⟩
  by_cases hlt : i < items.length
  · refine .inr ?_
    obtain ⟨d, hd⟩ : ∃ d, items[i]? = some d := ⟨_, List.getElem?_eq_getElem hlt⟩
    obtain ⟨go, yl⟩ := (hJ i G1 H1 fr.g S1.same).1 d hd
    have hdr : items.drop i = d :: items.drop (i + 1) := by
      rw [List.drop_eq_getElem_cons hlt]
      rw [List.getElem?_eq_getElem hlt] at hd
      cases hd; rfl
    rw [hdr] at q1
    unfold forGo at q1
    refine ⟨go, Wi (i + 1) (items.length - (i + 1)), fun σ' H' w' => ⟨_, by omega, w'⟩, fun x H' y => ?_⟩
    obtain ⟨G2, e2, rx⟩ := yl x H' y
    cases hf : tf d ρ1 with
    | none => rw [hf] at q1; exact q1.elim
    | some ρ2 =>
      rw [hf] at q1
      dsimp only at q1
      refine hg (S1.ext e2) rx hf fun σ2 W2 S2 sb2 _ => ⟨θ, G2, ρ2, W2, S2, ?_⟩
      have f2 : Fr K G1 H1 W1 G2 H' W2 := (Fr.of e2).less fun a ha => sb2.subset ha
      have q2 := q1.fr f2
      cases hb : f ρ2 with
      | st => rw [hb] at q2; exact q2
      | ex x ρ' => rw [hb] at q2; exact q2
      | ok fl ρ' =>
        rw [hb] at q2
        cases fl with
        | nx => exact fun σ' G' H'' W' e' S' => ⟨rfl, hlt, G', ρ', W', fr.trans (f2.trans e'), S', Fin.fr (show Fin K W θ G2 H' W2 (forGo tf f (items.drop (i + 1)) ρ') E from q2) e'⟩
        | ct => exact fun σ' G' H'' W' e' S' => ⟨rfl, hlt, G', ρ', W', fr.trans (f2.trans e'), S', Fin.fr (show Fin K W θ G2 H' W2 (forGo tf f (items.drop (i + 1)) ρ') E from q2) e'⟩
        | bk => exact q2
        | rt d => exact q2
        | rtO o => exact q2
  · have e : i = items.length := by omega
    subst e
    rw [List.drop_length] at q1
    exact .inl ⟨(hJ _ G1 H1 fr.g S1.same).2 (Nat.le_refl _), q1.nx S1⟩
theorem ds_for {tg iter : Expr} {body : List Stmt} {src : List Sl → R (List D)} {gg : TG} {vs : List Nat} {tf : D → List Sl → Option (List Sl)} (hp : PassesOwn (model X.prog X.w) X.A X.env X.xe) (hc : X.calm = true) {Pz : PZ} (hi : DI X Pz W tg iter src) (hpg : PG X tg gg) (hg : TgOk X.K Pz gg vs tf)
    (hb : DSs X W body f) (hs : ∀ x, foldedSetIterable iter X.env x = pure x := by intro _; rfl) : DS X W (.For tg iter body [] pos) (sFor src tf f) :=
  ⟨PS.conseq (ps_for hp hc hi.run hpg hb.run hs) fun E σ H ⟨θ, G, ρ, Ws, S, q⟩ => ⟨θ, G, ρ, Ws, S, by
    unfold sFor at q
    cases hv : src ρ with
    | st => rw [hv] at q; exact q
    | ex x => rw [hv] at q; exact fun d G' H' e' z => q d σ G' H' Ws (Fr.of e') (S.ext e') z
    | ok items =>
      rw [hv] at q
      exact fun J G' H' e' hJ => for_turns hg (S.ext e') hJ (Fin.fr q (Fr.of e'))⟩⟩
end
end DL
set_option Elab.async false
set_option linter.all false
set_option maxRecDepth 100000
set_option maxHeartbeats 2000000
namespace DL
open PySem PySem.Spec PyProof.Rows L2
section
variable {K : Fg} {θ : Nat → Addr}
theorem Sts.locals {G H : Hp} {σ : List (Option V)} {ρ : List Sl} {W : List Addr} (h : Sts K θ G H σ ρ W) : ∀ n : Nat, Sts K θ G H (σ ++ List.replicate n none) (ρ ++ List.replicate n .un) W := by
  have base : ∀ n : Nat, Sts K θ G H (List.replicate n none) (List.replicate n .un) [] := by
    intro n
    induction n with
    | zero => exact .nil
    | succ n ih => exact .un ih
  intro n
  induction h with
  | nil => exact base n
  | un _ ih => exact .un ih
  | val r _ ih => exact .val r ih
  | own r t _ ih => exact .own r t ih
theorem back_ok {G0 H0 G H : Hp} (g : Same G0 G) {σ0 : List (Option V)} {ρ : List Sl} {W0 : List Addr} (h0 : Sts K θ G0 H0 σ0 ρ W0) : ∀ {σ : List (Option V)} {ρ' : List Sl} {W : List Addr}, Sts K θ G H σ ρ' W → ∃ W', Sts K θ G H σ0 (back ρ ρ') W' ∧ W'.Sublist W := by
  have short : ∀ (σ : List (Option V)) (ρ : List Sl), σ.length = ρ.length → Sts K θ G H σ (back ρ []) [] := by
    intro σ
    induction σ with
    | nil => intro ρ hl; cases ρ with
      | nil => exact .nil
      | cons _ _ => cases hl
    | cons v σ ih => intro ρ hl; cases ρ with
      | nil => cases hl
      | cons s ρ =>
        have e : back (s :: ρ) [] = .un :: back ρ [] := by cases s <;> rfl
        rw [e]
        exact .un (ih ρ (by simpa using hl))
  induction h0 with
  | nil => intro σ ρ' W h; exact ⟨[], .nil, by simp⟩
  | @un v σ0 ρ W0 h0 ih =>
    intro σ ρ' W h
    cases h with
    | nil => exact ⟨[], short _ _ (by simpa using h0.len), by simp⟩
    | un h => obtain ⟨W', q, sb⟩ := ih h; exact ⟨W', .un q, sb⟩
    | val r h => obtain ⟨W', q, sb⟩ := ih h; exact ⟨W', .un q, sb⟩
    | own r t h => obtain ⟨W', q, sb⟩ := ih h; exact ⟨W', .un q, sb.trans (List.sublist_append_right _ _)⟩
  | @val v d σ0 ρ W0 r0 h0 ih =>
    intro σ ρ' W h
    cases h with
    | nil => exact ⟨[], short _ _ (by simpa using h0.len), by simp⟩
    | un h => obtain ⟨W', q, sb⟩ := ih h; exact ⟨W', .val (r0.mono g) q, sb⟩
    | val r h => obtain ⟨W', q, sb⟩ := ih h; exact ⟨W', .val (r0.mono g) q, sb⟩
    | own r t h => obtain ⟨W', q, sb⟩ := ih h; exact ⟨W', .val (r0.mono g) q, sb.trans (List.sublist_append_right _ _)⟩
  | @own v t o fp σ0 ρ W0 r0 t0 h0 ih =>
    intro σ ρ' W h
    cases h with
    | nil => exact ⟨[], short _ _ (by simpa using h0.len), by simp⟩
    | un h => obtain ⟨W', q, sb⟩ := ih h; exact ⟨W', .un q, sb⟩
    | val r h => obtain ⟨W', q, sb⟩ := ih h; exact ⟨W', .un q, sb⟩
    | @own v' t' o' fp' σ ρ' W r tt h =>
      obtain ⟨W', q, sb⟩ := ih h
      unfold back
      split
      · rename_i e
        obtain ⟨e1, e2⟩ := e
        subst e1
        have ev : v = v' := by
          rcases t0 with z | z
          · exact absurd z e2
          · rcases tt with y | y
            · exact absurd y e2
            · rw [z, y]
        subst ev
        exact ⟨_, .own r tt q, (List.Sublist.refl _).append sb⟩
      · exact ⟨W', .un q, sb.trans (List.sublist_append_right _ _)⟩
theorem Stt.back {G0 H0 G H : Hp} (g : Same G0 G) {σ0 : List (Option V)} {ρ : List Sl} {W0 : List Addr} (h0 : Sts K θ G0 H0 σ0 ρ W0) {σ : List (Option V)} {ρ' : List Sl} {W : List Addr} (S : Stt K θ G H σ ρ' W) : ∃ W', Stt K θ G H σ0 (back ρ ρ') W' ∧ W'.Sublist W := by
  obtain ⟨W', q, sb⟩ := back_ok g h0 S.sts
  exact ⟨W', S.sub q sb, sb⟩
end
/-- x(..), a def of the module, may be called here -/
def Cal (X : Cx) (W : WX) (x : Str) (ps : List Str) (F : List Sl → RS) : Prop := ∀ ⦃e : Expr⦄ ⦃es : List Expr⦄ ⦃t : TA⦄ ⦃p pos : Pos⦄, PA X (e :: es) t → starEach (e :: es) X.env = (false, eval e X.env) :: starEach es X.env → (backTo pos (starEach es X.env)).any (·.1) = false →
  PE X (.Call (.Name x p) (e :: es) [] pos) (tCallS (spD X.K ps.length F) (WE W) t)
section
variable {P : Program} {w : World} {K : Fg} {mg : Str → Option Value} {base : Heap}
theorem FnD.cal {X : Cx} {W : WX} {k : Nat} {x : Str} {ps : List Str} {F : List Sl → RS} (fn : FnD X.prog X.w X.K X.mg X.base k x ps F) (hr : Room k X.A) (hg : Gl X x) (tk : L2N.Takes X W) (hdb : (x == ("__debug__" : Str)) = false := by decide) : Cal X W x ps F := by
  obtain ⟨f, fd, hF, hm, hk, hb⟩ := fn.ex
  exact fun _ _ _ _ _ ha he hpl => pe_callS hF hr hg hm hk hb (fun σ => L2N.passAt tk σ) ha hdb he hpl
theorem spD_start {K : Fg} {N ps : List Str} {m : List Sl → RS} {vs : List V} {H : Hp} {Q : VK} {E : XK} (q0 : spD K ps.length (runF (N.length - ps.length) m) vs H Q E) : tSt K (fun cls d _ H => E cls d H) m { nx := fun _ H' => Q .non H', rt := Q } (L2.start N vs) H := by
  obtain ⟨hl, θ, G, ρ, W, S0, q⟩ := q0
  refine ⟨θ, G, ρ ++ List.replicate (N.length - vs.length) Sl.un, W, ⟨S0.same, S0.sts.locals (N.length - vs.length), S0.nd, S0.out, S0.tab⟩, ?_⟩
  rw [hl]
  unfold runF at q
  cases hm : m (ρ ++ List.replicate (N.length - ps.length) .un) with
  | st => rw [hm] at q; exact q
  | ex x ρ' =>
    rw [hm] at q
    intro d σ' G' H' W' fr S' xk
    obtain ⟨W2, S2, sb⟩ := Stt.back fr.g S0.sts S'
    exact q d G' H' W2 (fr.less fun a ha => sb.subset ha) S2 xk
  | ok fl ρ' =>
    rw [hm] at q
    cases fl with
    | nx =>
      intro σ' G' H' W' fr S'
      obtain ⟨W2, S2, sb⟩ := Stt.back fr.g S0.sts S'
      exact q .non G' H' W2 (fr.less fun a ha => sb.subset ha) S2 .non
    | rt d =>
      intro v σ' G' H' W' fr S' r
      obtain ⟨W2, S2, sb⟩ := Stt.back fr.g S0.sts S'
      exact q v G' H' W2 (fr.less fun a ha => sb.subset ha) S2 r
    | rtO o =>
      intro v fp σ' G' H' W' fr S' r n1 n2 n3
      obtain ⟨W2, S2, sb⟩ := Stt.back fr.g S0.sts S'
      refine q v fp G' H' W2 (fr.less fun a ha => ?_) S2 r n1 (fun a ha z => n2 a ha (sb.subset z)) n3
      rcases List.mem_append.mp ha with z | z
      · exact List.mem_append_left _ z
      · exact List.mem_append_right _ (sb.subset z)
    | bk => exact q.elim
    | ct => exact q.elim
/-- the promise by a reading of the body -/
theorem FnD.fnok {x qual : Str} {params : Arguments} {body : List Stmt} {scope : Scope} {dvs : List V} {kws : List (Str × V)} {f : Addr} {fd : FuncData} {N ps : List Str} {k : Nat} {m : List Sl → RS} (F : FunD K x qual params body scope dvs kws f fd) (S : FnScope N ps scope)
    (hN : ps.length ≤ N.length)
    (h : ∀ (cdv : Value) (A : Around) (outer : List Env) (s : Shared) (H : Hp) (E : XK), Room k (A.deeper (envOfC qual scope s.heap.objs.size f cdv)) → DSs (cxOf (L2N.CX P w) P w K mg base N qual scope f cdv A outer s H E) (fun cls d _ H => E cls d H) body m) :
    FnOk P w K mg base (L2N.CX P w) (k + 1) f fd ps (spD K ps.length (runF (N.length - ps.length) m)) := by
  exact F.ok S (fun vs H Q E h => h.1) fun cdv A outer s H vs Q E hr q => ⟨_, (h cdv A outer s H E hr).run, spD_start q⟩
end
/-- .. of a def that hands back a list of its own -/
def callL (F : List Sl → RS) (ds : List D) : R D := match F (ds.map .val) with
  | .ok (.rtO (.lst xs)) _ => .ok (.lst xs)
  | .ex x _ => .ex x
  | _ => .st
theorem Sts.vals {K : Fg} {θ : Nat → Addr} {G H : Hp} {vs : List V} {ds : List D} (r : RpA K G vs ds) : Sts K θ G H (vs.map some) (ds.map Sl.val) [] := by
  induction ds generalizing vs with
  | nil => cases r; exact .nil
  | cons d ds ih => cases r with
    | cons r t => exact .val r (ih t)
theorem Stt.vals {K : Fg} {θ : Nat → Addr} {G H : Hp} {vs : List V} {ds : List D} (s : Same G H) (t : TbOk K G H) (r : RpA K G vs ds) : Stt K θ G H (vs.map some) (ds.map Sl.val) [] := ⟨s, Sts.vals r, by simp, by simp, t⟩
/-- by values -/
theorem call_pk {Z : ZK} [ZOk Z] {K : Fg} {W : WX} {σ : L2.St} {θ : Nat → Addr} {G H : Hp} {ρ : List Sl} {Ws : List Addr} {F : List Sl → RS} {ds : List D} {vs : List V} {n : Nat} {Q : VK} (hl : ds.length = n) (r : RpA K G vs ds) (q : Pk Z K W σ θ G ρ Ws H (callV F ds) Q) :
    spD K n F vs H Q (WE W σ) := by
  refine ⟨by rw [r.length, hl], θ, G, ds.map .val, [], Stt.vals q.1.same q.1.tab r, ?_⟩
  have q2 := q.2
  unfold callV at q2
  cases hF : F (ds.map .val) with
  | st => rw [hF] at q2; exact q2
  | ex x ρ' => rw [hF] at q2; exact fun d G' H' W' fr S xk => q2 d G' H' (fr.ext S.same) xk
  | ok fl ρ' =>
    rw [hF] at q2
    cases fl with
    | rt d => exact fun v G' H' W' fr S z => q2 v G' H' (fr.ext S.same) (ZOk.of S.same z)
    | rtO o => exact q2.elim
    | nx => exact q2
    | bk => exact q2
    | ct => exact q2
theorem callL_fk {K : Fg} {W : WX} {σ : L2.St} {θ : Nat → Addr} {G H : Hp} {ρ : List Sl} {Ws : List Addr} {F : List Sl → RS} {ds : List D} {vs : List V} {n : Nat} {Q : VK} (hl : ds.length = n) (r : RpA K G vs ds) (q : Fk K W σ θ G ρ Ws H (callL F ds) Q) :
    spD K n F vs H Q (WE W σ) := by
  refine ⟨by rw [r.length, hl], θ, G, ds.map .val, [], Stt.vals q.1.same q.1.tab r, ?_⟩
  have q2 := q.2
  unfold callL at q2
  cases hF : F (ds.map .val) with
  | st => rw [hF] at q2; exact q2
  | ex x ρ' => rw [hF] at q2; exact fun d G' H' W' fr S xk => q2 d G' H' (fr.ext S.same) xk
  | ok fl ρ' =>
    rw [hF] at q2
    cases fl with
    | rtO o =>
      cases o with
      | lst xs =>
        intro v fp G' H' W' fr S z n1 n2 n3
        cases z with
        | lst h1 h2 =>
          have e := fr.ext S.same
          refine q2 _ _ G' H' e ?_ (n3 _ (by simp)) h1 h2
          rcases fr.w _ (List.mem_append_left _ (List.mem_singleton.mpr rfl)) with z | z
          · cases z
          · exact z
      | _ => exact q2.elim
    | rt d => exact q2.elim
    | nx => exact q2
    | bk => exact q2
    | ct => exact q2
section
variable {X : Cx} {W : WX} {k : Nat} {x : Str} {ps : List Str} {F : List Sl → RS} {e : Expr} {es : List Expr} {p pos : Pos} {ga : List Sl → R (List D)}
theorem dp_call (cl : Cal X W x ps F) (ha : DA X W (e :: es) ga) (hl : ∀ ρ ds, ga ρ = .ok ds → ds.length = ps.length)
    (he : starEach (e :: es) X.env = (false, eval e X.env) :: starEach es X.env := by rfl) (hpl : (backTo pos (starEach es X.env)).any (·.1) = false := by rfl) : DP X W (.Call (.Name x p) (e :: es) [] pos) (pA (callV F) ga) := by
  exact ⟨PE.conseq (cl ha.run he hpl) fun σ H Q ⟨θ, G, ρ, Ws, q⟩ => ⟨θ, G, ρ, Ws, (Pk.ak q).imp fun vs H1 ⟨ds, G1, hds, e1, z, q1⟩ => call_pk (hl ρ ds hds) z q1⟩⟩
theorem df_call (cl : Cal X W x ps F) (ha : DA X W (e :: es) ga) (hl : ∀ ρ ds, ga ρ = .ok ds → ds.length = ps.length)
    (he : starEach (e :: es) X.env = (false, eval e X.env) :: starEach es X.env := by rfl) (hpl : (backTo pos (starEach es X.env)).any (·.1) = false := by rfl) : DF X W (.Call (.Name x p) (e :: es) [] pos) (pA (callL F) ga) := by
  refine ⟨PE.conseq (cl ha.run he hpl) fun σ H Q ⟨θ, G, ρ, Ws, S, q⟩ => ⟨θ, G, ρ, Ws, S, ?_⟩⟩
  unfold pA at q
  cases hds : ga ρ with
  | st => rw [hds] at q; exact q
  | ex x => rw [hds] at q; exact q
  | ok ds =>
    rw [hds] at q
    intro vs G1 H1 e1 z
    refine callL_fk (hl ρ ds hds) z ⟨S.ext e1, ?_⟩
    have q : match callL F ds with | .ok (.lst ds) => ∀ p vs G' H', Ext X.K G H G' H' → H p = none → G' p = none → H' p = some (.lst vs) → RpA X.K G' vs ds → Q (.ref p) H' | .ok _ => False | .ex x => ∀ d G' H', Ext X.K G H G' H' → XkOk X.K G' H' x d → W (.ref x.cls) d σ H' | .st => False := q
    cases hc : callL F ds with
    | st => rw [hc] at q; exact q
    | ex x => rw [hc] at q; exact fun d G' H' e' => q d G' H' (e1.trans e')
    | ok d =>
      rw [hc] at q
      cases d with
      | lst xs => exact fun p vs G' H' e' hp => q p vs G' H' (e1.trans e') (e1.al _ hp)
      | _ => exact q
theorem len_aNil (ρ : List Sl) (ds : List D) (h : aNil ρ = .ok ds) : ds.length = 0 := by cases h; rfl
theorem len_aCons {g : List Sl → R D} {n : Nat} (hg : ∀ ρ ds, ga ρ = .ok ds → ds.length = n) (ρ : List Sl) (ds : List D) (h : aCons g ga ρ = .ok ds) : ds.length = n + 1 := by
  unfold aCons at h
  cases h1 : g ρ with
  | st => rw [h1] at h; cases h
  | ex x => rw [h1] at h; cases h
  | ok d =>
    rw [h1] at h
    cases h2 : ga ρ with
    | st => rw [R.bind_ok, h2] at h; cases h
    | ex x => rw [R.bind_ok, h2] at h; cases h
    | ok xs =>
      rw [R.bind_ok, h2] at h
      cases h
      simp [hg ρ xs h2]
end
def tB' (K : Fg) (W : WX) (f : List Sl → RA) : TA := fun σ H Q => ∃ θ G ρ Ws, Stt K θ G H σ ρ Ws ∧ Bk K W σ θ G H Ws (f ρ) Q
structure DB (X : Cx) (W : WX) (es : List Expr) (f : List Sl → RA) : Prop where
  run : PA X es (tB' X.K W f)
section
variable {K : Fg} {W : WX} {σ : L2.St} {θ : Nat → Addr} {G H G1 H1 : Hp} {Ws W1 : List Addr} {Q Q' : List V → Hp → Prop}
theorem Bk.imp {r : RA} (h : Bk K W σ θ G H Ws r Q) (q : ∀ v H', Q v H' → Q' v H') : Bk K W σ θ G H Ws r Q' := by
  cases r with
  | ok d ρ' => exact fun v G' H' W' e' s z => q _ _ (h v G' H' W' e' s z)
  | ex x ρ' => exact h
  | st => exact h
theorem Bk.ek {r : RE} {k : D → List Sl → RA} (h : Bk K W σ θ G H Ws (r.bindA k) Q) : Ek K W σ θ G H Ws r (fun v H1 => ∃ d ρ1 G1 W1, Fr K G H Ws G1 H1 W1 ∧ Stt K θ G1 H1 σ ρ1 W1 ∧ Rp K G1 v d ∧ Bk K W σ θ G1 H1 W1 (k d ρ1) Q) := by
  cases r with
  | ok d ρ' => exact fun v G' H' W' e' s z => ⟨d, ρ', G', W', e', s, z, h.fr e'⟩
  | ex x ρ' => exact h
  | st => exact h
end
theorem len_bNil (ρ : List Sl) (ds : List D) (ρ' : List Sl) (h : bNil ρ = .ok ds ρ') : ds.length + 1 = 1 := by cases h; rfl
theorem len_bCons {f : List Sl → RE} {g : List Sl → RA} {n : Nat} (hg : ∀ ρ ds ρ', g ρ = .ok ds ρ' → ds.length + 1 = n) (ρ : List Sl) (ds : List D) (ρ' : List Sl) (h : bCons f g ρ = .ok ds ρ') : ds.length + 1 = n + 1 := by
  unfold bCons at h
  cases h1 : f ρ with
  | st => rw [h1] at h; cases h
  | ex x ρ1 => rw [h1] at h; cases h
  | ok d ρ1 =>
    rw [h1] at h
    cases h2 : g ρ1 with
    | st => rw [RE.bindA_ok, h2] at h; cases h
    | ex x ρ2 => rw [RE.bindA_ok, h2] at h; cases h
    | ok xs ρ2 =>
      rw [RE.bindA_ok, h2] at h
      cases h
      have := hg ρ1 xs _ h2
      simpa using this
section
variable {X : Cx} {W : WX} {e : Expr} {es : List Expr} {fe : List Sl → RE} {fa : List Sl → RA} {pos p : Pos}
theorem db_nil : DB X W [] bNil := ⟨PA.conseq pa_nil fun σ H Q ⟨θ, G, ρ, Ws, S, q⟩ => q [] G H Ws Fr.refl S .nil⟩
theorem db_cons (h : DE X W e fe) (t : DB X W es fa) (hs : starEach (e :: es) X.env = (false, eval e X.env) :: starEach es X.env := by rfl) : DB X W (e :: es) (bCons fe fa) :=
  ⟨PA.conseq (pa_cons h.run t.run hs) fun σ H Q ⟨θ, G, ρ, Ws, S, q⟩ => ⟨θ, G, ρ, Ws, S, (Bk.ek q).imp fun v H1 ⟨d, ρ1, G1, W1, f1, S1, z, q1⟩ => ⟨θ, G1, ρ1, W1, S1, q1.bind.imp fun vs H2 ⟨ds, ρ2, G2, W2, f2, S2, z2, q2⟩ => q2 _ G2 H2 W2 Fr.refl S2 (.cons (z.mono f2.g) z2)⟩⟩⟩
/-- the call f(x, ..): slot i's thing is lent -/
def callO (F : List Sl → RS) (i : Nat) (ds : List D) (ρ : List Sl) : RE := match ρ[i]? with
  | some (.own t o) => (match F (.own 1 o :: ds.map .val) with
    | .ok (.rt d) (.own 1 o' :: _) => .ok d (ρ.set i (.own t o'))
    | .ex x (.own 1 o' :: _) => .ex x (ρ.set i (.own t o'))
    | _ => .st)
  | _ => .st
def eCallO (F : List Sl → RS) (i : Nat) (g : List Sl → RA) (ρ : List Sl) : RE := match ρ[i]? with
  | some (.own _ _) => (g ρ).bindE fun ds ρ1 => callO F i ds ρ1
  | _ => .st
theorem callO_ek {K : Fg} {σ : L2.St} {θ : Nat → Addr} {G H : Hp} {ρ : List Sl} {Ws : List Addr} {F : List Sl → RS} {i : Nat} {ds : List D} {v : V} {vs : List V} {n : Nat} {Q : VK} (S : Stt K θ G H σ ρ Ws) (hv : σ[i]? = some (some v)) (hl : ds.length + 1 = n) (r : RpA K G vs ds)
    (q : Ek K W σ θ G H Ws (callO F i ds ρ) Q) : spD K n F (v :: vs) H Q (WE W σ) := by
  unfold callO at q
  cases hρ : ρ[i]? with
  | none => rw [hρ] at q; exact q.elim
  | some sl =>
    rw [hρ] at q
    cases sl with
    | un => exact q.elim
    | val d => exact q.elim
    | own t o =>
      dsimp only at q
      obtain ⟨v', fp, A, B, h1, h2, h3, h4, h5⟩ := S.sts.focus hρ
      rw [hv] at h1
      cases h1
      subst h4
      obtain ⟨n1, n2, n3⟩ := nodup_mid S.nd
      have g0 : ∀ a ∈ fp, G a = none := fun a ha => S.out a (by simp [ha])
      obtain ⟨ad, ead⟩ : ∃ ad, v = .ref ad := by cases h2 <;> exact ⟨_, rfl⟩
      have SA : Stt K (fun _ => ad) G H ((v :: vs).map some) (.own 1 o :: ds.map .val) fp := by
        have q1 := Sts.own (θ := fun _ => ad) (t := 1) h2 (.inr ead) (Sts.vals r)
        rw [List.append_nil] at q1
        exact ⟨S.same, q1, n1, g0, S.tab⟩
      refine ⟨by rw [← hl, List.length_cons, r.length], fun _ => ad, G, _, fp, SA, ?_⟩
      -- the caller's state behind it
      have fin : ∀ {G' H' : Hp} {W' : List Addr} {o' : Ow} {rest : List Sl}, Fr K G H fp G' H' W' → Stt K (fun _ => ad) G' H' ((v :: vs).map some) (.own 1 o' :: rest) W' →
          ∃ W2, Fr K G H (A ++ fp ++ B) G' H' W2 ∧ Stt K θ G' H' σ (ρ.set i (.own t o')) W2 := by
        intro G' H' W' o' rest fr S'
        have keepAB : ∀ a ∈ A ++ B, ∀ u, NT u → H a = some u → H' a = some u := fun a ha u n hu => fr.k a u hu n fun z => n3 a z ha
        generalize hσ : (v :: vs).map some = σ' at S'
        obtain ⟨s1, s2, s3, s4, s5⟩ := S'
        cases s2 with
        | @own v2 t2 o2 fp2 σ2 ρ2 W3 r2 tt2 rest2 =>
          have ev : v2 = v := by
            have := hσ
            simp at this
            exact this.1.symm
          subst ev
          obtain ⟨z1, _⟩ := h5 G' H' fr.g keepAB
          have mem2 : ∀ a ∈ fp2, a ∈ fp ∨ H a = none := fun a ha => fr.w a (List.mem_append_left _ ha)
          have inAB : ∀ a ∈ A ++ B, ∃ u, H a = some u := fun a ha => S.sts.in_ a (by rcases List.mem_append.mp ha with z | z <;> simp [z])
          have dis : ∀ a ∈ fp2, a ∉ A ++ B := fun a ha hb => by
            rcases mem2 a ha with z | z
            · exact n3 a z hb
            · obtain ⟨u, hu⟩ := inAB a hb; rw [z] at hu; cases hu
          refine ⟨A ++ fp2 ++ B, ⟨fr.g, fun a u h n hn => fr.k a u h n fun z => hn (by simp [z]), fun a ha => ?_, fun a u h => ?_, fr.al, fr.tb⟩, s1, z1 o' fp2 r2, nodup_mid' (List.nodup_append.mp s3).1 n2 dis, fun a ha => ?_, s5⟩
          · rcases List.mem_append.mp ha with ha | ha
            · rcases List.mem_append.mp ha with ha | ha
              · exact .inl (by simp [ha])
              · exact (mem2 a ha).elim (fun z => .inl (by simp [z])) .inr
            · exact .inl (by simp [ha])
          · rcases fr.n a u h with z | z | z
            · exact .inl z
            · exact .inr (.inl (by simp [z]))
            · exact .inr (.inr z)
          · have AB : a ∈ A ++ B → G' a = none := fun hb => by
              cases q' : G' a with
              | none => rfl
              | some u =>
                rcases fr.n a u q' with z | z | z
                · rw [S.out a (by rcases List.mem_append.mp hb with y | y <;> simp [y])] at z; cases z
                · exact absurd hb (n3 a z)
                · obtain ⟨u', hu⟩ := inAB a hb; rw [z] at hu; cases hu
            rcases List.mem_append.mp ha with ha | ha
            · rcases List.mem_append.mp ha with ha | ha
              · exact AB (List.mem_append_left _ ha)
              · exact s4 a (List.mem_append_left _ ha)
            · exact AB (List.mem_append_right _ ha)
      cases hF : F (.own 1 o :: ds.map .val) with
      | st => rw [hF] at q; exact q
      | ex x ρ' =>
        rw [hF] at q
        cases ρ' with
        | nil => exact q.elim
        | cons sl rest =>
          cases sl with
          | un => exact q.elim
          | val d => exact q.elim
          | own t' o' =>
            by_cases ht : t' = 1
            · subst ht
              intro d G' H' W' fr S' xk
              obtain ⟨W2, f2, S2⟩ := fin fr S'
              exact q d G' H' W2 f2 S2 xk
            · have : (match RS.ex x (Sl.own t' o' :: rest) with
                | .ok (.rt d) (.own 1 o' :: _) => RE.ok d (ρ.set i (.own t o'))
                | .ex x (.own 1 o' :: _) => .ex x (ρ.set i (.own t o'))
                | _ => .st) = RE.st := by
                match t', ht with
                | 0, _ => rfl
                | n + 2, _ => rfl
              rw [this] at q
              exact q.elim
      | ok fl ρ' =>
        rw [hF] at q
        cases fl with
        | rt d =>
          cases ρ' with
          | nil => exact q.elim
          | cons sl rest =>
            cases sl with
            | un => exact q.elim
            | val d => exact q.elim
            | own t' o' =>
              by_cases ht : t' = 1
              · subst ht
                intro v' G' H' W' fr S' z
                obtain ⟨W2, f2, S2⟩ := fin fr S'
                exact q v' G' H' W2 f2 S2 z
              · have : (match RS.ok (.rt d) (Sl.own t' o' :: rest) with
                  | .ok (.rt d) (.own 1 o' :: _) => RE.ok d (ρ.set i (.own t o'))
                  | .ex x (.own 1 o' :: _) => .ex x (ρ.set i (.own t o'))
                  | _ => .st) = RE.st := by
                  match t', ht with
                  | 0, _ => rfl
                  | n + 2, _ => rfl
                rw [this] at q
                exact q.elim
        | rtO o => exact q.elim
        | nx => exact q.elim
        | bk => exact q.elim
        | ct => exact q.elim
theorem de_callO {x y : Str} {ps : List Str} {F : List Sl → RS} {i : Nat} {py : Pos} (cl : Cal X W x ps F) (hv : PE X (.Name y py) (tVar i)) (ha : DB X W es fa)
    (hl : ∀ ρ ds ρ', fa ρ = .ok ds ρ' → ds.length + 1 = ps.length)
    (he : starEach (.Name y py :: es) X.env = (false, eval (.Name y py) X.env) :: starEach es X.env := by rfl) (hpl : (backTo pos (starEach es X.env)).any (·.1) = false := by rfl) : DE X W (.Call (.Name x p) (.Name y py :: es) [] pos) (eCallO F i fa) := by
  refine ⟨PE.conseq (cl (pa_cons hv ha.run he) he hpl) fun σ H Q ⟨θ, G, ρ, Ws, S, q⟩ => ?_⟩
  -- the name is read first; its thing is looked at when the call is made
  unfold eCallO at q
  split at q
  · rename_i t o hρ
    obtain ⟨v, fp, h1, _⟩ := S.sts.own_at hρ
    refine ⟨v, h1, θ, G, ρ, Ws, S, ?_⟩
    cases hfa : fa ρ with
    | st => rw [hfa] at q; exact q.elim
    | ex x ρ' => rw [hfa] at q; exact q
    | ok ds ρ1 =>
      rw [hfa] at q
      have q : Ek X.K W σ θ G H Ws (callO F i ds ρ1) Q := q
      exact fun vs G' H' W' fr S' r => callO_ek S' h1 (hl ρ ds ρ1 hfa) r (q.fr fr)
  · exact q.elim
end
end DL
set_option Elab.async false
set_option linter.all false
set_option maxRecDepth 100000
set_option maxHeartbeats 2000000
namespace DL
open PySem PySem.Spec PyProof.Rows L2
section
variable {K : Fg} {θ : Nat → Addr} {G H : Hp} {σ : L2.St} {ρ : List Sl} {W : List Addr}
/-- one object of slot i's thing is written -/
theorem Stt.write {i t : Nat} {o : Ow} (S : Stt K θ G H σ ρ W) (e : ρ[i]? = some (.own t o)) : ∃ v fp, σ[i]? = some (some v) ∧ Own K G H v o fp ∧ fp.Nodup ∧ (∀ a ∈ fp, G a = none) ∧
    ∀ b u o', b ∈ fp → Own K G (upd H b u) v o' fp → Fr K G H W G (upd H b u) W ∧ Stt K θ G (upd H b u) σ (ρ.set i (.own t o')) W := by
  obtain ⟨v, fp, A, B, h1, h2, h3, h4, h5⟩ := S.sts.focus e
  subst h4
  obtain ⟨n1, n2, n3⟩ := nodup_mid S.nd
  have g0 : ∀ a ∈ fp, G a = none := fun a ha => S.out a (by simp [ha])
  refine ⟨v, fp, h1, h2, n1, g0, fun b u o' hb ho => ?_⟩
  have gb := g0 b hb
  have tb : TbS K H (upd H b u) := by
    obtain ⟨u0, hu, nx⟩ := h2.nt b hb
    exact TbS.upd hu nx
  refine ⟨⟨Same.refl _, fun a z h _ hn => by rw [upd_ne (fun q => hn (by simp [q, hb]))]; exact h, fun a ha => .inl ha, fun a z h => .inl h, fun a z => by
    by_cases q : a = b
    · rw [q, upd_same] at z; cases z
    · rw [upd_ne q] at z; exact z, tb⟩, same_aside S.same gb, ?_, S.nd, S.out, S.tab.ext (fun _ _ z => .inl z) tb⟩
  exact (h5 G (upd H b u) (Same.refl _) fun a ha z _ hz => by rw [upd_ne (fun q => n3 b hb (by rw [← q]; exact ha))]; exact hz).1 o' fp ho
end
/-- append, pop(e) -/
def eApp (i : Nat) (fe : List Sl → RE) (ρ : List Sl) : RE := match ρ[i]? with
  | some (.own _ (.lst _)) => (fe ρ).bind fun d ρ1 => (match ρ1[i]? with
    | some (.own t (.lst ds)) => if ds.length < sizeLine then .ok .non (ρ1.set i (.own t (.lst (ds ++ [d])))) else .st
    | _ => .st)
  | _ => .st
def ePop (i : Nat) (fe : List Sl → RE) (ρ : List Sl) : RE := match ρ[i]? with
  | some (.own _ (.lst _)) => (fe ρ).bind fun d ρ1 => (match ρ1[i]? with
    | some (.own t (.lst ds)) => (match d with
      | .int k => if 0 ≤ k ∧ k < 2 ^ 62 then (match ds[k.toNat]? with
        | some x => .ok x (ρ1.set i (.own t (.lst (ds.eraseIdx k.toNat))))
        | none => .st) else .st
      | _ => .st)
    | _ => .st)
  | _ => .st
section
variable {X : Cx} {W : WX} {e o idx : Expr} {fe : List Sl → RE} {g gi gj : List Sl → R D} {i : Nat} {pos apos cpos : Pos} {x : Str} {py : Pos}
theorem own_lst {K : Fg} {G H : Hp} {v : V} {ds : List D} {fp : List Addr} (h : Own K G H v (.lst ds) fp) : ∃ a vs, v = .ref a ∧ fp = [a] ∧ H a = some (.lst vs) ∧ RpA K G vs ds := by
  cases h with
  | lst h r => exact ⟨_, _, rfl, rfl, h, r⟩
end
def TgM (K : Fg) (W : WX) (t : TG) (f : D → List Sl → Option (List Sl)) : Prop := ∀ ⦃θ G H σ ρ Ws v d ρ' Q⦄, Stt K θ G H σ ρ Ws → Rp K G v d → f d ρ = some ρ' →
    (∀ σ' G' H' W', Fr K G H Ws G' H' W' → Stt K θ G' H' σ' ρ' W' → Q σ' H') → t v σ H Q
def TgsM (K : Fg) (W : WX) (t : TGs) (f : List D → List Sl → Option (List Sl)) : Prop := ∀ ⦃θ G H σ ρ Ws xs ds ρ' Q⦄, Stt K θ G H σ ρ Ws → RpA K G xs ds → f ds ρ = some ρ' →
    (∀ σ' G' H' W', Fr K G H Ws G' H' W' → Stt K θ G' H' σ' ρ' W' → Q σ' H') → t xs σ H Q
theorem TgOk.m {K : Fg} {W : WX} {t : TG} {vs : List Nat} {f : D → List Sl → Option (List Sl)} (h : TgOk K Rp t vs f) : TgM K W t f := fun {θ G H σ ρ Ws v d ρ' Q} S r e q =>
  h S r e fun σ' W' S' sb _ => q σ' G H W' (Fr.refl.less fun a ha => sb.subset ha) S'
theorem tm_nil {K : Fg} {W : WX} : TgsM K W gNil gsNil := fun {θ G H σ ρ Ws xs ds ρ' Q} S r e q => by
  cases r with
  | nil => cases e; exact ⟨rfl, q _ _ _ _ Fr.refl S⟩
  | cons _ _ => cases e
theorem tm_cons {K : Fg} {W : WX} {t1 : TG} {t2 : TGs} {f : D → List Sl → Option (List Sl)} {g : List D → List Sl → Option (List Sl)} (r1 : TgM K W t1 f) (r2 : TgsM K W t2 g) : TgsM K W (gCons t1 t2) (gsCons f g) := fun {θ G H σ ρ Ws xs ds ρ' Q} S r e q => by
  cases r with
  | nil => cases e
  | @cons v d xs ds r rt =>
    unfold gsCons at e
    simp only [Option.bind_eq_some_iff] at e
    obtain ⟨ρ1, e1, e2⟩ := e
    exact ⟨v, xs, rfl, r1 S r e1 fun σ1 G1 H1 W1 fr1 S1 => r2 S1 (rt.mono fr1.g) e2 fun σ2 G2 H2 W2 fr2 S2 => q _ _ _ _ (fr1.trans fr2) S2⟩
theorem tm_tup {K : Fg} {W : WX} {t1 : TGs} {f : List D → List Sl → Option (List Sl)} {n : Nat} (r1 : TgsM K W t1 f) (hf : ∀ ds ρ ρ', f ds ρ = some ρ' → ds.length = n) : TgM K W (gTup K n t1) (gTupD f) := fun {θ G H σ ρ Ws v d ρ' Q} S r e q => by
  cases r with
  | tup ht r => exact ⟨_, _, rfl, sameT S.same ht.t, by rw [r.length]; exact hf _ _ _ e, r1 S r e q⟩
  | _ => cases e
/-- x[e] = d -/
def gIx (i : Nat) (g : List Sl → R D) (d : D) (ρ : List Sl) : Option (List Sl) := match ρ[i]?, g ρ with
  | some (.own t (.lst ds)), .ok (.int k) => (ixN ds.length k).map fun j => ρ.set i (.own t (.lst (ds.set j d)))
  | _, _ => none
/-- x[e1][e2] = d, a list of lists -/
def gIx2 (i : Nat) (g1 g2 : List Sl → R D) (d : D) (ρ : List Sl) : Option (List Sl) := match ρ[i]?, g1 ρ, g2 ρ with
  | some (.own t (.ll dss)), .ok (.int k1), .ok (.int k2) => (ixN dss.length k1).bind fun j1 => (dss[j1]?).bind fun ds => (ixN ds.length k2).map fun j2 => ρ.set i (.own t (.ll (dss.set j1 (ds.set j2 d))))
  | _, _, _ => none
theorem tm_ix {K : Fg} {W : WX} {i : Nat} {g : List Sl → R D} : TgM K W (gSub (tVar i) (tZ Zc K W g) rSetL) (gIx i g) := fun {θ G H σ ρ Ws v d ρ' Q} S r e q => by
  unfold gIx at e
  split at e
  · rename_i t ds k h0 hg
    rw [Option.map_eq_some_iff] at e
    obtain ⟨j, hj, rfl⟩ := e
    obtain ⟨v0, fp0, s1, s2, _⟩ := S.sts.own_at h0
    obtain ⟨a, vs, ev, _, ha, _⟩ := own_lst s2
    subst ev
    refine ⟨_, s1, θ, G, ρ, Ws, S, ?_⟩
    rw [hg]
    intro u G1 H1 e1 z
    cases z
    have S1 := S.ext e1
    obtain ⟨v', fp', s3, s4, n1, g0, wr⟩ := S1.write h0
    rw [s1] at s3
    cases s3
    obtain ⟨a', vs', ev, efp, ha', ra⟩ := own_lst s4
    cases ev
    subst efp
    obtain ⟨fr, S2⟩ := wr a (.lst (vs'.set j v)) (.lst (ds.set j d)) (by simp) (.lst upd_same (ra.set j (r.mono e1.g)))
    exact ⟨a, vs', k, j, rfl, rfl, ha', by rw [ra.length]; exact hj, q _ _ _ _ ((Fr.of e1).trans fr) S2⟩
  · cases e
section
variable {X : Cx} {W : WX} {s : Stmt} {e : Expr} {g : List Sl → R D} {ge : List Sl → RE}
theorem ds_asgM {gg : TG} {tf : D → List Sl → Option (List Sl)} (hg : TgM X.K W gg tf) (he : DP X W e g) (hps : ∀ te, PE X e te → PS X s (tAsg te gg)) : DS X W s (sAsg tf g) :=
  ⟨PS.conseq (hps _ he.run) fun E σ H ⟨θ, G, ρ, Ws, S, q⟩ => ⟨θ, G, ρ, Ws, (Fin.pk (Z := Zc) S q).imp fun v H1 ⟨d, G1, e1, S1, z, q1⟩ => by
    cases hf : tf d ρ with
    | none => rw [hf] at q1; exact q1.elim
    | some ρ' =>
      rw [hf] at q1
      exact hg S1 z hf fun σ' G' H' W' fr S' => q1 σ' G' H' W' fr S'⟩⟩
/-- found[e].append(x), a list of lists -/
def eAppLL (i : Nat) (g1 g : List Sl → R D) (ρ : List Sl) : RE := match ρ[i]?, g1 ρ, g ρ with
  | some (.own t (.ll dss)), .ok (.int k1), .ok d => (match (ixN dss.length k1) with
    | some j => (match dss[j]? with
      | some ds => if ds.length < sizeLine then .ok .non (ρ.set i (.own t (.ll (dss.set j (ds ++ [d]))))) else .st
      | none => .st)
    | none => .st)
  | _, _, _ => .st
def vVal (g : List Sl → RE) (t : List Sl → RV) (ρ : List Sl) : RV := match g ρ with
  | .ok d ρ1 => (t ρ1).bind fun ds ρ2 => .ok (.v d :: ds) ρ2
  | .ex x ρ1 => .ex x ρ1
  | .st => .st
def vFr (g : List Sl → R D) (t : List Sl → RV) (ρ : List Sl) : RV := match g ρ with
  | .ok (.lst ds) => (t ρ).bind fun r ρ2 => .ok (.f ds :: r) ρ2
  | .ex x => .ex x ρ
  | _ => .st
def tV' (K : Fg) (W : WX) (f : List Sl → RV) : TA := fun σ H Q => ∃ θ G ρ Ws, Stt K θ G H σ ρ Ws ∧ Vk K W σ θ G H Ws (f ρ) Q
structure DV (X : Cx) (W : WX) (es : List Expr) (f : List Sl → RV) : Prop where
  run : PA X es (tV' X.K W f)
theorem AvsOk.new {K : Fg} {G H0 H : Hp} {xs : List V} {ds : List AV} {fp : List Addr} (h : AvsOk K G H0 H xs ds fp) : ∀ a ∈ fp, H0 a = none ∧ G a = none := by
  induction h with
  | nil => intro a ha; cases ha
  | cons h _ n ih =>
    intro a ha
    rcases List.mem_append.mp ha with z | z
    · cases h with
      | v r => cases z
      | f h1 h2 h3 h4 => rw [List.mem_singleton.mp z]; exact ⟨h3, h4⟩
      | o h1 h2 h3 h4 => exact ⟨h3 a z, h4 a z⟩
    · exact ih a z
theorem dv_nil : DV X W [] vNil := ⟨PA.conseq pa_nil fun σ H Q ⟨θ, G, ρ, Ws, S, q⟩ => q [] [] G H Ws Fr.refl S .nil (by simp)⟩
theorem dv_val {es : List Expr} {ge : List Sl → RE} {t : List Sl → RV} (h : DE X W e ge) (ht : DV X W es t) (hs : starEach (e :: es) X.env = (false, eval e X.env) :: starEach es X.env := by rfl) : DV X W (e :: es) (vVal ge t) :=
  ⟨PA.conseq (pa_cons h.run ht.run hs) fun σ H Q ⟨θ, G, ρ, Ws, S, q⟩ => ⟨θ, G, ρ, Ws, S, by
    unfold vVal at q
    cases hg : ge ρ with
    | st => rw [hg] at q; exact q
    | ex x ρ' => rw [hg] at q; exact q
    | ok d ρ1 =>
      rw [hg] at q
      have q : Vk X.K W σ θ G H Ws ((t ρ1).bind fun ds ρ2 => .ok (.v d :: ds) ρ2) Q := q
      intro v G1 H1 W1 fr S1 z
      refine ⟨θ, G1, ρ1, W1, S1, ?_⟩
      have q1 := q.fr fr
      cases htv : t ρ1 with
      | st => rw [htv] at q1; exact q1
      | ex x ρ' => rw [htv] at q1; exact q1
      | ok ds ρ2 =>
        rw [htv] at q1
        exact fun vs fp G2 H2 W2 fr2 S2 zs hd => q1 (v :: vs) fp G2 H2 W2 fr2 S2 (AvsOk.cons (fp := []) (.v (z.mono fr2.g)) zs (by simp)) hd⟩⟩
/-- the slots' new things, from the left -/
def putAll : List Nat → List AV → List Sl → Option (List Sl)
  | [], [], ρ => some ρ
  | i :: is, a :: r, ρ => if i < ρ.length then putAll is r (ρ.set i (match a with | .v d => .val d | .f ds => .own 0 (.lst ds) | .o w => .own 0 w)) else none
  | _, _, _ => none
def setAll : List Nat → List V → L2.St → L2.St
  | i :: is, v :: vs, σ => setAll is vs (σ.set i (some v))
  | _, _, σ => σ
def sPar (is : List Nat) (f : List Sl → RV) (ρ : List Sl) : RS := match f ρ with
  | .ok ds ρ1 => (match putAll is ds ρ1 with
    | some ρ2 => .ok .nx ρ2
    | none => .st)
  | .ex x ρ1 => .ex x ρ1
  | .st => .st
theorem putAll_ok {K : Fg} {θ : Nat → Addr} {G H0 H : Hp} : ∀ {is : List Nat} {xs : List V} {ds : List AV} {fp : List Addr} {σ : L2.St} {ρ ρ' : List Sl} {Ws : List Addr}, Stt K θ G H σ ρ Ws → AvsOk K G H0 H xs ds fp → (∀ a ∈ fp, a ∉ Ws) → putAll is ds ρ = some ρ' →
    ∃ W', Stt K θ G H (setAll is xs σ) ρ' W' ∧ ∀ a ∈ W', a ∈ fp ∨ a ∈ Ws
  | [], xs, ds, fp, σ, ρ, ρ', Ws, S, h, hd, e => by
    cases h with
    | nil => cases e; exact ⟨Ws, S, fun a ha => .inr ha⟩
    | cons _ _ _ => cases e
  | i :: is, xs, ds, fp, σ, ρ, ρ', Ws, S, h, hd, e => by
    cases h with
    | nil => cases e
    | @cons x d f1 xs ds f2 h t n =>
      unfold putAll at e
      split at e
      · rename_i hi
        cases h with
        | @v _ d r =>
          obtain ⟨W1, S1, sb⟩ := S.put hi r
          obtain ⟨W', S', m⟩ := putAll_ok S1 t (fun a ha z => hd a (by simpa using ha) (sb.subset z)) e
          exact ⟨W', S', fun a ha => (m a ha).elim (fun z => .inl (by simpa using z)) fun z => .inr (sb.subset z)⟩
        | @f a vs ds1 h1 h2 h3 h4 =>
          obtain ⟨W1, S1, m1⟩ := S.putOwn (i := i) (o := .lst ds1) (fp := [a]) hi (.lst h1 h2) (by simp) (fun b hb => by rw [List.mem_singleton.mp hb]; exact hd a (by simp)) (fun b hb => by rw [List.mem_singleton.mp hb]; exact h4)
          obtain ⟨W', S', m⟩ := putAll_ok S1 t (fun b hb z => by
            rcases m1 b z with y | y
            · exact n b y hb
            · exact hd b (by simp [hb]) y) e
          refine ⟨W', S', fun b hb => ?_⟩
          rcases m b hb with y | y
          · exact .inl (by simp [y])
          · rcases m1 b y with z | z
            · exact .inl (by simp at z; simp [z])
            · exact .inr z
        | o h1 h2 h3 h4 =>
          obtain ⟨W1, S1, m1⟩ := S.putOwn (i := i) hi h1 h2 (fun b hb => hd b (by simp [hb])) h4
          obtain ⟨W', S', m⟩ := putAll_ok S1 t (fun b hb z => by
            rcases m1 b z with y | y
            · exact n b y hb
            · exact hd b (by simp [hb]) y) e
          refine ⟨W', S', fun b hb => ?_⟩
          rcases m b hb with y | y
          · exact .inl (by simp [y])
          · rcases m1 b y with z | z
            · exact .inl (by simp [z])
            · exact .inr z
      · cases e
/-- one more object, or none -/
def Ax (H1 H2 : Hp) : Prop := H2 = H1 ∨ ∃ p o, H1 p = none ∧ H2 = upd H1 p o
theorem putAll_len {K : Fg} {G H0 H : Hp} : ∀ {is : List Nat} {xs : List V} {ds : List AV} {fp : List Addr} {ρ ρ' : List Sl}, AvsOk K G H0 H xs ds fp → putAll is ds ρ = some ρ' → xs.length = is.length
  | [], _, _, _, _, _, .nil, _ => rfl
  | [], _, _, _, _, _, .cons _ _ _, e => by cases e
  | _ :: _, _, _, _, _, _, .nil, e => by cases e
  | i :: is, _, _, _, ρ, _, .cons h t n, e => by
    unfold putAll at e
    split at e
    · simp [putAll_len t e]
    · cases e
/-- several names at once, by the rule of the statement -/
theorem ds_par {is : List Nat} {es : List Expr} {f : List Sl → RV} {ts : TA → TS} (h : DV X W es f) (hps : ∀ ta, PA X es ta → PS X s (ts ta)) (hts : ∀ E σ H, tV' X.K W f σ H (fun vs H1 => vs.length = is.length ∧ ∀ H2, Ax H1 H2 → E.nx (setAll is vs σ) H2) → ts (tV' X.K W f) E σ H) : DS X W s (sPar is f) :=
  ⟨PS.conseq (hps _ h.run) fun E σ H ⟨θ, G, ρ, Ws, S, q⟩ => hts _ _ _ ⟨θ, G, ρ, Ws, S, by
    unfold sPar at q
    cases hf : f ρ with
    | st => rw [hf] at q; exact q
    | ex x ρ1 => rw [hf] at q; exact fun d G' H' W' fr S' xk => q d σ G' H' W' fr S' xk
    | ok ds ρ1 =>
      rw [hf] at q
      intro vs fp G1 H1 W1 fr S1 av hd
      dsimp only at q
      split at q
      · rename_i ρ2 hp
        refine ⟨putAll_len av hp, fun H2 hx => ?_⟩
        obtain ⟨fr2, S2⟩ : Fr X.K G1 H1 W1 G1 H2 W1 ∧ Stt X.K θ G1 H2 σ ρ1 W1 := by
          rcases hx with rfl | ⟨p, o, hp', rfl⟩
          · exact ⟨Fr.refl, S1⟩
          · have e := Ext.aside (K := X.K) (o := o) S1.same hp'
            exact ⟨Fr.of e, S1.ext e⟩
        have av2 := av.keep fr2 hd
        obtain ⟨W', S', m⟩ := putAll_ok S2 av2 hd hp
        have f12 := fr.trans fr2
        refine q _ G1 H2 W' ⟨f12.g, f12.k, fun a ha => ?_, f12.n, f12.al, f12.tb⟩ S'
        rcases m a ha with z | z
        · exact .inr (av.new a z).1
        · exact f12.w a z
      · exact q.elim⟩⟩
theorem tV'_mono {K : Fg} {f : List Sl → RV} {σ : L2.St} {H : Hp} {Q Q' : List V → Hp → Prop} (q : ∀ vs H', Q vs H' → Q' vs H') (h : tV' K W f σ H Q) : tV' K W f σ H Q' := by
  obtain ⟨θ, G, ρ, Ws, S, h⟩ := h
  refine ⟨θ, G, ρ, Ws, S, ?_⟩
  cases hf : f ρ with
  | st => rw [hf] at h; exact h
  | ex x ρ1 => rw [hf] at h; exact h
  | ok ds ρ1 => rw [hf] at h; exact fun vs fp G1 H1 W1 fr S1 av hd => q _ _ (h vs fp G1 H1 W1 fr S1 av hd)
theorem ds_par2 {i j : Nat} {es : List Expr} {f : List Sl → RV} (h : DV X W es f) (hps : ∀ ta, PA X es ta → PS X s (tPar i j ta)) : DS X W s (sPar [i, j] f) :=
  ds_par h hps fun E σ H q => tV'_mono (fun vs H' ⟨hl, q⟩ => by
    match vs, hl with
    | [v, w], _ => exact ⟨v, w, rfl, q _ (.inl rfl)⟩) q
end
end DL
set_option Elab.async false
set_option linter.all false
set_option maxRecDepth 100000
set_option maxHeartbeats 2000000
namespace DL
open PySem PySem.Spec PyProof.Rows L2
section
variable {P : Program} {w : World} {K : Fg} {mg : Str → Option Value} {base : Heap} {j k : Nat} {f : Addr} {fd : FuncData} {ps : List Str} {sp : Sp}
theorem endCX {outer : List Env} {H : Hp} {s s' : Shared} {e : Value} (h : L2N.CX P w outer H s (fun _ _ _ => False) e s') : False := by
  obtain ⟨a, B, H', cls, d, _, _, _, _, _, _, _, h⟩ := h
  exact h
/-- the script tracked, or one of the written part -/
theorem lawG_two {a : Addr} {s₁ : Shared} {vs : List Value} {ns : List Int} {C : Prop} (KX : K.In s₁.heap) (ha : s₁.heap.get? a = some { cls := .type "list", data := .seq vs.toArray }) (hi : IntsAre vs ns) (hl : ns.length ≤ sizeLine)
    (main : ∀ H : Hp, Only H → SqL K H a (ns.map V.int) → HOk P w H s₁.heap → (∀ b, H b ≠ none → b = a) → (H a ≠ none → K.lookup a = none) → C) : C := by
  have rv := vals_ints hi
  have hlen : vs.length = ns.length := hi.length
  by_cases hk : ∃ o, K.lookup a = some o
  · obtain ⟨o, hk⟩ := hk
    have e := KX a o hk
    rw [ha] at e
    cases e
    exact main (fun _ => none) (fun _ => .inl rfl) (.inr ⟨_, vs.toArray, _, hk, rfl, rfl, rfl, by simpa [hlen] using hl, by simpa using rv⟩) (fun _ _ z => nomatch z) (fun _ z => (z rfl).elim) (fun z => (z rfl).elim)
  · have hk : K.lookup a = none := by
      cases q : K.lookup a with
      | none => rfl
      | some o => exact (hk ⟨o, q⟩).elim
    let T : HO := .frz { cls := .type "list", data := .seq vs.toArray } (.lst (ns.map V.int))
    have tA : (fun b => if b = a then some T else none : Hp) a = some T := if_pos rfl
    have tN : ∀ b, b ≠ a → (fun b => if b = a then some T else none : Hp) b = none := fun b h => if_neg h
    refine main (fun b => if b = a then some T else none) (fun b => ?_) (.inl (.inr ⟨_, tA⟩)) (fun b u z => ?_) (fun b z => Classical.byContradiction fun h => z (tN b h)) fun _ => hk
    · by_cases h : b = a
      · subst h; exact .inr ⟨_, _, tA⟩
      · exact .inl (tN b h)
    · by_cases h : b = a
      · subst h
        rw [tA] at z
        cases z
        exact ⟨ha, by simpa using hl, vs, _, rv, ha⟩
      · rw [tN b h] at z; cases z
end
section
variable {X : Cx} {W : WX} {k : Nat} {f : Addr} {fd : FuncData} {ps : List Str} {sp : Sp} {x : Str} {p pos : Pos} {e : Expr} {es : List Expr} {t : TA}
theorem run_og {pins : List (Addr × Obj)} {σ : L2.St} {H : Hp} {s : Shared} {Q : VK} {us : List Value} {vs : List V} (F : FnOg X.prog X.w X.K X.mg X.base k f fd ps sp) (hgd : X.A.guards = some []) (hr : Room k X.A) (hb : Binds X.K fd ps []) (tk : L2N.Takes X W)
    (I : Inv X pins σ H s) (r : Vals vs us) (h : sp vs H Q (WE W σ)) : wpAny (model X.prog X.w) X.A (PySem.call (.ref f) us) (EP X pins σ Q) X.xe s := by
  have b := hb s us I.kIn (by simpa using r.length.symm.trans (F.len _ _ _ _ h))
  refine wpAny_call (codeAny_mono (F.run (args := ⟨us, []⟩) hgd hr I.env0 (by simpa using b) r h) fun r s' hq => ?_)
  match r, hq with
  | .error e, hq => exact L2N.passAt tk σ pins H s e s' I hq
  | .ok (.ret u), hq => exact I.after hq
  | .ok .next, hq => exact hq.elim
  | .ok .brk, hq => exact hq.elim
  | .ok .cont, hq => exact hq.elim
theorem pe_callG (F : FnOg X.prog X.w X.K X.mg X.base k f fd ps sp) (hgd : X.A.guards = some []) (hr : Room k X.A) (hg : Gl X x) (hm : X.mg x = some (.ref f)) (hk : PySem.W.keepIn X.K (.ref f) = true) (hb : Binds X.K fd ps []) (tk : L2N.Takes X W)
    (ha : PA X (e :: es) t) (hdb : (x == ("__debug__" : Str)) = false := by decide) (he : starEach (e :: es) X.env = (false, eval e X.env) :: starEach es X.env := by rfl) (hpl : (backTo pos (starEach es X.env)).any (·.1) = false := by rfl) :
    PE X (.Call (.Name x p) (e :: es) [] pos) (tCallS sp (WE W) t) :=
  ⟨fun pins s σ H Q I h => wpAny_Call_Name_kw (ld_glob I hg hm (PySem.W.callWith_K I.ok.mod.kin hk (thn (ha.run pos pins s σ H _ I h) fun _ _ ⟨_, _, I1, r, q⟩ => ⟨I1.kIn, run_og F hgd hr hb tk I1 r q⟩) he hpl) hdb)⟩
theorem FnG.cal {F : List Sl → RS} (fn : FnG X.prog X.w X.K X.mg X.base k x ps F) (hgd : X.A.guards = some []) (hr : Room k X.A) (hg : Gl X x) (tk : L2N.Takes X W) (hdb : (x == ("__debug__" : Str)) = false := by decide) : Cal X W x ps F := by
  obtain ⟨f, fd, hF, hm, hk, hb⟩ := fn.ex
  exact fun _ _ _ _ _ ha he hpl => pe_callG hF hgd hr hg hm hk hb tk ha hdb he hpl
end
end DL
set_option Elab.async false
set_option linter.all false
set_option maxRecDepth 100000
set_option maxHeartbeats 2000000
namespace DL
open PySem PySem.Spec PyProof.Rows L2
def tQ (K : Fg) (W : WX) (f : List Sl → RB) : TT := fun σ H Q => ∃ θ G ρ Ws, Stt K θ G H σ ρ Ws ∧ Qk K W σ θ G H Ws (f ρ) Q
structure DQT (X : Cx) (W : WX) (e : Expr) (f : List Sl → RB) : Prop where
  run : PT X e (tQ X.K W f)
structure DQW (X : Cx) (W : WX) (e : Expr) (f : List Sl → RB) : Prop where
  run : PW X e (tQ X.K W f)
section
variable {K : Fg} {W : WX} {σ : L2.St} {θ : Nat → Addr} {G H G1 H1 : Hp} {Ws W1 : List Addr} {ρ : List Sl} {Q Q' : Bool → Hp → Prop} {E : Ends}
theorem Qk.imp {r : RB} (h : Qk K W σ θ G H Ws r Q) (q : ∀ v H', Q v H' → Q' v H') : Qk K W σ θ G H Ws r Q' := by
  cases r with
  | ok d ρ' => exact fun G' H' W' e' s => q _ _ (h G' H' W' e' s)
  | ex x ρ' => exact h
  | st => exact h
theorem Qk.tk {r : R Bool} (S : Stt K θ G H σ ρ Ws) (h : Qk K W σ θ G H Ws (upB r ρ) Q) : Tk K W σ θ G ρ Ws H r Q := by
  refine ⟨S, ?_⟩
  cases r with
  | ok d => exact fun G' H' e => h G' H' Ws (Fr.of e) (S.ext e)
  | ex x => exact fun v G' H' e z => h v G' H' Ws (Fr.of e) (S.ext e) z
  | st => exact h
end
def qAnd (f g : List Sl → RB) (ρ : List Sl) : RB := (f ρ).bind fun c ρ1 => if c then g ρ1 else .ok false ρ1
def qOr (f g : List Sl → RB) (ρ : List Sl) : RB := (f ρ).bind fun c ρ1 => if c then .ok true ρ1 else g ρ1
def qNot (f : List Sl → RB) (ρ : List Sl) : RB := (f ρ).bind fun c ρ1 => .ok (!c) ρ1
def eIf (c : List Sl → RB) (f g : List Sl → RE) (ρ : List Sl) : RE := (c ρ).bindE fun b ρ1 => if b then f ρ1 else g ρ1
def sIfE (c : List Sl → RB) (f g : List Sl → RS) (ρ : List Sl) : RS := (c ρ).seq fun b ρ1 => if b then f ρ1 else g ρ1
section
variable {X : Cx} {W : WX} {e a b c : Expr} {g : List Sl → RE} {fa fb : List Sl → RE} {pos : Pos} {f f' t : List Sl → RB} {m m' : List Sl → RS} {rest : List Expr}
theorem DT.q {g : List Sl → R Bool} (h : DT X W e g) : DQT X W e (liftB g) := ⟨PT.conseq h.run fun σ H Q ⟨θ, G, ρ, Ws, S, q⟩ => ⟨θ, G, ρ, Ws, Qk.tk S q⟩⟩
theorem DW.q {g : List Sl → R Bool} (h : DW X W e g) : DQW X W e (liftB g) := ⟨PW.conseq h.run fun σ H Q ⟨θ, G, ρ, Ws, S, q⟩ => ⟨θ, G, ρ, Ws, Qk.tk S q⟩⟩
def sAug (f : D → D → R D) (i : Nat) (g : List Sl → RE) (ρ : List Sl) : RS := match ρ[i]? with
  | some (.val d) => (g ρ).seq fun y ρ1 => (up (f d y) ρ1).seq fun z ρ2 => if i < ρ2.length then .ok .nx (ρ2.set i (.val z)) else .st
  | _ => .st
end
end DL
set_option Elab.async false
set_option linter.all false
set_option maxRecDepth 100000
set_option maxHeartbeats 2000000
namespace DL
open PySem PySem.Spec PyProof.Rows L2
section
variable {X : Cx}
def revD : D → R D
  | .lst xs => .ok (.lst xs.reverse)
  | .tup xs => .ok (.tup xs.reverse)
  | _ => .st
end
def strIx (ys : List Str) (z : Str) : Option Nat := ys.findIdx? fun y => y == z
def indexD (x y : D) : R D := match x with
  | .tup xs => (match strsO xs, y with
    | some ys, .str z => (match strIx ys z with | some j => .ok (.int (j : Nat)) | none => .st)
    | _, _ => .st)
  | .lst xs => if (D.lst xs).sh && y.sh then (match firstEq xs y with | some j => .ok (.int (j : Nat)) | none => .st) else .st
  | _ => .st
def pIndex (ga gb : List Sl → R D) (ρ : List Sl) : R D := (ga ρ).bind fun x => if ixKind x then (gb ρ).bind fun y => indexD x y else .st
end DL
set_option Elab.async false
set_option linter.all false
set_option maxRecDepth 100000
set_option maxHeartbeats 2000000
namespace DL
open PySem PySem.Spec PyProof.Rows L2
section
variable {X : Cx} {W : WX} {e a b c : Expr} {fa fb fc : List Sl → R D} {ga gb : List Sl → RE} {pos : Pos} {Za Zb Zv : ZK}
theorem tT_val {K : Fg} {g : List Sl → R D} {σ : L2.St} {H : Hp} {Q : Bool → Hp → Prop} (h : tT K W (b1 asB g) σ H Q) : tZ Zc K W g σ H fun z H3 => ∃ k, z = .bl k ∧ Q k H3 := by
  obtain ⟨θ, G, ρ, Ws, q⟩ := h
  exact ⟨θ, G, ρ, Ws, (Tk.pk q).imp fun v H1 ⟨d, G1, _, e, z, q1⟩ => by
    cases d with
    | bl b => cases z; exact ⟨_, rfl, q1.val⟩
    | _ => exact q1.2.elim⟩
theorem dt_cmp [ZOk Za] [ZOk Zb] {op : CmpOp} {r : R2} {f : D → D → R D} (ho : OpR X (compareOp op) r) (hd : Op2 X.K Za Zb r f) (ha : DZ Za X W a fa) (hb : DZ Zb X W b fb) (hm : behindInMarks op b = false) : DT X W (.Compare a [op] [b] pos) (b1 asB (p2 f fa fb)) :=
  ⟨PT.conseq (pt_cmpR ho ha.run hb.run hm) fun _ _ _ h => tZ_2 hd (tT_val h)⟩
def isStr : D → Bool
  | .str _ => true
  | _ => false
/-- a text's method -/
def pM1 (f : D → D → R D) (ga gb : List Sl → R D) (ρ : List Sl) : R D := (ga ρ).bind fun x => if isStr x then (gb ρ).bind fun y => f x y else .st
/-- a value, or a tuple that is known by its items alone -/
def Zi : ZK := fun K G _ v d => RpI K G v d
def dmD (x y : D) : R D := match x, y with
  | .int i, .int j => if 0 < j ∧ j < 1073741824 then .ok (.tup [.int (i / j), .int (i % j)]) else .st
  | _, _ => .st
theorem dp_divmod (ha : DP X W a fa) (hb : DP X W b fb) (hpe : ∀ t, PA X [a, b] t → PE X e (tCB (fun xs H Q => ∃ i j, xs = [.int i, .int j] ∧ CDiv i j ∧ ∀ p, H p = none → Q (.ref p) (upd H p (.tup [.int (i / j), .int (i % j)]))) t))
    (hs : starEach [a, b] X.env = (false, eval a X.env) :: starEach [b] X.env := by rfl) (hs2 : starEach [b] X.env = (false, eval b X.env) :: starEach [] X.env := by rfl) : DZ Zi X W e (p2 dmD fa fb) :=
  ⟨PE.conseq (hpe _ (pa_cons ha.run (pa_cons hb.run pa_nil hs2) hs)) fun σ H Q ⟨θ, G, ρ, Ws, q⟩ => ⟨θ, G, ρ, Ws, (q.bind (Za := Zc)).imp fun x H1 ⟨d, G1, _, e, z, q1⟩ => ⟨θ, G1, ρ, Ws, (q1.bind (Za := Zc)).imp fun y H2 ⟨d2, G2, _, e2, z2, q2⟩ => by
    unfold dmD at q2
    split at q2
    · split at q2
      · rename_i h
        cases z
        cases z2
        exact ⟨_, _, rfl, h, fun p hp => q2.new hp (RpI.t upd_same (.cons (.int _) (.cons (.int _) .nil)))⟩
      · exact q2.2.elim
    · exact q2.2.elim⟩⟩⟩
theorem tm_tupI {K : Fg} {t1 : TGs} {f : List D → List Sl → Option (List Sl)} {n : Nat} (r1 : TgsM K W t1 f) (hf : ∀ ds ρ ρ', f ds ρ = some ρ' → ds.length = n) {θ G H σ ρ Ws v d ρ' Q} (S : Stt K θ G H σ ρ Ws) (r : RpI K G v d) (e : gTupD f d ρ = some ρ')
    (q : ∀ σ' G' H' W', Fr K G H Ws G' H' W' → Stt K θ G' H' σ' ρ' W' → Q σ' H') : gTup K n t1 v σ H Q := by
  cases r with
  | r r => exact tm_tup (W := W) r1 hf S r e q
  | t ht r => exact ⟨_, _, rfl, SqT.of (S.same _ _ ht), by rw [r.length]; exact hf _ _ _ e, r1 S r e q⟩
theorem ds_asgI {s : Stmt} {n : Nat} {gg : TGs} {tf : List D → List Sl → Option (List Sl)} {g : List Sl → R D} (hg : TgsM X.K W gg tf) (hf : ∀ ds ρ ρ', tf ds ρ = some ρ' → ds.length = n) (he : DZ Zi X W e g) (hps : ∀ te, PE X e te → PS X s (tAsg te (gTup X.K n gg))) : DS X W s (sAsg (gTupD tf) g) :=
  ⟨PS.conseq (hps _ he.run) fun E σ H ⟨θ, G, ρ, Ws, S, q⟩ => ⟨θ, G, ρ, Ws, (Fin.pk (Z := Zi) S q).imp fun v H1 ⟨d, G1, e1, S1, z, q1⟩ => by
    cases hf' : gTupD tf d ρ with
    | none => rw [hf'] at q1; exact q1.elim
    | some ρ' =>
      rw [hf'] at q1
      exact tm_tupI (W := W) hg hf S1 z hf' fun σ' G' H' W' fr S' => q1 σ' G' H' W' fr S'⟩⟩
end
mutual
theorem pure_noDict : ∀ d : D, d.pure = true → d.py.hasDict = false
  | .non, _ | .bl _, _ | .int _, _ | .str _, _ => rfl
  | .tup xs, h => by
    have := pureA_noDict xs (by simpa [D.pure] using h)
    simpa [D.py, PyData.hasDict] using this
  | .lst xs, h => by
    have := pureA_noDict xs (by simpa [D.pure] using h)
    simpa [D.py, PyData.hasDict] using this
  | .scr _, h | .dct _, h | .ins _ _, h => by simp [D.pure] at h
theorem pureA_noDict : ∀ xs : List D, pureA xs = true → PyData.hasDictAll (pyA xs) = false
  | [], _ => rfl
  | x :: xs, h => by
    simp only [pureA, Bool.and_eq_true] at h
    simp only [pyA, PyData.hasDictAll, pure_noDict x h.1, pureA_noDict xs h.2, Bool.or_self]
end
def D.shows (d : D) : Bool := d.pure && d.py.showable && decide (d.py.depth ≤ 100) && decide (d.py.shown.length ≤ sizeLine)
def reprE : D → R D
  | .dct [] => .ok (.str "{}")
  | _ => .st
def reprD (d : D) : R D := if d.shows then .ok (.str d.py.shown) else reprE d
def rRepr (K : Fg) : List V → Hp → VK → Prop := fun xs H Q => (∃ x d, xs = [x] ∧ Dp K H x d ∧ d.showable = true ∧ d.hasDict = false ∧ d.depth ≤ 100 ∧ d.shown.length ≤ sizeLine ∧ Q (.str d.shown) H) ∨ ∃ a o, xs = [.ref a] ∧ H a = some (.frz o (.dK [])) ∧ Q (.str "{}") H
/-- an empty dict, as it is shown -/
theorem reads_dk0 {P : Program} {w : World} {H : Hp} {h : Heap} {a : Addr} {o : Obj} (k : ObjOk P w H h a (.frz o (.dK []))) : Reads h (.ref a) (.dict []) ([a] ++ []) ∧ a ≠ sysModules := by
  obtain ⟨_, k⟩ := k
  obtain ⟨_, ns, vs, kv, ox, es, ep, e1, ⟨ec, _, _⟩, e2, _, e3, _⟩ := (show ([] : List (Key × V)).length ≤ sizeLine ∧ (a == sysModules) = false ∧ ∃ vs, KV [] vs ∧ h.DictOf (mixKind P w) a vs from k)
  cases kv
  have e0 : es.toList = [] := by
    cases hE : es.toList with
    | nil => rfl
    | cons x xs => rw [hE] at e3; cases e3
  refine ⟨Reads.dict e1 ec e2 (by rw [e0]; exact ReadsAll.nil) (by rw [e0]; exact ReadsAll.nil), fun z => ?_⟩
  rw [z, beq_self_eq_true] at ns
  cases ns
theorem cr_repr {X : Cx} (hg : X.A.guards = some []) (hu : X.A.units + 200 < cLine) : CallR X (.builtin "repr") (rRepr X.K) := by
  intro pins s σ H xs us Q I r h
  rcases h with ⟨x, d, rfl, hd, hs, hn, hdp, hz, q⟩ | ⟨a, o, rfl, ea, q⟩
  rotate_left
  · obtain ⟨u, rfl, rx⟩ := vals1 r
    obtain rfl : u = Value.ref a := rx
    obtain ⟨rd, ns⟩ := reads_dk0 (I.hok a _ ea)
    have sh : (PyData.dict []).shown = ("{}" : Str) := by decide +kernel
    have dp : (PyData.dict []).depth ≤ 1 := by decide +kernel
    have un : X.A.units + ((PyData.dict []).depth + 1) < cLine := by omega
    have sz : (PyData.dict []).shown.length ≤ sizeLine := by rw [sh, sizeLine_eq]; decide +kernel
    exact PySem.repr_of_reads' rd (by decide +kernel) (fun _ z => ns (List.mem_singleton.mp z).symm) hg un (fun _ _ e => e) (fun h' u tk hk => ⟨.str _, H, I.kept hk, ⟨_, rfl⟩, by rw [sh]; exact q⟩) sz
  obtain ⟨u, rfl, rx⟩ := vals1 r
  obtain ⟨as, rd⟩ := Dp.reads I d x u hd rx
  cases hd with
  | non => cases rx; exact PySem.P.repr_of_none ⟨.str _, H, I.tok _, ⟨_, rfl⟩, q⟩
  | bl b => cases rx; exact PySem.P.repr_of_bool ⟨.str _, H, I.tok _, ⟨_, rfl⟩, by simpa [PyData.shown] using q⟩
  | int i =>
    obtain ⟨t, rfl⟩ := rx
    exact PySem.P.repr_of_int (by simpa [PyData.showable] using hs) ⟨.str _, H, I.tok _, ⟨_, rfl⟩, q⟩
  | str z =>
    obtain ⟨t, rfl⟩ := rx
    exact PySem.P.repr_of_str ⟨.str _, H, I.tok _, ⟨_, rfl⟩, q⟩ hz
  | tup h1 h2 =>
    cases rx
    exact PySem.repr_of_reads' rd hs (PyData.noDict_hsm hn) hg (by omega) (fun _ _ e => e) (fun h' u tk hk => ⟨.str _, H, I.kept hk, ⟨_, rfl⟩, q⟩) hz
  | lst h1 h2 =>
    cases rx
    exact PySem.repr_of_reads' rd hs (PyData.noDict_hsm hn) hg (by omega) (fun _ _ e => e) (fun h' u tk hk => ⟨.str _, H, I.kept hk, ⟨_, rfl⟩, q⟩) hz
theorem od_repr {K : Fg} : Op1 K Zd (fun x H Q => rRepr K [x] H Q) reprD := by
  intro W σ θ G ρ Ws H x a Q hx q
  unfold reprD at q
  split at q
  · rename_i h
    simp only [D.shows, Bool.and_eq_true, decide_eq_true_eq] at h
    exact .inl ⟨x, a.py, rfl, hx.dp h.1.1.1, h.1.1.2, pure_noDict a h.1.1.1, h.1.2, h.2, q.val (.str _)⟩
  · unfold reprE at q
    split at q
    · cases hx with
      | dct h r =>
        cases r
        exact .inr ⟨_, _, rfl, h, q.val (.str _)⟩
    · exact q.no
end DL
set_option Elab.async false
set_option linter.all false
set_option maxRecDepth 100000
set_option maxHeartbeats 2000000
namespace DL
open PySem PySem.Spec PyProof.Rows L2
structure AA (X : Cx) (pos : Pos) (es : List Expr) (kws : List Keyword) (n : Nat) (ks : List Str) (t : TA) : Prop where
  plain : ((backTo pos (starEach es X.env)).any (·.1) || (backToKw pos (keywordEach kws X.env)).any (·.1.isNone)) = false
  run : ∀ {pins : List (Addr × Obj)} {s : Shared} {σ : L2.St} {H : Hp} {f : Value} {P : List V → Hp → Prop}, Inv X pins σ H s → t σ H P →
    wpAny (model X.prog X.w) X.A (evalArgs f true (backTo pos (starEach es X.env)) (backToKw pos (keywordEach kws X.env)))
      (fun a s1 => ∃ us ws all H1, a = ⟨us, ks.zip ws⟩ ∧ us.length = n ∧ ws.length = ks.length ∧ Inv X pins σ H1 s1 ∧ Vals all (us ++ ws) ∧ P all H1) X.xe s
structure DArg (X : Cx) (W : WX) (pos : Pos) (es : List Expr) (kws : List Keyword) (n : Nat) (ks : List Str) (g : List Sl → R (List D)) : Prop where
  aa : AA X pos es kws n ks (tA X.K W g)
/-- the values of the keywords -/
structure DK (X : Cx) (W : WX) (kws : List Keyword) (g : List Sl → R (List D)) : Prop where
  run : PK X kws (tA X.K W g)
theorem PK.conseq {X : Cx} {e : List Keyword} {t t' : TA} (h : PK X e t) (w : ∀ σ H Q, t' σ H Q → t σ H Q) : PK X e t' := ⟨fun pos pins s σ H Q I q => h.run pos pins s σ H Q I (w _ _ _ q)⟩
def aLen (n : Nat) (g : List Sl → R (List D)) (ρ : List Sl) : R (List D) := (g ρ).bind fun ds => if ds.length = n then .ok ds else .st
def aApp (n m : Nat) (g gk : List Sl → R (List D)) (ρ : List Sl) : R (List D) := (g ρ).bind fun ds => (gk ρ).bind fun es => if ds.length = n ∧ es.length = m then .ok (ds ++ es) else .st
section
variable {X : Cx} {W : WX} {e : Expr} {es : List Expr} {kws : List Keyword} {pos : Pos} {g gk : List Sl → R (List D)} {gd : List Sl → R D} {n : Nat} {ks : List Str}
theorem dk_nil : DK X W [] aNil := ⟨PK.conseq pk_nil fun σ H Q ⟨θ, G, ρ, Ws, q⟩ => q.2 _ _ _ (Ext.refl q.1.same) .nil⟩
theorem dk_cons {nm : Option Str} {kpos : Pos} (h : DP X W e gd) (t : DK X W kws gk) : DK X W (⟨nm, e, kpos⟩ :: kws) (aCons gd gk) :=
  ⟨PK.conseq (pk_cons h.run t.run) fun σ H Q ⟨θ, G, ρ, Ws, q⟩ => ⟨θ, G, ρ, Ws, (Ak.pk (Z := Zc) q).imp fun v H1 ⟨d, G1, _, e1, z, q1⟩ => ⟨θ, G1, ρ, Ws, (Ak.bind q1).imp fun vs H2 ⟨ds, G2, _, e2, z2, q2⟩ =>
    q2.2 _ _ _ (Ext.refl q2.1.same) (.cons (Rp.mono e2.g z) z2)⟩⟩⟩
theorem dg_pos (h : DA X W (e :: es) g) (he : starEach (e :: es) X.env = (false, eval e X.env) :: starEach es X.env := by rfl) (hpl : (backTo pos (starEach es X.env)).any (·.1) = false := by rfl) : DArg X W pos (e :: es) [] n [] (aLen n g) := by
  refine ⟨⟨?_, fun {pins s σ H f P} I ⟨θ, G, ρ, Ws, q⟩ => ?_⟩⟩
  · rw [he]
    show ((false || (backTo pos (starEach es X.env)).any (·.1)) || false) = false
    rw [hpl]; rfl
  · have hA := h.run.run pos pins s σ H (fun vs H1 => vs.length = n ∧ P vs H1) I ⟨θ, G, ρ, Ws, (Ak.bind q).imp fun vs H1 ⟨ds, G1, _, e1, z, q1⟩ => by
      split at q1
      · rename_i hl
        exact ⟨z.length.trans hl, q1.2 _ _ _ (Ext.refl q1.1.same) z⟩
      · exact q1.2.elim⟩
    rw [he] at hA ⊢
    exact Calls.evalArgs_plain (thn hA fun us s1 ⟨vs, H1, I1, r, hl, q⟩ => ⟨us, [], vs, H1, rfl, r.length.symm.trans hl, rfl, I1, by simpa using r, q⟩)
theorem dg_kw0 (hk : DK X W kws gk) (hall : (backToKw pos (keywordEach kws X.env)).all (·.1.isSome) = true := by rfl) (hks : (backToKw pos (keywordEach kws X.env)).filterMap (·.1) = ks := by rfl)
    (hpl : ((backTo pos (starEach [] X.env)).any (·.1) || (backToKw pos (keywordEach kws X.env)).any (·.1.isNone)) = false := by rfl) : DArg X W pos [] kws 0 ks (aLen ks.length gk) :=
  ⟨⟨hpl, fun {pins s σ H f P} I ⟨θ, G, ρ, Ws, q⟩ => by
    refine PyProof.Rows.evalArgs_kw2_nil hall (thn (hk.run.run pos pins s σ H _ I ⟨θ, G, ρ, Ws, (Ak.bind q).imp fun vs H1 hh => hh⟩) fun ws s1 ⟨zs, H1, I1, r, ds, G1, _, e1, z, q1⟩ => ?_)
    rw [hks]
    split at q1
    · rename_i hl
      exact ⟨[], ws, zs, H1, rfl, rfl, r.length.symm.trans (z.length.trans hl), I1, r, q1.2 _ _ _ (Ext.refl q1.1.same) z⟩
    · exact q1.2.elim⟩⟩
end
def pick {α : Type} (idx : List Nat) (xs : List α) : List α := idx.filterMap fun i => xs[i]?
theorem vals_pick {vs : List V} {us : List Value} (r : Vals vs us) : ∀ idx : List Nat, Vals (pick idx vs) (pick idx us)
  | [] => .nil
  | i :: idx => by
    have ih := vals_pick r idx
    unfold pick at ih ⊢
    rw [List.filterMap_cons, List.filterMap_cons]
    have hl := r.length
    cases e : vs[i]? with
    | none =>
      have : us[i]? = none := by rw [List.getElem?_eq_none_iff] at e ⊢; omega
      rw [this]; exact ih
    | some v =>
      obtain ⟨u, eu, ru⟩ := r.get e
      rw [eu]
      exact .cons ru ih
/-- how the parameters are bound: by n positional values, keywords named ks, defaults dvs; first: values that stand ahead of all (self, cls) -/
def KwB (K : Fg) (fd : FuncData) (ps : List Str) (nf n : Nat) (ks : List Str) (dvs : List V) (idx : List Nat) : Prop :=
  ∃ its : List Value, Vals dvs its ∧ ∀ (s : Shared) (first us ws : List Value), K.In s.heap → first.length = nf → us.length = n → ws.length = ks.length → BindsTo s fd ⟨first ++ us, ks.zip ws⟩ (ps.zip (first ++ pick idx (us ++ ws ++ its)))
section
variable {K : Fg} {x qual : Str} {params : Arguments} {body : List Stmt} {scope : Scope} {dvs : List V} {kws : List (Str × V)} {f : Addr} {fd : FuncData} {ps ks : List Str} {nf n : Nat} {idx : List Nat}
theorem kwb0 (F : FunD K x qual params body scope [] kws f fd)
    (h : ∀ (kV doc pm : Value) (an : Option Addr) (cdv ct : Value) (first us ws : List Value), first.length = nf → us.length = n → ws.length = ks.length →
      bindArgs (PySem.W.fnOf x qual params body scope .none kV doc pm an cdv ct) ⟨first ++ us, ks.zip ws⟩ = pure (ps.zip (first ++ pick idx (us ++ ws)))) : KwB K fd ps nf n ks [] idx := by
  obtain ⟨oc, od, dV, kV, doc, pm, an, cdv, ct, osl, rfl, lk, hcd, hD, hK⟩ := F.ex
  rcases hD with ⟨_, rfl⟩ | ⟨e, _⟩
  · exact ⟨[], .nil, fun s first us ws _ h0 h1 h2 => by
      have := h kV doc pm an cdv ct first us ws h0 h1 h2
      rw [List.append_nil]
      exact .of_eq this⟩
  · exact absurd rfl e
end
/-- what is called runs by the promise at the parameters' values (first: values ahead of all) -/
def Runs (X : Cx) (W : WX) (c : Value) (n : Nat) (ks : List Str) (dvs : List V) (tr : List V → Hp → VK → XK → Prop) : Prop :=
  ∀ ⦃pins : List (Addr × Obj)⦄ ⦃σ : L2.St⦄ ⦃H : Hp⦄ ⦃s : Shared⦄ ⦃us ws : List Value⦄ ⦃all : List V⦄ ⦃Q : VK⦄, Inv X pins σ H s → us.length = n → ws.length = ks.length → Vals all (us ++ ws) → tr (all ++ dvs) H Q (WE W σ) →
    wpAny (model X.prog X.w) X.A (PySem.call c us (ks.zip ws)) (EP X pins σ Q) X.xe s
section
variable {X : Cx} {W : WX} {k : Nat} {f C : Addr} {fd : FuncData} {ps ks : List Str} {sp : Sp} {x : Str} {p pos : Pos} {es : List Expr} {kws : List Keyword} {n : Nat} {idx : List Nat} {dds : List D} {dvs : List V} {g : List Sl → R (List D)} {F : List Sl → RS}
/-- the call by a name -/
theorem pe_callA {tr : List V → Hp → VK → XK → Prop} {t : TA} {c : Value} (hm : X.mg x = some c) (hk : PySem.W.keepIn X.K c = true) (hg : Gl X x) (hdb : (x == ("__debug__" : Str)) = false) (r : Runs X W c n ks dvs tr) (ha : AA X pos es kws n ks t) :
    PE X (.Call (.Name x p) es kws pos) (fun σ H Q => t σ H fun all H1 => tr (all ++ dvs) H1 Q (WE W σ)) :=
  ⟨fun pins s σ H Q I h => wpAny_Call_Name_kw (ld_glob I hg hm (PySem.W.callWith_of ha.plain (PySem.W.keeps_K hk) (thn (ha.run I h) fun a s1 hh => by
    obtain ⟨us, ws, all, H1, rfl, l1, l2, I1, rv, q⟩ := hh
    exact ⟨I1.kIn, r I1 l1 l2 rv q⟩)) hdb)⟩
end
/-- frozen at once -/
def pFrz (g : List Sl → R Ow) (ρ : List Sl) : R D := (g ρ).bind fun o => if o.can then .ok o.d else .st
theorem Ext.frzAll {K : Fg} {G H G' H' : Hp} {fp : List Addr} (e : Ext K G H G' H') (h0 : ∀ a ∈ fp, H a = none) (g0 : ∀ a ∈ fp, G' a = none) : Ext K G H (DL.frz G' H' fp) H' := by
  refine ⟨e.g.trans (frz_g g0), e.h, frz_s e.s, fun a o q => ?_, e.al, e.tb⟩
  unfold DL.frz at q
  by_cases ha : a ∈ fp
  · exact .inr (h0 a ha)
  · rw [if_neg ha] at q; exact e.nw a o q
theorem DG.dp {X : Cx} {e : Expr} {g : List Sl → R Ow} (h : DG X W e g) : DP X W e (pFrz g) := ⟨PE.conseq h.run fun σ H Q ⟨θ, G, ρ, Ws, S, q⟩ => ⟨θ, G, ρ, Ws, S, by
  unfold pFrz at q
  cases hg : g ρ with
  | st => rw [hg] at q; exact q
  | ex x => rw [hg] at q; exact q
  | ok o =>
    rw [hg] at q
    intro v fp G' H' e z n m g0
    have q : match (if o.can then R.ok o.d else .st) with | .ok d => ∀ v G' H', Ext X.K G H G' H' → Zc X.K G' H' v d → Q v H' | .ex x => ∀ d G' H', Ext X.K G H G' H' → XkOk X.K G' H' x d → W (.ref x.cls) d σ H' | .st => False := q
    by_cases hc : o.can = true
    · rw [if_pos hc] at q
      exact q v _ H' (e.frzAll m g0) (z.frz hc g0)
    · rw [if_neg hc] at q; exact q.elim⟩⟩
def gLst (g : List Sl → R D) (ρ : List Sl) : R Ow := (g ρ).bind fun d => match d with
  | .lst ds => .ok (.lst ds)
  | _ => .st
theorem DF.dg {X : Cx} {e : Expr} {g : List Sl → R D} (h : DF X W e g) : DG X W e (gLst g) := ⟨PE.conseq h.run fun σ H Q ⟨θ, G, ρ, Ws, S, q⟩ => ⟨θ, G, ρ, Ws, S, by
  unfold gLst at q
  cases hg : g ρ with
  | st => rw [hg] at q; exact q
  | ex x => rw [hg] at q; exact q
  | ok d =>
    rw [hg] at q
    cases d with
    | lst ds => exact fun p vs G' H' e hp gp hp' r => q (.ref p) [p] G' H' e (.lst hp' r) (by simp) (fun a ha => by rw [List.mem_singleton.mp ha]; exact hp) (fun a ha => by rw [List.mem_singleton.mp ha]; exact gp)
    | _ => exact q⟩⟩
/-- a name is to own it -/
def sOwnG (i : Nat) (g : List Sl → R Ow) (ρ : List Sl) : RS := match g ρ with
  | .ok o => if i < ρ.length then .ok .nx (ρ.set i (.own 0 o)) else .st
  | .ex x => .ex x ρ
  | .st => .st
def pAO (f : List D → R Ow) (g : List Sl → R (List D)) (ρ : List Sl) : R Ow := (g ρ).bind f
end DL
set_option Elab.async false
set_option linter.all false
set_option maxRecDepth 100000
set_option maxHeartbeats 2000000
namespace DL
open PySem PySem.Spec PyProof.Rows L2
def putD (f : Str) (v : D) : List (Str × D) → List (Str × D)
  | [] => [(f, v)]
  | (g, x) :: r => if g = f then (g, v) :: r else (g, x) :: putD f v r
theorem RpF.put {K : Fg} {G : Hp} {vs : List (Str × V)} {ds : List (Str × D)} (r : RpF K G vs ds) {f : Str} {v : V} {d : D} (h : Rp K G v d) : RpF K G (putF f v vs) (putD f d ds) := by
  induction ds generalizing vs with
  | nil => cases r; exact .cons h .nil
  | cons p ds ih => cases r with
    | @cons k v0 d0 vs' ds' r t =>
      unfold putF putD
      by_cases hk : k = f
      · rw [if_pos hk, if_pos hk]; exact .cons h t
      · rw [if_neg hk, if_neg hk]; exact .cons r (ih t)
def fldD (C : Addr) (f : Str) : D → R D
  | .ins C' fs => if C' = C then (match fs.lookup f with | some d => .ok d | none => .st) else .st
  | _ => .st
section
variable {X : Cx} {W : WX} {e a b : Expr} {f : Str} {pos pos' : Pos} {g fa : List Sl → R D} {C : Addr} {Za : ZK}
/-- x.f = e, x a name that owns its instance -/
def sSetF (C : Addr) (f : Str) (i : Nat) (g : List Sl → RE) (ρ : List Sl) : RS := (g ρ).seq fun d ρ1 => match ρ1[i]? with
  | some (.own t (.ins C' fs)) => if C' = C ∧ fs.length < 1000 then .ok .nx (ρ1.set i (.own t (.ins C' (putD f d fs)))) else .st
  | _ => .st
def D.ty (cs : List Addr) : D → Option Value
  | .non => some (.type "NoneType")
  | .bl _ => some (.type "bool")
  | .int _ => some (.type "int")
  | .str _ => some (.type "str")
  | .tup _ => some (.type "tuple")
  | .lst _ => some (.type "list")
  | .dct _ => some (.type "dict")
  | .ins C _ => if C ∈ cs then some (.ref C) else none
  | .scr _ => none
  | .cls _ => none
  | .exn _ _ _ _ => none
  | .clo _ _ _ => none
  | .exv _ _ => none
def pCallF (F : List Sl → RS) (ga : List Sl → R Ow) (ρ : List Sl) : R D := (ga ρ).bind fun o => match F [.own 0 o] with
  | .ok (.rt d) _ => .ok d
  | .ex x _ => .ex x
  | _ => .st
theorem dp_callF {x : Str} {y : Str} {F : List Sl → RS} {ga : List Sl → R Ow} {p : Pos} (cl : Cal X W x [y] F) (ha : DG X W a ga)
    (he : starEach [a] X.env = (false, eval a X.env) :: starEach [] X.env := by rfl) (hpl : (backTo pos (starEach [] X.env)).any (·.1) = false := by rfl) : DP X W (.Call (.Name x p) [a] [] pos) (pCallF F ga) :=
  ⟨PE.conseq (cl (pa_cons ha.run pa_nil he) he hpl) fun σ H Q ⟨θ, G, ρ, Ws, S, q⟩ => ⟨θ, G, ρ, Ws, S, by
    unfold pCallF at q
    cases hg : ga ρ with
    | st => rw [hg] at q; exact q
    | ex x => rw [hg] at q; exact q
    | ok o =>
      rw [hg] at q
      intro v fp G1 H1 e1 z n m g0
      refine ⟨rfl, θ, G1, [.own 0 o], fp, ⟨e1.s, by simpa using Sts.own (θ := θ) z (.inl rfl) (Sts.nil (K := X.K) (G := G1) (H := H1)), n, g0, S.tab.ext e1.nw e1.tb⟩, ?_⟩
      have ex : ∀ {G' H' : Hp} {W' : List Addr}, Fr X.K G1 H1 fp G' H' W' → Same G' H' → Ext X.K G H G' H' := fun {G' H' W'} fr s => ⟨e1.g.trans fr.g, fun a u h nt => fr.k a u (e1.h a u h nt) nt (fun z => by rw [m a z] at h; cases h), s, fun a u h => by
        rcases fr.n a u h with z | z | z
        · exact e1.nw a u z
        · exact .inr (m a z)
        · exact .inr (e1.al _ z), fun a h => e1.al a (fr.al a h), e1.tb.trans fr.tb⟩
      have q : match (match F [.own 0 o] with | .ok (.rt d) _ => R.ok d | .ex x _ => .ex x | _ => .st) with | .ok d => ∀ v G' H', Ext X.K G H G' H' → Zc X.K G' H' v d → Q v H' | .ex x => ∀ d G' H', Ext X.K G H G' H' → XkOk X.K G' H' x d → W (.ref x.cls) d σ H' | .st => False := q
      cases hF : F [.own 0 o] with
      | st => rw [hF] at q; exact q
      | ex x ρ' => rw [hF] at q; exact fun d G' H' W' fr S' xk => q d G' H' (ex fr S'.same) xk
      | ok fl ρ' =>
        rw [hF] at q
        cases fl with
        | rt d => exact fun v G' H' W' fr S' r => q v G' H' (ex fr S'.same) r
        | rtO o => exact q.elim
        | nx => exact q
        | bk => exact q
        | ct => exact q⟩⟩
end
end DL
set_option Elab.async false
set_option linter.all false
set_option maxRecDepth 100000
set_option maxHeartbeats 2000000
namespace DL
open PySem PySem.Spec PyProof.Rows L2
/-- x[e1][e2], a list of lists of one's own -/
def pIxLL (i : Nat) (g1 g2 : List Sl → R D) (ρ : List Sl) : R D := match ρ[i]?, g1 ρ, g2 ρ with
  | some (.own _ (.ll dss)), .ok (.int k1), .ok (.int k2) => (match L2.atI dss k1 with
    | some ds => (match L2.atI ds k2 with
      | some d => .ok d
      | none => .st)
    | none => .st)
  | _, _, _ => .st
end DL
set_option Elab.async false
set_option linter.all false
set_option maxRecDepth 100000
set_option maxHeartbeats 2000000
namespace DL
open PySem PySem.Spec PyProof.Rows L2
end DL
set_option Elab.async false
set_option linter.all false
set_option maxRecDepth 100000
set_option maxHeartbeats 2000000
namespace DL
open PySem PySem.Spec PyProof.Rows L2
end DL
set_option Elab.async false
set_option linter.all false
set_option maxRecDepth 100000
set_option maxHeartbeats 2000000
namespace DL
open PySem PySem.Spec PyProof.Rows L2
def keyV : Key → D
  | .inl i => .int i
  | .inr s => .str s
def putKD (kvs : List (Key × D)) (k : Key) (v : D) : List (Key × D) :=
  if (kvs.any fun kv => decide (kv.1 = k)) = true then kvs.map (fun kv => if kv.1 = k then (kv.1, v) else kv) else kvs ++ [(k, v)]
section
variable {K : Fg} {G H : Hp}
theorem RpK.put {vs : List (Key × V)} {ds : List (Key × D)} (h : RpK K G vs ds) (k : Key) {v : V} {d : D} (r0 : Rp K G v d) : RpK K G (putK vs k v) (putKD ds k d) := by
  unfold putK putKD
  rw [h.any k]
  split
  · exact h.map k r0
  · exact h.snoc k r0
end
theorem dg_dict0 {X : Cx} {W : WX} {pos : Pos} : DG X W (.Dict [] [] pos) (fun _ => .ok (.dk [])) :=
  ⟨PE.conseq pe_dnewK fun σ H Q ⟨θ, G, ρ, Ws, S, q⟩ => fun p hp => q (.ref p) [p] G _ (Ext.aside S.same hp) (.dk upd_same .nil) (by simp) (fun a ha => by rw [List.mem_singleton.mp ha]; exact hp) (fun a ha => by rw [List.mem_singleton.mp ha]; exact S.same.free hp)⟩
def gDict1 (g1 g2 : List Sl → R D) (ρ : List Sl) : R Ow := match g1 ρ, g2 ρ with
  | .ok x, .ok y => (match keyD x with | some k => .ok (.dk [(k, y)]) | none => .st)
  | _, _ => .st
end DL
namespace DL
open PySem PySem.Spec PyProof.Rows L2
def frzD (i : Nat) (ρ : List Sl) : List Sl := match ρ[i]? with
  | some (.own 0 (.dk kvs)) => ρ.set i (.val (.dct kvs))
  | _ => ρ
def itemsK : D → R (List D)
  | .dct kvs => .ok (kvs.map fun kv => .tup [keyV kv.1, kv.2])
  | _ => .st
def dgetD (x y : D) : R D := match x, keyD y with
  | .dct kvs, some k => (match valD kvs k with | some d => .ok d | none => .st)
  | _, _ => .st
def pDGet (i : Nat) (g : List Sl → R D) (ρ : List Sl) : R D := match ρ[i]?, g ρ with
  | some (.own _ (.dk kvs)), .ok y => (match keyD y with
    | some k => (match valD kvs k with | some d => .ok d | none => .st)
    | none => .st)
  | _, _ => .st
def pDGet2 (i : Nat) (g g2 : List Sl → R D) (ρ : List Sl) : R D := match ρ[i]?, g ρ, g2 ρ with
  | some (.own _ (.dk kvs)), .ok y, .ok z => (match keyD y with
    | some k => .ok ((valD kvs k).getD z)
    | none => .st)
  | _, _, _ => .st
def gDk (i : Nat) (g : List Sl → R D) (d : D) (ρ : List Sl) : Option (List Sl) := match ρ[i]?, g ρ with
  | some (.own t (.dk kvs)), .ok y => (keyD y).bind fun k => if kvs.length < 1000000 then some (ρ.set i (.own t (.dk (putKD kvs k d)))) else none
  | _, _ => none
end DL
set_option Elab.async false
set_option linter.all false
set_option maxRecDepth 100000
set_option maxHeartbeats 3200000
namespace DL
open PySem PySem.Spec PyProof.Rows L2
end DL
set_option Elab.async false
set_option linter.all false
set_option maxRecDepth 100000
set_option maxHeartbeats 2000000
namespace DL
open PySem PySem.Spec PyProof.Rows L2
end DL
set_option Elab.async false
set_option linter.all false
set_option maxRecDepth 100000
set_option maxHeartbeats 2000000
namespace DL
open PySem PySem.Spec PyProof.Rows L2
end DL
set_option Elab.async false
set_option linter.all false
set_option maxRecDepth 100000
set_option maxHeartbeats 2000000
namespace DL
open PySem PySem.Spec PyProof.Rows L2
end DL
set_option Elab.async false
set_option linter.all false
set_option maxRecDepth 100000
set_option maxHeartbeats 2000000
namespace DL
open PySem PySem.Spec PyProof.Rows L2
def liftO (g : List Sl → R Ow) (ρ : List Sl) : RG := upG (g ρ) ρ
section
variable {X : Cx} {W : WX} {e : Expr}
/-- frozen -/
def frzR : RG → RE
  | .ok o ρ => if o.can then .ok o.d ρ else .st
  | .ex x ρ => .ex x ρ
  | .st => .st
def eFrz (g : List Sl → RG) (ρ : List Sl) : RE := frzR (g ρ)
/-- slot i's thing is given away -/
def oVar (i : Nat) (ρ : List Sl) : RG := match ρ[i]? with
  | some (.own 0 o) => .ok o (ρ.set i .un)
  | _ => .st
/-- name = a new thing -/
def putO (i : Nat) : RG → RS
  | .ok o ρ => if i < ρ.length then .ok .nx (ρ.set i (.own 0 o)) else .st
  | .ex x ρ => .ex x ρ
  | .st => .st
def sOwnO (i : Nat) (g : List Sl → RG) (ρ : List Sl) : RS := putO i (g ρ)
theorem Fr.putOwn {K : Fg} {θ : Nat → Addr} {σ : L2.St} {G H G' H' : Hp} {Ws W' fp : List Addr} {ρ1 : List Sl} {i : Nat} {v : V} {o : Ow} (fr : Fr K G H Ws G' H' (fp ++ W')) (S' : Stt K θ G' H' σ ρ1 W') (hi : i < ρ1.length) (z : Own K G' H' v o fp) (n : fp.Nodup) (m : ∀ a ∈ fp, a ∉ W') (g0 : ∀ a ∈ fp, G' a = none) :
    ∃ W2, Fr K G H Ws G' H' W2 ∧ Stt K θ G' H' (σ.set i (some v)) (ρ1.set i (.own 0 o)) W2 := by
  obtain ⟨W2, S2, mem⟩ := S'.putOwn (i := i) hi z n m g0
  exact ⟨W2, fr.less fun a ha => List.mem_append.mpr (mem a ha), S2⟩
/-- it is handed back -/
def retR : RG → RS
  | .ok o ρ => .ok (.rtO o) ρ
  | .ex x ρ => .ex x ρ
  | .st => .st
def sRetO (g : List Sl → RG) (ρ : List Sl) : RS := retR (g ρ)
def prR (d : D) : RG → RG
  | .ok (.lst ds) ρ => .ok (.pr d ds) ρ
  | .ex x ρ => .ex x ρ
  | _ => .st
def oPair (f : List Sl → RE) (g : List Sl → RG) (ρ : List Sl) : RG := match f ρ with
  | .ok d ρ1 => prR d (g ρ1)
  | .ex x ρ1 => .ex x ρ1
  | .st => .st
/-- n, x = a pair -/
def unpR (i j : Nat) : RG → RS
  | .ok (.pr d ds) ρ => if i < ρ.length ∧ j < ρ.length ∧ i ≠ j then .ok .nx ((ρ.set i (.val d)).set j (.own 0 (.lst ds))) else .st
  | .ex x ρ => .ex x ρ
  | _ => .st
def sUnp (i j : Nat) (g : List Sl → RG) (ρ : List Sl) : RS := unpR i j (g ρ)
end
/-- what the call gives: lent is slot i -/
def giveR (i t : Nat) (ρ : List Sl) : RS → RG
  | .ok (.rtO r) (.own 1 o' :: _) => .ok r (ρ.set i (.own t o'))
  | .ex x (.own 1 o' :: _) => .ex x (ρ.set i (.own t o'))
  | _ => .st
def callOO (F : List Sl → RS) (i : Nat) (ds : List D) (ρ : List Sl) : RG := match ρ[i]? with
  | some (.own t o) => giveR i t ρ (F (.own 1 o :: ds.map .val))
  | _ => .st
def eaO (f : List D → List Sl → RG) (g : List Sl → RA) (ρ : List Sl) : RG := match g ρ with
  | .ok ds ρ1 => f ds ρ1
  | .ex x ρ1 => .ex x ρ1
  | .st => .st
/-- f(x, ..) with slot i lent -/
def oCallO (F : List Sl → RS) (i : Nat) (g : List Sl → RA) (ρ : List Sl) : RG := match ρ[i]? with
  | some (.own _ _) => eaO (callOO F i) g ρ
  | _ => .st
section
variable {X : Cx} {W : WX} {e : Expr} {es : List Expr} {fa : List Sl → RA} {p pos : Pos}
/-- f(..), nothing lent -/
def takeR (ρ : List Sl) : RS → RG
  | .ok (.rtO o) _ => .ok o ρ
  | .ex x _ => .ex x ρ
  | _ => .st
def callGO (F : List Sl → RS) (ds : List D) (ρ : List Sl) : RG := takeR ρ (F (ds.map .val))
end
def jSeq (g : List Sl → RE) (ρ : List Sl) : RI := (g ρ).bindI fun d ρ1 => upI (itemsD d) ρ1
def liftI (g : List Sl → R (List D)) (ρ : List Sl) : RI := upI (g ρ) ρ
theorem Fr.updD {K : Fg} {G0 H0 G H : Hp} {W0 W : List Addr} {D0 : Addr} {o : HO} (e : Fr K G0 H0 W0 G H W) (h0 : H0 D0 = none) (hx : FreeX H D0) : Fr K G0 H0 W0 G (upd H D0 o) W :=
  ⟨e.g, fun b u q nt n => by rw [upd_ne (ne_of_none q h0)]; exact e.k b u q nt n, e.w, e.n, fun b q => by
    by_cases hb : b = D0
    · subst hb; exact h0
    · rw [upd_ne hb] at q; exact e.al b q, e.tb.trans (TbS.updX hx)⟩
end DL
set_option Elab.async false
set_option linter.all false
set_option maxRecDepth 100000
set_option maxHeartbeats 2000000
namespace DL
open PySem PySem.Spec PyProof.Rows L2
section
variable {X : Cx} {W : WX} {e a b : Expr} {fa fb : List Sl → R D} {ge : List Sl → RE} {p pos : Pos} {es : List Expr}
/-- list(e), a new list of one's own -/
def listR : RE → RG
  | .ok (.lst ds) ρ => .ok (.lst ds) ρ
  | .ok (.tup ds) ρ => .ok (.lst ds) ρ
  | .ex x ρ => .ex x ρ
  | _ => .st
def oList (g : List Sl → RE) (ρ : List Sl) : RG := listR (g ρ)
end
end DL
set_option Elab.async false
set_option linter.all false
set_option maxRecDepth 100000
set_option maxHeartbeats 2000000
namespace DL
open PySem PySem.Spec PyProof.Rows L2
section
variable {X : Cx} {W : WX} {e a b c : Expr} {g fa fb fc : List Sl → R D} {ge ga gb : List Sl → RE} {p pos apos : Pos} {k : Nat} {Za Zb : ZK}
theorem w_add (ha : DQ X W a fa) (hb : DQ X W b fb) : DP X W (.BinOp a .Add b pos) (p2 addD fa fb) := dp_bin opA_add od_add ha hb
theorem w_mul (ha : DQ X W a fa) (hb : DQ X W b fb) : DP X W (.BinOp a .Mult b pos) (p2 mulD fa fb) := dp_bin opA_mul od_mul ha hb
theorem w_fdiv (ha : DQ X W a fa) (hb : DQ X W b fb) : DP X W (.BinOp a .FloorDiv b pos) (p2 fdivD fa fb) := dp_bin op_fdiv od_fdiv ha hb
theorem w_mod (ha : DQ X W a fa) (hb : DQ X W b fb) : DP X W (.BinOp a .Mod b pos) (p2 modD fa fb) := dp_bin op_mod od_mod ha hb
theorem w_pow (ha : DQ X W a fa) (hb : DQ X W b fb) : DP X W (.BinOp a .Pow b pos) (p2 powD fa fb) := dp_bin op_pow od_pow ha hb
theorem w_neg (ha : DQ X W a fa) : DP X W (.UnaryOp .USub a pos) (p1 negD fa) := dp_un un_neg od_neg ha
section
variable [ZOk Za] [ZOk Zb]
theorem w_eq (hr : Room k X.A) (ha : DZ Za X W a fa) (hb : DZ Zb X W b fb) : DP X W (.Compare a [.Eq] [b] pos) (p2 eqD fa fb) := dp_cmp (op_eqX hr.units) od_eq ha.dirty hb.dirty (nobehind _ (by decide) (by decide))
theorem t_ne (hr : Room k X.A) (ha : DZ Za X W a fa) (hb : DZ Zb X W b fb) : DT X W (.Compare a [.NotEq] [b] pos) (b1 asB (p2 neD fa fb)) := dt_cmp (op_neX hr.units) od_ne ha.dirty hb.dirty (nobehind _ (by decide) (by decide))
end
theorem t_lt (ha : DQ X W a fa) (hb : DQ X W b fb) : DT X W (.Compare a [.Lt] [b] pos) (b1 asB (p2 ltD fa fb)) := dt_cmp op_lt od_lt ha hb (nobehind _ (by decide) (by decide))
theorem t_gt (ha : DQ X W a fa) (hb : DQ X W b fb) : DT X W (.Compare a [.Gt] [b] pos) (b1 asB (p2 gtD fa fb)) := dt_cmp op_gt od_gt ha hb (nobehind _ (by decide) (by decide))
theorem t_ge (ha : DQ X W a fa) (hb : DQ X W b fb) : DT X W (.Compare a [.GtE] [b] pos) (b1 asB (p2 geD fa fb)) := dt_cmp op_ge od_ge ha hb (nobehind _ (by decide) (by decide))
theorem w_ix (ha : DQ X W a fa) (hb : DQ X W b fb) (hs : PlainIx b := by exact fun _ _ => rfl) : DP X W (.Subscript a b pos) (p2 ixD fa fb) := dp_ix ixA od_ix ha hb hs
theorem we_ix (ha : DE X W a ga) (hb : DE X W b gb) (hs : PlainIx b := by exact fun _ _ => rfl) : DE X W (.Subscript a b pos) (e2 ixD ga gb) := de_ix ixA od_ix ha hb hs
section
variable {es : List Expr}
theorem w_len [ZOk Za] (hm : X.mg "len" = none) (ha : DZ Za X W a fa) (hg : Gl X "len" := by rfl) (hs : starEach [a] X.env = (false, eval a X.env) :: starEach [] X.env := by rfl) (hpl : (backTo pos (starEach [] X.env)).any (·.1) = false := by rfl) : DP X W (.Call (.Name "len" p) [a] [] pos) (p1 lenD fa) :=
  dp_call1 od_len ha.dirty (fun _ h => pe_callB call_len hg hm boot_len h (by decide) (by decide) hs hpl) hs
theorem w_abs (hm : X.mg "abs" = none) (ha : DQ X W a fa) (hg : Gl X "abs" := by rfl) (hs : starEach [a] X.env = (false, eval a X.env) :: starEach [] X.env := by rfl) (hpl : (backTo pos (starEach [] X.env)).any (·.1) = false := by rfl) : DP X W (.Call (.Name "abs" p) [a] [] pos) (p1 absD fa) :=
  dp_call1 (r := fun xs H Q => ∃ i, xs = [V.int i] ∧ Q (.int (if i < 0 then -i else i)) H) od_abs ha (fun _ h => pe_callB call_abs hg hm boot_abs h (by decide) (by decide) hs hpl) hs
theorem w_int (hm : X.mg "int" = none) (ha : DQ X W a fa) (hg : Gl X "int" := by rfl) (hs : starEach [a] X.env = (false, eval a X.env) :: starEach [] X.env := by rfl) (hpl : (backTo pos (starEach [] X.env)).any (·.1) = false := by rfl) : DP X W (.Call (.Name "int" p) [a] [] pos) (p1 intD fa) :=
  dp_call1 (r := fun xs H Q => (∃ i, xs = [V.int i] ∧ Q (.int i) H) ∨ ∃ k, xs = [V.bl k] ∧ Q (.int (if k then 1 else 0)) H) od_intc ha (fun _ h => pe_callTy call_int1 hg hm boot_int h (by decide) (by decide) hs hpl) hs
theorem w_all (hc : X.calm = true) (hm : X.mg "all" = none) (ha : DQ X W a fa) (hg : Gl X "all" := by rfl) (hs : starEach [a] X.env = (false, eval a X.env) :: starEach [] X.env := by rfl) (hpl : (backTo pos (starEach [] X.env)).any (·.1) = false := by rfl) : DP X W (.Call (.Name "all" p) [a] [] pos) (p1 allD fa) :=
  dp_call1 od_all ha (fun _ h => pe_callB (cr_all hc) hg hm boot_all h (by decide) (by decide) hs hpl) hs
theorem w_repr [ZOk Za] (hgd : X.A.guards = some []) (hr : Room k X.A) (hm : X.mg "repr" = none) (ha : DZ Za X W a fa) (hg : Gl X "repr" := by rfl) (hs : starEach [a] X.env = (false, eval a X.env) :: starEach [] X.env := by rfl) (hpl : (backTo pos (starEach [] X.env)).any (·.1) = false := by rfl) : DP X W (.Call (.Name "repr" p) [a] [] pos) (p1 reprD fa) :=
  dp_call1 od_repr ha.dirty (fun _ h => pe_callB (cr_repr hgd (by have := hr.un; omega)) hg hm boot_repr h (by decide) (by decide) hs hpl) hs
theorem w_max2 (hc : X.calm = true) (hm : X.mg "max" = none) (ha : DQ X W a fa) (hb : DQ X W b fb) (hg : Gl X "max" := by rfl) (hs : starEach [a, b] X.env = (false, eval a X.env) :: starEach [b] X.env := by rfl) (hs2 : starEach [b] X.env = (false, eval b X.env) :: starEach [] X.env := by rfl) (hpl : (backTo pos (starEach [b] X.env)).any (·.1) = false := by rfl) :
    DP X W (.Call (.Name "max" p) [a, b] [] pos) (p2 maxD fa fb) :=
  dp_call2 (r := fun xs H Q => ∃ i j, xs = [V.int i, V.int j] ∧ Q (.int (if j > i then j else i)) H) od_max ha hb (fun _ h => pe_callB (call_max2 hc) hg hm boot_max h (by decide) (by decide) hs hpl) hs hs2
theorem w_min2 (hc : X.calm = true) (hm : X.mg "min" = none) (ha : DQ X W a fa) (hb : DQ X W b fb) (hg : Gl X "min" := by rfl) (hs : starEach [a, b] X.env = (false, eval a X.env) :: starEach [b] X.env := by rfl) (hs2 : starEach [b] X.env = (false, eval b X.env) :: starEach [] X.env := by rfl) (hpl : (backTo pos (starEach [b] X.env)).any (·.1) = false := by rfl) :
    DP X W (.Call (.Name "min" p) [a, b] [] pos) (p2 minD fa fb) :=
  dp_call2 (r := fun xs H Q => ∃ i j, xs = [V.int i, V.int j] ∧ Q (.int (if j < i then j else i)) H) od_min ha hb (fun _ h => pe_callB (call_min2 hc) hg hm boot_min h (by decide) (by decide) hs hpl) hs hs2
theorem w_divmod (hm : X.mg "divmod" = none) (ha : DP X W a fa) (hb : DP X W b fb) (hg : Gl X "divmod" := by rfl) (hs : starEach [a, b] X.env = (false, eval a X.env) :: starEach [b] X.env := by rfl) (hs2 : starEach [b] X.env = (false, eval b X.env) :: starEach [] X.env := by rfl) (hpl : (backTo pos (starEach [b] X.env)).any (·.1) = false := by rfl) :
    DZ Zi X W (.Call (.Name "divmod" p) [a, b] [] pos) (p2 dmD fa fb) := dp_divmod ha hb (fun _ h => pe_callB call_divmod hg hm boot_divmod h (by decide) (by decide) hs hpl) hs hs2
theorem pe_tyName {x : Str} {T : String} (hg : Gl X x) (hm : X.mg x = none) (hv : bootBuiltins x = some (.type T)) (hn : x ≠ "__name__" := by decide) (hdb : (x == ("__debug__" : Str)) = false := by decide) : PE X (.Name x p) (tC (.ty T)) :=
  ⟨fun pins s σ H Q I h => ld_blt I hg hm hv ⟨.ty T, H, I, rfl, h⟩ hn hdb⟩
end
theorem w_enum {elts : List Expr} {kk : Nat} {tpos : Pos} (hm : X.mg "enumerate" = none) (ha : DP X W a fa) (hg : Gl X "enumerate" := by rfl) (hs : starEach [a] X.env = (false, eval a X.env) :: starEach [] X.env := by rfl) (hs' : starEach [a] X.env = [(false, eval a X.env)] := by rfl) :
    DI X RpI W (.Tuple elts kk tpos) (.Call (.Name "enumerate" p) [a] [] pos) (i1 enumD fa) := di_enum hg hm ha hs hs'
theorem w_range1 {tg : Expr} (hm : X.mg "range" = none) (ha : DP X W a fa) (hg : Gl X "range" := by rfl) (hs : starEach [a] X.env = (false, eval a X.env) :: starEach [] X.env := by rfl) (hs' : starEach [a] X.env = [(false, eval a X.env)] := by rfl) : DI X Rp W tg (.Call (.Name "range" p) [a] [] pos) (iRange1 fa) := di_range1 hg hm ha hs hs'
theorem w_gint {x : Str} {i : Int} (h : ∃ t, X.mg x = some (.int i t)) (hg : Gl X x := by rfl) (hdb : (x == ("__debug__" : Str)) = false := by decide) : DP X W (.Name x p) (pC (.int i)) := dp_c (v := .int i) (let ⟨t, ht⟩ := h; pe_glob hg ht ⟨t, rfl⟩ hdb) fun _ => .int i
theorem blk_ok {N : List Str} {sc scope : Scope} {own : List (Str × Nat)} (h1 : scope.kind = .function)
    (h2 : decide (∀ y ∈ scope.names, scope.names.lookup y.1 = some y.2) = true) (h3 : decide (∀ p ∈ own, N[p.2]? = some p.1) = true)
    (h4 : decide (∀ y ∈ scope.names, y.2 = .free → sc.names.lookup y.1 = some .cell ∨ sc.names.lookup y.1 = some .free) = true) (h5 : decide (∀ y ∈ scope.names, y.2 = .local ∨ y.2 = .cell → y.1 ∈ own.map (·.1) ∨ y.1 ∉ N) = true) : BlkOk N sc scope own :=
  ⟨h1, of_decide_eq_true h2, of_decide_eq_true h3, of_decide_eq_true h4, of_decide_eq_true h5⟩
def iAdd (x y : D) : R D := match x, y with
  | .int i, .int j => .ok (.int (i + j))
  | _, _ => .st
end
end DL
set_option Elab.async false
set_option linter.all false
set_option maxRecDepth 100000
set_option maxHeartbeats 2000000
namespace DL
open PySem PySem.Spec PyProof.Rows L2
theorem LLs.put {K : Fg} {G H : Hp} {as : List Addr} {dss : List (List D)} (h : LLs K G H as dss) {j : Nat} {p : Addr} {vs : List V} {ds : List D} (hp : H p = some (.lst vs)) (r : RpA K G vs ds) : LLs K G H (as.set j p) (dss.set j ds) := by
  induction h generalizing j with
  | nil => exact .nil
  | cons h0 r0 t ih =>
    cases j with
    | zero => exact .cons hp r t
    | succ j => exact .cons h0 r0 (ih (j := j))
def setLL2 (i : Nat) (ds : List D) (ρ : List Sl) : Option Sl → R D → RS
  | some (.own t (.ll dss)), .ok (.int k) => (match ixN dss.length k with
    | some j => .ok .nx (ρ.set i (.own t (.ll (dss.set j ds))))
    | none => .st)
  | _, _ => .st
def setLL (i : Nat) (gi : List Sl → R D) (ρ : List Sl) : D → RS
  | .lst ds => setLL2 i ds ρ ρ[i]? (gi ρ)
  | _ => .st
/-- x[e] = [..], x a list of lists -/
def sSetLL (i : Nat) (gi gF : List Sl → R D) (ρ : List Sl) : RS := (gF ρ).seq ρ (setLL i gi ρ)
end DL
set_option Elab.async false
set_option linter.all false
set_option maxRecDepth 100000
set_option maxHeartbeats 2000000
namespace DL
open PySem PySem.Spec PyProof.Rows L2
end DL
set_option Elab.async false
set_option linter.all false
set_option maxRecDepth 100000
set_option maxHeartbeats 2000000
namespace DL
open PySem PySem.Spec PyProof.Rows L2
section
variable {X : Cx}
/-- a thing of a kind whose own == declines -/
def Kd (x : V) (T : String) : Prop := (T = "NoneType" ∧ x = .non) ∨ (T = "int" ∧ ∃ i, x = .int i) ∨ (T = "str" ∧ ∃ z, x = .str z) ∨ (T ∈ ["tuple", "list", "dict"] ∧ ∃ a, x = .ref a)
end
end DL
set_option Elab.async false
set_option linter.all false
set_option maxRecDepth 100000
set_option maxHeartbeats 2000000
namespace DL
open PySem PySem.Spec PyProof.Rows L2
/-- def __init__(self, fx): self.fx = fx -/
def spErr (K : Fg) (C : Addr) (fx : Str) : Sp := fun vs H Q _ => ∃ a y, vs = [V.ref a, y] ∧ OexC K C ∧ PySem.W.findIn K (.ref C) fx = some none ∧ H a = some (exo a C none) ∧
  ∀ dx, H dx = none → dx ≠ a → Q .non (upd (upd H dx (exd dx [(fx, y)])) a (exo a C (some dx)))
theorem err_fn {P : Program} {w : World} {K : Fg} {mg : Str → Option Value} {base : Heap} {C f : Addr} {fd : FuncData} {fx x qual : Str} {params : Arguments} {scope : Scope} {kws : List (Str × V)} {p1 p2 p3 p4 : Pos}
    (F : FunD K x qual params [.Assign [.Attribute (.Name "self" p1) fx p2] (.Name fx p3) p4] scope [] kws f fd) (S : FnScope ["self", fx] ["self", fx] scope)
    (h1 : scope.names.lookup ("self" : Str) = some NameKind.local) (h2 : scope.names.lookup fx = some NameKind.local) (hd : (fx == ("__debug__" : Str)) = false) (hcd : (fx == ("__classdict__" : Str)) = false) : FnOk P w K mg base (L2N.CX P w) 1 f fd ["self", fx] (spErr K C fx) := by
  refine F.ok S (fun vs H Q E h => by
    obtain ⟨a, y, rfl, _⟩ := h
    rfl) fun cdv A outer s H vs Q E hr q => ?_
  refine ⟨_, pss_one (ps_ost (f := fx) (pe_var (i := 0) rfl (.inl h1)) (pe_var (i := 1) rfl (.inl h2) hd hcd)), ?_⟩
  obtain ⟨a, y, rfl, T, hno, ha, q⟩ := q
  exact ⟨y, rfl, V.ref a, rfl, a, C, rfl, T, hno, .inl ⟨ha, fun dx n ne => q dx n ne⟩⟩
/-- what the text must say of such a class -/
structure ErrD (P : Program) (w : World) (K : Fg) (mg : Str → Option Value) (base : Heap) (x fx : Str) (C : Addr) : Prop where
  T : OexC K C
  hm : mg x = some (.ref C)
  no : PySem.W.findIn K (.ref C) fx = some none
  ex : ∃ fI fd, PySem.W.findIn K (.ref C) "__init__" = some (some (.ref fI)) ∧ PySem.W.typeIn K (.ref fI) = some (.type "function") ∧ FnOk P w K mg base (L2N.CX P w) 1 fI fd ["self", fx] (spErr K C fx) ∧ Binds K fd ["self", fx] []
theorem none_x {X : Cx} : L2N.Takes X (fun _ _ _ _ => False) := fun _ _ z => by
  obtain ⟨_, _, _, _, _, _, _, _, _, _, _, _, _, _, _, _, z⟩ := z
  exact z.elim
end DL
set_option Elab.async false
set_option linter.all false
set_option maxRecDepth 100000
set_option maxHeartbeats 2000000
namespace DL
open PySem PySem.Spec PyProof.Rows L2
end DL
set_option Elab.async false
set_option linter.all false
set_option maxRecDepth 100000
set_option maxHeartbeats 2000000
namespace DL
open PySem PySem.Spec PyProof.Rows L2
def putT (kvs : List (List Key × D)) (k : List Key) (v : D) : List (List Key × D) :=
  if (kvs.any fun kv => decide (kv.1 = k)) = true then kvs.map (fun kv => if kv.1 = k then (kv.1, v) else kv) else kvs ++ [(k, v)]
section
variable {K : Fg} {G H : Hp}
theorem RpT.put {vs : List (List Key × V)} {ds : List (List Key × D)} (h : RpT K G vs ds) (k : List Key) {v : V} {d : D} (r0 : Rp K G v d) : RpT K G (putK vs k v) (putT ds k d) := by
  unfold putK putT
  rw [h.any k]
  split
  · exact h.map k r0
  · exact h.snoc k r0
end
end DL
set_option Elab.async false
set_option linter.all false
set_option maxRecDepth 100000
set_option maxHeartbeats 2000000
namespace DL
open PySem PySem.Spec PyProof.Rows L2
end DL
set_option Elab.async false
set_option linter.all false
set_option maxRecDepth 100000
set_option maxHeartbeats 3200000
namespace DL
open PySem PySem.Spec PyProof.Rows L2
end DL
set_option Elab.async false
set_option linter.all false
set_option maxRecDepth 100000
set_option maxHeartbeats 2000000
namespace DL
open PySem PySem.Spec PyProof.Rows L2
end DL
set_option Elab.async false
set_option linter.all false
set_option maxRecDepth 100000
set_option maxHeartbeats 2000000
namespace DL
open PySem PySem.Spec PyProof.Rows L2
end DL
set_option Elab.async false
set_option linter.all false
set_option maxRecDepth 100000
set_option maxHeartbeats 2000000
namespace DL
open PySem PySem.Spec PyProof.Rows L2
def itO (t : Bool) (l : Addr) : Obj := match t with
  | true => { cls := .type "tuple_iterator", data := .fields #[.ref l, .int 0 0] }
  | false => { cls := .type "list_iterator", data := .fields #[.ref l, .int 0 0] }
theorem it_at {t : Bool} {h : Heap} {a l : Addr} (e : h.get? a = some (itO t l)) : ItAt t h a l 0 := by
  cases t
  · exact ⟨_, e, rfl, rfl⟩
  · exact ⟨_, e, rfl, rfl⟩
end DL
set_option Elab.async false
set_option linter.all false
set_option maxRecDepth 100000
set_option maxHeartbeats 2000000
namespace DL
open PySem PySem.Spec PyProof.Rows L2
end DL
namespace DL
open PySem PySem.Spec PyProof.Rows L2
end DL
set_option Elab.async false
set_option linter.all false
set_option maxRecDepth 100000
set_option maxHeartbeats 2000000
namespace DL
open PySem PySem.Spec PyProof.Rows L2
/-- the ends of a suite whose name goes behind it -/
def gone (i : Nat) (D : Ends) : Ends where
  nx := fun τ J => D.nx (τ.set i none) J
  rt := D.rt
  bk := fun τ J => D.bk (τ.set i none) J
  ct := fun τ J => D.ct (τ.set i none) J
end DL
set_option Elab.async false
set_option linter.all false
set_option maxRecDepth 100000
set_option maxHeartbeats 2000000
namespace DL
open PySem PySem.Spec PyProof.Rows L2
end DL
namespace PySem.W
open PySem PySem.Spec PySem.Calls PyProof.Rows
section
variable {prog : Program} {w : World} {A : Around} {E : Value → Shared → Prop} {K : Frag} {x D : Addr} {ox : Obj} {od : Option Obj}
theorem xc_class {Q : Option Value → Shared → Prop} {s : Shared} (T : L2.ExcC K D) (X : K.In s.heap) (I : InstAt s.heap x ox D od) (q : Q (some (.ref D)) { s with toks := s.toks + 1 }) : wpAny (model prog w) A (getAttr? (.ref x) "__class__") Q E s := by
  have found : findObj K D od "__class__" = some (.bind (.builtin "getset_descriptor.__get__") (.builtin "object.__class__")) := by
    obtain ⟨cd, hc, _⟩ := any_some T.hd
    unfold findObj
    rw [hc, Option.bind_some, T.ha, Option.bind_some]
    simp [T.hn, T.ht]
  obtain ⟨hp, gs, ds, tk, os⟩ := s
  have La := I.type (M := model prog w)
  have Lb := looks_findIn (M := model prog w) X T.hg
  have Lc := looks_findIn (M := model prog w) X T.hk
  have Ld := looks_find (M := model prog w) X I found
  have Le : Looks (model prog w) hp (isInstance (.ref x) (.type "BaseException")) true := La.andThen (looks_subIn X T.hs)
  have n1 : (Value.builtin "BaseException.__getattribute__" == Value.builtin "object.__getattribute__") = false := by decide +kernel
  have n2 : (onTheHeap (Value.ref D) && Value.builtin "BaseException.__getattribute__" == Value.builtin "object.__getattribute__") = false := by rw [n1] <;> rfl
  unfold getAttr? getAttrBy? getAttrBy
  refine wpAny_bind (wpAny_mkText (wpAny_bind (wpAny_attempt (wpAny_holding (wpAny_bind (La.at (wpAny_bind (Lb.at ?_))))))))
  show wpAny _ _ (if (onTheHeap (Value.ref D) && Value.builtin "BaseException.__getattribute__" == Value.builtin "object.__getattribute__") = true then _ else _) _ _ _
  rw [n2]
  rw [if_neg Bool.false_ne_true]
  unfold getAttrByItsOwn hookBefore
  refine wpAny_bind ?_
  rw [if_pos (show onTheHeap (Value.ref D) = true from rfl)]
  refine Lc.at (wpAny_bind (wpAny_attempt (wpAny_holding ?_)))
  unfold callGetattribute
  rw [show (false && onTheHeap (Value.builtin "BaseException.__getattribute__")) = false from rfl]
  rw [if_neg Bool.false_ne_true]
  unfold boundAndCalled
  rw [PySem.F.excAttr_ValueError.ga.bind (.ref x)]
  refine wpAny_bind (wpAny_pure ?_)
  show wpAny _ _ (call (.builtin "BaseException.__getattribute__") [.ref x, .str "__class__" tk]) _ _ _
  refine wpAny_call (codeAny_call_builtin PySem.F.excAttr_ValueError.ga.plain PySem.F.entry_bexc_ga ?_)
  refine @check_slot (model prog w) _ _ ⟨hp, gs, ds, tk + 1, os⟩ "BaseException.__getattribute__" "BaseException" "__getattribute__" (.ref x) [.str "__class__" tk] [] _ (by decide +kernel) (by decide +kernel) Le (PySem.F.args_bexc_ga (.ref x) (.str "__class__" tk)) ?_
  unfold Builtin.«object.__getattribute__»
  refine wpAny_bind (wpAny_of_eq (a := ((Value.ref x : Value), [Value.str "__class__" tk])) (by first | (simp only [slotArgs]; rfl) | rfl) ?_)
  refine wpAny_bind (wpAny_pure (wpAny_bind (La.at (wpAny_bind (Ld.at ?_)))))
  show wpAny _ _ (holding [Value.builtin "object.__class__"] (call (.builtin "getset_descriptor.__get__") [.builtin "object.__class__", .ref x, .ref D]) >>= ret) _ _ _
  refine wpAny_bind (wpAny_holding (wpAny_call (class_get (s := ⟨hp, gs, ds, tk + 1, os⟩) (ox := ox) (od := od) X I T.hm ?_)))
  refine wpAny_pure ?_
  show wpAny _ _ (handedOut (.ref D)) _ _ _
  rw [handedOut_of (v := .ref D) rfl]
  first
    | exact wpAny_pure q
    | exact wpAny_pure (wpAny_pure q)
    | exact wpAny_pure (wpAny_bind (wpAny_pure (wpAny_pure q)))
theorem xc_cls {cd : ClassData} (e : clsIn K D = some cd) : ∃ o, K.lookup D = some o ∧ ∃ c d sl, o = ⟨c, d, .cls cd, sl⟩ := by
  unfold clsIn at e
  split at e
  · rename_i c d cd' sl ho
    cases e
    exact ⟨_, ho, _, _, _, rfl⟩
  · cases e
theorem xc_kit (T : L2.ExcC K D) : KitX K (.ref x) (.ref D) (fun h => InstAt h x ox D od) := by
  obtain ⟨cd, hc, _⟩ := any_some T.hd
  obtain ⟨o, ho, c, d, sl, rfl⟩ := xc_cls hc
  refine ⟨fun _ _ _ I => I.type, fun _ _ X _ => ?_, fun h tp dd its n sl2 X htp => ?_, fun X I k => xc_class T X I k⟩
  · intro A' Q' E' s' k q
    unfold isType loadHead
    exact wpAny_bind (wpAny_loadPart (k _ _ (X _ _ ho)) (wpAny_pure q))
  · refine Bool.eq_false_iff.mpr fun q => ?_
    cases Value.ref.inj (beq_iff_eq.mp q)
    have z := (X _ _ ho).symm.trans htp
    cases z
end
end PySem.W
namespace DL
open PySem PySem.Spec PyProof.Rows L2
end DL
set_option Elab.async false
set_option linter.all false
set_option maxRecDepth 100000
set_option maxHeartbeats 2000000
namespace DL
open PySem PySem.Spec PyProof.Rows L2
end DL
set_option Elab.async false
set_option linter.all false
set_option maxRecDepth 100000
set_option maxHeartbeats 2000000
namespace DL
open PySem PySem.Spec PyProof.Rows L2 He
section
variable {P : Program} {w : World} {K : Fg} {mg : Str → Option Value} {base : Heap} {k : Nat} {f : Addr} {fd : FuncData} {ps : List Str} {sp : Sp}
/-- FnOg.of, told which code object the def has -/
theorem FnOg.ofC {x qual : Str} {params : Arguments} {body : List Stmt} {scope : Scope} {dvs : List V} {kws : List (Str × V)} {N : List Str} (F : FunD K x qual params body scope dvs kws f fd) (S : FnScope N ps scope)
    (len : ∀ vs H Q E, sp vs H Q E → vs.length = ps.length)
    (hbody : ∀ (cdv : Value) (A : Around) (outer : List Env) (s : Shared) (H : Hp) (vs : List V) (Q : VK) (E : XK), fd.code = cdv → A.guards = some [] → Room k (A.deeper (envOfC qual scope s.heap.objs.size f cdv)) → sp vs H Q E →
      ∃ t, PSs (cxOf (L2N.CX P w) P w K mg base N qual scope f cdv A outer s H E) body t ∧ t { nx := fun _ H' => Q .non H', rt := Q } (start N vs) H) : FnOg P w K mg base (k + 1) f fd ps sp := by
  obtain ⟨oc, od, dV, kV, doc, pm, an, cdv, ct, osl, rfl, lk, hcd, _, _⟩ := F.ex
  constructor
  · exact len
  · intro A outer s H args us vs Q E hgd hr e0 hb r hsp
    have KX := e0.mod.kin.keeps fun b o z => (e0.bs b o z).1
    refine codeAny_call_function hr.depth (KX _ _ lk) rfl S.co S.gen rfl (PySem.W.codeRec_of KX hcd) (hb _ _ _ _ ?_)
    refine wpAny_newFunctionEnv_cells S.kind ?_ fun env he s1 x1 => ?_
    · rintro ⟨n, v⟩ hy
      cases S.par n (List.of_mem_zip hy).1 with
      | inl q => exact .inl q
      | inr q => exact .inr ⟨q, PySem.W.cellsFrom_some _ _ _ (.inl q)⟩
    subst he
    have lim0 := e0.mod.nolimit.keeps fun b o z => (e0.bs b o z).1
    refine ⟨lim0.keeps x1.toInCall.keep, codeAny_func ?_⟩
    obtain ⟨t, ht, hq⟩ := hbody cdv A outer s H vs Q E rfl hgd (hr.deeper _) hsp
    have I := inv_start (CX := L2N.CX P w) (E := E) (f := f) (cd := cdv) S hr.hd e0 (len _ _ _ _ hsp) r x1
    refine wpAny_mono (ht.run [] s1 (start N vs) H _ I hq) (fun fl s' hs => ?_) fun e s' hs => hs
    cases fl with
    | ret u => exact let ⟨v, σ', H', J, rv, q⟩ := hs; ⟨v, H', J.os, J.bare, J.base, J.hok, rv, q⟩
    | next => exact let ⟨σ', H', J, q⟩ := hs; ⟨V.non, H', J.os, J.bare, J.base, J.hok, rfl, q⟩
    | brk => exact hs.elim fun _ z => z.elim fun _ y => y.2.elim
    | cont => exact hs.elim fun _ z => z.elim fun _ y => y.2.elim
theorem FnG.fnokC {x qual : Str} {params : Arguments} {body : List Stmt} {scope : Scope} {dvs : List V} {kws : List (Str × V)} {N : List Str} {m : List Sl → RS} (F : FunD K x qual params body scope dvs kws f fd) (S : FnScope N ps scope)
    (h : ∀ (cdv : Value) (A : Around) (outer : List Env) (s : Shared) (H : Hp) (E : XK), fd.code = cdv → A.guards = some [] → Room k (A.deeper (envOfC qual scope s.heap.objs.size f cdv)) → DSs (cxOf (L2N.CX P w) P w K mg base N qual scope f cdv A outer s H E) (fun cls d _ H => E cls d H) body m) :
    FnOg P w K mg base (k + 1) f fd ps (spD K ps.length (runF (N.length - ps.length) m)) :=
  FnOg.ofC F S (fun vs H Q E h => h.1) fun cdv A outer s H vs Q E hcd hgd hr q => ⟨_, (h cdv A outer s H E hcd hgd hr).run, spD_start q⟩
end
def csN (K : Fg) (x : Str) : List (Addr × Addr) := match tabInX K x with
  | some q => [q]
  | none => []
/-- the code objects and their tables -/
def csK (K : Fg) : List (Addr × Addr) := lamNames.flatMap (csN K)
end DL
set_option Elab.async false
set_option linter.all false
set_option maxRecDepth 100000
set_option maxHeartbeats 2000000
namespace PySem
namespace OEY
open PySem.W PySem.Calls PyProof.Rows PySem.HandSPX
/-- a built-in error class: its mro, its __new__ -/
structure Bx (tl : List Value) (nw : String) : Prop where
  b : ∃ B ini, ExcBaseFacts B nw ini tl
  s : ∃ B, StoreFacts B tl "object.__setattr__" "object"
  o : tl.contains (.type "object") = true
  n : ∀ c r, tl ≠ .ref c :: r
  e : tl ≠ []
theorem bx_ae : Bx aeTl "ArithmeticError.__new__" := ⟨⟨_, _, F.excBase_ArithmeticError⟩, ⟨_, F.store_ArithmeticError⟩, by decide +kernel, (fun _ _ z => nomatch z), (fun z => nomatch z)⟩
theorem bx_le : Bx leTl "LookupError.__new__" := ⟨⟨_, _, F.excBase_LookupError⟩, ⟨_, F.store_LookupError⟩, by decide +kernel, (fun _ _ z => nomatch z), (fun z => nomatch z)⟩
/-- own classes, then that mro -/
inductive Refs (tl : List Value) : List Value → Prop
  | here : Refs tl tl
  | more {c : Addr} {r : List Value} : Refs tl r → Refs tl (.ref c :: r)
theorem refsB_ok {tl : List Value} : ∀ {l : List Value}, refsB tl l = true → Refs tl l := fun {l} => by
  induction l with
  | nil => intro h; rw [show ([] : List Value) = tl from beq_iff_eq.mp h]; exact .here
  | cons a r ih =>
    intro h
    cases a with
    | ref c => exact .more (ih h)
    | _ => rw [← show _ = tl from beq_iff_eq.mp h]; exact .here
section
variable {tl l : List Value} {nw : String}
theorem Refs.has (h : Refs tl l) (X : String) : l.contains (.type X) = tl.contains (.type X) := by
  induction h with
  | here => rfl
  | more _ ih => rw [List.contains_cons, ih]; rfl
theorem Refs.full (x : Bx tl nw) (h : Refs tl l) : l.isEmpty = false := by
  cases h with
  | here => cases tl with
    | nil => exact absurd rfl x.e
    | cons _ _ => rfl
  | more _ => rfl
theorem Refs.pass (x : Bx tl nw) (h : Refs tl l) (self : Value) : refuseLoop self "__setattr__" l = pure () := by
  induction h with
  | here => exact x.s.choose_spec.passes self
  | more _ ih => rw [refuseLoop_ref]; exact ih
end
section
open Builtin Builtin.ObjectAttr
variable {prog : Program} {w : World} {A : Around} {E : Value → Shared → Prop} {R : Result → Shared → Prop} {hp : Heap} {gs : Array GenState} {dr : Drawn} {t : Nat} {os : OsState} {tl : List Value} {nw : String}
/-- the first field of such an exception -/
theorem first_field {K : W.Frag} {fx : Str} {tk : Tok} {v : Value} {a C : Addr} {fv : Array Value} {cd : ClassData} (bx : Bx tl nw)
    (KX : K.In hp) (ha : hp.get? a = some { cls := .ref C, data := .fields fv }) (hcd : W.clsIn K C = some cd) (hm : Refs tl cd.mro) (hh : cd.hasDict = true) (no : W.findIn K (.ref C) fx = some none)
    (fin : ∀ h2 t2 dx, (∀ b o, b ≠ a → hp.get? b = some o → h2.get? b = some o) → hp.objs.size ≤ dx → dx ≠ a → h2.get? a = some { cls := .ref C, dict := some dx, data := .fields fv } →
      h2.Ns1 dx (fun y => if y = fx then some v else none) → R (.ok (.ret .none)) ⟨h2, gs, dr, t2, os⟩) :
    codeAny (model prog w) A (.call (.builtin "object.__setattr__") ⟨[.ref a, .str fx tk, v], []⟩) R ⟨hp, gs, dr, t, os⟩ := by
  have J : W.InstAt hp a { cls := .ref C, data := .fields fv } C none := ⟨ha, rfl, rfl, trivial⟩
  have SO := F.store_object
  have fu := hm.full bx
  have isO : cd.mro.contains (.type "object") = true := (hm.has "object").trans bx.o
  have apart : a ≠ hp.objs.size := Nat.ne_of_lt (Heap.lt_size ha)
  have inO : W.Looks (model prog w) hp (isInstance (.ref a) (.type "object")) true := J.type.andThen (W.looks_mroIn KX (by
    unfold W.mroIn
    rw [hcd, Option.bind_some, if_neg (by rw [fu]; decide), isO]))
  refine codeAny_call_builtin SO.slot.plain SO.entry (@W.check_slot (model prog w) _ _ ⟨hp, gs, dr, t, os⟩ "object.__setattr__" "object" "__setattr__" (.ref a) [.str fx tk, v] [] _ SO.kind SO.split inO (SO.args (.ref a) (.str fx tk) v) ?_)
  have Lm : W.Looks (model prog w) hp (mroOf (.ref C)) cd.mro := (W.looks_clsIn KX hcd).andThen .now
  have Ls : W.Looks (model prog w) hp (storeTaker? none) none := .now
  have Lc : W.Looks (model prog w) hp (classData C) cd := W.looks_clsIn KX hcd
  rw [W.osa_eq, refuse_eq]
  refine wpAny_bind (wpAny_bind (J.type.at (wpAny_bind (Lm.at ?_))))
  rw [hm.pass bx]
  refine wpAny_pure (wpAny_bind (J.type.at (wpAny_bind ((W.looks_findIn KX no).at (wpAny_bind (Ls.at ?_))))))
  show wpAny _ _ (storeInOwnDict (.ref a) (.ref C) (.str fx tk) fx v false) _ _ _
  obtain ⟨nm, bs, mro, ns, qn, hd, sn, sb, ab, col, del⟩ := cd
  dsimp only at hh
  subst hh
  unfold storeInOwnDict ownDictForStores
  repeat (first | with_reducible refine store_in_new ?_ ?_ | with_reducible refine wpAny_loadPart_at ha ?_ | with_reducible refine Lc.at ?_ | wp_step)
  · exact ⟨_, #[], _, (Heap.get?_update_ne _ _ _ _ apart.symm).trans (Heap.get?_push_at rfl rfl), rfl, fun e he => absurd he (by simp), fun _ => rfl⟩
  · intro h2 t2 hn hs
    have ha1 : (hp.push { cls := .type "dict", data := .dict #[] }).get? a = some { cls := .ref C, data := .fields fv } := Heap.get?_push_of_some _ ha
    refine fin h2 t2 hp.objs.size (fun b o hb ho => ?_) (Nat.le_refl _) apart.symm ((hs.2 a apart).trans (Heap.get?_update_self _ ha1 rfl)) hn
    exact (hs.2 b (Nat.ne_of_lt (Heap.lt_size ho))).trans ((Heap.get?_update_ne _ _ _ _ hb).trans (Heap.get?_push_of_some _ ho))
end
end OEY
end PySem
namespace DL
open PySem PySem.Spec PyProof.Rows L2
/-- what the written part says of such a class -/
structure OexT (K : Fg) (C : Addr) : Prop where
  cls : ∃ tl nw nm q N bs bm sn sub ab col dd k0 k1 k2 k3 k5, PySem.OEY.Bx tl nw ∧ K.lookup C = some (excClassObj nm q C N bs bm true sn sub ab col dd k0 k1 k2 k3 k5 nw) ∧ PySem.OEY.Refs tl bm
  sa : PySem.W.findIn K (.ref C) "__setattr__" = some (some (.builtin "object.__setattr__"))
  exC : PySem.W.subIn K (.ref C) (.type "BaseException") = some true
  tyC : PySem.W.typeIn K (.ref C) = some (.type "type")
  kC : PySem.W.keepIn K (.ref C) = true
section
variable {X : Cx} {pins : List (Addr × Obj)} {σ : L2.St} {H : Hp} {s : Shared} {a C : Addr} {fx : Str} {y : V} {u : Value} {A : Around}
theorem field_new {Q : Unit → Shared → Prop} {E : Value → Shared → Prop} (T : OexT X.K C) (I : Inv X pins σ H s) (e : H a = some (exo a C none)) (no : PySem.W.findIn X.K (.ref C) fx = some none) (ry : RelV y u)
    (fin : ∀ dx t, H dx = none → dx ≠ a → Inv X pins σ (upd (upd H dx (exd dx [(fx, y)])) a (exo a C (some dx))) t → Q () t) : wpAny (model X.prog X.w) A (setAttr (.ref a) fx u) Q E s := by
  obtain ⟨tl, nw, nm, q, N, bs, bm, sn, sub, ab, col, dd, k0, k1, k2, k3, k5, bx, hC, hbm⟩ := T.cls
  have hcl : PySem.W.clsIn X.K C = some { name := nm, bases := bs, mro := .ref C :: bm, ns := N, qualname := q, hasDict := true, slotNames := sn, subclasses := sub, abstract := ab, collection := col, hasDel := false } := by
    unfold PySem.W.clsIn
    rw [hC] <;> rfl
  obtain ⟨t1, ho⟩ := exo_at I.hok e
  obtain ⟨hp, gs, dr, tk, os⟩ := s
  refine PySem.W.set_plain I.kIn (ox := { cls := .ref C, dict := none, data := .fields #[.ref t1, .none, .none, .none, .bool false, .none] }) (od := none) ⟨ho, rfl, rfl, trivial⟩ T.sa ?_
  refine PySem.OEY.first_field bx I.kIn ho hcl (.more hbm) rfl no fun h2 t2 dx k dn dne hx hn => ?_
  have hnd : H dx = none := I.hok.fresh dn
  have nD : ∀ {b : Addr} {o : Obj}, hp.get? b = some o → b ≠ dx := fun {b o} z => Nat.ne_of_lt (Nat.lt_of_lt_of_le (Heap.lt_size z) dn)
  have nA : ∀ {b : Addr}, H b = none → b ≠ a := fun {b} n => by
    intro z
    rw [z, e] at n
    cases n
  have old : ∀ {b : Addr} {o : HO}, H b = some o → b ≠ a → upd (upd H dx (exd dx [(fx, y)])) a (exo a C (some dx)) b = some o := fun {b o} z n => by rw [upd_ne n, upd_ne (ne_of_none z hnd)]; exact z
  refine fin dx _ hnd dne (I.un (t' := t2) ⟨fun b o z n _ _ => k b o (nA n) z, fun b o z n _ _ => ⟨o.slots, k b o (nA n) z⟩, fun b o z n _ => ?_, fun b o z _ => ?_, fun b xs z => old z (at_ne e z exo_tup), fun b o v z => old z (at_ne e z exo_frz), fun b ps z => ⟨#[], by rw [old z (at_ne e z exo_tbl)]; simp⟩⟩ fun b o z => ?_)
  · rw [upd_ne (nA n), upd_ne (nD z)]; exact n
  · by_cases hb : b = a
    · exact ⟨_, by rw [hb]; exact hx⟩
    · exact ⟨o, k b o hb z⟩
  · by_cases hb : b = a
    · subst hb
      rw [upd_same] at z
      cases z
      exact exo_ok hx
    · rw [upd_ne hb] at z
      by_cases hd : b = dx
      · subst hd
        rw [upd_same] at z
        cases z
        exact exd_ok hn (relO_put (fs := []) ry fun _ => True.intro)
      · rw [upd_ne hd] at z
        refine (I.hok b o z).stay (fun c v hc y2 => k c v ?_ y2) (fun c hc => old hc (at_ne e hc exo_own)) fun c xs hc => old hc (at_ne e hc exo_tup)
        rcases hc with hc | hc
        · rw [hc]; exact hb
        · exact at_ne e hc exo_own
/-- self.fx = e, in such a class's __init__ -/
def tFst (K : Fg) (fx : Str) (to te : TE) : TS := fun D σ H => te σ H fun y H1 => to σ H1 fun x H2 => ∃ a C : Addr, x = .ref a ∧ OexT K C ∧ PySem.W.findIn K (.ref C) fx = some none ∧
  H2 a = some (exo a C none) ∧ ∀ dx, H2 dx = none → dx ≠ a → D.nx σ (upd (upd H2 dx (exd dx [(fx, y)])) a (exo a C (some dx)))
theorem ps_fst {o e : Expr} {to te : TE} {p' pos : Pos} (ho : PE X o to) (he : PE X e te) (hs : swapsWith e (some (.Attribute o fx p')) pos.line X.env = pure false := by rfl) : PS X (.Assign [.Attribute o fx p'] e pos) (tFst X.K fx to te) := by
  constructor
  intro pins s σ H D I h
  refine plainObj_wpAny_Assign_Attribute (thn (he.run pins s σ H _ I h) fun v s1 ⟨y, H1, I1, r1, q1⟩ => thn (ho.run pins s1 σ H1 _ I1 q1) fun u s2 ⟨x, H2, I2, r2, a, C, ex, T, no, ea, q⟩ => ?_) hs
  subst ex
  obtain rfl : u = Value.ref a := r2
  exact field_new T I2 ea no r1 fun dx t n ne J => ⟨σ, _, J, q dx n ne⟩
end
def spErrT (K : Fg) (C : Addr) (fx : Str) : Sp := fun vs H Q _ => ∃ a y, vs = [V.ref a, y] ∧ OexT K C ∧ PySem.W.findIn K (.ref C) fx = some none ∧ H a = some (exo a C none) ∧
  ∀ dx, H dx = none → dx ≠ a → Q .non (upd (upd H dx (exd dx [(fx, y)])) a (exo a C (some dx)))
theorem errT_fn {P : Program} {w : World} {K : Fg} {mg : Str → Option Value} {base : Heap} {C f : Addr} {fd : FuncData} {fx x qual : Str} {params : Arguments} {scope : Scope} {kws : List (Str × V)} {p1 p2 p3 p4 : Pos}
    (F : FunD K x qual params [.Assign [.Attribute (.Name "self" p1) fx p2] (.Name fx p3) p4] scope [] kws f fd) (S : FnScope ["self", fx] ["self", fx] scope)
    (h1 : scope.names.lookup ("self" : Str) = some NameKind.local) (h2 : scope.names.lookup fx = some NameKind.local) (hd : (fx == ("__debug__" : Str)) = false) (hcd : (fx == ("__classdict__" : Str)) = false) : FnOk P w K mg base (L2N.CX P w) 1 f fd ["self", fx] (spErrT K C fx) := by
  refine F.ok S (fun vs H Q E h => by
    obtain ⟨a, y, rfl, _⟩ := h
    rfl) fun cdv A outer s H vs Q E hr q => ?_
  refine ⟨_, pss_one (ps_fst (fx := fx) (pe_var (i := 0) rfl (.inl h1)) (pe_var (i := 1) rfl (.inl h2) hd hcd)), ?_⟩
  obtain ⟨a, y, rfl, T, hno, ha, q⟩ := q
  exact ⟨y, rfl, V.ref a, rfl, a, C, rfl, T, hno, ha, fun dx n ne => q dx n ne⟩
structure ErrT (P : Program) (w : World) (K : Fg) (mg : Str → Option Value) (base : Heap) (x fx : Str) (C : Addr) : Prop where
  T : OexT K C
  hm : mg x = some (.ref C)
  no : PySem.W.findIn K (.ref C) fx = some none
  ex : ∃ fI fd, PySem.W.findIn K (.ref C) "__init__" = some (some (.ref fI)) ∧ PySem.W.typeIn K (.ref fI) = some (.type "function") ∧ FnOk P w K mg base (L2N.CX P w) 1 fI fd ["self", fx] (spErrT K C fx) ∧ Binds K fd ["self", fx] []
end DL
set_option Elab.async false
set_option linter.all false
set_option maxRecDepth 100000
set_option maxHeartbeats 2000000
namespace DL
open PySem PySem.Spec PyProof.Rows L2
end DL
set_option Elab.async false
set_option linter.all false
set_option maxRecDepth 100000
set_option maxHeartbeats 2000000
namespace DL
open PySem PySem.Spec PyProof.Rows L2
end DL
set_option Elab.async false
set_option linter.all false
set_option maxRecDepth 100000
set_option maxHeartbeats 2000000
namespace DL
open PySem PySem.Spec PyProof.Rows L2
end DL
set_option Elab.async false
set_option linter.all false
set_option maxRecDepth 100000
set_option maxHeartbeats 2000000
namespace DL
open PySem PySem.Spec PyProof.Rows L2
end DL
set_option Elab.async false
set_option linter.all false
set_option maxRecDepth 100000
set_option maxHeartbeats 2000000
namespace DL
open PySem PySem.Spec PyProof.Rows L2
end DL
set_option Elab.async false
set_option linter.all false
set_option maxRecDepth 100000
set_option maxHeartbeats 2000000
namespace DL
open PySem PySem.Spec PyProof.Rows L2
end DL
set_option Elab.async false
set_option linter.all false
set_option maxRecDepth 100000
set_option maxHeartbeats 2000000
namespace DL
open PySem PySem.Spec PyProof.Rows L2
end DL
set_option Elab.async false
set_option linter.all false
set_option maxRecDepth 100000
set_option maxHeartbeats 2000000
namespace DL
open PySem PySem.Spec PyProof.Rows L2
end DL
set_option Elab.async false
set_option linter.all false
set_option maxRecDepth 100000
set_option maxHeartbeats 2000000
namespace DL
open PySem PySem.Spec PyProof.Rows L2
end DL
set_option Elab.async false
set_option linter.all false
set_option maxRecDepth 100000
set_option maxHeartbeats 2000000
namespace DL
open PySem PySem.Spec PyProof.Rows L2
end DL
set_option Elab.async false
set_option linter.all false
set_option maxRecDepth 100000
set_option maxHeartbeats 2000000
namespace DL
open PySem PySem.Spec PyProof.Rows L2
end DL
set_option Elab.async false
set_option linter.all false
set_option maxRecDepth 100000
set_option maxHeartbeats 2000000
namespace DL
open PySem PySem.Spec PyProof.Rows L2
end DL
set_option Elab.async false
set_option linter.all false
set_option maxRecDepth 100000
set_option maxHeartbeats 4000000
namespace DL
open PySem PySem.Spec PyProof.Rows L2
end DL
set_option Elab.async false
set_option linter.all false
set_option maxRecDepth 100000
set_option maxHeartbeats 2000000
namespace DL
open PySem PySem.Spec PyProof.Rows L2
end DL
set_option Elab.async false
set_option linter.all false
set_option maxRecDepth 100000
set_option maxHeartbeats 2000000
namespace DL
open PySem PySem.Spec PyProof.Rows L2
end DL
set_option Elab.async false
set_option linter.all false
set_option maxRecDepth 100000
set_option maxHeartbeats 2000000
namespace DL
open PySem PySem.Spec PyProof.Rows L2 He
theorem Df.funD {K : Fg} {d : Df} (e : fnAt K d.at_ = d.val) (c : d.ok K = true) : ∃ fd, FunD K d.name d.qual d.params d.body d.scope (d.dvs K) [] (d.at_.at K) fd := by
  obtain ⟨kp, c2⟩ := ba c
  unfold fnAt at e
  cases q : K.lookup (d.at_.at K) with
  | none => rw [q] at c2; cases c2
  | some o =>
    obtain ⟨oc, od, dt, osl⟩ := o
    rw [q] at c2 e
    cases dt with
    | func fd =>
      obtain ⟨n1, n2, n3, n4, n5, n6, n7, n8, n9, n10, n11, n12, n13, n14, n15⟩ := fd
      have e2 : (some (n1, n2, n3, n4, n5, n6, n7, n15) : FnW) = some (d.name, d.qual, d.params, .stmts d.body, d.scope, mainGlobals, [], builtinsNs) := e
      simp only [Option.some.injEq, Prod.mk.injEq] at e2
      obtain ⟨h1, h2, h3, h4, h5, h6, h7, h8⟩ := e2
      subst h1 h2 h3 h4 h5 h6 h7 h8
      obtain ⟨k1, k2⟩ := ba (show (PySem.W.codeIn K n13 d.qual && dflB K n8 (d.dvs K)) = true from c2)
      exact ⟨_, ⟨oc, od, n8, n9, n10, n11, n12, n13, n14, osl, rfl, q, k1, dflB_ok k2, .inl rfl⟩, kp⟩
    | _ => cases c2
theorem oexB_ok {K : Fg} {C : Addr} (q : oexB K C = true) : ∃ nm q N bs bm sn sub ab col dd k0 k1 k2 k3 k5, K.lookup C = some (excClassObj nm q C N bs bm true sn sub ab col dd k0 k1 k2 k3 k5 "ValueError.__new__") ∧ PySem.HandSPX.refsVE bm = true := by
  unfold oexB at q
  split at q
  · rename_i dd cd sl ho
    split at q
    · rename_i C' bm k0 k1 k2 k3 n k5 hm hs
      simp only [Bool.and_eq_true, beq_iff_eq, Bool.not_eq_true'] at q
      obtain ⟨⟨⟨⟨e1, e2⟩, hdel⟩, ht⟩, hd⟩ := q
      subst e1 e2
      obtain ⟨nm, bs, mro, ns, qn, hdd, sn, sub, ab, col, del⟩ := cd
      dsimp only at hm hdel hd
      subst hm hdel hd
      have hsl : sl = #[k0, k1, k2, k3, some (.builtin "ValueError.__new__"), k5] := by
        obtain ⟨l⟩ := sl
        simp only at hs
        rw [hs]
      subst hsl
      exact ⟨nm, qn, ns, bs, bm, sn, sub, ab, col, dd, k0, k1, k2, k3, k5, ho, ht⟩
    · cases q
  · cases q
theorem oexTB_ok {K : Fg} {C : Addr} (q : oexTB K C = true) : ∃ tl nw nm q N bs bm sn sub ab col dd k0 k1 k2 k3 k5, PySem.OEY.Bx tl nw ∧ K.lookup C = some (excClassObj nm q C N bs bm true sn sub ab col dd k0 k1 k2 k3 k5 nw) ∧ PySem.OEY.Refs tl bm := by
  unfold oexTB at q
  split at q
  · rename_i dd cd sl ho
    split at q
    · rename_i C' bm k0 k1 k2 k3 n k5 hm hs
      obtain ⟨e1, q1⟩ := ba q
      obtain ⟨hdel, q2⟩ := ba q1
      obtain ⟨hd, q3⟩ := ba q2
      clear q q1 q2
      have e1 := beq_iff_eq.mp e1
      subst e1
      obtain ⟨nm, bs, mro, ns, qn, hdd, sn, sub, ab, col, del⟩ := cd
      dsimp only at hm hdel hd
      have hdel : del = false := by simpa using hdel
      subst hm hdel hd
      have hsl : sl = #[k0, k1, k2, k3, some (.builtin n), k5] := by
        obtain ⟨l⟩ := sl
        simp only at hs
        rw [hs]
      subst hsl
      rcases Bool.or_eq_true_iff.mp q3 with q4 | q4
      · obtain ⟨n1, r1⟩ := ba q4
        have n1 := beq_iff_eq.mp n1
        subst n1
        exact ⟨_, _, nm, qn, ns, bs, bm, sn, sub, ab, col, dd, k0, k1, k2, k3, k5, PySem.OEY.bx_ae, ho, PySem.OEY.refsB_ok r1⟩
      · obtain ⟨n1, r1⟩ := ba q4
        have n1 := beq_iff_eq.mp n1
        subst n1
        exact ⟨_, _, nm, qn, ns, bs, bm, sn, sub, ab, col, dd, k0, k1, k2, k3, k5, PySem.OEY.bx_le, ho, PySem.OEY.refsB_ok r1⟩
    · cases q
  · cases q
theorem excB_ok {K : Fg} {C : Addr} (c : excB K C = true) : ExcC K C := by
  obtain ⟨c1, c⟩ := ba c
  obtain ⟨c2, c⟩ := ba c
  obtain ⟨c3, c⟩ := ba c
  obtain ⟨c4, c⟩ := ba c
  obtain ⟨c5, c⟩ := ba c
  obtain ⟨c6, c⟩ := ba c
  obtain ⟨c7, c8⟩ := ba c
  exact ⟨eqO_ok c1, eqO_ok c2, of_decide_eq_true c3, c4, eqO_ok c5, eqO_ok c6, of_decide_eq_true c7, of_decide_eq_true c8⟩
/-- what raise C() asks of such a class -/
structure Exc0 (K : Fg) (C : Addr) : Prop where
  q : PySem.W.excIn K C [.type "ArithmeticError", .type "Exception", .type "BaseException", .type "object"] "ArithmeticError.__new__" = true
  k : PySem.W.keepIn K (.ref C) = true
  s : PySem.W.subIn K (.ref C) (.type "BaseException") = some true
  t : PySem.W.typeIn K (.ref C) = some (.type "type")
theorem exc0B_ok {K : Fg} {C : Addr} (c : exc0B K C = true) : Exc0 K C := by
  obtain ⟨c1, c⟩ := ba c
  obtain ⟨c2, c⟩ := ba c
  obtain ⟨c3, c4⟩ := ba c
  exact ⟨c1, c2, of_decide_eq_true c3, of_decide_eq_true c4⟩
section
variable {K : Fg}
theorem err_ok {C fx : Str} (c : (Fb.err C fx).ok K = true) : OexC K (ga K C) ∧ PySem.W.findIn K (.ref (ga K C)) fx = some none ∧ PySem.W.findIn K (.ref (ga K C)) "__init__" = some (some (.ref (ma K (ga K C) "__init__"))) ∧ PySem.W.typeIn K (.ref (ma K (ga K C) "__init__")) = some (.type "function") := by
  obtain ⟨c1, c⟩ := ba (show errB K C fx = true from c)
  obtain ⟨c2, c⟩ := ba c
  obtain ⟨c3, c⟩ := ba c
  obtain ⟨c4, c⟩ := ba c
  obtain ⟨c5, c⟩ := ba c
  obtain ⟨c6, c⟩ := ba c
  obtain ⟨c7, c8⟩ := ba c
  exact ⟨⟨oexB_ok c1, eqO_ok c2, of_decide_eq_true c3, of_decide_eq_true c4, c5⟩, eqO_ok c6, eqO_ok c7, of_decide_eq_true c8⟩
theorem errT_ok {C fx : Str} (c : (Fb.errT C fx).ok K = true) : OexT K (ga K C) ∧ PySem.W.findIn K (.ref (ga K C)) fx = some none ∧ PySem.W.findIn K (.ref (ga K C)) "__init__" = some (some (.ref (ma K (ga K C) "__init__"))) ∧ PySem.W.typeIn K (.ref (ma K (ga K C) "__init__")) = some (.type "function") := by
  obtain ⟨c1, c⟩ := ba (show errTB K C fx = true from c)
  obtain ⟨c2, c⟩ := ba c
  obtain ⟨c3, c⟩ := ba c
  obtain ⟨c4, c⟩ := ba c
  obtain ⟨c5, c⟩ := ba c
  obtain ⟨c6, c⟩ := ba c
  obtain ⟨c7, c8⟩ := ba c
  exact ⟨⟨oexTB_ok c1, eqO_ok c2, of_decide_eq_true c3, of_decide_eq_true c4, c5⟩, eqO_ok c6, eqO_ok c7, of_decide_eq_true c8⟩
theorem exc0_ok {C : Str} (c : (Fb.exc0 C).ok K = true) : Exc0 K (ga K C) := exc0B_ok c
theorem xf_ok {C fx : Str} (c : (Fb.xf C fx).ok K = true) : XfC K (ga K C) ∧ PySem.W.findIn K (.ref (ga K C)) fx = some none := by
  obtain ⟨c1, c2⟩ := ba c
  exact ⟨xfB_ok c1, eqO_ok c2⟩
theorem exc_ok {C : Str} (c : (Fb.exc C).ok K = true) : ExcC K (ga K C) := excB_ok c
theorem kitb_ok {C : Str} {t : String} {b : Bool} (c : (Fb.kitb C t b).ok K = true) : PySem.W.kitOne K (.ref (ga K C)) (.type t) = some b := of_decide_eq_true c
theorem kitc_ok {C' C : Str} {b : Bool} (c : (Fb.kitc C' C b).ok K = true) : PySem.W.kitOne K (.ref (ga K C')) (.ref (ga K C)) = some b := of_decide_eq_true c
end
section
variable {fa : List Fa} {fb : List Fb} {fn : List Df} {K : Fg}
theorem SaysY.fact (c : SaysY fa fb fn K) (i : Nat) {f : Fa} (h : fa[i]? = some f := by rfl) : f.ok K = true :=
  List.all_eq_true.mp (ba (ba (congrArg (fun z : AlY => z.1) c)).1).1 f (List.mem_of_getElem? h)
theorem SaysY.def_ (c : SaysY fa fb fn K) (i : Nat) {d : Df} (h : fn[i]? = some d := by rfl) : ∃ fd, FunD K d.name d.qual d.params d.body d.scope (d.dvs K) [] (d.at_.at K) fd := by
  have c2 := (ba (congrArg (fun z : AlY => z.1) c)).2
  have e2 : (fn.map fun d => fnAt K d.at_)[i]? = (fn.map Df.val)[i]? := by
    rw [show fn.map (fun d => fnAt K d.at_) = fn.map Df.val from congrArg (fun z : AlY => z.2) c]
  rw [List.getElem?_map, List.getElem?_map, h] at e2
  exact Df.funD (Option.some.inj e2) (List.all_eq_true.mp c2 d (List.mem_of_getElem? h))
end
end DL
set_option Elab.async false
set_option linter.all false
set_option maxRecDepth 100000
set_option maxHeartbeats 2000000
namespace DM
open PySem PySem.Spec PyProof.Rows L2 He DL
noncomputable section
def m__law_drop : List Sl → RS := (sSeq (sIf (b1 asB (p2 gtD (p2 ixD (pVarQ 0) (pC (.int 0))) (pC (.int 0)))) (sSeq (sAsg (gTupD (gsCons (gIx 0 (pC (.int 0))) (gsCons (gVar 3) gsNil))) (p2 dmD (p2 ixD (pVarQ 0) (pC (.int 0))) (pVar 1))) (sRet (pVar 3))) sNext) (sSeq (sAsg (gIx 0 (pC (.int 2))) (p2 addD (p2 ixD (pVarQ 0) (pC (.int 2))) (pC (.int 1)))) (sSeq (sAsg (gVar 2) (p2 modD (p1 intD (p2 addD (p2 ixD (pVarQ 0) (pC (.int 1))) (p2 mulD (pC (.int 57037)) (p2 ixD (pVarQ 0) (pC (.int 2)))))) (pC (.int 2147482943)))) (sSeq (sAsg (gIx 0 (pC (.int 1))) (p2 modD (p1 intD (p2 addD (p2 addD (p2 mulD (pVar 2) (p2 addD (p2 modD (p1 intD (pVar 2)) (pC (.int 17011))) (pC (.int 63019)))) (p2 mulD (pC (.int 59)) (p2 ixD (pVarQ 0) (pC (.int 2))))) (pC (.int 19)))) (pC (.int 2147482943)))) (sRet (p2 modD (p2 fdivD (p1 intD (p2 ixD (pVarQ 0) (pC (.int 1)))) (pC (.int 179))) (pVar 1)))))))
def F__law_drop : List Sl → RS := runF 2 (m__law_drop)
def m__law_from : List Sl → RS := (sRetE (e2 ixD (liftE (pVar 1)) (eCallO F__law_drop 0 (bCons (liftE (p1 lenD (pVar 1))) bNil))))
def F__law_from : List Sl → RS := runF 0 (m__law_from)
def m__law_phial_of : List Sl → RS := (sSeq (sPar [2, 3] (vVal (liftE (pIf (b1 asB (p2 ltD (pVar 1) (p1 lenD (pVar 0)))) (p2 ixD (pVar 0) (pVar 1)) (pC (.int 0)))) (vVal (liftE (p2 addD (pC (.int 8009)) (p2 mulD (pC (.int 90019)) (pVar 1)))) vNil))) (sSeq (sFor (i1 enumD (pSl (pVar 0) oNone (oSome (pC (.int 7))))) (gTupD (gsCons (gVar 4) (gsCons (gVar 5) gsNil))) (sAsg (gVar 3) (p2 modD (p1 intD (p2 addD (p2 mulD (pVar 3) (p2 addD (pC (.int 16033)) (p2 mulD (pC (.int 46)) (pVar 4)))) (p2 mulD (pC (.int 17)) (pVar 5)))) (pC (.int 2147482943))))) (sRetF (pA mkL (aCons (pIf (bOr (b1 asB (p2 ltD (pVar 2) (pC (.int 0)))) (b1 asB (p2 geD (pVar 2) (p2 powD (pC (.int 10)) (pC (.int 16)))))) (p1 absD (pVar 2)) (pC (.int 0))) (aCons (p2 modD (p1 intD (p2 addD (pVar 3) (p2 mulD (pC (.int 32009)) (pVar 2)))) (pC (.int 2147482943))) (aCons (pC (.int 0)) aNil)))))))
def F__law_phial_of : List Sl → RS := runF 4 (m__law_phial_of)
end
end DM
set_option Elab.async false
set_option linter.all false
set_option maxRecDepth 100000
set_option maxHeartbeats 2000000
namespace MA
open PySem PySem.Spec PyProof.Rows L2 He DL DM
section
variable {ρ ρ' : List Sl} {i j : Nat} {d x y : D} {f g h : List Sl → R D} {fe ge : List Sl → RE} {t u : List Sl → R Bool}
@[simp] theorem v_gsNil : gsNil [] ρ = some ρ := rfl
@[simp] theorem v_sNever : sNever ρ = .st := rfl
theorem v_sSeq {m m' : List Sl → RS} {ρ1 : List Sl} (e : m ρ = .ok .nx ρ1) : sSeq m m' ρ = m' ρ1 := by unfold sSeq; rw [e]; rfl
theorem v_sSeqRt {m m' : List Sl → RS} {ρ1 : List Sl} (e : m ρ = .ok (.rt d) ρ1) : sSeq m m' ρ = .ok (.rt d) ρ1 := by unfold sSeq; rw [e]; rfl
theorem v_sAsg {tf : D → List Sl → Option (List Sl)} (e : f ρ = .ok d) (e2 : tf d ρ = some ρ') : sAsg tf f ρ = .ok .nx ρ' := by unfold sAsg; rw [e, R.seq_ok, e2]
theorem o_mul {a b : Int} (h : iMul a b = true) : mulD (.int a) (.int b) = .ok (.int (a * b)) := by
  show (if iMul a b then R.ok (D.int (a * b)) else .st) = _
  rw [if_pos h]
theorem iMul_l {a b : Int} (h1 : -(2 ^ 64) < a) (h2 : a < 2 ^ 64) : iMul a b = true := by simp [iMul]; omega
theorem iMul_r {a b : Int} (h1 : -(2 ^ 64) < b) (h2 : b < 2 ^ 64) : iMul a b = true := by simp [iMul]; omega
theorem o_mod {a b : Int} (h : 0 < b) : modD (.int a) (.int b) = .ok (.int (a % b)) := by
  show (if 0 < b then R.ok (D.int (a % b)) else .st) = _
  rw [if_pos h]
theorem o_fdiv {a b : Int} (h : 0 < b) (h2 : b < 1073741824) : fdivD (.int a) (.int b) = .ok (.int (a / b)) := by
  show (if 0 < b ∧ b < 1073741824 then R.ok (D.int (a / b)) else .st) = _
  rw [if_pos ⟨h, h2⟩]
theorem o_dm {a b : Int} (h : 0 < b) (h2 : b < 1073741824) : dmD (.int a) (.int b) = .ok (.tup [.int (a / b), .int (a % b)]) := by
  show (if 0 < b ∧ b < 1073741824 then R.ok (D.tup [.int (a / b), .int (a % b)]) else .st) = _
  rw [if_pos ⟨h, h2⟩]
theorem o_ixL {xs : List D} {k : Nat} {d : D} (h : xs[k]? = some d) : ixD (.lst xs) (.int k) = .ok d := by
  have hk : k < xs.length := (List.getElem?_eq_some_iff.mp h).1
  show (match atI xs (k : Int) with | some d => R.ok d | none => .st) = _
  have : atI xs (k : Int) = some d := by
    unfold L2.atI ixN
    rw [if_pos (by omega), if_pos (by omega)]
    simpa using h
  rw [this]
theorem o_ixT {xs : List D} {k : Nat} {d : D} (h : xs[k]? = some d) : ixD (.tup xs) (.int k) = .ok d := by
  have hk : k < xs.length := (List.getElem?_eq_some_iff.mp h).1
  show (match atI xs (k : Int) with | some d => R.ok d | none => .st) = _
  have : atI xs (k : Int) = some d := by
    unfold L2.atI ixN
    rw [if_pos (by omega), if_pos (by omega)]
    simpa using h
  rw [this]
end
/-- the phial -/
def ph (a b c : Int) : Sl := .own 1 (.lst [.int a, .int b, .int c])
theorem ixI {a b c : Int} : ixD (.lst [.int a, .int b, .int c]) (.int 0) = .ok (.int a) ∧ ixD (.lst [.int a, .int b, .int c]) (.int 1) = .ok (.int b) ∧ ixD (.lst [.int a, .int b, .int c]) (.int 2) = .ok (.int c) :=
  ⟨o_ixL (k := 0) rfl, o_ixL (k := 1) rfl, o_ixL (k := 2) rfl⟩
theorem drop_ok (a b c top : Int) (h0 : 0 ≤ a) (ht : 0 < top) (ht2 : top < 1073741824) : ∃ r a' b' c' : Int, F__law_drop [ph a b c, .val (.int top)] = .ok (.rt (.int r)) [ph a' b' c', .val (.int top)] ∧ 0 ≤ r ∧ r < top ∧ 0 ≤ a' := by
  obtain ⟨x0, x1, x2⟩ := @ixI a b c
  by_cases h : 0 < a
  · refine ⟨a % top, a / top, b, c, ?_, Int.emod_nonneg _ (by omega), Int.emod_lt_of_pos _ ht, Int.ediv_nonneg h0 (by omega)⟩
    unfold F__law_drop runF m__law_drop ph
    rw [v_sSeqRt (d := .int (a % top)) (ρ1 := [ph (a / top) b c, .val (.int top), .un, .val (.int (a % top))])]
    · rfl
    · simp [x0, h]
      rw [v_sSeq (ρ1 := [ph (a / top) b c, .val (.int top), .un, .val (.int (a % top))])]
      · simp [ph]
      · refine v_sAsg (d := .tup [.int (a / top), .int (a % top)]) ?_ ?_
        · simp [x0, o_dm ht ht2]
        · rfl
  · let c1 := c + 1
    let base := (b + 57037 * c1) % 2147482943
    let b1 := (base * (base % 17011 + 63019) + 59 * c1 + 19) % 2147482943
    refine ⟨b1 / 179 % top, a, b1, c1, ?_, Int.emod_nonneg _ (by omega), Int.emod_lt_of_pos _ ht, h0⟩
    have m1 : iMul 57037 c1 = true := iMul_l (by omega) (by omega)
    have m2 : iMul base (base % 17011 + 63019) = true := iMul_r (by omega) (by omega)
    have m3 : iMul 59 c1 = true := iMul_l (by omega) (by omega)
    obtain ⟨y0, y1, y2⟩ := @ixI a b c1
    obtain ⟨z0, z1, z2⟩ := @ixI a b1 c1
    unfold F__law_drop runF m__law_drop ph
    rw [v_sSeq (ρ1 := [ph a b c, .val (.int top), .un, .un]), v_sSeq (ρ1 := [ph a b c1, .val (.int top), .un, .un]), v_sSeq (ρ1 := [ph a b c1, .val (.int top), .val (.int base), .un]), v_sSeq (ρ1 := [ph a b1 c1, .val (.int top), .val (.int base), .un])]
    · simp [ph, z1, o_fdiv, o_mod ht]
      rfl
    · refine v_sAsg (d := .int b1) ?_ rfl
      simp [ph, y2, o_mul m2, o_mul m3, o_mod]
      rfl
    · refine v_sAsg (d := .int base) ?_ rfl
      simp [ph, y1, y2, o_mul m1, o_mod]
      rfl
    · refine v_sAsg (d := .int c1) ?_ rfl
      simp [ph, x2]
      rfl
    · simp [ph, x0, h]
end MA
set_option Elab.async false
set_option linter.all false
set_option maxRecDepth 100000
set_option maxHeartbeats 2000000
namespace MA
open PySem PySem.Spec PyProof.Rows L2 He DL DM
section
variable {ρ ρ' : List Sl} {i j k t : Nat} {d x y : D} {f g h : List Sl → R D} {fe ge : List Sl → RE} {c c' : List Sl → R Bool} {q q' : List Sl → RB} {m m' : List Sl → RS} {tf : D → List Sl → Option (List Sl)} {fv : List Sl → RV} {ds : List D} {a : AV} {as : List AV} {is : List Nat} {s : Sl} {o : Ow}
theorem RS.then_nx : (RS.ok .nx ρ).then m = m ρ := rfl
theorem RS.then_rt : (RS.ok (.rt d) ρ).then m = .ok (.rt d) ρ := rfl
theorem RS.then_rtO : (RS.ok (.rtO o) ρ).then m = .ok (.rtO o) ρ := rfl
theorem RS.then_ct : (RS.ok .ct ρ).then m = .ok .ct ρ := rfl
theorem RS.then_bk : (RS.ok .bk ρ).then m = .ok .bk ρ := rfl
theorem v_seq : sSeq m m' ρ = (m ρ).then m' := rfl
/-- what is behind a target -/
def nxO : Option (List Sl) → RS
  | some ρ => .ok .nx ρ
  | none => .st
theorem ok_match : nxO (some ρ) = .ok .nx ρ := rfl
theorem v_asg : sAsg tf f ρ = (f ρ).seq ρ fun d => nxO (tf d ρ) := rfl
theorem v_asgE : sAsgE tf fe ρ = (fe ρ).seq fun d ρ1 => nxO (tf d ρ1) := rfl
def ownL (i : Nat) (ρ : List Sl) : D → RS
  | .lst ds => if i < ρ.length then .ok .nx (ρ.set i (.own 0 (.lst ds))) else .st
  | _ => .st
theorem v_own : sOwn i f ρ = (f ρ).seq ρ (ownL i ρ) := rfl
theorem ok_match2 (h : decide (i < ρ.length) = true) : ownL i ρ (.lst ds) = .ok .nx (ρ.set i (.own 0 (.lst ds))) := by unfold ownL; exact if_pos (of_decide_eq_true h)
/-- getters -/
def varK : Option Sl → R D
  | some (.val d) => .ok d
  | _ => .st
def varKQ : Option Sl → R D
  | some (.val d) => .ok d
  | some (.own _ (.lst ds)) => .ok (.lst ds)
  | _ => .st
def varKR : Option Sl → R D
  | some (.val d) => .ok d
  | some (.own _ (.lst ds)) => .ok (.lst ds)
  | some (.own _ (.ll dss)) => .ok (.lst (dss.map .lst))
  | _ => .st
theorem v_pVar' : pVar i ρ = varK ρ[i]? := rfl
theorem v_pVarQ' : pVarQ i ρ = varKQ ρ[i]? := rfl
theorem v_pVarR' : pVarR i ρ = varKR ρ[i]? := rfl
theorem k_v : varK (some (.val d)) = .ok d := rfl
theorem k_vq : varKQ (some (.val d)) = .ok d := rfl
theorem k_vr : varKR (some (.val d)) = .ok d := rfl
theorem k_oq : varKQ (some (.own t (.lst ds))) = .ok (.lst ds) := rfl
theorem k_or : varKR (some (.own t (.lst ds))) = .ok (.lst ds) := rfl
theorem k_or2 {dss : List (List D)} : varKR (some (.own t (.ll dss))) = .ok (.lst (dss.map .lst)) := rfl
def vValK (fv : List Sl → RV) : RE → RV
  | .ok d ρ1 => (fv ρ1).bind fun ds ρ2 => .ok (.v d :: ds) ρ2
  | .ex x ρ1 => .ex x ρ1
  | .st => .st
theorem v_vVal : vVal fe fv ρ = vValK fv (fe ρ) := rfl
theorem k_vVal : vValK fv (.ok d ρ) = (fv ρ).bind fun ds ρ2 => .ok (.v d :: ds) ρ2 := rfl
def vFrK (fv : List Sl → RV) (ρ : List Sl) : R D → RV
  | .ok (.lst ds) => (fv ρ).bind fun r ρ2 => .ok (.f ds :: r) ρ2
  | .ex x => .ex x ρ
  | _ => .st
theorem v_vFr : vFr f fv ρ = vFrK fv ρ (f ρ) := rfl
theorem k_vFr : vFrK fv ρ (.ok (.lst ds)) = (fv ρ).bind fun r ρ2 => .ok (.f ds :: r) ρ2 := rfl
def parK (is : List Nat) : RV → RS
  | .ok ds ρ1 => nxO (putAll is ds ρ1)
  | .ex x ρ1 => .ex x ρ1
  | .st => .st
theorem v_par : sPar is fv ρ = parK is (fv ρ) := rfl
theorem k_par : parK is (.ok as ρ) = nxO (putAll is as ρ) := rfl
theorem v_putNil : putAll [] [] ρ = some ρ := rfl
theorem v_putV : putAll (i :: is) (.v d :: as) ρ = if i < ρ.length then putAll is as (ρ.set i (.val d)) else none := rfl
theorem v_putF : putAll (i :: is) (.f ds :: as) ρ = if i < ρ.length then putAll is as (ρ.set i (.own 0 (.lst ds))) else none := rfl
def fldK (C : Addr) (f : Str) : Option Sl → R D
  | some (.val d) => fldD C f d
  | some (.own _ (.ins C' fs)) => fldD C f (.ins C' fs)
  | _ => .st
theorem k_fldV {C : Addr} {f : Str} : fldK C f (some (.val d)) = fldD C f d := rfl
theorem k_fldO {C C' : Addr} {f : Str} {fs : List (Str × D)} : fldK C f (some (.own t (.ins C' fs))) = fldD C f (.ins C' fs) := rfl
def setK (C : Addr) (f : Str) (i : Nat) (d : D) (ρ : List Sl) : Option Sl → RS
  | some (.own t (.ins C' fs)) => if C' = C ∧ fs.length < 1000 then .ok .nx (ρ.set i (.own t (.ins C' (putD f d fs)))) else .st
  | _ => .st
theorem v_setF {C : Addr} {f : Str} : sSetF C f i fe ρ = (fe ρ).seq fun d ρ1 => setK C f i d ρ1 ρ1[i]? := rfl
theorem k_set {C C' : Addr} {f : Str} {fs : List (Str × D)} : setK C f i d ρ (some (.own t (.ins C' fs))) = if C' = C ∧ fs.length < 1000 then .ok .nx (ρ.set i (.own t (.ins C' (putD f d fs)))) else .st := rfl
def augK (F : D → D → R D) (i : Nat) (fe : List Sl → RE) (ρ : List Sl) : Option Sl → RS
  | some (.val d) => (fe ρ).seq fun y ρ1 => (up (F d y) ρ1).seq fun z ρ2 => if i < ρ2.length then .ok .nx (ρ2.set i (.val z)) else .st
  | _ => .st
theorem v_aug {F : D → D → R D} : sAug F i fe ρ = augK F i fe ρ ρ[i]? := rfl
theorem k_aug {F : D → D → R D} : augK F i fe ρ (some (.val d)) = (fe ρ).seq fun y ρ1 => (up (F d y) ρ1).seq fun z ρ2 => if i < ρ2.length then .ok .nx (ρ2.set i (.val z)) else .st := rfl
theorem v_iAdd {a b : Int} : iAdd (.int a) (.int b) = .ok (.int (a + b)) := rfl
def ownK (i : Nat) (ρ : List Sl) : R Ow → RS
  | .ok o => if i < ρ.length then .ok .nx (ρ.set i (.own 0 o)) else .st
  | .ex x => .ex x ρ
  | .st => .st
theorem v_ownG {fo : List Sl → R Ow} : sOwnG i fo ρ = ownK i ρ (fo ρ) := rfl
theorem k_own : ownK i ρ (.ok o) = if i < ρ.length then .ok .nx (ρ.set i (.own 0 o)) else .st := rfl
def retFK (ρ : List Sl) : D → RS
  | .lst ds => .ok (.rtO (.lst ds)) ρ
  | _ => .st
theorem v_sRetF : sRetF f ρ = (f ρ).seq ρ (retFK ρ) := by
  rfl
theorem k_retF : retFK ρ (.lst ds) = .ok (.rtO (.lst ds)) ρ := rfl
theorem v_sIfE : sIfE q m m' ρ = (q ρ).seq fun b ρ1 => if b then m ρ1 else m' ρ1 := rfl
theorem v_qAnd : qAnd q q' ρ = (q ρ).bind fun c ρ1 => if c then q' ρ1 else .ok false ρ1 := rfl
theorem v_qOr : qOr q q' ρ = (q ρ).bind fun c ρ1 => if c then .ok true ρ1 else q' ρ1 := rfl
theorem v_qNot : qNot q ρ = (q ρ).bind fun c ρ1 => .ok (!c) ρ1 := rfl
theorem v_eIf : eIf q fe ge ρ = (q ρ).bindE fun b ρ1 => if b then fe ρ1 else ge ρ1 := rfl
def ixK (i : Nat) (d : D) (ρ : List Sl) : Option Sl → R D → Option (List Sl)
  | some (.own t (.lst ds)), .ok (.int k) => (ixN ds.length k).map fun j => ρ.set i (.own t (.lst (ds.set j d)))
  | _, _ => none
theorem v_gIx : gIx i g d ρ = ixK i d ρ ρ[i]? (g ρ) := rfl
theorem k_ix {k : Int} : ixK i d ρ (some (.own t (.lst ds))) (.ok (.int k)) = (ixN ds.length k).map fun j => ρ.set i (.own t (.lst (ds.set j d))) := rfl
def ixK2 (i : Nat) (d : D) (ρ : List Sl) : Option Sl → R D → R D → Option (List Sl)
  | some (.own t (.ll dss)), .ok (.int k1), .ok (.int k2) => (ixN dss.length k1).bind fun j1 => (dss[j1]?).bind fun ds => (ixN ds.length k2).map fun j2 => ρ.set i (.own t (.ll (dss.set j1 (ds.set j2 d))))
  | _, _, _ => none
theorem v_gIx2 {g1 g2 : List Sl → R D} : gIx2 i g1 g2 d ρ = ixK2 i d ρ ρ[i]? (g1 ρ) (g2 ρ) := rfl
theorem k_ix2 {k1 k2 : Int} {dss : List (List D)} : ixK2 i d ρ (some (.own t (.ll dss))) (.ok (.int k1)) (.ok (.int k2)) = (ixN dss.length k1).bind fun j1 => (dss[j1]?).bind fun ds => (ixN ds.length k2).map fun j2 => ρ.set i (.own t (.ll (dss.set j1 (ds.set j2 d)))) := rfl
def ixLK : Option Sl → R D → R D → R D
  | some (.own _ (.ll dss)), .ok (.int k1), .ok (.int k2) => (match L2.atI dss k1 with | some ds => (match L2.atI ds k2 with | some d => .ok d | none => .st) | none => .st)
  | _, _, _ => .st
def oR : Option D → R D
  | some d => .ok d
  | none => .st
theorem oR_s : oR (some d) = .ok d := rfl
theorem v_pIxLL {g1 g2 : List Sl → R D} : pIxLL i g1 g2 ρ = ixLK ρ[i]? (g1 ρ) (g2 ρ) := rfl
theorem k_ixL {k1 k2 : Int} {dss : List (List D)} : ixLK (some (.own t (.ll dss))) (.ok (.int k1)) (.ok (.int k2)) = oR ((L2.atI dss k1).bind fun ds => L2.atI ds k2) := by
  show (match L2.atI dss k1 with | some ds => (match L2.atI ds k2 with | some d => R.ok d | none => .st) | none => .st) = _
  cases L2.atI dss k1 with
  | none => rfl
  | some ds => dsimp only [Option.bind_some]; cases L2.atI ds k2 <;> rfl
def appK2 (i : Nat) (d : D) (ρ1 : List Sl) : Option Sl → RE
  | some (.own t (.lst ds)) => if ds.length < sizeLine then .ok .non (ρ1.set i (.own t (.lst (ds ++ [d])))) else .st
  | _ => .st
def appK (i : Nat) (fe : List Sl → RE) (ρ : List Sl) : Option Sl → RE
  | some (.own _ (.lst _)) => (fe ρ).bind fun d ρ1 => appK2 i d ρ1 ρ1[i]?
  | _ => .st
theorem k_app2 : appK2 i d ρ (some (.own t (.lst ds))) = if ds.length < sizeLine then .ok .non (ρ.set i (.own t (.lst (ds ++ [d])))) else .st := rfl
theorem k_app : appK i fe ρ (some (.own t (.lst ds))) = (fe ρ).bind fun d ρ1 => appK2 i d ρ1 ρ1[i]? := rfl
theorem v_eApp : eApp i fe ρ = appK i fe ρ ρ[i]? := rfl
def popK3 (i t : Nat) (k : Int) (ds : List D) (ρ1 : List Sl) : Option D → RE
  | some x => .ok x (ρ1.set i (.own t (.lst (ds.eraseIdx k.toNat))))
  | none => .st
def popK2 (i : Nat) (d : D) (ρ1 : List Sl) : Option Sl → RE
  | some (.own t (.lst ds)) => (match d with | .int k => if 0 ≤ k ∧ k < 2 ^ 62 then popK3 i t k ds ρ1 ds[k.toNat]? else .st | _ => .st)
  | _ => .st
def popK (i : Nat) (fe : List Sl → RE) (ρ : List Sl) : Option Sl → RE
  | some (.own _ (.lst _)) => (fe ρ).bind fun d ρ1 => popK2 i d ρ1 ρ1[i]?
  | _ => .st
theorem k_pop3 {k : Int} : popK3 i t k ds ρ (some d) = .ok d (ρ.set i (.own t (.lst (ds.eraseIdx k.toNat)))) := rfl
theorem k_pop2 {k : Int} : popK2 i (.int k) ρ (some (.own t (.lst ds))) = if 0 ≤ k ∧ k < 2 ^ 62 then popK3 i t k ds ρ ds[k.toNat]? else .st := rfl
theorem k_pop : popK i fe ρ (some (.own t (.lst ds))) = (fe ρ).bind fun d ρ1 => popK2 i d ρ1 ρ1[i]? := rfl
theorem v_ePop : ePop i fe ρ = popK i fe ρ ρ[i]? := rfl
def apLK2 (i t : Nat) (d : D) (dss : List (List D)) (j : Nat) (ρ : List Sl) : Option (List D) → RE
  | some ds => if ds.length < sizeLine then .ok .non (ρ.set i (.own t (.ll (dss.set j (ds ++ [d]))))) else .st
  | none => .st
def apLK1 (i t : Nat) (d : D) (dss : List (List D)) (ρ : List Sl) : Option Nat → RE
  | some j => apLK2 i t d dss j ρ dss[j]?
  | none => .st
def apLK (i : Nat) (ρ : List Sl) : Option Sl → R D → R D → RE
  | some (.own t (.ll dss)), .ok (.int k1), .ok d => apLK1 i t d dss ρ (ixN dss.length k1)
  | _, _, _ => .st
theorem k_apL2 {dss : List (List D)} : apLK2 i t d dss j ρ (some ds) = if ds.length < sizeLine then .ok .non (ρ.set i (.own t (.ll (dss.set j (ds ++ [d]))))) else .st := rfl
theorem k_apL1 {dss : List (List D)} : apLK1 i t d dss ρ (some j) = apLK2 i t d dss j ρ dss[j]? := rfl
theorem k_apL {dss : List (List D)} {k1 : Int} : apLK i ρ (some (.own t (.ll dss))) (.ok (.int k1)) (.ok d) = apLK1 i t d dss ρ (ixN dss.length k1) := rfl
theorem v_eAppLL {g1 : List Sl → R D} : eAppLL i g1 g ρ = apLK i ρ ρ[i]? (g1 ρ) (g ρ) := rfl
def calK (F : List Sl → RS) (i : Nat) (ga : List Sl → RA) (ρ : List Sl) : Option Sl → RE
  | some (.own _ _) => (ga ρ).bindE fun ds ρ1 => callO F i ds ρ1
  | _ => .st
theorem k_cal {F : List Sl → RS} {ga : List Sl → RA} : calK F i ga ρ (some (.own t o)) = (ga ρ).bindE fun ds ρ1 => callO F i ds ρ1 := rfl
theorem v_eCallO {F : List Sl → RS} {ga : List Sl → RA} : eCallO F i ga ρ = calK F i ga ρ ρ[i]? := rfl
def calR (i t : Nat) (ρ : List Sl) : RS → RE
  | .ok (.rt d) (.own 1 o' :: _) => .ok d (ρ.set i (.own t o'))
  | .ex x (.own 1 o' :: _) => .ex x (ρ.set i (.own t o'))
  | _ => .st
def calO (F : List Sl → RS) (i : Nat) (ds : List D) (ρ : List Sl) : Option Sl → RE
  | some (.own t o) => calR i t ρ (F (.own 1 o :: ds.map .val))
  | _ => .st
theorem k_calR : calR i t ρ (.ok (.rt d) (.own 1 o :: ρ')) = .ok d (ρ.set i (.own t o)) := rfl
theorem k_calO {F : List Sl → RS} : calO F i ds ρ (some (.own t o)) = calR i t ρ (F (.own 1 o :: ds.map .val)) := rfl
theorem v_callO {F : List Sl → RS} : callO F i ds ρ = calO F i ds ρ ρ[i]? := rfl
theorem v_pSl {gl gh : List Sl → R (Option Int)} : pSl f gl gh ρ = (f ρ).bind fun x => (gl ρ).bind fun l => (gh ρ).bind fun h => slD x l h := rfl
theorem v_oNone : oNone ρ = .ok none := rfl
def someI : D → R (Option Int)
  | .int i => .ok (some i)
  | _ => .st
theorem v_oSome : oSome f ρ = (f ρ).bind someI := rfl
theorem kt_some {a : Int} : someI (.int a) = .ok (some a) := rfl
theorem v_i1 {F : D → R (List D)} : i1 F f ρ = (f ρ).bind F := rfl
theorem i_lst : itemsD (.lst ds) = .ok ds := rfl
theorem i_tup : itemsD (.tup ds) = .ok ds := rfl
theorem i_scr {ns : List Int} : itemsD (.scr ns) = .ok (ns.map .int) := rfl
theorem i_enumT : enumD (.tup ds) = .ok (numbered 0 ds) := rfl
theorem i_enumL : enumD (.lst ds) = .ok (numbered 0 ds) := rfl
theorem v_pM1 {F : D → D → R D} : pM1 F f g ρ = (f ρ).bind fun x => if isStr x then (g ρ).bind fun y => F x y else .st := rfl
def chK (r : R D) : D → R D
  | .bl true => r
  | .bl false => .ok (.bl false)
  | _ => .st
theorem v_pChain {F G : D → D → R D} : pChain F G f g h ρ = (f ρ).bind fun x => (g ρ).bind fun y => (F x y).bind fun z => chK ((h ρ).bind fun w => G y w) z := by
  rfl
theorem k_ch1 {r : R D} : chK r (.bl true) = r := rfl
theorem k_ch2 {r : R D} : chK r (.bl false) = .ok (.bl false) := rfl
theorem v_pIndex : pIndex f g ρ = (f ρ).bind fun x => if ixKind x then (g ρ).bind fun y => indexD x y else .st := rfl
theorem v_aLen {ga : List Sl → R (List D)} : aLen k ga ρ = (ga ρ).bind fun ds => if ds.length = k then .ok ds else .st := rfl
theorem v_aApp {ga gk : List Sl → R (List D)} : aApp j k ga gk ρ = (ga ρ).bind fun ds => (gk ρ).bind fun es => if ds.length = j ∧ es.length = k then .ok (ds ++ es) else .st := rfl
theorem v_pFrz {fo : List Sl → R Ow} : pFrz fo ρ = (fo ρ).bind fun o => if o.can then .ok o.d else .st := rfl
theorem v_pAO {F : List D → R Ow} {ga : List Sl → R (List D)} : pAO F ga ρ = (ga ρ).bind F := rfl
def lstK : D → R Ow
  | .lst ds => .ok (.lst ds)
  | _ => .st
theorem v_gLst : gLst f ρ = (f ρ).bind lstK := by
  rfl
theorem k_lst : lstK (.lst ds) = .ok (.lst ds) := rfl
theorem v_frz1 : frzS (i + 1) (s :: ρ) = s :: frzS i ρ := by
  unfold frzS
  rw [List.getElem?_cons_succ]
  rcases ρ[i]? with _ | s'
  · rfl
  · rcases s' with _ | d | ⟨t, o⟩
    · rfl
    · rfl
    · cases t with
      | zero => cases h : o.can <;> simp [h]
      | succ t => rfl
theorem v_frz0 : frzS 0 (.own 0 (.lst ds) :: ρ) = .val (.lst ds) :: ρ := rfl
theorem v_frz0l {dss : List (List D)} : frzS 0 (.own 0 (.ll dss) :: ρ) = .val (.lst (dss.map .lst)) :: ρ := rfl
theorem v_frzV : frzS 0 (.val d :: ρ) = .val d :: ρ := rfl
theorem v_frzU : frzS 0 (.un :: ρ) = .un :: ρ := rfl
theorem v_frzO : frzS 0 (.own (t + 1) o :: ρ) = .own (t + 1) o :: ρ := rfl
theorem v_frd1 : frzD (i + 1) (s :: ρ) = s :: frzD i ρ := by
  unfold frzD
  rw [List.getElem?_cons_succ]
  rcases ρ[i]? with _ | s'
  · rfl
  · rcases s' with _ | d | ⟨t, o⟩
    · rfl
    · rfl
    · cases t with
      | zero => cases o <;> rfl
      | succ t => cases o <;> rfl
theorem v_frdK {kvs : List (Key × D)} : frzD 0 (.own 0 (.dk kvs) :: ρ) = .val (.dct kvs) :: ρ := rfl
theorem v_frdV : frzD 0 (.val d :: ρ) = .val d :: ρ := rfl
theorem v_frdU : frzD 0 (.un :: ρ) = .un :: ρ := rfl
def gDkK (i : Nat) (d : D) (ρ : List Sl) : Option Sl → R D → Option (List Sl)
  | some (.own t (.dk kvs)), .ok y => (keyD y).bind fun k => if kvs.length < 1000000 then some (ρ.set i (.own t (.dk (putKD kvs k d)))) else none
  | _, _ => none
theorem v_gDk : gDk i g d ρ = gDkK i d ρ ρ[i]? (g ρ) := rfl
theorem k_gDkI {kvs : List (Key × D)} {k : Int} : gDkK i d ρ (some (.own t (.dk kvs))) (.ok (.int k)) = if kvs.length < 1000000 then some (ρ.set i (.own t (.dk (putKD kvs (.inl k) d)))) else none := rfl
theorem k_gDkS {kvs : List (Key × D)} {k : Str} : gDkK i d ρ (some (.own t (.dk kvs))) (.ok (.str k)) = if kvs.length < 1000000 then some (ρ.set i (.own t (.dk (putKD kvs (.inr k) d)))) else none := rfl
def dg2K : Option Sl → R D → R D → R D
  | some (.own _ (.dk kvs)), .ok y, .ok z => (match keyD y with | some k => .ok ((valD kvs k).getD z) | none => .st)
  | _, _, _ => .st
theorem v_dget2 : pDGet2 i f g ρ = dg2K ρ[i]? (f ρ) (g ρ) := rfl
theorem k_dg2I {kvs : List (Key × D)} {k : Int} {z : D} : dg2K (some (.own t (.dk kvs))) (.ok (.int k)) (.ok z) = .ok ((valD kvs (.inl k)).getD z) := rfl
theorem k_dg2S {kvs : List (Key × D)} {k : Str} {z : D} : dg2K (some (.own t (.dk kvs))) (.ok (.str k)) (.ok z) = .ok ((valD kvs (.inr k)).getD z) := rfl
def oR' : Option D → R D
  | some d => .ok d
  | none => .st
theorem oR_s' : oR' (some d) = .ok d := rfl
def dg1K : Option Sl → R D → R D
  | some (.own _ (.dk kvs)), .ok y => (match keyD y with | some k => oR' (valD kvs k) | none => .st)
  | _, _ => .st
theorem v_dget : pDGet i f ρ = dg1K ρ[i]? (f ρ) := rfl
theorem k_dg1I {kvs : List (Key × D)} {k : Int} : dg1K (some (.own t (.dk kvs))) (.ok (.int k)) = oR' (valD kvs (.inl k)) := rfl
theorem k_dg1S {kvs : List (Key × D)} {k : Str} : dg1K (some (.own t (.dk kvs))) (.ok (.str k)) = oR' (valD kvs (.inr k)) := rfl
theorem i_items {kvs : List (Key × D)} : itemsK (.dct kvs) = .ok (kvs.map fun kv => .tup [keyV kv.1, kv.2]) := rfl
theorem o_dgI {kvs : List (Key × D)} {k : Int} : dgetD (.dct kvs) (.int k) = oR' (valD kvs (.inl k)) := rfl
theorem o_dgS {kvs : List (Key × D)} {k : Str} : dgetD (.dct kvs) (.str k) = oR' (valD kvs (.inr k)) := rfl
def gd1K : R D → R D → R Ow
  | .ok x, .ok y => (match keyD x with | some k => .ok (.dk [(k, y)]) | none => .st)
  | _, _ => .st
theorem v_gDict1 : gDict1 f g ρ = gd1K (f ρ) (g ρ) := rfl
theorem k_gd1I {k : Int} {y : D} : gd1K (.ok (.int k)) (.ok y) = .ok (.dk [(.inl k, y)]) := rfl
theorem k_gd1S {k : Str} {y : D} : gd1K (.ok (.str k)) (.ok y) = .ok (.dk [(.inr k, y)]) := rfl
theorem o_mkL (h : fits ds = true) : mkL ds = .ok (.lst ds) := if_pos h
theorem o_mkT (h : fits ds = true) : mkT ds = .ok (.tup ds) := if_pos h
theorem fits_of {α : Type} {xs : List α} (h : xs.length ≤ 1000000) : fits xs = true := decide_eq_true (Nat.le_trans h (by rw [sizeLine_eq]; omega))
theorem fits0 {α : Type} : fits ([] : List α) = true := fits_of (by simp)
theorem fits1 {α : Type} {a : α} : fits [a] = true := fits_of (by simp)
theorem fits2 {α : Type} {a b : α} : fits [a, b] = true := fits_of (by simp)
theorem fits3 {α : Type} {a b c : α} : fits [a, b, c] = true := fits_of (by simp)
theorem o_mkT0 : mkT [] = .ok (.tup []) := o_mkT fits0
theorem o_mkT1 {a : D} : mkT [a] = .ok (.tup [a]) := o_mkT fits1
theorem o_mkT2 {a b : D} : mkT [a, b] = .ok (.tup [a, b]) := o_mkT fits2
theorem o_mkT3 {a b c : D} : mkT [a, b, c] = .ok (.tup [a, b, c]) := o_mkT fits3
theorem o_mkL0 : mkL [] = .ok (.lst []) := o_mkL fits0
theorem o_mkL1 {a : D} : mkL [a] = .ok (.lst [a]) := o_mkL fits1
theorem o_mkL2 {a b : D} : mkL [a, b] = .ok (.lst [a, b]) := o_mkL fits2
theorem o_mkL3 {a b c : D} : mkL [a, b, c] = .ok (.lst [a, b, c]) := o_mkL fits3
theorem o_isN : isD x .non = .ok (.bl x.isNon) := rfl
theorem o_isnN : isnD x .non = .ok (.bl (!x.isNon)) := rfl
theorem n_non : D.isNon .non = true := rfl
theorem n_int {a : Int} : D.isNon (.int a) = false := rfl
theorem n_str {a : Str} : D.isNon (.str a) = false := rfl
theorem n_bl {a : Bool} : D.isNon (.bl a) = false := rfl
theorem n_tup : D.isNon (.tup ds) = false := rfl
theorem n_lst : D.isNon (.lst ds) = false := rfl
theorem n_ins {C : Addr} {fs : List (Str × D)} : D.isNon (.ins C fs) = false := rfl
theorem o_isL : isL (.lst ds) = .ok (.lst ds) := rfl
theorem o_tupL : tupD (.lst ds) = .ok (.tup ds) := rfl
theorem o_tupT : tupD (.tup ds) = .ok (.tup ds) := rfl
theorem o_not {b : Bool} : notD (.bl b) = .ok (.bl !b) := rfl
theorem o_neg {a : Int} : negD (.int a) = .ok (.int (-a)) := rfl
theorem o_revT : revD (.tup ds) = .ok (.tup ds.reverse) := rfl
theorem o_revL : revD (.lst ds) = .ok (.lst ds.reverse) := rfl
theorem o_ixT0 : ixD (.tup (d :: ds)) (.int 0) = .ok d := o_ixT (k := 0) rfl
theorem o_ixT1 : ixD (.tup (x :: d :: ds)) (.int 1) = .ok d := o_ixT (k := 1) rfl
theorem o_ixT2 {z : D} : ixD (.tup (x :: z :: d :: ds)) (.int 2) = .ok d := o_ixT (k := 2) rfl
theorem kt_int {a : Int} {s : String} : isK s (.int a) = .ok (.bl (s == "int")) := rfl
theorem kt_str {a : Str} {s : String} : isK s (.str a) = .ok (.bl (s == "str")) := rfl
theorem kt_tup {s : String} : isK s (.tup ds) = .ok (.bl (s == "tuple")) := rfl
theorem kt_lst {s : String} : isK s (.lst ds) = .ok (.bl (s == "list")) := rfl
theorem kt_non {s : String} : isK s .non = .ok (.bl (s == "NoneType")) := rfl
theorem kt_dct {kvs : List (Key × D)} {s : String} : isK s (.dct kvs) = .ok (.bl (s == "dict")) := rfl
theorem kt_bl {a : Bool} {s : String} : isK s (.bl a) = .ok (.bl (s == "bool" || s == "int")) := rfl
theorem if_true_ {α : Type} {x y : α} : (if true = true then x else y) = x := rfl
theorem if_false_ {α : Type} {x y : α} : (if false = true then x else y) = y := rfl
end
theorem ixN_nat {n k : Nat} (h : k < n) : ixN n (k : Int) = some k := by
  unfold ixN
  rw [if_pos (by omega), if_pos (by omega)]
  simp
theorem o_maxD {a b : Int} : maxD (.int a) (.int b) = .ok (.int (if b > a then b else a)) := rfl
theorem o_minD {a b : Int} : minD (.int a) (.int b) = .ok (.int (if b < a then b else a)) := rfl
def Wp (r : RS) (Q : RS → Prop) : Prop := Q r
def WpO (o : Option (List Sl)) (F : List Sl → Prop) : Prop := match o with
  | some ρ => F ρ
  | none => False
theorem wpO_some {ρ : List Sl} {F : List Sl → Prop} : WpO (some ρ) F = F ρ := rfl
/-- a turn's end: the next turn, or what is behind the loop -/
def turnQ (P : List Sl → Prop) (Z : RS → Prop) : RS → Prop
  | .ok .nx ρ => P ρ
  | .ok .ct ρ => P ρ
  | .ok .bk ρ => Z (.ok .nx ρ)
  | .ok (.rt d) ρ => Z (.ok (.rt d) ρ)
  | .ok (.rtO d) ρ => Z (.ok (.rtO d) ρ)
  | .ex x ρ => Z (.ex x ρ)
  | .st => False
theorem turn_nx {P : List Sl → Prop} {Z : RS → Prop} {ρ : List Sl} : Wp (.ok .nx ρ) (turnQ P Z) = P ρ := rfl
theorem turn_ct {P : List Sl → Prop} {Z : RS → Prop} {ρ : List Sl} : Wp (.ok .ct ρ) (turnQ P Z) = P ρ := rfl
theorem turn_bk {P : List Sl → Prop} {Z : RS → Prop} {ρ : List Sl} : Wp (.ok .bk ρ) (turnQ P Z) = Z (.ok .nx ρ) := rfl
/-- a value is handed back -/
def isRt (d : D) (r : RS) : Prop := ∃ ρ, r = .ok (.rt d) ρ
theorem isRt_ok {d : D} {ρ : List Sl} : Wp (.ok (.rt d) ρ) (isRt d) := ⟨ρ, rfl⟩
def isRtO (o : Ow) (r : RS) : Prop := ∃ ρ, r = .ok (.rtO o) ρ
theorem callV_of {F : List Sl → RS} {ds : List D} {d : D} {ρ : List Sl} (h : F (ds.map .val) = .ok (.rt d) ρ) : callV F ds = .ok d := by unfold callV; rw [h]
theorem callL_of {F : List Sl → RS} {ds xs : List D} {ρ : List Sl} (h : F (ds.map .val) = .ok (.rtO (.lst xs)) ρ) : callL F ds = .ok (.lst xs) := by unfold callL; rw [h]
theorem runF_rt {nl : Nat} {m : List Sl → RS} {ρ ρ' : List Sl} {d : D} (h : m (ρ ++ List.replicate nl .un) = .ok (.rt d) ρ') : runF nl m ρ = .ok (.rt d) (back ρ ρ') := by unfold runF; rw [h]
theorem runF_rtO {nl : Nat} {m : List Sl → RS} {ρ ρ' : List Sl} {o : Ow} (h : m (ρ ++ List.replicate nl .un) = .ok (.rtO o) ρ') : runF nl m ρ = .ok (.rtO o) (back ρ ρ') := by unfold runF; rw [h]
/-- a def's value by its body -/
theorem cv_rt {nl : Nat} {m : List Sl → RS} {ds : List D} {d : D} (h : Wp (m (ds.map .val ++ List.replicate nl .un)) (isRt d)) : callV (runF nl m) ds = .ok d := by
  obtain ⟨ρ', h⟩ := h
  exact callV_of (runF_rt h)
theorem cv_rtO {nl : Nat} {m : List Sl → RS} {ds xs : List D} (h : Wp (m (ds.map .val ++ List.replicate nl .un)) (isRtO (.lst xs))) : callL (runF nl m) ds = .ok (.lst xs) := by
  obtain ⟨ρ', h⟩ := h
  exact callL_of (runF_rtO h)
theorem lcGo_map {α : Type} (enc : α → D) (φ : α → D) {tf : D → List Sl → Option (List Sl)} {c : List Sl → R Bool} {g : List Sl → R D} {ρ : List Sl} : ∀ (xs : List α),
    (∀ x ∈ xs, ∃ ρ1, tf (enc x) ρ = some ρ1 ∧ c ρ1 = .ok true ∧ g ρ1 = .ok (φ x)) → lcGo tf c g ρ (xs.map enc) = .ok (xs.map φ)
  | [], _ => rfl
  | x :: xs, h => by
    obtain ⟨ρ1, h1, h2, h3⟩ := h x List.mem_cons_self
    have ih := lcGo_map enc φ xs fun y hy => h y (List.mem_cons_of_mem _ hy)
    rw [List.map_cons]
    unfold lcGo
    rw [h1]
    dsimp only
    rw [h2, R.bind_ok, if_true_, h3, R.bind_ok, ih]
    rfl
theorem lcGo_filter {α : Type} (enc : α → D) (p : α → Bool) (φ : α → D) {tf : D → List Sl → Option (List Sl)} {c : List Sl → R Bool} {g : List Sl → R D} {ρ : List Sl} : ∀ (xs : List α),
    (∀ x ∈ xs, ∃ ρ1, tf (enc x) ρ = some ρ1 ∧ c ρ1 = .ok (p x) ∧ (p x = true → g ρ1 = .ok (φ x))) → lcGo tf c g ρ (xs.map enc) = .ok ((xs.filter p).map φ)
  | [], _ => rfl
  | x :: xs, h => by
    obtain ⟨ρ1, h1, h2, h3⟩ := h x List.mem_cons_self
    have ih := lcGo_filter enc p φ xs fun y hy => h y (List.mem_cons_of_mem _ hy)
    rw [List.map_cons]
    unfold lcGo
    rw [h1]
    dsimp only
    rw [h2, R.bind_ok]
    cases q : p x with
    | true =>
      rw [if_true_, h3 q, R.bind_ok, ih, List.filter_cons_of_pos q]
      rfl
    | false =>
      rw [if_false_, ih, List.filter_cons_of_neg (by rw [q]; simp)]
theorem pLc_map {α : Type} {src : List Sl → R (List D)} {vs : List Nat} {tf : D → List Sl → Option (List Sl)} {c : List Sl → R Bool} {g : List Sl → R D} {ρ : List Sl} (enc : α → D) (φ : α → D) (xs : List α) (hs : src ρ = .ok (xs.map enc))
    (h : ∀ x ∈ xs, ∃ ρ1, tf (enc x) (wipeS ρ vs) = some ρ1 ∧ c ρ1 = .ok true ∧ g ρ1 = .ok (φ x)) (hl : xs.length ≤ 1000000) : pLc src vs tf c g ρ = .ok (.lst (xs.map φ)) := by
  unfold pLc
  rw [hs, R.bind_ok, lcGo_map enc φ xs h]
  exact o_mkL (fits_of (by rw [List.length_map]; exact hl))
theorem pLc_filter {α : Type} {src : List Sl → R (List D)} {vs : List Nat} {tf : D → List Sl → Option (List Sl)} {c : List Sl → R Bool} {g : List Sl → R D} {ρ : List Sl} (enc : α → D) (p : α → Bool) (φ : α → D) (xs : List α) (hs : src ρ = .ok (xs.map enc))
    (h : ∀ x ∈ xs, ∃ ρ1, tf (enc x) (wipeS ρ vs) = some ρ1 ∧ c ρ1 = .ok (p x) ∧ (p x = true → g ρ1 = .ok (φ x))) (hl : xs.length ≤ 1000000) : pLc src vs tf c g ρ = .ok (.lst ((xs.filter p).map φ)) := by
  unfold pLc
  rw [hs, R.bind_ok, lcGo_filter enc p φ xs h]
  exact o_mkL (fits_of (by rw [List.length_map]; exact Nat.le_trans (List.length_filter_le _ _) hl))
theorem rangeD_map (n : Nat) : rangeD 0 n = (List.range n).map fun k : Nat => D.int k := by
  unfold rangeD
  rw [Int.sub_zero, Int.toNat_natCast]
  congr 1
  funext k
  rw [Int.zero_add]
theorem ok62_int {n : Int} (h : -1000000000 < n) (h2 : n < 1000000000) : ok62 n = true := by
  unfold ok62
  rw [Bool.and_eq_true, decide_eq_true_eq, decide_eq_true_eq]
  have e : (2 : Int) ^ 62 = 4611686018427387904 := by simp
  rw [e]
  exact ⟨by omega, by omega⟩
theorem if_ok' {α : Type} {b : Bool} (h : b = true) (x y : α) : (if b then x else y) = x := by subst h; rfl
theorem v_range1 {f : List Sl → R D} {ρ : List Sl} {n : Nat} (e : f ρ = .ok (.int (n : Int))) (h : n < 1000000000) : iRange1 f ρ = .ok (arr n fun k : Nat => D.int k) := by
  have h1 := if_ok' (ok62_int (n := (n : Int)) (by omega) (by omega)) (R.ok (rangeD 0 n)) .st
  unfold iRange1
  unfold arr
  rw [e, R.bind_ok, ← rangeD_map]
  generalize hb : ok62 (n : Int) = b at h1
  dsimp only
  rw [hb]
  exact h1
theorem forGo_wp {α : Type} {tf : D → List Sl → Option (List Sl)} {body : List Sl → RS} (enc : α → D) (P : Nat → List Sl → Prop) {Q : RS → Prop} : ∀ (xs : List α) (k : Nat) (ρ : List Sl), P k ρ →
    (∀ (j : Nat) (x : α) (ρ : List Sl), xs[j]? = some x → P (k + j) ρ → WpO (tf (enc x) ρ) fun ρ1 => Wp (body ρ1) (turnQ (P (k + j + 1)) Q)) →
    (∀ ρ, P (k + xs.length) ρ → Q (.ok .nx ρ)) → Q (forGo tf body (xs.map enc) ρ)
  | [], k, ρ, h, _, fin => fin ρ (by simpa using h)
  | d :: items, k, ρ, h, st, fin => by
    have s0 := st 0 d ρ rfl (by simpa using h)
    have next : ∀ ρ2, P (k + 1) ρ2 → Q (forGo tf body (items.map enc) ρ2) := fun ρ2 h2 => forGo_wp enc P items (k + 1) ρ2 h2 (fun j x ρ hj hP => by
      have := st (j + 1) x ρ (by simpa using hj) (by rw [show k + (j + 1) = k + 1 + j by omega]; exact hP)
      rw [show k + (j + 1) + 1 = k + 1 + j + 1 by omega] at this
      exact this) (fun ρ hP => fin ρ (by rw [List.length_cons, show k + (items.length + 1) = k + 1 + items.length by omega]; exact hP))
    rw [List.map_cons]
    unfold forGo
    cases q : tf (enc d) ρ with
    | none => rw [q] at s0; exact s0.elim
    | some ρ1 =>
      rw [q] at s0
      dsimp only
      have s1 : turnQ (P (k + 0 + 1)) Q (body ρ1) := s0
      rcases hb : body ρ1 with ⟨f, ρ2⟩ | ⟨x, ρ2⟩ | _
      · rw [hb] at s1
        cases f with
        | nx => exact next ρ2 s1
        | ct => exact next ρ2 s1
        | bk => exact s1
        | rt d => exact s1
        | rtO o => exact s1
      · rw [hb] at s1; exact s1
      · rw [hb] at s1; exact s1.elim
section
variable {α : Type} {tf : D → List Sl → Option (List Sl)} {body kont : List Sl → RS} {Q : RS → Prop} {ρ : List Sl}
theorem wp_for {src : List Sl → R (List D)} (enc : α → D) (P : Nat → List Sl → Prop) (xs : List α) (hs : src ρ = .ok (xs.map enc)) (h0 : P 0 ρ)
    (st : ∀ (j : Nat) (x : α) (ρ : List Sl), xs[j]? = some x → P j ρ → WpO (tf (enc x) ρ) fun ρ1 => Wp (body ρ1) (turnQ (P (j + 1)) fun r => Wp (r.then kont) Q))
    (fin : ∀ ρ, P xs.length ρ → Wp (kont ρ) Q) : Wp ((sFor src tf body ρ).then kont) Q := by
  unfold sFor
  rw [hs]
  exact forGo_wp (Q := fun r => Wp (r.then kont) Q) enc P xs 0 ρ h0 (fun j x ρ hj hP => by
    have := st j x ρ hj (by simpa using hP)
    rwa [Nat.zero_add]) fun ρ hP => fin ρ (by simpa using hP)
/-- over range(n) -/
theorem wp_range {src : List Sl → R (List D)} (P : Nat → List Sl → Prop) (n : Nat) {enc : Nat → D} (hs : src ρ = .ok (arr n enc)) (h0 : P 0 ρ)
    (st : ∀ (j : Nat) (ρ : List Sl), j < n → P j ρ → WpO (tf (enc j) ρ) fun ρ1 => Wp (body ρ1) (turnQ (P (j + 1)) fun r => Wp (r.then kont) Q))
    (fin : ∀ ρ, P n ρ → Wp (kont ρ) Q) : Wp ((sFor src tf body ρ).then kont) Q :=
  wp_for enc P (List.range n) hs h0 (fun j x ρ hj hP => by
    obtain ⟨h1, h2⟩ := List.getElem?_eq_some_iff.mp hj
    rw [List.length_range] at h1
    rw [List.getElem_range] at h2
    subst h2
    exact st j ρ h1 hP) fun ρ hP => fin ρ (by rwa [List.length_range] at hP)
/-- what is done is told by the part taken -/
theorem wp_pre {src : List Sl → R (List D)} (enc : α → D) (P : List α → List Sl → Prop) (xs : List α) (hs : src ρ = .ok (xs.map enc)) (h0 : P [] ρ)
    (st : ∀ (pre : List α) (x : α) (post : List α) (ρ : List Sl), xs = pre ++ x :: post → P pre ρ → WpO (tf (enc x) ρ) fun ρ1 => Wp (body ρ1) (turnQ (P (pre ++ [x])) fun r => Wp (r.then kont) Q))
    (fin : ∀ ρ, P xs ρ → Wp (kont ρ) Q) : Wp ((sFor src tf body ρ).then kont) Q :=
  wp_for enc (fun k ρ => P (xs.take k) ρ) xs hs (by simpa using h0) (fun j x ρ hj hP => by
    have hlt : j < xs.length := (List.getElem?_eq_some_iff.mp hj).1
    have hx : xs[j] = x := (List.getElem?_eq_some_iff.mp hj).2
    have e : xs = xs.take j ++ x :: xs.drop (j + 1) := by
      rw [← hx, ← List.drop_eq_getElem_cons hlt, List.take_append_drop]
    have := st (xs.take j) x (xs.drop (j + 1)) ρ e hP
    rwa [List.take_succ_eq_append_getElem hlt, hx]) fun ρ hP => fin ρ (by simpa using hP)
end
end MA
set_option Elab.async false
set_option linter.all false
set_option maxRecDepth 100000
set_option maxHeartbeats 2000000
namespace MA
open PySem PySem.Spec PyProof.Rows L2 He DL DM
def PhOk (o : Ow) : Prop := ∃ a b c : Int, o = .lst [.int a, .int b, .int c] ∧ 0 ≤ a
theorem drop_at {o : Ow} (h : PhOk o) {top : Int} (ht : 0 < top) (ht2 : top < 1073741824) : ∃ (r : Nat) (o' : Ow), F__law_drop (.own 1 o :: [D.int top].map .val) = .ok (.rt (.int r)) (.own 1 o' :: [.val (.int top)]) ∧ (r : Int) < top ∧ PhOk o' := by
  obtain ⟨a, b, c, rfl, h0⟩ := h
  obtain ⟨r, a', b', c', e, r0, r1, h1⟩ := drop_ok a b c top h0 ht ht2
  refine ⟨r.toNat, .lst [.int a', .int b', .int c'], ?_, by omega, a', b', c', rfl, h1⟩
  rw [Int.toNat_of_nonneg r0]
  exact e
end MA
set_option Elab.async false
set_option linter.all false
set_option maxRecDepth 100000
set_option maxHeartbeats 2000000
namespace MA
open PySem PySem.Spec PyProof.Rows L2 He DL DM
theorem sd_bl (b : Bool) : Sd 0 (.bl b) := ⟨rfl, rfl, Nat.le_refl _⟩
theorem sd_int (i : Int) : Sd 0 (.int i) := ⟨rfl, rfl, Nat.le_refl _⟩
theorem sd_lst {k : Nat} {xs : List D} (h : ∀ x ∈ xs, Sd k x) : Sd (k + 1) (.lst xs) := by
  obtain ⟨a, b, c⟩ := sd_all h
  exact ⟨by simpa [D.pure] using a, by simpa [D.py, PyData.canLay0] using b, by simpa [D.py, PyData.depth] using c⟩
theorem o_eq {j k : Nat} {x y : D} (hx : Sd j x) (hy : Sd k y) (hj : j ≤ 64) (hk : k ≤ 64) : eqD x y = .ok (.bl (PyData.eqv x.py y.py)) := by
  unfold eqD
  rw [hx.sh hj, hy.sh hk]
  rfl
theorem o_ne {j k : Nat} {x y : D} (hx : Sd j x) (hy : Sd k y) (hj : j ≤ 64) (hk : k ≤ 64) : neD x y = .ok (.bl (!PyData.eqv x.py y.py)) := by
  unfold neD
  rw [hx.sh hj, hy.sh hk]
  rfl
end MA
set_option Elab.async false
set_option linter.all false
namespace Gr
theorem least {P : Nat → Prop} : ∀ (k : Nat), P k → ∃ d, d ≤ k ∧ P d ∧ ∀ j, P j → d ≤ j := by
  intro k
  induction k using Nat.strongRecOn with
  | ind k ih =>
    intro h
    by_cases q : ∃ j, j < k ∧ P j
    · obtain ⟨j, hj, pj⟩ := q
      obtain ⟨d, h1, h2, h3⟩ := ih j hj pj
      exact ⟨d, by omega, h2, h3⟩
    · exact ⟨k, Nat.le_refl _, h, fun j pj => Nat.le_of_not_lt fun z => q ⟨j, z, pj⟩⟩
theorem Wk.dist {L : Es} {u v k : Nat} (a : Wk L u k v) : ∃ d, d ≤ k ∧ Dist L u v d := by
  obtain ⟨d, h1, h2, h3⟩ := least (P := fun j => Wk L u j v) k a
  exact ⟨d, h1, h2, h3⟩
theorem Dist.self {L : Es} (u : Nat) : Dist L u u 0 := ⟨.nil, fun _ _ => Nat.zero_le _⟩
theorem Dist.step {L : Es} {u v w k : Nat} (a : Dist L u v k) (e : Adj L v w) : ∃ j, j ≤ k + 1 ∧ Dist L u w j := (a.w.snoc e).dist
theorem Hang.wk {L : Es} {n u v : Nat} (h : Hang L n) (hu : u < n) (hv : v < n) : ∃ k, Wk L u k v := by
  obtain ⟨j, a⟩ := h u hu
  obtain ⟨k, b⟩ := h v hv
  exact ⟨j + k, a.symm.trans b⟩
theorem Hang.dist {L : Es} {n u v : Nat} (h : Hang L n) (hu : u < n) (hv : v < n) : ∃ k, Dist L u v k := by
  obtain ⟨k, a⟩ := h.wk hu hv
  obtain ⟨d, _, b⟩ := a.dist
  exact ⟨d, b⟩
end Gr
set_option Elab.async false
set_option linter.all false
namespace Gr
def upd1 {α : Type} (g : Nat → α) (i : Nat) (x : α) : Nat → α := fun k => if k = i then x else g k
def upd2 {α : Type} (g : Nat → Nat → α) (i j : Nat) (x : α) : Nat → Nat → α := fun k l => if k = i ∧ l = j then x else g k l
theorem upd1_same {α : Type} (g : Nat → α) (i : Nat) (x : α) : upd1 g i x i = x := by simp [upd1]
theorem upd1_ne {α : Type} (g : Nat → α) {i k : Nat} (x : α) (h : k ≠ i) : upd1 g i x k = g k := by simp [upd1, h]
def visit (far : Nat) (s : (Nat → Option Nat) × List Nat) (o : Nat) : (Nat → Option Nat) × List Nat := match s.1 o with
  | none => (upd1 s.1 o (some far), s.2 ++ [o])
  | some _ => s
theorem visits {far : Nat} : ∀ (os : List Nat) (g : Nat → Option Nat) (l : List Nat), l.Nodup → (∀ v ∈ l, g v ≠ none) →
    (∀ v, (os.foldl (visit far) (g, l)).1 v = if g v = none ∧ v ∈ os then some far else g v) ∧
    (∀ v, v ∈ (os.foldl (visit far) (g, l)).2 ↔ v ∈ l ∨ (g v = none ∧ v ∈ os)) ∧ (os.foldl (visit far) (g, l)).2.Nodup
  | [], g, l, nd, h => ⟨fun v => by simp, fun v => by simp, nd⟩
  | o :: os, g, l, nd, h => by
    rw [List.foldl_cons]
    cases q : g o with
    | some d =>
      have e : visit far (g, l) o = (g, l) := by unfold visit; dsimp only; rw [q]
      rw [e]
      obtain ⟨a, b, c⟩ := visits (far := far) os g l nd h
      refine ⟨fun v => ?_, fun v => ?_, c⟩
      · rw [a v]
        by_cases hv : v = o
        · subst hv; simp [q]
        · simp [hv]
      · rw [b v]
        by_cases hv : v = o
        · subst hv; simp [q]
        · simp [hv]
    | none =>
      have e : visit far (g, l) o = (upd1 g o (some far), l ++ [o]) := by unfold visit; dsimp only; rw [q]
      rw [e]
      have ho : o ∉ l := fun z => h o z q
      obtain ⟨a, b, c⟩ := visits (far := far) os (upd1 g o (some far)) (l ++ [o]) (by
          rw [List.nodup_append]
          exact ⟨nd, by simp, fun x hx y hy => by simp at hy; subst hy; exact fun z => ho (z ▸ hx)⟩) (fun v hv => by
          rcases List.mem_append.mp hv with hv | hv
          · have : v ≠ o := fun z => ho (z ▸ hv)
            rw [upd1_ne _ _ this]; exact h v hv
          · simp at hv; subst hv; rw [upd1_same]; simp)
      refine ⟨fun v => ?_, fun v => ?_, c⟩
      · rw [a v]
        by_cases hv : v = o
        · subst hv; simp [q, upd1_same]
        · rw [upd1_ne _ _ hv]; simp [hv]
      · rw [b v]
        by_cases hv : v = o
        · subst hv; simp [q, upd1_same]
        · rw [upd1_ne _ _ hv]; simp [hv]
theorem Lev.start (L : Es) (u : Nat) : Lev L u 0 (upd1 (fun _ => none) u (some 0)) [u] := by
  refine ⟨fun v d => ?_, fun v => ?_, by simp⟩
  · by_cases h : v = u
    · subst h
      rw [upd1_same]
      constructor
      · intro e; cases e; exact ⟨.self _, Nat.le_refl _⟩
      · rintro ⟨a, b⟩; have : d = 0 := by omega
        rw [this]
    · rw [upd1_ne _ _ h]
      constructor
      · intro e; cases e
      · rintro ⟨a, b⟩
        have : d = 0 := by omega
        subst this
        exact absurd a.zero.symm h
  · constructor
    · intro h; simp at h; subst h; exact .self _
    · intro a; simp; exact a.zero.symm
theorem Lev.next {L : Es} {u k : Nat} {g : Nat → Option Nat} {row os : List Nat} (h : Lev L u k g row) (ho : ∀ v, v ∈ os ↔ ∃ p ∈ row, Adj L p v) :
    Lev L u (k + 1) (os.foldl (visit (k + 1)) (g, [])).1 (os.foldl (visit (k + 1)) (g, [])).2 := by
  obtain ⟨a, b, c⟩ := visits (far := k + 1) os g [] (by simp) (by simp)
  have new : ∀ v, (g v = none ∧ v ∈ os) ↔ Dist L u v (k + 1) := by
    intro v
    constructor
    · rintro ⟨h1, h2⟩
      obtain ⟨p, hp, e⟩ := (ho v).mp h2
      obtain ⟨j, hj, dv⟩ := ((h.r p).mp hp).step e
      by_cases hk : j ≤ k
      · rw [(h.g v j).mpr ⟨dv, hk⟩] at h1; cases h1
      · have : j = k + 1 := by omega
        rw [← this]; exact dv
    · intro dv
      constructor
      · cases q : g v with
        | none => rfl
        | some d =>
          obtain ⟨x, y⟩ := (h.g v d).mp q
          have := x.uniq dv
          omega
      · obtain ⟨p, dp, e⟩ := dv.pred
        exact (ho v).mpr ⟨p, (h.r p).mpr dp, e⟩
  refine ⟨fun v d => ?_, fun v => ?_, c⟩
  · rw [a v]
    by_cases hv : g v = none ∧ v ∈ os
    · rw [if_pos hv]
      have dv := (new v).mp hv
      constructor
      · intro e; cases e; exact ⟨dv, Nat.le_refl _⟩
      · rintro ⟨x, _⟩; rw [x.uniq dv]
    · rw [if_neg hv, h.g v d]
      constructor
      · rintro ⟨x, y⟩; exact ⟨x, by omega⟩
      · rintro ⟨x, y⟩
        refine ⟨x, ?_⟩
        by_cases z : d = k + 1
        · subst z; exact absurd ((new v).mpr x) hv
        · omega
  · rw [b v, new v]; simp
structure Low (L : Es) (f : Nat → Nat → Nat) : Prop where
  le : ∀ i j, f i j ≤ 99
  wk : ∀ i j, f i j < 99 → Wk L i (f i j) j
def relax (f : Nat → Nat → Nat) (m i j : Nat) : Nat → Nat → Nat := upd2 f i j (min (min (f i j) (f i m + f m j)) 99)
theorem relax_le (f : Nat → Nat → Nat) (m i j k l : Nat) : relax f m i j k l ≤ f k l := by
  unfold relax upd2
  split
  · rename_i h; obtain ⟨rfl, rfl⟩ := h; omega
  · exact Nat.le_refl _
theorem relax_at (f : Nat → Nat → Nat) (m i j : Nat) : relax f m i j i j ≤ f i m + f m j := by
  unfold relax upd2
  rw [if_pos ⟨rfl, rfl⟩]; omega
theorem Low.relax {L : Es} {f : Nat → Nat → Nat} (h : Low L f) (m i j : Nat) : Low L (relax f m i j) := by
  refine ⟨fun k l => Nat.le_trans (relax_le ..) (h.le k l), fun k l hk => ?_⟩
  unfold Gr.relax upd2 at hk ⊢
  split at hk
  · rename_i q
    obtain ⟨rfl, rfl⟩ := q
    rw [if_pos ⟨rfl, rfl⟩]
    by_cases c : f k l ≤ f k m + f m l
    · have e : min (min (f k l) (f k m + f m l)) 99 = f k l := by have := h.le k l; omega
      rw [e] at hk ⊢; exact h.wk _ _ hk
    · have e : min (min (f k l) (f k m + f m l)) 99 = f k m + f m l := by omega
      rw [e] at hk ⊢
      exact (h.wk _ _ (by omega)).trans (h.wk _ _ (by omega))
  · rename_i q; rw [if_neg q]; exact h.wk _ _ hk
/-- within round m; those of P are done -/
structure Rnd (L : Es) (m : Nat) (f0 f : Nat → Nat → Nat) (P : Nat → Nat → Prop) : Prop where
  low : Low L f
  le : ∀ i j, f i j ≤ f0 i j
  don : ∀ i j, P i j → f i j ≤ f0 i m + f0 m j
theorem Rnd.step {L : Es} {m : Nat} {f0 f : Nat → Nat → Nat} {P P' : Nat → Nat → Prop} (h : Rnd L m f0 f P) (i j : Nat) (hP : ∀ k l, P' k l → P k l ∨ (k = i ∧ l = j)) : Rnd L m f0 (relax f m i j) P' := by
  refine ⟨h.low.relax m i j, fun k l => Nat.le_trans (relax_le ..) (h.le k l), fun k l hk => ?_⟩
  rcases hP k l hk with hk | ⟨rfl, rfl⟩
  · exact Nat.le_trans (relax_le ..) (h.don k l hk)
  · have := relax_at f m k l
    have := h.le k m
    have := h.le m l
    omega
end Gr
set_option Elab.async false
set_option linter.all false
set_option maxRecDepth 100000
set_option maxHeartbeats 2000000
namespace MA
open PySem PySem.Spec PyProof.Rows L2 He DL DM Gr
section
variable {α β : Type} {n i j : Nat} {g h : Nat → α}
theorem arr_len : (arr n g).length = n := by simp [arr]
theorem arr_get (hi : i < n) : (arr n g)[i]? = some (g i) := by simp [arr, hi]
theorem arr_congr (e : ∀ i, i < n → g i = h i) : arr n g = arr n h := List.map_congr_left fun i hi => e i (List.mem_range.mp hi)
theorem arr_ext {xs : List α} (hl : xs.length = n) (e : ∀ i, i < n → xs[i]? = some (g i)) : xs = arr n g := by
  apply List.ext_getElem?
  intro i
  by_cases hi : i < n
  · rw [e i hi, arr_get hi]
  · rw [List.getElem?_eq_none (by omega), List.getElem?_eq_none (by rw [arr_len]; omega)]
theorem arr_of (d : α) (xs : List α) : xs = arr xs.length fun i => xs.getD i d := arr_ext rfl fun i hi => by
  rw [List.getElem?_eq_getElem hi, List.getD_eq_getElem?_getD, List.getElem?_eq_getElem hi]; rfl
end
theorem numbered_arr : ∀ (n k : Nat) (g : Nat → D), DL.numbered k (arr n g) = arr n fun i => .tup [.int ((k + i : Nat) : Int), g i] := by
  have key : ∀ (xs : List D) (k : Nat), DL.numbered k xs = arr xs.length fun i => .tup [.int ((k + i : Nat) : Int), xs.getD i .non] := by
    intro xs
    induction xs with
    | nil => intro k; rfl
    | cons x xs ih =>
      intro k
      unfold DL.numbered
      rw [ih (k + 1)]
      apply arr_ext
      · simp [arr_len]
      · intro i hi
        cases i with
        | zero => simp
        | succ i =>
          rw [List.getElem?_cons_succ, arr_get (by simpa using hi)]
          rw [List.getD_cons_succ, show k + 1 + i = k + (i + 1) by omega]
  intro n k g
  rw [key, arr_len]
  refine arr_congr fun i hi => ?_
  rw [List.getD_eq_getElem?_getD, arr_get hi]; rfl
theorem numbered_of (k : Nat) (xs : List D) : DL.numbered k xs = arr xs.length fun i => .tup [.int ((k + i : Nat) : Int), xs.getD i .non] := by
  conv => lhs; rw [arr_of .non xs]
  rw [numbered_arr]
def orK : D → R D → R D
  | .bl true, _ => .ok (.bl true)
  | .bl false, r => r
  | _, _ => .st
def andK : D → R D → R D
  | .bl true, r => r
  | .bl false, _ => .ok (.bl false)
  | _, _ => .st
section
variable {ρ : List Sl} {f g : List Sl → R D} {r : R D} {b c : Bool} {x y : Int}
theorem v_pOrK : pOr f g ρ = (f ρ).bind fun x => orK x (g ρ) := by
  unfold pOr
  congr 1; funext x
  cases x with
  | bl b => cases b <;> rfl
  | _ => rfl
theorem v_pAndK : pAnd f g ρ = (f ρ).bind fun x => andK x (g ρ) := by
  unfold pAnd
  congr 1; funext x
  cases x with
  | bl b => cases b <;> rfl
  | _ => rfl
theorem o_or1 : orK (.bl true) r = .ok (.bl true) := rfl
theorem o_or2 : orK (.bl false) r = r := rfl
theorem o_or3 : orK (.bl b) (.ok (.bl c)) = .ok (.bl (b || c)) := by cases b <;> rfl
theorem o_and1 : andK (.bl true) r = r := rfl
theorem o_and2 : andK (.bl false) r = .ok (.bl false) := rfl
theorem o_and3 : andK (.bl b) (.ok (.bl c)) = .ok (.bl (b && c)) := by cases b <;> rfl
theorem o_eqI : eqD (.int x) (.int y) = .ok (.bl (decide (x = y))) := by
  rw [o_eq (sd_int _) (sd_int _) (by omega) (by omega)]
  rfl
theorem o_neI : neD (.int x) (.int y) = .ok (.bl (!decide (x = y))) := by
  rw [o_ne (sd_int _) (sd_int _) (by omega) (by omega)]
  rfl
theorem o_eqB : eqD (.bl b) (.bl c) = .ok (.bl (b == c)) := by
  rw [o_eq (sd_bl _) (sd_bl _) (by omega) (by omega)]
  cases b <;> cases c <;> rfl
end
end MA
set_option Elab.async false
set_option linter.all false
set_option maxRecDepth 100000
set_option maxHeartbeats 8000000
namespace MA
open PySem PySem.Spec PyProof.Rows L2 He DL DM Gr
def ec0 := And.intro @oR_s (And.intro @oR_s' (And.intro @Int.cast_ofNat_Int (And.intro @List.getElem?_cons_zero.{0} (And.intro @List.getElem?_cons_succ.{0} (And.intro @List.set_cons_zero.{0} (And.intro @List.set_cons_succ.{0} (And.intro @List.length_cons.{0} (And.intro @List.length_nil.{0} (And.intro @List.length_set.{0} (And.intro @List.map_cons.{0,0} (And.intro @List.map_nil.{0,0} (And.intro @List.cons_append.{0} (And.intro @List.nil_append.{0} (And.intro @List.append_nil.{0} (And.intro @Option.bind_some.{0,0} (And.intro @Option.map_some.{0,0} (And.intro @Nat.zero_lt_succ (And.intro @Nat.lt_add_left_iff_pos (And.intro @eq_self.{1} (And.intro @and_self (And.intro @true_and (And.intro @and_true (And.intro @if_true_ (And.intro @if_false_ (And.intro @Int.toNat_natCast (And.intro @ite_true.{1} (And.intro @ite_false.{1} (And.intro @Bool.not_true (And.intro @Bool.not_false (And.intro @Bool.false_eq_true (And.intro @decide_true (And.intro @decide_false (And.intro @Nat.succ_pos (@Nat.succ_lt_succ_iff))))))))))))))))))))))))))))))))))
def ea0 := And.intro @v_pVar' (And.intro @v_pVarQ' (And.intro @v_pVarR' (And.intro @k_v (And.intro @k_vq (And.intro @k_vr (And.intro @k_oq (And.intro @k_or (And.intro @k_or2 (And.intro @k_vVal (And.intro @k_vFr (And.intro @k_par (And.intro @k_set (And.intro @k_aug (And.intro @k_own (And.intro @k_retF (And.intro @k_ix (And.intro @k_ix2 (And.intro @k_ixL (And.intro @k_app2 (And.intro @k_app (And.intro @k_pop3 (And.intro @k_pop2 (And.intro @k_pop (And.intro @k_apL2 (And.intro @k_apL1 (And.intro @k_apL (And.intro @k_cal (And.intro @k_calR (And.intro @k_calO (And.intro @k_ch1 (And.intro @k_ch2 (And.intro @k_lst (And.intro @k_fldV (And.intro @k_fldO (And.intro @v_setF (And.intro @v_pC (And.intro @v_p1 (And.intro @v_p2 (And.intro @v_p3 (And.intro @v_aNil (And.intro @v_aCons (And.intro @v_pA (And.intro @v_b1 (And.intro @v_asB (And.intro @v_bAnd (And.intro @v_bOr (And.intro @v_bNot (And.intro @v_pIf (And.intro @v_pAndK (And.intro @v_pOrK (And.intro @v_liftE (And.intro @v_e1 (And.intro @v_e2 (And.intro @v_bNil (And.intro @v_bCons (And.intro @v_eA (And.intro @v_vNil (And.intro @v_vVal (@v_vFr)))))))))))))))))))))))))))))))))))))))))))))))))))))))))))
def ea1 := And.intro @v_liftB (And.intro @v_q1 (And.intro @v_qAnd (And.intro @v_qOr (And.intro @v_qNot (And.intro @v_eIf (And.intro @v_gVar (And.intro @v_gTupD (And.intro @v_gsNil (And.intro @v_gsCons (And.intro @v_pIxLL (And.intro @v_gIx (And.intro @v_gIx2 (And.intro @v_sNext (And.intro @v_sNever (And.intro @v_sRetN (And.intro @v_sRet (And.intro @v_sRetE (And.intro @v_sRetF (And.intro @v_sExpr (And.intro @v_sExprE (And.intro @v_sIf (And.intro @v_sIfE (And.intro @v_seq (And.intro @v_asg (And.intro @v_asgE (And.intro @v_own (And.intro @v_ownG (And.intro @v_par (And.intro @v_aug (And.intro @v_putNil (And.intro @v_putV (And.intro @v_putF (And.intro @v_iAdd (And.intro @v_pSl (And.intro @v_oNone (And.intro @v_oSome (And.intro @v_eApp (And.intro @v_ePop (And.intro @v_eAppLL (And.intro @v_eCallO (And.intro @v_callO (And.intro @v_i1 (And.intro @v_pM1 (And.intro @v_pChain (And.intro @v_pIndex (And.intro @v_aLen (And.intro @v_aApp (And.intro @v_pFrz (And.intro @v_pAO (And.intro @v_gLst (And.intro @v_frz0 (And.intro @v_frz0l (And.intro @v_frzO (And.intro @v_frd1 (And.intro @v_frdK (And.intro @v_frdV (And.intro @v_frdU (And.intro @k_gDkI (@k_gDkS)))))))))))))))))))))))))))))))))))))))))))))))))))))))))))
def ea2 := And.intro @v_gDk (And.intro @v_dget2 (And.intro @k_dg2I (And.intro @k_dg2S (And.intro @v_dget (And.intro @k_dg1I (And.intro @k_dg1S (And.intro @i_items (And.intro @o_dgI (And.intro @o_dgS (And.intro @v_gDict1 (And.intro @k_gd1I (And.intro @k_gd1S (And.intro @v_frz1 (And.intro @v_frzV (And.intro @v_frzU (And.intro @R.bind_ok (And.intro @RE.bind_ok (And.intro @RE.seq_ok (And.intro @R.seq_ok (And.intro @R.seqB_ok (And.intro @RE.bindA_ok (And.intro @RA.bind_ok (And.intro @RA.bindE_ok (And.intro @RV.bind_ok (And.intro @RB.bind_ok (And.intro @RB.bindE_ok (And.intro @RB.seq_ok (And.intro @RE.bindB_ok (And.intro @upB_ok (And.intro @up_ok (And.intro @RS.then_nx (And.intro @RS.then_rt (And.intro @RS.then_rtO (And.intro @RS.then_ct (And.intro @RS.then_bk (And.intro @o_eqI (And.intro @o_neI (And.intro @o_eqB (And.intro @o_or1 (And.intro @o_or2 (And.intro @o_or3 (And.intro @o_and1 (And.intro @o_and2 (And.intro @o_and3 (And.intro @o_add (And.intro @o_sub (And.intro @o_lt (And.intro @o_le (And.intro @o_gt (And.intro @o_ge (And.intro @o_int (And.intro @o_abs (And.intro @o_lenL (And.intro @o_lenT (And.intro @o_lenS (And.intro @o_isN (And.intro @o_isnN (And.intro @n_non (@n_int)))))))))))))))))))))))))))))))))))))))))))))))))))))))))))
def ea3 := And.intro @n_str (And.intro @n_bl (And.intro @n_tup (And.intro @n_lst (And.intro @n_ins (And.intro @o_mkT0 (And.intro @o_mkT1 (And.intro @o_mkT2 (And.intro @o_mkT3 (And.intro @o_mkL0 (And.intro @o_mkL1 (And.intro @o_mkL2 (And.intro @o_mkL3 (And.intro @o_maxD (And.intro @o_minD (And.intro @o_revT (And.intro @o_revL (And.intro @o_ixT0 (And.intro @o_ixT1 (And.intro @o_ixT2 (And.intro @o_isL (And.intro @o_tupL (And.intro @o_tupT (And.intro @o_not (And.intro @o_neg (And.intro @ok_match (And.intro @ok_match2 (And.intro @kt_int (And.intro @kt_str (And.intro @kt_bl (And.intro @kt_tup (And.intro @kt_lst (And.intro @kt_dct (And.intro @kt_non (And.intro @kt_some (And.intro @i_enumT (And.intro @i_enumL (And.intro @i_lst (And.intro @i_tup (And.intro @i_scr (And.intro @wpO_some (And.intro @turn_nx (And.intro @turn_ct (@turn_bk)))))))))))))))))))))))))))))))))))))))))))
end MA
set_option Elab.async false
set_option linter.all false
namespace Gr
theorem Bd.push {n a b : Nat} {L : Es} (h : Bd n L) (ha : a < n) (hb : b < n) (hne : a ≠ b) (h1 : (a, b) ∉ L) (h2 : (b, a) ∉ L) : Bd n (L ++ [(a, b)]) := by
  refine ⟨fun p hp => ?_, fun p hp => ?_, ?_⟩
  · rcases List.mem_append.mp hp with hp | hp
    · exact h.w p hp
    · simp at hp; subst hp; exact ⟨ha, hb⟩
  · rcases List.mem_append.mp hp with hp | hp
    · exact h.irr p hp
    · simp at hp; subst hp; exact hne
  · rw [List.pairwise_append]
    refine ⟨h.pw, by simp, fun p hp q hq => ?_⟩
    simp at hq; subst hq
    exact ⟨fun z => h1 (z ▸ hp), fun z => h2 (z ▸ hp)⟩
end Gr
set_option Elab.async false
set_option linter.all false
set_option maxRecDepth 100000
set_option maxHeartbeats 2000000
set_option Elab.async false
set_option linter.all false
set_option maxRecDepth 100000
set_option maxHeartbeats 2000000
set_option Elab.async false
set_option linter.all false
set_option maxRecDepth 100000
set_option maxHeartbeats 2000000
set_option Elab.async false
set_option linter.all false
set_option maxRecDepth 100000
set_option maxHeartbeats 2000000
set_option Elab.async false
set_option linter.all false
set_option maxRecDepth 100000
set_option maxHeartbeats 4000000
namespace MA
open PySem PySem.Spec PyProof.Rows L2 He DL DM Gr
theorem drop1 {o : Ow} (h : PhOk o) {top : Int} (ht : 0 < top) (ht2 : top < 1073741824) : ∃ (r : Nat) (o' : Ow), F__law_drop [.own 1 o, .val (.int top)] = .ok (.rt (.int r)) [.own 1 o', .val (.int top)] ∧ (r : Int) < top ∧ PhOk o' := drop_at h ht ht2
end MA
set_option Elab.async false
set_option linter.all false
set_option maxRecDepth 100000
set_option maxHeartbeats 4000000
set_option Elab.async false
set_option linter.all false
set_option maxRecDepth 100000
set_option maxHeartbeats 4000000
namespace MA
open PySem PySem.Spec PyProof.Rows L2 He DL DM Gr
theorem Sw.shows {k w : Nat} {d : D} (h : Sw k w d) (hk : k ≤ 64) (hw : w ≤ 1000000) : d.shows = true := by
  have hl : d.py.layable0 = true := by
    unfold PyData.layable0
    have e : (2 : Nat) ^ 20 = 1048576 := by decide
    rw [h.c, decide_eq_true (Nat.le_trans h.d hk), decide_eq_true (by have := h.w; omega : d.py.weight ≤ 2 ^ 20)]
    rfl
  unfold D.shows
  rw [h.p, h.s, decide_eq_true (by have := h.d; omega : d.py.depth ≤ 100), decide_eq_true (PyData.shown_fits_of_layable0 (B := 13) (by omega) (by omega) hl h.i)]
  rfl
theorem Sw.repr {k w : Nat} {d : D} (h : Sw k w d) (hk : k ≤ 64) (hw : w ≤ 1000000) : reprD d = .ok (.str d.py.shown) := if_pos (h.shows hk hw)
theorem log2_lt {n : Nat} (h : n < 1000000000000) : n.log2 < 40 := by
  by_cases h0 : n = 0
  · subst h0; decide
  · exact (Nat.log2_lt h0).mpr (by omega)
theorem sw_int {i : Int} (h : i.natAbs < 1000000000000) : Sw 0 40 (.int i) := by
  have hl := log2_lt h
  refine ⟨sd_int i, ?_, ?_, ?_⟩
  · show (if (i == 0) = true then 0 else i.natAbs.log2 + 1) ≤ 40
    split <;> omega
  · show decide ((PyData.shown (.int i)).length ≤ 13) = true
    exact decide_eq_true (PyData.shown_int_le (by omega))
  · show decide (i.natAbs.log2 < 1920) = true
    exact decide_eq_true (by omega)
theorem sw_all {k w : Nat} : ∀ {xs : List D}, (∀ x ∈ xs, Sw k w x) → PyData.weightAll (pyA xs) ≤ xs.length * (w + 1) ∧ PyData.intsShortAll 13 (pyA xs) = true ∧ PyData.showableAll (pyA xs) = true
  | [], _ => ⟨Nat.zero_le _, rfl, rfl⟩
  | x :: xs, h => by
    obtain ⟨a, b, c⟩ := sw_all fun y hy => h y (List.mem_cons_of_mem _ hy)
    have hx := h x List.mem_cons_self
    refine ⟨?_, ?_, ?_⟩
    · simp only [pyA, PyData.weightAll, List.length_cons, Nat.succ_mul]
      have := hx.w
      omega
    · simp only [pyA, PyData.intsShortAll, hx.i, b, Bool.and_self]
    · simp only [pyA, PyData.showableAll, hx.s, c, Bool.and_self]
theorem sw_lst {k w : Nat} {xs : List D} (h : ∀ x ∈ xs, Sw k w x) : Sw (k + 1) (xs.length * (w + 1)) (.lst xs) := by
  obtain ⟨a, b, c⟩ := sw_all h
  exact ⟨sd_lst fun x hx => (h x hx).toSd, by simpa [D.py, PyData.weight] using a, by simpa [D.py, PyData.intsShort] using b, by simpa [D.py, PyData.showable] using c⟩
theorem ne_str_same (s : Str) : neD (.str s) (.str s) = .ok (.bl false) := by
  unfold neD
  split
  · show R.ok (D.bl (!(s == s))) = _
    rw [beq_self_eq_true]; rfl
  · show R.ok (D.bl (true ^^ decide (s = s))) = _
    rw [decide_eq_true rfl]; rfl
/-- equal data are equal -/
theorem eqv_self : ∀ {k : Nat} {d : D}, Sd k d → PyData.eqv d.py d.py = true := by
  have key : ∀ (m : Nat) (d : D), sizeOf d ≤ m → d.pure = true → PyData.eqv d.py d.py = true := by
    intro m
    induction m with
    | zero => intro d h; cases d <;> simp at h
    | succ m ih =>
      have all : ∀ xs : List D, sizeOf xs ≤ m → pureA xs = true → PyData.eqvAll (pyA xs) (pyA xs) = true := by
        intro xs
        induction xs with
        | nil => intro _ _; rfl
        | cons x xs ihx =>
          intro h p
          simp only [pureA, Bool.and_eq_true] at p
          simp only [List.cons.sizeOf_spec] at h
          simp only [pyA, PyData.eqvAll, ih x (by omega) p.1, ihx (by omega) p.2, Bool.and_self]
      intro d h p
      cases d with
      | non => rfl
      | bl b => cases b <;> rfl
      | int i => show (i == i) = true; exact beq_self_eq_true i
      | str s => show (s == s) = true; exact beq_self_eq_true s
      | tup xs =>
        simp only [D.tup.sizeOf_spec] at h
        simp only [D.py, PyData.eqv]
        exact all xs (by omega) (by simpa [D.pure] using p)
      | lst xs =>
        simp only [D.lst.sizeOf_spec] at h
        simp only [D.py, PyData.eqv]
        exact all xs (by omega) (by simpa [D.pure] using p)
      | scr _ => simp [D.pure] at p
      | dct _ => simp [D.pure] at p
      | ins _ _ => simp [D.pure] at p
      | cls _ => simp [D.pure] at p
      | exn _ _ _ _ => simp [D.pure] at p
      | clo _ _ _ => simp [D.pure] at p
      | exv _ _ => simp [D.pure] at p
  intro k d h
  exact key _ d (Nat.le_refl _) h.p
theorem eq_same {k : Nat} {d : D} (h : Sd k d) (hk : k ≤ 64) : eqD d d = .ok (.bl true) := by rw [o_eq h h hk hk, eqv_self h]
theorem ne_same {k : Nat} {d : D} (h : Sd k d) (hk : k ≤ 64) : neD d d = .ok (.bl false) := by rw [o_ne h h hk hk, eqv_self h]; rfl
end MA
set_option Elab.async false
set_option linter.all false
set_option maxRecDepth 100000
set_option maxHeartbeats 8000000
namespace MA
open PySem PySem.Spec PyProof.Rows L2 He DL DM Gr
theorem iMul_small {a b : Int} (h : (-1000000000 < a ∧ a < 1000000000) ∨ (-1000000000 < b ∧ b < 1000000000)) : iMul a b = true := by
  rcases h with h | h
  · exact iMul_l (by omega) (by omega)
  · exact iMul_r (by omega) (by omega)
theorem o_mulS {a b : Int} (h : (-1000000000 < a ∧ a < 1000000000) ∨ (-1000000000 < b ∧ b < 1000000000)) : mulD (.int a) (.int b) = .ok (.int (a * b)) := o_mul (iMul_small h)
theorem o_pow1016 : powD (.int 10) (.int 16) = .ok (.int 10000000000000000) := by
  show (if (0 : Int) ≤ 16 ∧ (16 : Int) ≤ 1000000 ∧ (10 : Int).natAbs < 2 ^ 64 then R.ok (D.int (10 ^ (16 : Int).toNat)) else .st) = _
  rw [if_pos ⟨by omega, by omega, by decide⟩]
  rfl
theorem o_ixS {ns : List Int} {k : Nat} (h : k < ns.length) : ixD (.scr ns) (.int (k : Nat)) = .ok (.int (ns.getD k 0)) := by
  show (match L2.atI ns (k : Int) with | some d => R.ok (D.int d) | none => .st) = _
  have : L2.atI ns (k : Int) = some (ns.getD k 0) := by
    unfold L2.atI
    rw [ixN_nat h]
    show ns[k]? = _
    rw [List.getElem?_eq_getElem h, List.getD_eq_getElem?_getD, List.getElem?_eq_getElem h]; rfl
  rw [this]
theorem numbered_ints (xs : List Int) : DL.numbered 0 (xs.map .int) = arr xs.length fun i => .tup [.int (i : Nat), .int (xs.getD i 0)] := by
  rw [numbered_of, List.length_map]
  refine arr_congr fun i hi => ?_
  rw [Nat.zero_add, List.getD_eq_getElem?_getD, List.getElem?_map, List.getD_eq_getElem?_getD, List.getElem?_eq_getElem hi]
  rfl
theorem phial_c (ns : List Int) (turn : Nat) : ∃ a b : Int, callL F__law_phial_of [.scr ns, .int (turn : Nat)] = .ok (.lst [.int a, .int b, .int 0]) ∧ 0 ≤ a := by
  suffices h : Wp (m__law_phial_of [.val (.scr ns), .val (.int (turn : Nat)), .un, .un, .un, .un]) fun r => ∃ a b : Int, isRtO (.lst [.int a, .int b, .int 0]) r ∧ 0 ≤ a by
    obtain ⟨a, b, h1, h2⟩ := h
    exact ⟨a, b, cv_rtO (nl := 4) (m := m__law_phial_of) h1, h2⟩
  unfold m__law_phial_of
  have hcell : ∃ cell : Int, pIf (b1 asB (p2 ltD (pVar 1) (p1 lenD (pVar 0)))) (p2 ixD (pVar 0) (pVar 1)) (pC (.int 0)) [.val (.scr ns), .val (.int (turn : Nat)), .un, .un, .un, .un] = .ok (.int cell) := by
    by_cases h : turn < ns.length
    · have h' : (turn : Int) < (ns.length : Int) := by omega
      exact ⟨ns.getD turn 0, by simp -implicitDefEqProofs only [ea0, ea1, ea2, ea3, ec0, Int.reduceEq, Int.reduceLT, Int.reduceLE, Int.reduceAdd, Int.reduceSub, Int.reduceMul, Int.reduceNeg, Nat.reduceAdd, Nat.reduceLT, Nat.reduceSucc, reduceCtorEq, h', o_ixS h]⟩
    · have h' : ¬ (turn : Int) < (ns.length : Int) := by omega
      exact ⟨0, by simp -implicitDefEqProofs only [ea0, ea1, ea2, ea3, ec0, Int.reduceEq, Int.reduceLT, Int.reduceLE, Int.reduceAdd, Int.reduceSub, Int.reduceMul, Int.reduceNeg, Nat.reduceAdd, Nat.reduceLT, Nat.reduceSucc, reduceCtorEq, h']⟩
  obtain ⟨cell, hc⟩ := hcell
  have m1 : mulD (.int 90019) (.int (turn : Nat)) = .ok (.int (90019 * (turn : Nat))) := o_mulS (.inl (by omega))
  rw [v_seq, v_par]
  simp -implicitDefEqProofs only [v_vVal, v_liftE, hc]
  simp -implicitDefEqProofs only [ea0, ea1, ea2, ea3, ec0, Int.reduceEq, Int.reduceLT, Int.reduceLE, Int.reduceAdd, Int.reduceSub, Int.reduceMul, Int.reduceNeg, Nat.reduceAdd, Nat.reduceLT, Nat.reduceSucc, reduceCtorEq, m1]
  refine wp_range (fun k ρ => ∃ sw s4 s5, ρ = [.val (.scr ns), .val (.int (turn : Nat)), .val (.int cell), .val (.int sw), s4, s5]) (DL.cutD ns none (some 7)).length (enc := fun i => .tup [.int (i : Nat), .int ((DL.cutD ns none (some 7)).getD i 0)]) ?_ ?_ ?_ ?_
  · show R.ok (DL.numbered 0 ((DL.cutD ns none (some 7)).map .int)) = _
    rw [numbered_ints]
  · exact ⟨_, _, _, rfl⟩
  · rintro j _ hj ⟨sw, s4, s5, rfl⟩
    generalize (DL.cutD ns none (some 7)).getD j 0 = each
    have hj7 : j < 8 := by
      have : (DL.cutD ns none (some 7)).length ≤ 7 := by
        unfold DL.cutD
        rw [List.length_take]
        have : HT.sIx ns.length ns.length (some 7) ≤ 7 := by
          unfold HT.sIx
          simp
          omega
        have : HT.sIx ns.length 0 none = 0 := rfl
        omega
      omega
    have m2 : mulD (.int 46) (.int (j : Nat)) = .ok (.int (46 * (j : Nat))) := o_mulS (.inl (by omega))
    have m3 : mulD (.int sw) (.int (16033 + 46 * (j : Nat))) = .ok (.int (sw * (16033 + 46 * (j : Nat)))) := o_mulS (.inr (by omega))
    have m4 : mulD (.int 17) (.int each) = .ok (.int (17 * each)) := o_mulS (.inl (by omega))
    have m5 := fun a : Int => o_mod (a := a) (b := 2147482943) (by omega)
    simp -implicitDefEqProofs only [ea0, ea1, ea2, ea3, ec0, Int.reduceEq, Int.reduceLT, Int.reduceLE, Int.reduceAdd, Int.reduceSub, Int.reduceMul, Int.reduceNeg, Nat.reduceAdd, Nat.reduceLT, Nat.reduceSucc, reduceCtorEq, m2, m3, m4, m5]
    exact ⟨_, _, _, rfl⟩
  · rintro _ ⟨sw, s4, s5, rfl⟩
    have m4 : mulD (.int 32009) (.int cell) = .ok (.int (32009 * cell)) := o_mulS (.inl (by omega))
    have m5 := fun a : Int => o_mod (a := a) (b := 2147482943) (by omega)
    by_cases c1 : cell < 0
    · simp -implicitDefEqProofs only [ea0, ea1, ea2, ea3, ec0, Int.reduceEq, Int.reduceLT, Int.reduceLE, Int.reduceAdd, Int.reduceSub, Int.reduceMul, Int.reduceNeg, Nat.reduceAdd, Nat.reduceLT, Nat.reduceSucc, reduceCtorEq, c1, m4, m5]
      exact ⟨_, _, ⟨_, rfl⟩, by omega⟩
    · by_cases c2 : (10000000000000000 : Int) ≤ cell
      · simp -implicitDefEqProofs only [ea0, ea1, ea2, ea3, ec0, Int.reduceEq, Int.reduceLT, Int.reduceLE, Int.reduceAdd, Int.reduceSub, Int.reduceMul, Int.reduceNeg, Nat.reduceAdd, Nat.reduceLT, Nat.reduceSucc, reduceCtorEq, c1, c2, o_pow1016, m4, m5]
        exact ⟨_, _, ⟨_, rfl⟩, by omega⟩
      · simp -implicitDefEqProofs only [ea0, ea1, ea2, ea3, ec0, Int.reduceEq, Int.reduceLT, Int.reduceLE, Int.reduceAdd, Int.reduceSub, Int.reduceMul, Int.reduceNeg, Nat.reduceAdd, Nat.reduceLT, Nat.reduceSucc, reduceCtorEq, c1, c2, o_pow1016, m4, m5]
        exact ⟨_, _, ⟨_, rfl⟩, by omega⟩
theorem all_true {α : Type} (xs : List α) : allD (.lst (xs.map fun _ => .bl true)) = .ok (.bl true) := by
  have e : xs.map (fun _ => D.bl true) = (xs.map fun _ => true).map D.bl := by rw [List.map_map]; rfl
  rw [e]
  unfold allD
  dsimp only
  rw [bools_map]
  simp
theorem pCallF_of {F : List Sl → RS} {ga : List Sl → R Ow} {ρ ρ' : List Sl} {o : Ow} {d : D} (h : ga ρ = .ok o) (h2 : F [.own 0 o] = .ok (.rt d) ρ') : pCallF F ga ρ = .ok d := by
  unfold pCallF
  rw [h, R.bind_ok, h2]
end MA
set_option Elab.async false
set_option linter.all false
set_option maxRecDepth 100000
set_option maxHeartbeats 8000000
namespace MA
open PySem PySem.Spec PyProof.Rows L2 He DL DM Gr
theorem from_list {o : Ow} (h : PhOk o) {xs : List D} (hx : xs ≠ []) (hl : xs.length < 1000000) : ∃ (r : Nat) (d : D) (o' : Ow), F__law_from [.own 1 o, .val (.lst xs)] = .ok (.rt d) [.own 1 o', .val (.lst xs)] ∧ xs[r]? = some d ∧ PhOk o' := by
  have hp : 0 < xs.length := List.length_pos_iff.mpr hx
  obtain ⟨r, o', e, hr, h'⟩ := drop1 h (top := xs.length) (by omega) (by omega)
  have hr' : r < xs.length := by omega
  refine ⟨r, xs[r], o', ?_, List.getElem?_eq_getElem hr', h'⟩
  refine (runF_rt (nl := 0) (m := m__law_from) (ρ := [.own 1 o, .val (.lst xs)]) (ρ' := [.own 1 o', .val (.lst xs)]) ?_).trans rfl
  show m__law_from [.own 1 o, .val (.lst xs)] = _
  unfold m__law_from
  simp -implicitDefEqProofs only [ea0, ea1, ea2, ea3, ec0, Int.reduceEq, Int.reduceLT, Int.reduceLE, Int.reduceAdd, Int.reduceSub, Int.reduceMul, Int.reduceNeg, Nat.reduceAdd, Nat.reduceLT, Nat.reduceSucc, reduceCtorEq, e, v_e2, o_ixL (List.getElem?_eq_getElem hr')]
end MA
set_option Elab.async false
set_option linter.all false
set_option maxRecDepth 100000
set_option maxHeartbeats 2000000
namespace DM
open PySem PySem.Spec PyProof.Rows L2 He DL
end DM
set_option Elab.async false
set_option linter.all false
set_option maxRecDepth 100000
set_option maxHeartbeats 2000000
namespace MA
open PySem PySem.Spec PyProof.Rows L2 He DL DM Gr
section
variable {ρ ρ' rest : List Sl} {i j k t : Nat} {d x y z : D} {ds : List D} {o o' : Ow} {f : List Sl → R D} {fe : List Sl → RE} {g : List Sl → RG} {F : List Sl → RS} {ga : List Sl → RA}
theorem v_sRetO : sRetO g ρ = retR (g ρ) := rfl
theorem k_retR : retR (.ok o ρ) = .ok (.rtO o) ρ := rfl
def pairK (g : List Sl → RG) : RE → RG
  | .ok d ρ1 => prR d (g ρ1)
  | .ex x ρ1 => .ex x ρ1
  | .st => .st
theorem v_oPair : oPair fe g ρ = pairK g (fe ρ) := rfl
theorem k_pair : pairK g (.ok d ρ) = prR d (g ρ) := rfl
theorem k_prR : prR d (.ok (.lst ds) ρ) = .ok (.pr d ds) ρ := rfl
theorem v_liftO {go : List Sl → R Ow} : liftO go ρ = upG (go ρ) ρ := rfl
def varO (i : Nat) (ρ : List Sl) : Option Sl → RG
  | some (.own 0 o) => .ok o (ρ.set i .un)
  | _ => .st
theorem v_oVar : oVar i ρ = varO i ρ ρ[i]? := rfl
theorem k_varO : varO i ρ (some (.own 0 o)) = .ok o (ρ.set i .un) := rfl
theorem v_eFrz : eFrz g ρ = frzR (g ρ) := rfl
theorem k_frzR : frzR (.ok o ρ) = if o.can then .ok o.d ρ else .st := rfl
theorem can_lst : Ow.can (.lst ds) = true := rfl
theorem d_lst : Ow.d (.lst ds) = .lst ds := rfl
theorem can_ll {dss : List (List D)} : Ow.can (.ll dss) = true := rfl
theorem d_ll {dss : List (List D)} : Ow.d (.ll dss) = .lst (dss.map .lst) := rfl
theorem can_pr : Ow.can (.pr d ds) = true := rfl
theorem d_pr : Ow.d (.pr d ds) = .tup [d, .lst ds] := rfl
def calOK (F : List Sl → RS) (i : Nat) (ga : List Sl → RA) (ρ : List Sl) : Option Sl → RG
  | some (.own _ _) => eaO (callOO F i) ga ρ
  | _ => .st
theorem v_oCallO : oCallO F i ga ρ = calOK F i ga ρ ρ[i]? := rfl
theorem k_oCallO : calOK F i ga ρ (some (.own t o)) = eaO (callOO F i) ga ρ := rfl
def eaK (f : List D → List Sl → RG) : RA → RG
  | .ok ds ρ1 => f ds ρ1
  | .ex x ρ1 => .ex x ρ1
  | .st => .st
theorem v_eaO {f : List D → List Sl → RG} : eaO f ga ρ = eaK f (ga ρ) := rfl
theorem k_eaK {f : List D → List Sl → RG} : eaK f (.ok ds ρ) = f ds ρ := rfl
def calOO (F : List Sl → RS) (i : Nat) (ds : List D) (ρ : List Sl) : Option Sl → RG
  | some (.own t o) => giveR i t ρ (F (.own 1 o :: ds.map .val))
  | _ => .st
theorem v_callOO : callOO F i ds ρ = calOO F i ds ρ ρ[i]? := rfl
theorem k_callOO : calOO F i ds ρ (some (.own t o)) = giveR i t ρ (F (.own 1 o :: ds.map .val)) := rfl
theorem k_giveR {r : Ow} : giveR i t ρ (.ok (.rtO r) (.own 1 o' :: rest)) = .ok r (ρ.set i (.own t o')) := rfl
theorem v_callGO : callGO F ds ρ = takeR ρ (F (ds.map .val)) := rfl
theorem k_takeR : takeR ρ (.ok (.rtO o) ρ') = .ok o ρ := rfl
theorem v_sUnp : sUnp i j g ρ = unpR i j (g ρ) := rfl
theorem k_unpR : unpR i j (.ok (.pr d ds) ρ) = if i < ρ.length ∧ j < ρ.length ∧ i ≠ j then .ok .nx ((ρ.set i (.val d)).set j (.own 0 (.lst ds))) else .st := rfl
theorem v_sOwnO : sOwnO i g ρ = putO i (g ρ) := rfl
theorem k_putO : putO i (.ok o ρ) = if i < ρ.length then .ok .nx (ρ.set i (.own 0 o)) else .st := rfl
theorem v_jSeq : jSeq fe ρ = (fe ρ).bindI fun d ρ1 => upI (itemsD d) ρ1 := rfl
theorem v_liftI {gi : List Sl → R (List D)} : liftI gi ρ = upI (gi ρ) ρ := rfl
theorem o_ixL0 : ixD (.lst (d :: ds)) (.int 0) = .ok d := o_ixL (k := 0) rfl
theorem o_ixL1 : ixD (.lst (x :: d :: ds)) (.int 1) = .ok d := o_ixL (k := 1) rfl
theorem o_ixL2 : ixD (.lst (x :: y :: d :: ds)) (.int 2) = .ok d := o_ixL (k := 2) rfl
theorem v_oList : oList fe ρ = listR (fe ρ) := rfl
theorem k_listL : listR (.ok (.lst ds) ρ) = .ok (.lst ds) ρ := rfl
theorem k_listT : listR (.ok (.tup ds) ρ) = .ok (.lst ds) ρ := rfl
theorem v_setLL {gi gF : List Sl → R D} : sSetLL i gi gF ρ = (gF ρ).seq ρ (setLL i gi ρ) := rfl
theorem k_setLL {gi : List Sl → R D} : setLL i gi ρ (.lst ds) = setLL2 i ds ρ ρ[i]? (gi ρ) := rfl
def setLLj (i t : Nat) (ds : List D) (dss : List (List D)) (ρ : List Sl) : Option Nat → RS
  | some j => .ok .nx (ρ.set i (.own t (.ll (dss.set j ds))))
  | none => .st
theorem k_setLL2 {dss : List (List D)} {k : Int} : setLL2 i ds ρ (some (.own t (.ll dss))) (.ok (.int k)) = setLLj i t ds dss ρ (ixN dss.length k) := rfl
theorem k_setLLj {dss : List (List D)} : setLLj i t ds dss ρ (some j) = .ok .nx (ρ.set i (.own t (.ll (dss.set j ds)))) := rfl
end
end MA
set_option Elab.async false
set_option linter.all false
set_option maxRecDepth 100000
set_option maxHeartbeats 8000000
namespace MA
open PySem PySem.Spec PyProof.Rows L2 He DL DM Gr
def eb0 := And.intro @v_sRetO (And.intro @k_retR (And.intro @v_oPair (And.intro @k_pair (And.intro @k_prR (And.intro @v_liftO (And.intro @upG_ok (And.intro @v_oVar (And.intro @k_varO (And.intro @v_eFrz (And.intro @k_frzR (And.intro @can_lst (And.intro @d_lst (And.intro @can_ll (And.intro @d_ll (And.intro @can_pr (And.intro @d_pr (And.intro @v_oCallO (And.intro @k_oCallO (And.intro @v_eaO (And.intro @k_eaK (And.intro @v_callOO (And.intro @k_callOO (And.intro @k_giveR (And.intro @v_callGO (And.intro @k_takeR (And.intro @v_sUnp (And.intro @k_unpR (And.intro @v_sOwnO (And.intro @k_putO (And.intro @v_jSeq (And.intro @RE.bindI_ok (And.intro @upI_ok (And.intro @v_liftI (And.intro @o_ixL0 (And.intro @o_ixL1 (And.intro @o_ixL2 (And.intro @v_oList (And.intro @k_listL (And.intro @k_listT (And.intro @v_setLL (And.intro @k_setLL (And.intro @k_setLL2 (@k_setLLj)))))))))))))))))))))))))))))))))))))))))))
end MA
set_option Elab.async false
set_option linter.all false
set_option maxRecDepth 100000
set_option maxHeartbeats 2000000
namespace DM
open PySem PySem.Spec PyProof.Rows L2 He DL
end DM
set_option Elab.async false
set_option linter.all false
set_option maxRecDepth 100000
set_option maxHeartbeats 2000000
namespace DM
open PySem PySem.Spec PyProof.Rows L2 He DL
end DM
set_option Elab.async false
set_option linter.all false
set_option maxRecDepth 100000
set_option maxHeartbeats 2000000
namespace DM
open PySem PySem.Spec PyProof.Rows L2 He DL
end DM
set_option Elab.async false
set_option linter.all false
set_option maxRecDepth 100000
set_option maxHeartbeats 2000000
namespace DL
open PySem PySem.Spec PyProof.Rows L2
end DL
set_option Elab.async false
set_option linter.all false
set_option maxRecDepth 100000
set_option maxHeartbeats 2000000
namespace DL
open PySem PySem.Spec PyProof.Rows L2
end DL
set_option Elab.async false
set_option linter.all false
set_option maxRecDepth 100000
set_option maxHeartbeats 2000000
namespace DL
open PySem PySem.Spec PyProof.Rows L2
end DL
set_option Elab.async false
set_option linter.all false
set_option maxRecDepth 100000
set_option maxHeartbeats 2000000
namespace DM
open PySem PySem.Spec PyProof.Rows L2 He DL
end DM
set_option Elab.async false
set_option linter.all false
set_option maxRecDepth 100000
set_option maxHeartbeats 2000000
namespace DL
open PySem PySem.Spec PyProof.Rows L2
end DL
set_option Elab.async false
set_option linter.all false
set_option maxRecDepth 100000
set_option maxHeartbeats 2000000
namespace DL
open PySem PySem.Spec PyProof.Rows L2
end DL
set_option Elab.async false
set_option linter.all false
set_option maxRecDepth 100000
set_option maxHeartbeats 2000000
namespace DL
open PySem PySem.Spec PyProof.Rows L2
end DL
set_option Elab.async false
set_option linter.all false
set_option maxRecDepth 100000
set_option maxHeartbeats 2000000
namespace DL
open PySem PySem.Spec PyProof.Rows L2
end DL
set_option Elab.async false
set_option linter.all false
set_option maxRecDepth 100000
set_option maxHeartbeats 2000000
namespace DM
open PySem PySem.Spec PyProof.Rows L2 He DL
end DM
set_option Elab.async false
set_option linter.all false
set_option maxRecDepth 100000
set_option maxHeartbeats 2000000
namespace DL
open PySem PySem.Spec PyProof.Rows L2
end DL
set_option Elab.async false
set_option linter.all false
set_option maxRecDepth 100000
set_option maxHeartbeats 2000000
namespace DM
open PySem PySem.Spec PyProof.Rows L2 He DL
end DM
set_option Elab.async false
set_option linter.all false
set_option maxRecDepth 100000
set_option maxHeartbeats 2000000
namespace DL
open PySem PySem.Spec PyProof.Rows L2
end DL
set_option Elab.async false
set_option linter.all false
set_option maxRecDepth 100000
set_option maxHeartbeats 2000000
namespace DL
open PySem PySem.Spec PyProof.Rows L2
end DL
set_option Elab.async false
set_option linter.all false
set_option maxRecDepth 100000
set_option maxHeartbeats 2000000
namespace DM
open PySem PySem.Spec PyProof.Rows L2 He DL
end DM
set_option Elab.async false
set_option linter.all false
set_option maxRecDepth 100000
set_option maxHeartbeats 2000000
namespace DM
open PySem PySem.Spec PyProof.Rows L2 He DL
end DM
set_option Elab.async false
set_option linter.all false
set_option maxRecDepth 100000
set_option maxHeartbeats 2000000
namespace DL
open PySem PySem.Spec PyProof.Rows L2 He
end DL
set_option Elab.async false
set_option linter.all false
set_option maxRecDepth 100000
set_option maxHeartbeats 2000000
namespace DL
open PySem PySem.Spec PyProof.Rows L2
end DL
set_option Elab.async false
set_option linter.all false
set_option maxRecDepth 100000
set_option maxHeartbeats 2000000
namespace DL
open PySem PySem.Spec PyProof.Rows L2
def pairK : D → Option (Key × D)
  | .tup [k, d] => (keyD k).map fun k => (k, d)
  | _ => none
end DL
set_option Elab.async false
set_option linter.all false
set_option maxRecDepth 100000
set_option maxHeartbeats 2000000
namespace DL
open PySem PySem.Spec PyProof.Rows L2
end DL
set_option Elab.async false
set_option linter.all false
set_option maxRecDepth 100000
set_option maxHeartbeats 2000000
namespace DL
open PySem PySem.Spec PyProof.Rows L2
end DL
set_option Elab.async false
set_option linter.all false
set_option maxRecDepth 100000
set_option maxHeartbeats 2000000
namespace DL
open PySem PySem.Spec PySem.SeqAt PySem.MeetsSeq PySem.Builtin PyProof.Rows L2
end DL
set_option Elab.async false
set_option linter.all false
set_option maxRecDepth 100000
set_option maxHeartbeats 2000000
namespace DM
open PySem PySem.Spec PyProof.Rows L2 He DL
end DM
set_option Elab.async false
set_option linter.all false
set_option maxRecDepth 100000
set_option maxHeartbeats 2000000
namespace DL
open PySem PySem.Spec PyProof.Rows L2
end DL
set_option Elab.async false
set_option linter.all false
set_option maxRecDepth 100000
set_option maxHeartbeats 2000000
namespace DL
open PySem PySem.Spec PyProof.Rows L2
end DL
set_option Elab.async false
set_option linter.all false
set_option maxRecDepth 100000
set_option maxHeartbeats 2000000
namespace DM
open PySem PySem.Spec PyProof.Rows L2 He DL
end DM
set_option Elab.async false
set_option linter.all false
set_option maxRecDepth 100000
set_option maxHeartbeats 2000000
namespace DL
open PySem PySem.Spec PyProof.Rows L2
end DL
set_option Elab.async false
set_option linter.all false
set_option maxRecDepth 100000
set_option maxHeartbeats 2000000
namespace DM
open PySem PySem.Spec PyProof.Rows L2 He DL
end DM
set_option Elab.async false
set_option linter.all false
set_option maxRecDepth 100000
set_option maxHeartbeats 2000000
namespace DM
open PySem PySem.Spec PyProof.Rows L2 He DL
end DM
set_option Elab.async false
set_option linter.all false
set_option maxRecDepth 100000
set_option maxHeartbeats 2000000
namespace DL
open PySem PySem.Spec PyProof.Rows L2
end DL
set_option Elab.async false
set_option linter.all false
set_option maxRecDepth 100000
set_option maxHeartbeats 2000000
namespace DM
open PySem PySem.Spec PyProof.Rows L2 He DL
end DM
set_option Elab.async false
set_option linter.all false
set_option maxRecDepth 100000
set_option maxHeartbeats 2000000
namespace DL
open PySem PySem.Spec PyProof.Rows L2
end DL
set_option Elab.async false
set_option linter.all false
set_option maxRecDepth 100000
set_option maxHeartbeats 2000000
namespace DL
open PySem PySem.Spec PyProof.Rows L2
end DL
set_option Elab.async false
set_option linter.all false
set_option maxRecDepth 100000
set_option maxHeartbeats 2000000
namespace DM
open PySem PySem.Spec PyProof.Rows L2 He DL
end DM
set_option Elab.async false
set_option linter.all false
set_option maxRecDepth 100000
set_option maxHeartbeats 2000000
namespace DL
open PySem PySem.Spec PyProof.Rows L2
end DL
set_option Elab.async false
set_option linter.all false
set_option maxRecDepth 100000
set_option maxHeartbeats 4000000
namespace DL
open PySem PySem.Spec PyProof.Rows L2
end DL
set_option Elab.async false
set_option linter.all false
set_option maxRecDepth 100000
set_option maxHeartbeats 2000000
namespace DM
open PySem PySem.Spec PyProof.Rows L2 He DL
end DM
set_option Elab.async false
set_option linter.all false
set_option maxRecDepth 100000
set_option maxHeartbeats 2000000
namespace DM
open PySem PySem.Spec PyProof.Rows L2 He DL
end DM
set_option Elab.async false
set_option linter.all false
set_option maxRecDepth 100000
set_option maxHeartbeats 2000000
namespace DM
open PySem PySem.Spec PyProof.Rows L2 He DL
end DM
set_option Elab.async false
set_option linter.all false
set_option maxRecDepth 100000
set_option maxHeartbeats 2000000
namespace DL
open PySem PySem.Spec PyProof.Rows L2 He
end DL
set_option Elab.async false
set_option linter.all false
set_option maxRecDepth 100000
set_option maxHeartbeats 2000000
namespace DL
open PySem PySem.Spec PyProof.Rows L2 He
end DL
set_option Elab.async false
set_option linter.all false
set_option maxRecDepth 100000
set_option maxHeartbeats 2000000
namespace DL
open PySem PySem.Spec PyProof.Rows L2 He
end DL
set_option Elab.async false
set_option linter.all false
set_option maxRecDepth 100000
set_option maxHeartbeats 2000000
namespace DL
open PySem PySem.Spec PyProof.Rows L2 He
end DL
set_option Elab.async false
set_option linter.all false
set_option maxRecDepth 100000
set_option maxHeartbeats 2000000
namespace DL
open PySem PySem.Spec PyProof.Rows L2
end DL
set_option Elab.async false
set_option linter.all false
set_option maxRecDepth 100000
set_option maxHeartbeats 2000000
namespace DM
open PySem PySem.Spec PyProof.Rows L2 He DL
end DM
set_option Elab.async false
set_option linter.all false
set_option maxRecDepth 100000
set_option maxHeartbeats 2000000
namespace DL
open PySem PySem.Spec PyProof.Rows L2 He
end DL
namespace DL
open PySem PySem.Spec PyProof.Rows L2 He
end DL
set_option Elab.async false
set_option linter.all false
set_option maxRecDepth 100000
set_option maxHeartbeats 2000000
namespace DM
open PySem PySem.Spec PyProof.Rows L2 He DL
end DM
set_option Elab.async false
set_option linter.all false
set_option maxRecDepth 100000
set_option maxHeartbeats 2000000
namespace DL
open PySem PySem.Spec PyProof.Rows L2
end DL
set_option Elab.async false
set_option linter.all false
set_option maxRecDepth 100000
set_option maxHeartbeats 2000000
namespace DM
open PySem PySem.Spec PyProof.Rows L2 He DL
end DM
set_option Elab.async false
set_option linter.all false
set_option maxRecDepth 100000
set_option maxHeartbeats 2000000
namespace DL
open PySem PySem.Spec PyProof.Rows L2
end DL
set_option Elab.async false
set_option linter.all false
set_option maxRecDepth 100000
set_option maxHeartbeats 2000000
namespace DL
open PySem PySem.Spec PyProof.Rows L2 He
end DL
set_option Elab.async false
set_option linter.all false
set_option maxRecDepth 100000
set_option maxHeartbeats 2000000
namespace DM
open PySem PySem.Spec PyProof.Rows L2 He DL
end DM
set_option Elab.async false
set_option linter.all false
set_option maxRecDepth 100000
set_option maxHeartbeats 2000000
namespace DM
open PySem PySem.Spec PyProof.Rows L2 He DL
end DM
set_option Elab.async false
set_option linter.all false
set_option maxRecDepth 100000
set_option maxHeartbeats 2000000
namespace DM
open PySem PySem.Spec PyProof.Rows L2 He DL
end DM
set_option Elab.async false
set_option linter.all false
set_option maxRecDepth 100000
set_option maxHeartbeats 2000000
namespace DL
open PySem PySem.Spec PySem.SeqAt PySem.MeetsSeq PySem.Builtin PyProof.Rows L2
def keyP : Key → PyData
  | .inl i => .int i
  | .inr x => .str x
mutual
def D.pyx : D → PyData
  | .dct kvs => .dict (pyxK kvs)
  | .tup xs => .tuple (pyxA xs)
  | .lst xs => .list (pyxA xs)
  | .bl b => .bool b
  | .int i => .int i
  | .str s => .str s
  | _ => .none
def pyxA : List D → List PyData
  | [] => []
  | x :: xs => x.pyx :: pyxA xs
def pyxK : List (Key × D) → List (PyData × PyData)
  | [] => []
  | (k, x) :: xs => (keyP k, x.pyx) :: pyxK xs
end
mutual
def D.tdx : D → Bool
  | .dct kvs => tdxK kvs
  | .tup xs | .lst xs => tdxA xs
  | .non | .bl _ | .int _ | .str _ => true
  | _ => false
def tdxA : List D → Bool
  | [] => true
  | x :: xs => x.tdx && tdxA xs
def tdxK : List (Key × D) → Bool
  | [] => true
  | (_, x) :: xs => x.tdx && tdxK xs
end
theorem kvs_len89 {kvs : List (PyData × PyData)} (hz : ∀ p ∈ PyData.shownKv kvs, p.length ≤ sizeLine) : (∀ t ∈ PyData.shownAll (kvs.map (·.1)), t.length ≤ sizeLine) ∧ ∀ t ∈ PyData.shownAll (kvs.map (·.2)), t.length ≤ sizeLine :=
  ⟨fun t ht => let ⟨p, hp, hl⟩ := PyData.shownKv_key_le kvs t ht; Nat.le_trans hl (hz p hp), fun t ht => let ⟨p, hp, hl⟩ := PyData.shownKv_val_le kvs t ht; Nat.le_trans hl (hz p hp)⟩
section
variable {X : Cx} {pins : List (Addr × Obj)} {σ : L2.St} {H : Hp} {s : Shared}
mutual
theorem shw_of (I : Inv X pins σ H s) : ∀ (d : D) {v : V} {u : Value}, Rp X.K H v d → d.tdx = true → d.pyx.showable = true → d.pyx.shown.length ≤ sizeLine → RelV v u → Shw X.prog X.w s.heap u d.pyx
  | .non, _, u, .non, _, _, _, ru => by
    obtain rfl : u = Value.none := ru
    exact .none
  | .bl b, _, u, .bl _, _, _, _, ru => by
    obtain rfl : u = Value.bool b := ru
    exact .bool b
  | .int i, _, u, .int _, _, hs, _, ru => by
    obtain ⟨t, rfl⟩ : ∃ t, u = Value.int i t := ru
    exact .int hs
  | .str z, _, u, .str _, _, _, hz, ru => by
    obtain ⟨t, rfl⟩ : ∃ t, u = Value.str z t := ru
    exact .str hz
  | .tup xs, _, u, .tup (a := a) (vs := vs) hq ra, ht, hs, hz, ru => by
    obtain rfl : u = Value.ref a := ru
    obtain ⟨its, rv, ⟨o, ho, hc, n, hd⟩, _⟩ := I.tuple hq.t
    have hz' : (tupleText (PyData.shownAll (pyxA xs))).length ≤ sizeLine := by simpa only [D.pyx, PyData.shown] using hz
    have := shw_ofA I xs ra (by simpa [D.tdx] using ht) (by simpa [D.pyx, PyData.showable] using hs) (fun t ht => Nat.le_trans (tupleText_mem_le ht) hz') rv
    unfold D.pyx
    exact .tuple ho hc hd (by simpa using this)
  | .lst xs, _, u, .lst (a := a) (vs := vs) hq ra, ht, hs, hz, ru => by
    obtain rfl : u = Value.ref a := ru
    obtain ⟨its, rv, pl, _⟩ := I.list (SqL.of hq)
    obtain ⟨o, ho, hc, n, hd⟩ := pl.isList
    have hz' : (listText (PyData.shownAll (pyxA xs))).length ≤ sizeLine := by simpa only [D.pyx, PyData.shown] using hz
    have := shw_ofA I xs ra (by simpa [D.tdx] using ht) (by simpa [D.pyx, PyData.showable] using hs) (fun t ht => Nat.le_trans (listText_mem_le ht) hz') rv
    unfold D.pyx
    exact .list ho hc hd (by simpa using this)
  | .dct kds, _, u, .dct (a := a) (o := o) (kvs := kvs) hq ra, ht, hs, hz, ru => by
    obtain rfl : u = Value.ref a := ru
    obtain ⟨_, ns, vs, kv, ox, es, ep, e1, ⟨ec, _, _⟩, e2, _, e3, _⟩ := dk_rd I.hok (.inr ⟨o, hq⟩ : Rd H a (.dK kvs))
    have hz' : (dictText (PyData.shownKv (pyxK kds))).length ≤ sizeLine := by simpa only [D.pyx, PyData.shown] using hz
    obtain ⟨t1, t2⟩ := shw_ofK I kds ra (by simpa [D.tdx] using ht) (by simpa [D.pyx, PyData.showable] using hs) (fun t ht => Nat.le_trans (dictText_mem_le ht) hz') kv e3
    unfold D.pyx
    exact .dict e1 ec e2 ns t1 t2
theorem shw_ofA (I : Inv X pins σ H s) : ∀ (ds : List D) {vs : List V} {us : List Value}, RpA X.K H vs ds → tdxA ds = true → PyData.showableAll (pyxA ds) = true → (∀ t ∈ PyData.shownAll (pyxA ds), t.length ≤ sizeLine) → Vals vs us → ShwA X.prog X.w s.heap us (pyxA ds)
  | [], _, _, .nil, _, _, _, .nil => .nil
  | d :: ds, _, _, .cons r t, ht, hs, hz, .cons ru tu => by
    rw [tdxA, Bool.and_eq_true] at ht
    have hs' : d.pyx.showable = true ∧ PyData.showableAll (pyxA ds) = true := by simpa [pyxA, PyData.showableAll] using hs
    unfold pyxA
    exact .cons (shw_of I d r ht.1 hs'.1 (hz _ (by simp only [pyxA, PyData.shownAll]; exact List.mem_cons_self ..)) ru)
      (shw_ofA I ds t ht.2 hs'.2 (fun t ht => hz t (by simp only [pyxA, PyData.shownAll]; exact List.mem_cons_of_mem _ ht)) tu)
theorem shw_ofK (I : Inv X pins σ H s) : ∀ (ds : List (Key × D)) {kvs : List (Key × V)} {vs : List (Key × Value)} {es : List DictEntry}, RpK X.K H kvs ds → tdxK ds = true → PyData.showableKv (pyxK ds) = true → (∀ t ∈ PyData.shownKv (pyxK ds), t.length ≤ sizeLine) → KV kvs vs → PySem.Pairs (mixKind X.prog X.w) es vs →
    ShwA X.prog X.w s.heap (es.map (·.key)) ((pyxK ds).map (·.1)) ∧ ShwA X.prog X.w s.heap (es.map (·.val)) ((pyxK ds).map (·.2))
  | [], _, _, _, .nil, _, _, _, .nil, .nil => ⟨.nil, .nil⟩
  | (k, d) :: ds, _, _, _, .cons r t, ht, hs, hz, .cons (b := q) ru tu, .cons (e := e) (es := es) hk hv tp => by
    rw [tdxK, Bool.and_eq_true] at ht
    have hs' : ((keyP k).showable = true ∧ d.pyx.showable = true) ∧ PyData.showableKv (pyxK ds) = true := by simpa [pyxK, PyData.showableKv] using hs
    obtain ⟨z1, z2⟩ := kvs_len89 hz
    obtain ⟨t1, t2⟩ := shw_ofK I ds t ht.2 hs'.2 (fun t ht => hz t (by simp only [pyxK, PyData.shownKv]; exact List.mem_cons_of_mem _ ht)) tu tp
    have zk : (keyP k).shown.length ≤ sizeLine := z1 _ (by simp only [pyxK, List.map_cons, PyData.shownAll]; exact List.mem_cons_self ..)
    have zv : d.pyx.shown.length ≤ sizeLine := z2 _ (by simp only [pyxK, List.map_cons, PyData.shownAll]; exact List.mem_cons_self ..)
    obtain ⟨ek, rv⟩ := ru
    have ek : k = q.1 := ek
    have hk' : keyIs k e.key = true := by rw [ek]; exact hk
    refine ⟨?_, ?_⟩
    · simp only [pyxK, List.map_cons]
      refine .cons ?_ t1
      rcases keyIs_shape hk' with ⟨i, t, rfl, he⟩ | ⟨x, t, rfl, he⟩
      · rw [he]; exact .int hs'.1.1
      · rw [he]; exact .str zk
    · simp only [pyxK, List.map_cons]
      refine .cons ?_ t2
      rw [hv]
      exact shw_of I d r ht.1 hs'.1.2 zv rv
end
end
def D.hard : D → Bool
  | .tup _ | .lst _ | .dct _ => true
  | _ => false
def D.showy (d : D) : Bool := d.hard && d.tdx && d.pyx.showable && decide (d.pyx.depth ≤ 100) && decide (d.pyx.shown.length ≤ sizeLine)
def reprY (d : D) : R D := if d.showy then .ok (.str d.pyx.shown) else reprD d
def rReprY (K : Fg) : List V → Hp → VK → Prop := fun xs H Q => (∃ x d, xs = [x] ∧ Rp K H x d ∧ d.hard = true ∧ d.tdx = true ∧ d.pyx.showable = true ∧ d.pyx.depth ≤ 100 ∧ d.pyx.shown.length ≤ sizeLine ∧ Q (.str d.pyx.shown) H) ∨ rRepr K xs H Q
theorem cr_reprY {X : Cx} (hg : X.A.guards = some []) (hu : X.A.units + 200 < cLine) : CallR X (.builtin "repr") (rReprY X.K) := by
  intro pins s σ H xs us Q I r h
  rcases h with ⟨x, d, rfl, hd, hh, ht, hs, hdp, hz, q⟩ | h
  rotate_left
  · exact cr_repr hg hu pins s σ H xs us Q I r h
  obtain ⟨u, rfl, rx⟩ := vals1 r
  cases d with
  | non => simp [D.hard] at hh
  | bl b => simp [D.hard] at hh
  | int i => simp [D.hard] at hh
  | str z => simp [D.hard] at hh
  | scr z => simp [D.hard] at hh
  | ins z y => simp [D.hard] at hh
  | cls z => simp [D.hard] at hh
  | exn z y t p => simp [D.hard] at hh
  | clo z y t => simp [D.hard] at hh
  | exv z y => simp [D.hard] at hh
  | tup xs =>
    cases hd with
    | @tup a vs _ hq ra =>
      obtain rfl : u = Value.ref a := rx
      obtain ⟨its, rv, ⟨o, ho, hc, n, hdt⟩, _⟩ := I.tuple hq.t
      simp only [D.pyx, PyData.shown] at hz q
      simp only [D.pyx, PyData.depth] at hdp
      obtain ⟨as, bs, h4, hb, hk⟩ := shw_ofA I xs ra (by simpa [D.tdx] using ht) (by simpa [D.pyx, PyData.showable] using hs) (fun t ht => Nat.le_trans (tupleText_mem_le ht) hz) rv
      have rd : Reads s.heap (.ref a) (.tuple (pyxA xs)) _ := .tuple ho hc hdt (by simpa using h4)
      have hna : a ∉ bs := not_mem_of_deeper rd (by simp only [PyData.depth]; omega) hb
      exact call_repr_slot (by omega) ⟨o, ho, hc⟩ F.slot_tuple_repr (call_tuple_reprK ho hc hdt hna (by simpa using hk) hg (fun b _ => Clear.nil b) (by show X.A.units + 1 + _ < cLine; omega) (fun _ _ e => e) (fun h' u tk hk' => ⟨_, _, rfl, ⟨.str _, H, I.kept hk', ⟨_, rfl⟩, q⟩⟩) hz)
  | lst xs =>
    cases hd with
    | @lst a vs _ hq ra =>
      obtain rfl : u = Value.ref a := rx
      obtain ⟨its, rv, pl, _⟩ := I.list (SqL.of hq)
      obtain ⟨o, ho, hc, n, hdt⟩ := pl.isList
      simp only [D.pyx, PyData.shown] at hz q
      simp only [D.pyx, PyData.depth] at hdp
      obtain ⟨as, bs, h4, hb, hk⟩ := shw_ofA I xs ra (by simpa [D.tdx] using ht) (by simpa [D.pyx, PyData.showable] using hs) (fun t ht => Nat.le_trans (listText_mem_le ht) hz) rv
      have rd : Reads s.heap (.ref a) (.list (pyxA xs)) _ := .list ho hc hdt (by simpa using h4)
      have hna : a ∉ bs := not_mem_of_deeper rd (by simp only [PyData.depth]; omega) hb
      refine call_repr_slot (by omega) ⟨o, ho, hc⟩ F.slot_list_repr.toG ?_
      cases its with
      | nil =>
        have e : pyxA xs = [] := by
          cases xs with
          | nil => rfl
          | cons y ys => cases ra; cases rv
        rw [e] at q
        simp only [PyData.shownAll, listText_nil] at q
        exact call_list_repr_empty ⟨o, ho, hc⟩ ho hdt ⟨_, _, rfl, ⟨.str _, H, I.tok _, ⟨_, rfl⟩, q⟩⟩
      | cons y l =>
        exact call_list_reprK ho hc hdt hna (by simpa using hk.length_eq) (fun i z e => hk.item i z (by simpa using e)) hg (fun b _ => Clear.nil b) (by show X.A.units + 1 + _ < cLine; omega) (fun _ _ e => e) (fun h' u tk hk' => ⟨_, _, rfl, ⟨.str _, H, I.kept hk', ⟨_, rfl⟩, q⟩⟩) hz
  | dct kds =>
    cases hd with
    | @dct a o kvs _ hq ra =>
      obtain rfl : u = Value.ref a := rx
      obtain ⟨_, ns, vs, kv, ox, es, ep, e1, ⟨ec, _, _⟩, e2, _, e3, _⟩ := dk_rd I.hok (.inr ⟨o, hq⟩ : Rd H a (.dK kvs))
      simp only [D.pyx, PyData.shown, PyData.shownKv_eq] at hz q
      simp only [D.pyx, PyData.depth] at hdp
      have hz' : (dictText (PyData.shownKv (pyxK kds))).length ≤ sizeLine := by rw [PyData.shownKv_eq]; exact hz
      obtain ⟨⟨a1, b1, h4, hb1, k1⟩, a2, b2, h5, hb2, k2⟩ := shw_ofK I kds ra (by simpa [D.tdx] using ht) (by simpa [D.pyx, PyData.showable] using hs) (fun t ht => Nat.le_trans (dictText_mem_le ht) hz') kv e3
      have rd : Reads s.heap (.ref a) (.dict (pyxK kds)) _ := .dict e1 ec e2 h4 h5
      have hb : ReadAtMost s.heap (PyData.depthKv (pyxK kds)) (b1 ++ b2) := (hb1.mono (PyData.depthAll_keys_le _)).append (hb2.mono (PyData.depthAll_vals_le _))
      have hna : a ∉ b1 ++ b2 := not_mem_of_deeper rd (by simp only [PyData.depth]; omega) hb
      exact call_repr_slot (by omega) ⟨ox, e1, ec⟩ F.slot_dict_repr (call_dict_reprK e1 ec e2 ns hna (ReprEntriesK.of_two es.toList _ _
        (k1.more_le (fun b hb => List.mem_append_left _ hb) (PyData.depthAll_keys_le _)) (k2.more_le (fun b hb => List.mem_append_right _ hb) (PyData.depthAll_vals_le _))) hg (fun b _ => Clear.nil b) (by show X.A.units + 1 + _ < cLine; omega) (fun _ _ e => e) (fun h' u tk hk' => ⟨_, _, rfl, ⟨.str _, H, I.kept hk', ⟨_, rfl⟩, q⟩⟩) hz)
theorem od_reprY {K : Fg} : Op1 K Zd (fun x H Q => rReprY K [x] H Q) reprY := by
  intro W σ θ G ρ Ws H x a Q hx q
  unfold reprY at q
  split at q
  · rename_i h
    unfold D.showy at h
    simp only [Bool.and_eq_true, decide_eq_true_eq] at h
    obtain ⟨⟨⟨⟨h1, h2⟩, h3⟩, h4⟩, h5⟩ := h
    exact .inl ⟨x, a, rfl, hx, h1, h2, h3, h4, h5, q.val (.str _)⟩
  · exact .inr (od_repr hx q)
section
variable {X : Cx} {W : WX} {e : Expr} {fa : List Sl → R D} {Za : ZK} [ZOk Za] {k : Nat} {p pos : Pos}
theorem w_reprY (hgd : X.A.guards = some []) (hr : Room k X.A) (hm : X.mg "repr" = none) (ha : DZ Za X W e fa) (hg : Gl X "repr" := by rfl) (hs : starEach [e] X.env = (false, eval e X.env) :: starEach [] X.env := by rfl) (hpl : (backTo pos (starEach [] X.env)).any (·.1) = false := by rfl) : DP X W (.Call (.Name "repr" p) [e] [] pos) (p1 reprY fa) :=
  dp_call1 od_reprY ha.dirty (fun _ h => pe_callB (cr_reprY hgd (by have := hr.un; omega)) hg hm boot_repr h (by decide) (by decide) hs hpl) hs
end
end DL
namespace DL
open PySem PySem.Spec PySem.SeqAt PySem.MeetsSeq PySem.Builtin PyProof.Rows L2
end DL
set_option Elab.async false
set_option linter.all false
set_option maxRecDepth 100000
set_option maxHeartbeats 2000000
namespace DM
open PySem PySem.Spec PyProof.Rows L2 He DL
end DM
set_option Elab.async false
set_option linter.all false
set_option maxRecDepth 100000
set_option maxHeartbeats 2000000
namespace DL
open PySem PySem.Spec PyProof.Rows L2
theorem upd_back {H : Hp} {a dx : Addr} {o1 o2 o3 : HO} (ne : dx ≠ a) : upd (upd (upd H a o1) dx o2) a o3 = upd (upd H dx o2) a o3 := by
  funext b
  by_cases h : b = a
  · rw [h, upd_same, upd_same]
  · rw [upd_ne h, upd_ne h]
    by_cases h2 : b = dx
    · rw [h2, upd_same, upd_same]
    · rw [upd_ne h2, upd_ne h2, upd_ne h]
end DL
set_option Elab.async false
set_option linter.all false
set_option maxRecDepth 100000
set_option maxHeartbeats 2000000
namespace PySem
namespace OEK
open PySem.W PySem.Calls PyProof.Rows PySem.HandSPX
section
variable {M : Model} {A : Around} {E : Value → Shared → Prop} {h : Heap} {g : Array GenState} {d : Drawn} {t : Nat} {os : OsState}
variable {nm q : Str} {C N : Addr} {bs bm bmB : List Value} {hdct : Bool} {sn : List Str} {sub : List Value} {ab : Bool} {col : Option Bool} {dd : Option Addr} {k0 k1 k2 k3 k5 : Option Value} {B newId initId : String} {kw : List (Str × Value)}
theorem check_newK (F : ExcBaseFacts B newId initId bmB) (hT : ∀ X : String, bm.contains (.type X) = bmB.contains (.type X)) {rest : List Value} {Q : Unit → Shared → Prop}
    (hC : h.get? C = some (excClassObj nm q C N bs bm hdct sn sub ab col dd k0 k1 k2 k3 k5 newId)) (hq : Q () ⟨h, g, d, t, os⟩) : wpAny M A (checkBuiltinCall newId ⟨.ref C :: rest, kw⟩) Q E ⟨h, g, d, t, os⟩ := by
  have hcont : (Value.ref C :: bm).contains (.type B) = true := by rw [List.contains_cons, hT, F.hasB, Bool.or_true]
  have hstar := F.noStar
  simp only [checkBuiltinCall, F.newKind, F.newSplit, F.newRow]
  repeat (first | refine wpAny_loadPart_at hC ?_ | (refine wpAny_isSubtype_exc hC ?_; rw [hcont]) | refine wpAny_staticBase_exc hC ?_ | refine wpAny_madeBy_exc hC ?_ | simp only [bne_self_eq_false, Bool.false_eq_true, if_false] | wp_step)
  exact hq
theorem check_tcK {rest : List Value} {Q : Unit → Shared → Prop} (hC : h.get? C = some (excClassObj nm q C N bs bm hdct sn sub ab col dd k0 k1 k2 k3 k5 newId))
    (hq : Q () ⟨h, g, d, t, os⟩) : wpAny M A (checkBuiltinCall "type.__call__" ⟨.ref C :: rest, kw⟩) Q E ⟨h, g, d, t, os⟩ := by
  have f3 := tc_sub
  have hT : (⟨h, g, d, t, os⟩ : Shared).TypeIs (.ref C) "type" := ⟨_, hC, rfl⟩
  simp only [checkBuiltinCall, tc_kind, tc_split]
  repeat (any_goals (first | assumption | with_reducible refine wpAny_loadPart_at hC ?_ | with_reducible refine wpAny_onRaise ?_ | with_reducible refine wpAny_map ?_ | wp_step))
end
section
variable {prog : Program} {w : World} {A : Around} {E : Value → Shared → Prop} {R : Result → Shared → Prop} {h : Heap} {g : Array GenState} {d : Drawn} {t : Nat} {os : OsState}
variable {nm q : Str} {C N : Addr} {bs bm bmB : List Value} {hdct : Bool} {sn : List Str} {sub : List Value} {ab : Bool} {col : Option Bool} {dd : Option Addr} {k0 k1 k2 k3 k5 : Option Value} {B newId initId : String} {kw : List (Str × Value)}
theorem newK (F : ExcBaseFacts B newId initId bmB) (hT : ∀ X : String, bm.contains (.type X) = bmB.contains (.type X)) {rest : List Value}
    (hC : h.get? C = some (excClassObj nm q C N bs bm hdct sn sub ab col dd k0 k1 k2 k3 k5 newId))
    (hq : R (.ok (.ret (.ref (h.objs.size + 1)))) ⟨(h.push { cls := .type "tuple", data := .seq rest.toArray }).push
      { cls := .ref C, data := .fields #[.ref h.objs.size, .none, .none, .none, .bool false, .none] }, g, d, t, os⟩) (hrest : rest.length ≤ sizeLine) :
    codeAny (model prog w) A (.builtin newId ⟨.ref C :: rest, kw⟩) R ⟨h, g, d, t, os⟩ := by
  have hends := F.ends
  have hcB : (Value.ref C :: bm).contains (.type B) = true := by rw [List.contains_cons, hT, F.hasB, Bool.or_true]
  have hcA : (Value.ref C :: bm).contains (.type "AttributeError") = false := by rw [List.contains_cons, hT, F.noAttr]; rfl
  have hcN : (Value.ref C :: bm).contains (.type "NameError") = false := by rw [List.contains_cons, hT, F.noName]; rfl
  refine codeAny_builtinAt F.entry ?_
  unfold Builtin.«BaseException.__new__»
  refine wpAt_bind ?_
  show wpAt _ _ _ (stack >>= _) _ _ _
  refine wpAt_bind (wpAt_stack fun p below => wpAt_of_wpAny ?_)
  wp_walk
  refine wpAt_of_wpAny ?_
  rw [F.owner]
  repeat (first | with_reducible refine wpAny_madeHere_exc F.canon hC ?_ | with_reducible refine wpAny_loadPart_at hC ?_ | (with_reducible refine wpAny_isSubtype_exc hC ?_; first | rw [hcB] | rw [hcA] | rw [hcN]) | wp_step)
  show R _ _
  rw [Heap.size_push]
  exact hq
theorem tcK (F : ExcBaseFacts B newId initId bmB) (hT : ∀ X : String, bm.contains (.type X) = bmB.contains (.type X)) {rest : List Value} {fI : Addr} {Q : Fin → Shared → Prop}
    (hC : h.get? C = some (excClassObj nm q C N bs bm hdct sn sub ab col dd k0 k1 k2 k3 k5 newId))
    (hi : W.Looks (model prog w) h (typeLookup (.ref C) "__init__") (some (.ref fI))) (hb : ∀ self, W.Looks (model prog w) h (bindSpecial (.ref fI) self) (.ref fI, [self])) (hrest : rest.length ≤ sizeLine)
    (hq : codeAny (model prog w) A (.call (.ref fI) ⟨.ref (h.objs.size + 1) :: rest, kw⟩)
      (fun r s' => match r with | .ok (.ret v) => v = .none ∧ Q (.done (.ret (.ref (h.objs.size + 1)))) s' | .ok _ => False | .error e => E e s')
      ⟨(h.push (W.kdv_tup rest)).push (excO C h.objs.size), g, d, t, os⟩) :
    wpAny (model prog w) A (Builtin.«type.__call__» ⟨.ref C :: rest, kw⟩) Q E ⟨h, g, d, t, os⟩ := by
  repeat (first | with_reducible refine wpAny_loadPart_at hC ?_ | with_reducible refine wpAny_madeBy_exc hC ?_ | wp_step)
  refine codeAny_call_builtin_code (Code.quiet_builtin _ F.quiet) (check_newK F hT hC ?_)
  refine newK F hT hC ?_ hrest
  show wpAny _ _ _ _ _ _
  have k : ∀ b o, h.get? b = some o → ((h.push (W.kdv_tup rest)).push (excO C h.objs.size)).get? b = some o := fun b o e => Heap.get?_push_of_some _ (Heap.get?_push_of_some _ e)
  have hC₁ := k _ _ hC
  have hget : ((h.push (W.kdv_tup rest)).push (excO C h.objs.size)).get? (h.objs.size + 1) = some (excO C h.objs.size) := by heap_get
  have hcC : (Value.ref C :: bm).contains (.ref C) = true := by simp
  have i1 := hi.keeps k
  have b1 := (hb (.ref (h.objs.size + 1))).keeps k
  unfold isInstance
  repeat (first | with_reducible refine wpAny_loadPart_at hget ?_ | (with_reducible refine wpAny_isSubtype_exc hC₁ ?_; rw [hcC]) | wp_step)
  show wpAny _ _ (typeLookup (.ref C) _) _ _ _
  refine i1.at ?_
  refine wpAny_holding (wpAny_bind (b1.at ?_))
  refine wpAny_bind (wpAny_call (codeAny_mono hq fun r s' z => ?_))
  rcases r with e | (v | _ | _ | _) <;> first | exact z | exact z.elim | skip
  obtain ⟨rfl, z⟩ := z
  first
    | exact wpAny_pure (wpAny_pure z)
    | (wp_walk; exact z)
theorem callK (F : ExcBaseFacts B newId initId bmB) (hT : ∀ X : String, bm.contains (.type X) = bmB.contains (.type X)) {rest : List Value} {fI : Addr}
    (hC : h.get? C = some (excClassObj nm q C N bs bm hdct sn sub ab col dd k0 k1 k2 k3 k5 newId))
    (hi : W.Looks (model prog w) h (typeLookup (.ref C) "__init__") (some (.ref fI))) (hb : ∀ self, W.Looks (model prog w) h (bindSpecial (.ref fI) self) (.ref fI, [self])) (hrest : rest.length ≤ sizeLine)
    (hq : codeAny (model prog w) (A.under (.builtin "type.__call__" ⟨.ref C :: rest, kw⟩)) (.call (.ref fI) ⟨.ref (h.objs.size + 1) :: rest, kw⟩) (W.InitBack (h.objs.size + 1) R)
      ⟨(h.push (W.kdv_tup rest)).push (excO C h.objs.size), g, d, t, os⟩) :
    codeAny (model prog w) A (.call (.ref C) ⟨rest, kw⟩) R ⟨h, g, d, t, os⟩ := by
  have f1 := tc_lookup
  have f2 := tc_bind (.ref C)
  have hTy : (⟨h, g, d, t, os⟩ : Shared).TypeIs (.ref C) "type" := ⟨_, hC, rfl⟩
  refine codeAny_of_tree ?_
  show wpAny _ _ (callAny (.ref C) _) _ _ _
  repeat (any_goals (first | assumption | with_reducible refine wpAny_loadPart_at hC ?_ | wp_step))
  refine ⟨rfl, ?_⟩
  refine codeAny_call_builtin_at (Code.quiet_builtin _ (by decide +kernel)) entry_typeCall (check_tcK hC (tcK F hT hC hi hb hrest ?_))
  refine codeAny_mono hq fun r s' z => ?_
  rcases r with e | (v | _ | _ | _) <;> exact z
end
end OEK
end PySem
set_option Elab.async false
set_option linter.all false
set_option maxRecDepth 100000
set_option maxHeartbeats 2000000
namespace DL
open PySem PySem.Spec PyProof.Rows L2
/-- a class of errors: its base's `__new__` makes it -/
structure EbC (K : Fg) (C : Addr) : Prop where
  cls : ∃ (B nw ini : String) (bmB bm : List Value) (nm q : Str) (N : Addr) (bs : List Value) (sn : List Str) (sub : List Value) (ab : Bool) (col : Option Bool) (dd : Option Addr) (k0 k1 k2 k3 k5 : Option Value),
    ExcBaseFacts B nw ini bmB ∧ (∀ Y : String, bm.contains (.type Y) = bmB.contains (.type Y)) ∧ K.lookup C = some (excClassObj nm q C N bs bm true sn sub ab col dd k0 k1 k2 k3 k5 nw)
  kC : PySem.W.keepIn K (.ref C) = true
theorem OexC.eb {K : Fg} {C : Addr} (T : OexC K C) : EbC K C := by
  obtain ⟨nm, q, N, bs, bm, sn, sub, ab, col, dd, k0, k1, k2, k3, k5, hC, hbm⟩ := T.cls
  exact ⟨⟨_, _, _, _, bm, nm, q, N, bs, sn, sub, ab, col, dd, k0, k1, k2, k3, k5, F.excBase_ValueError, fun Y => PySem.HandSPX.refsVE_contains Y bm hbm, hC⟩, T.kC⟩
theorem OexT.eb {K : Fg} {C : Addr} (T : OexT K C) : EbC K C := by
  obtain ⟨tl, nw, nm, q, N, bs, bm, sn, sub, ab, col, dd, k0, k1, k2, k3, k5, bx, hC, hbm⟩ := T.cls
  obtain ⟨B, ini, FB⟩ := bx.b
  exact ⟨⟨B, nw, ini, tl, bm, nm, q, N, bs, sn, sub, ab, col, dd, k0, k1, k2, k3, k5, FB, fun Y => hbm.has Y, hC⟩, T.kC⟩
section
variable {X : Cx} {W : WX} {k n : Nat} {fI C : Addr} {fd : FuncData} {ps ks : List Str} {sp : Sp} {idx : List Nat} {dvs : List V}
theorem runs_exc (T : EbC X.K C) (iC : PySem.W.findIn X.K (.ref C) "__init__" = some (some (.ref fI))) (tI : PySem.W.typeIn X.K (.ref fI) = some (.type "function")) (F1 : FnOk X.prog X.w X.K X.mg X.base (L2N.CX X.prog X.w) k fI fd ps sp) (hr : Room (k + 1) X.A) (hn : n ≤ 1000) (hb : KwB X.K fd ps 1 n ks dvs idx) (tk : L2N.Takes X W) :
    Runs X W (.ref C) n ks dvs (fun all H Q E => ∀ y, H y = none → sp (.ref y :: pick idx all) (upd H y (exo y C none)) (fun v H2 => v = .non ∧ Q (.ref y) H2) E) := by
  intro pins σ H s us ws all Q I l1 l2 r h
  obtain ⟨B, nw, ini, bmB, bm, nm, q, N, bs, sn, sub, ab, col, dd, k0, k1, k2, k3, k5, FB, hT, hC⟩ := T.cls
  obtain ⟨its, ri, b⟩ := hb
  obtain ⟨hp, gs, dr, tok, os⟩ := s
  have up : hp.objs.size ≤ hp.objs.size + 1 := Nat.le_succ _
  have hq := h (hp.objs.size + 1) (I.hok.fresh up)
  have keep : ∀ b o, hp.get? b = some o → ((hp.push (PySem.W.kdv_tup us)).push (PySem.HandSPX.excO C hp.objs.size)).get? b = some o := fun b o z => Heap.get?_push_of_some _ (Heap.get?_push_of_some _ z)
  have got : ((hp.push (PySem.W.kdv_tup us)).push (PySem.HandSPX.excO C hp.objs.size)).get? (hp.objs.size + 1) = some (PySem.HandSPX.excO C hp.objs.size) := by heap_get
  have I2 := I.laid (t' := tok) (a := hp.objs.size + 1) (o := exo (hp.objs.size + 1) C none) (h' := (hp.push (PySem.W.kdv_tup us)).push (PySem.HandSPX.excO C hp.objs.size)) keep up (exo_ok got)
  have b := b _ [.ref (hp.objs.size + 1)] us ws I2.kIn rfl l1 l2
  have rr : Vals (V.ref (hp.objs.size + 1) :: pick idx (all ++ dvs)) ([Value.ref (hp.objs.size + 1)] ++ pick idx (us ++ ws ++ its)) := .cons rfl (vals_pick (r.append ri) idx)
  have run := F1.run _ X.stack _ _ ⟨[Value.ref (hp.objs.size + 1)] ++ us, ks.zip ws⟩ _ _ _ (WE W σ) (hr.make C us (ks.zip ws)) (I2.env0.make C us (ks.zip ws)) b rr hq
  have few : us.length ≤ sizeLine := by rw [l1, sizeLine_eq]; omega
  refine wpAny_call (PySem.OEK.callK FB hT (I.kIn _ _ hC) (PySem.W.looks_findIn I.kIn iC) (fun self => PySem.W.bind_fn I.kIn self tI) few (codeAny_mono run fun r s' hq' => ?_))
  match r, hq' with
  | .error e, hq' => exact L2N.passAt tk σ pins _ _ e s' I2 hq'
  | .ok (.ret u), hq' =>
    obtain ⟨v, H', os2, bare2, un2, hok2, rv, ev, q3⟩ := hq'
    subst ev
    exact ⟨rv, ⟨V.ref (hp.objs.size + 1), H', I2.call' (ch := []) os2 un2 hok2 bare2 (fun b z => absurd z (by simp)), rfl, q3⟩⟩
  | .ok .next, hq' => exact hq'.elim
  | .ok .brk, hq' => exact hq'.elim
  | .ok .cont, hq' => exact hq'.elim
end
/-- what the text says of a class of errors that keeps one value -/
structure ErV (P : Program) (w : World) (K : Fg) (mg : Str → Option Value) (base : Heap) (x fx : Str) (C : Addr) : Prop where
  eb : EbC K C
  hm : mg x = some (.ref C)
  ex : ∃ sp fI fd, PySem.W.findIn K (.ref C) "__init__" = some (some (.ref fI)) ∧ PySem.W.typeIn K (.ref fI) = some (.type "function") ∧ FnOk P w K mg base (L2N.CX P w) 1 fI fd ["self", fx] sp ∧
    KwB K fd ["self", fx] 1 1 [] [] [0] ∧ KwB K fd ["self", fx] 1 0 [fx] [] [0] ∧
    ∀ a x H Q E, H a = some (exo a C none) → (∀ dx, H dx = none → dx ≠ a → Q .non (upd (upd H dx (exd dx [(fx, x)])) a (exo a C (some dx)))) → sp [.ref a, x] H Q E
theorem ErrD.ev {P : Program} {w : World} {K : Fg} {mg : Str → Option Value} {base : Heap} {x fx : Str} {C fI : Addr} {fd : FuncData} (T : OexC K C) (hm : mg x = some (.ref C)) (no : PySem.W.findIn K (.ref C) fx = some none)
    (h1 : PySem.W.findIn K (.ref C) "__init__" = some (some (.ref fI))) (h2 : PySem.W.typeIn K (.ref fI) = some (.type "function")) (h3 : FnOk P w K mg base (L2N.CX P w) 1 fI fd ["self", fx] (spErr K C fx)) (h4 : KwB K fd ["self", fx] 1 1 [] [] [0]) (h5 : KwB K fd ["self", fx] 1 0 [fx] [] [0]) : ErV P w K mg base x fx C :=
  ⟨OexC.eb T, hm, _, fI, fd, h1, h2, h3, h4, h5, fun a x H Q E e q => ⟨a, x, rfl, T, no, e, q⟩⟩
theorem ErrT.ev {P : Program} {w : World} {K : Fg} {mg : Str → Option Value} {base : Heap} {x fx : Str} {C fI : Addr} {fd : FuncData} (T : OexT K C) (hm : mg x = some (.ref C)) (no : PySem.W.findIn K (.ref C) fx = some none)
    (h1 : PySem.W.findIn K (.ref C) "__init__" = some (some (.ref fI))) (h2 : PySem.W.typeIn K (.ref fI) = some (.type "function")) (h3 : FnOk P w K mg base (L2N.CX P w) 1 fI fd ["self", fx] (spErrT K C fx)) (h4 : KwB K fd ["self", fx] 1 1 [] [] [0]) (h5 : KwB K fd ["self", fx] 1 0 [fx] [] [0]) : ErV P w K mg base x fx C :=
  ⟨OexT.eb T, hm, _, fI, fd, h1, h2, h3, h4, h5, fun a x H Q E e q => ⟨a, x, rfl, T, no, e, q⟩⟩
/-- C(e) or C(fx=e) -/
def mkXL (C : Addr) (fx : Str) : List D → R D
  | [d] => .ok (.exv C [(fx, d)])
  | _ => .st
section
variable {X : Cx} {W : WX} {x fx : Str} {C : Addr} {n : Nat} {ks : List Str} {es : List Expr} {kws : List Keyword} {g : List Sl → R (List D)} {p pos : Pos} {sp : Sp}
theorem dp_errA (hm : X.mg x = some (.ref C)) (hk : PySem.W.keepIn X.K (.ref C) = true) (r : Runs X W (.ref C) n ks [] (fun all H Q E => ∀ y, H y = none → sp (.ref y :: pick [0] all) (upd H y (exo y C none)) (fun v H2 => v = .non ∧ Q (.ref y) H2) E))
    (hsp : ∀ a x H Q E, H a = some (exo a C none) → (∀ dx, H dx = none → dx ≠ a → Q .non (upd (upd H dx (exd dx [(fx, x)])) a (exo a C (some dx)))) → sp [.ref a, x] H Q E)
    (ha : DArg X W pos es kws n ks g) (hg : Gl X x := by rfl) (hdb : (x == ("__debug__" : Str)) = false := by decide) : DP X W (.Call (.Name x p) es kws pos) (pA (mkXL C fx) g) :=
  ⟨PE.conseq (pe_callA (dvs := []) (W := W) hm hk hg hdb r ha.aa) fun σ H Q ⟨θ, G, ρ, Ws, q⟩ => ⟨θ, G, ρ, Ws, (Pk.ak q).imp fun vs H1 ⟨ds, G1, _, e1, z, q1⟩ => by
    match ds, z, q1 with
    | [], _, q1 => exact q1.no
    | _ :: _ :: _, _, q1 => exact q1.no
    | [d], .cons (v := v) hx .nil, q1 =>
      intro a na
      refine hsp a v _ _ _ upd_same fun dx ndx ne => ⟨rfl, ?_⟩
      rw [upd_back ne]
      rw [upd_ne ne] at ndx
      have e1 : Ext X.K G1 H1 (upd G1 dx (exd dx [(fx, v)])) (upd H1 dx (exd dx [(fx, v)])) := Ext.new q1.same ndx
      have na2 : (upd H1 dx (exd dx [(fx, v)])) a = none := by rw [upd_ne (Ne.symm ne)]; exact na
      have e2 : Ext X.K (upd G1 dx (exd dx [(fx, v)])) (upd H1 dx (exd dx [(fx, v)])) (upd (upd G1 dx (exd dx [(fx, v)])) a (exo a C (some dx))) (upd (upd H1 dx (exd dx [(fx, v)])) a (exo a C (some dx))) := Ext.new e1.s na2
      have e3 := e1.trans e2
      exact q1.2 (.ref a) _ _ e3 (.exv1 upd_same (by rw [upd_ne ne, upd_same]) (.cons (hx.mono e3.g) .nil))⟩⟩
theorem dp_errP (T : ErV X.prog X.w X.K X.mg X.base x fx C) (hr : Room 2 X.A) (tk : L2N.Takes X W) (ha : DArg X W pos es kws 1 [] g) (hg : Gl X x := by rfl) (hdb : (x == ("__debug__" : Str)) = false := by decide) : DP X W (.Call (.Name x p) es kws pos) (pA (mkXL C fx) g) := by
  obtain ⟨sp, fI, fd, h1, h2, h3, h4, h5, h6⟩ := T.ex
  exact dp_errA T.hm T.eb.kC (runs_exc T.eb h1 h2 h3 hr (by omega) h4 tk) h6 ha hg hdb
theorem dp_errK (T : ErV X.prog X.w X.K X.mg X.base x fx C) (hr : Room 2 X.A) (tk : L2N.Takes X W) (ha : DArg X W pos es kws 0 [fx] g) (hg : Gl X x := by rfl) (hdb : (x == ("__debug__" : Str)) = false := by decide) : DP X W (.Call (.Name x p) es kws pos) (pA (mkXL C fx) g) := by
  obtain ⟨sp, fI, fd, h1, h2, h3, h4, h5, h6⟩ := T.ex
  exact dp_errA T.hm T.eb.kC (runs_exc T.eb h1 h2 h3 hr (by omega) h5 tk) h6 ha hg hdb
end
def pX0 (C : Addr) (_ : List Sl) : R D := .ok (.exv C [])
theorem dp_err0 {X : Cx} {C : Addr} {W : WX} {x : Str} {p pos : Pos} {bmB : List Value} {B newId initId : String} (F : ExcBaseFacts B newId initId bmB) (q : PySem.W.excIn X.K C bmB newId = true) (gC : X.mg x = some (.ref C)) (kC : PySem.W.keepIn X.K (.ref C) = true) (hg : Gl X x := by rfl)
    (hdb : (x == ("__debug__" : Str)) = false := by decide) : DP X W (.Call (.Name x p) [] [] pos) (pX0 C) := by
  refine ⟨⟨fun pins s σ H Q I ⟨θ, G, ρ, Ws, S, h⟩ => ?_⟩⟩
  refine wpAny_Call_Name_kw (ld_glob I hg gC ?_ hdb)
  refine PySem.W.callWith_K0 I.kIn kC ?_
  show wpAny _ _ (call (.ref C) []) _ _ _
  obtain ⟨bm, N, nm, qn, bs, hdct, sn, sub, ab, col, dd, k0, k1, k2, k3, k5, mN, hC, hN, hni, T⟩ := exc_obj I.kIn q
  refine wpAny_call_exc_subT F T hC hN hni (fun h' e hm => ?_) (Nat.zero_le _)
  obtain ⟨t, he, _, _⟩ := hm.there
  have na : H e = none := I.hok.gone hm.new
  have I2 := I.laidN (t' := s.toks) (a := e) (o := exo e C none) (h' := h') hm.keeps hm.new na (exo_ok he)
  have e1 : Ext X.K G H (upd G e (exo e C none)) (upd H e (exo e C none)) := Ext.new S.same na
  exact ⟨.ref e, _, I2, rfl, h (.ref e) _ _ e1 (.exv0 upd_same)⟩
theorem dp_err0A {X : Cx} {C : Addr} {W : WX} {x : Str} {p pos : Pos} (F : PySem.W.excIn X.K C [.type "ArithmeticError", .type "Exception", .type "BaseException", .type "object"] "ArithmeticError.__new__" = true) (gC : X.mg x = some (.ref C)) (kC : PySem.W.keepIn X.K (.ref C) = true) (hg : Gl X x := by rfl)
    (hdb : (x == ("__debug__" : Str)) = false := by decide) : DP X W (.Call (.Name x p) [] [] pos) (pX0 C) := dp_err0 PySem.F.excBase_ArithmeticError F gC kC hg hdb
open Classical in
noncomputable def fldX (K : Fg) (n : Str) : D → R D
  | .exv C fs => if XfC K C ∧ PySem.W.findIn K (.ref C) n = some none then (match fs.lookup n with
    | some v => .ok v
    | none => .st) else .st
  | _ => .st
theorem fldX_at {K : Fg} {n : Str} {C : Addr} {fs : List (Str × D)} {v : D} (h : XfC K C ∧ PySem.W.findIn K (.ref C) n = some none) (l : fs.lookup n = some v) : fldX K n (.exv C fs) = .ok v := by
  unfold fldX
  dsimp only
  rw [if_pos h, l]
theorem fldX_ok {K : Fg} {n : Str} {d : D} : (∃ C fs v, d = .exv C fs ∧ XfC K C ∧ PySem.W.findIn K (.ref C) n = some none ∧ fs.lookup n = some v ∧ fldX K n d = .ok v) ∨ fldX K n d = .st := by
  unfold fldX
  split
  · rename_i C fs
    split
    · rename_i h
      cases l : fs.lookup n with
      | none => exact .inr rfl
      | some v => exact .inl ⟨C, fs, v, rfl, h.1, h.2, l, rfl⟩
    · exact .inr rfl
  · exact .inr rfl
theorem dp_fldX {X : Cx} {W : WX} {e : Expr} {n : Str} {g : List Sl → R D} {pos : Pos} (h : DP X W e g) (hb : attributeBase e n X.env (eval e X.env) = eval e X.env := by rfl) : DP X W (.Attribute e n pos) (p1 (fldX X.K n) g) := by
  refine ⟨⟨fun pins s σ H Q I ⟨θ, G, ρ, Ws, q⟩ => ?_⟩⟩
  refine attr_of hb (thn (h.run.run pins s σ H _ I ⟨θ, G, ρ, Ws, (Pk.bind (Za := Zc) q).imp fun x H1 r => r⟩) fun u s1 hh => ?_)
  obtain ⟨x, H1, I1, rx, d, G1, _, e1, z, q1⟩ := hh
  rcases fldX_ok (K := X.K) (n := n) (d := d) with ⟨C, fs, v, ed, T, no, l, e2⟩ | e2
  · subst ed
    rw [e2] at q1
    cases z with
    | exv0 => cases l
    | exv1 ha hd r =>
      rename_i a dx fv
      obtain rfl : u = Value.ref a := rx
      have ha := q1.same _ _ ha
      have hd := q1.same _ _ hd
      obtain ⟨t1, ho⟩ := exo_at I1.hok ha
      obtain ⟨mA, hns, hr⟩ := exd_at I1.hok hd
      obtain ⟨od, hod, hl⟩ := lookIn_ns hns
      obtain ⟨v', hv', rv⟩ := r.look l
      obtain ⟨u, hu, ru⟩ := RelO.some_of (v := v') (o := mA n) (by rw [← hv']; exact hr n)
      have J : PySem.W.InstAt s1.heap a { cls := .ref C, dict := some dx, data := .fields #[.ref t1, .none, .none, .none, .bool false, .none] } C (some od) := ⟨ho, rfl, rfl, hod⟩
      exact PySem.HandSPX.exc_get I1.kIn J T.ga T.gg T.exC (PySem.W.findObj_own T.hdC no rfl (by rw [hl, hu])) (handed_of ru) ⟨v', H1, I1.tok _, ru, q1.2 v' G1 H1 (Ext.refl q1.same) rv⟩
  · rw [e2] at q1; exact q1.no
open Classical in
noncomputable def isXV (K : Fg) (cv : Value) : D → R D
  | .exv C _ => if ExcC K C then (match PySem.W.kitOne K (.ref C) cv with
    | some b => .ok (.bl b)
    | none => .st) else .st
  | _ => .st
theorem isXV_at {K : Fg} {cv : Value} {C : Addr} {fs : List (Str × D)} {b : Bool} (h : ExcC K C) (l : PySem.W.kitOne K (.ref C) cv = some b) : isXV K cv (.exv C fs) = .ok (.bl b) := by
  unfold isXV
  dsimp only
  rw [if_pos h, l]
theorem isXV_ok {K : Fg} {cv : Value} {d : D} : (∃ C fs b, d = .exv C fs ∧ ExcC K C ∧ PySem.W.kitOne K (.ref C) cv = some b ∧ isXV K cv d = .ok (.bl b)) ∨ isXV K cv d = .st := by
  unfold isXV
  split
  · rename_i C fs
    split
    · rename_i h
      cases l : PySem.W.kitOne K (.ref C) cv with
      | none => exact .inr rfl
      | some v => exact .inl ⟨C, fs, v, rfl, h, l, rfl⟩
    · exact .inr rfl
  · exact .inr rfl
def rIsV (K : Fg) (cv : Value) (G : Hp) : List V → Hp → VK → Prop := fun xs H Q => ∃ (x c : V) (C : Addr) (fs : List (Str × D)) (b : Bool), xs = [x, c] ∧ (∀ u, RelV c u → u = cv) ∧ Rp K G x (.exv C fs) ∧ Same G H ∧ ExcC K C ∧ PySem.W.kitOne K (.ref C) cv = some b ∧ Q (.bl b) H
theorem call_isV {X : Cx} {cv : Value} : CallR X (.builtin "isinstance") (fun xs H Q => ∃ G, rIsV X.K cv G xs H Q) := by
  intro pins s σ H xs us Q I r h
  obtain ⟨G, x, c, C, fs, b, rfl, hcv, z, sm, T, e, q⟩ := h
  cases r with
  | cons rx rr =>
    cases rr with
    | cons rt rr =>
      cases rr
      have ec := hcv _ rt
      subst ec
      cases z with
      | exv0 ha =>
        rename_i a
        cases rx
        obtain ⟨t1, ho⟩ := exo_at I.hok (sm _ _ ha)
        have J : PySem.W.InstAt s.heap a { cls := .ref C, dict := none, data := .fields #[.ref t1, .none, .none, .none, .bool false, .none] } C none := ⟨ho, rfl, rfl, trivial⟩
        exact PySem.W.kia_one (PySem.W.xc_kit T) I.kIn J e (fun z => nomatch z) fun tk => ⟨.bl b, H, I.kept (t' := tk) fun _ _ z => z, rfl, q⟩
      | exv1 ha hd rf =>
        rename_i a dx fv
        cases rx
        obtain ⟨t1, ho⟩ := exo_at I.hok (sm _ _ ha)
        obtain ⟨mA, hns, hr⟩ := exd_at I.hok (sm _ _ hd)
        obtain ⟨od, hod, hl⟩ := lookIn_ns hns
        have J : PySem.W.InstAt s.heap a { cls := .ref C, dict := some dx, data := .fields #[.ref t1, .none, .none, .none, .bool false, .none] } C (some od) := ⟨ho, rfl, rfl, hod⟩
        exact PySem.W.kia_one (PySem.W.xc_kit T) I.kIn J e (fun z => nomatch z) fun tk => ⟨.bl b, H, I.kept (t' := tk) fun _ _ z => z, rfl, q⟩
section
variable {X : Cx} {W : WX} {cv : Value} {cr : V} {g : List Sl → R D} {e e2 : Expr} {y : Str} {C1 : Addr} {p py pos : Pos}
theorem dp_isX (h : DP X W e g) (hc2 : PE X e2 (tC cr)) (hcr : ∀ u, RelV cr u → u = cv) (hm : X.mg "isinstance" = none)
    (hg : Gl X "isinstance" := by rfl)
    (hs : starEach [e, e2] X.env = (false, eval e X.env) :: starEach [e2] X.env := by rfl) (hs2 : starEach [e2] X.env = (false, eval e2 X.env) :: starEach [] X.env := by rfl)
    (hpl : (backTo pos (starEach [e2] X.env)).any (·.1) = false := by rfl) : DP X W (.Call (.Name "isinstance" p) [e, e2] [] pos) (p1 (isXV X.K cv) g) :=
  ⟨PE.conseq (pe_callB call_isV hg hm boot_isinstance (pa_cons h.run (pa_cons hc2 pa_nil hs2) hs) (by decide) (by decide) hs hpl) fun σ H Q ⟨θ, G, ρ, Ws, q⟩ => ⟨θ, G, ρ, Ws, (Pk.bind (Za := Zc) q).imp fun x H1 ⟨d, G1, _, e1, z, q1⟩ => by
    rcases isXV_ok (K := X.K) (cv := cv) (d := d) with ⟨C, fs, b, ed, T, l, e2⟩ | e2
    · subst ed
      rw [e2] at q1
      exact ⟨G1, x, cr, C, fs, b, rfl, hcr, z, q1.same, T, l, q1.2 (.bl b) G1 H1 (Ext.refl q1.same) (.bl b)⟩
    · rw [e2] at q1; exact q1.no⟩⟩
theorem dp_isXC (h : DP X W e g) (hm : X.mg "isinstance" = none) (hy : X.mg y = some (.ref C1))
    (hg : Gl X "isinstance" := by rfl) (hgy : Gl X y := by rfl) (hdb : (y == ("__debug__" : Str)) = false := by decide)
    (hs : starEach [e, .Name y py] X.env = (false, eval e X.env) :: starEach [.Name y py] X.env := by rfl) (hs2 : starEach [.Name y py] X.env = (false, eval (.Name y py) X.env) :: starEach [] X.env := by rfl)
    (hpl : (backTo pos (starEach [.Name y py] X.env)).any (·.1) = false := by rfl) : DP X W (.Call (.Name "isinstance" p) [e, .Name y py] [] pos) (p1 (isXV X.K (.ref C1)) g) :=
  dp_isX h (cr := .ref C1) (show PE X (.Name y py) (tC (.ref C1)) from pe_glob hgy hy rfl hdb) (fun u r => r) hm hg hs hs2 hpl
theorem dp_isXT {T : String} (h : DP X W e g) (hm : X.mg "isinstance" = none) (hx : X.mg y = none) (hvB : bootBuiltins y = some (.type T) := by rfl)
    (hg : Gl X "isinstance" := by rfl) (hgy : Gl X y := by rfl) (hn : y ≠ "__name__" := by decide) (hdb : (y == ("__debug__" : Str)) = false := by decide)
    (hs : starEach [e, .Name y py] X.env = (false, eval e X.env) :: starEach [.Name y py] X.env := by rfl) (hs2 : starEach [.Name y py] X.env = (false, eval (.Name y py) X.env) :: starEach [] X.env := by rfl)
    (hpl : (backTo pos (starEach [.Name y py] X.env)).any (·.1) = false := by rfl) : DP X W (.Call (.Name "isinstance" p) [e, .Name y py] [] pos) (p1 (isXV X.K (.type T)) g) :=
  dp_isX h (cr := .ty T) (show PE X (.Name y py) (tC (.ty T)) from pe_tyName hgy hx hvB hn hdb) (fun u r => r) hm hg hs hs2 hpl
end
end DL
set_option Elab.async false
set_option linter.all false
set_option maxRecDepth 100000
set_option maxHeartbeats 2000000
namespace DM
open PySem PySem.Spec PyProof.Rows L2 He DL
noncomputable section
def m__law_given_errors (K : Fg) : List Sl → RS := (sSeq (sAsg (gVar 1) (p1 isL (pA mkL (aCons (pA (mkXL (ga K "InvalidText") "given") (aLen 1 (aCons (pVar 0) aNil))) (aCons (pA (mkXL (ga K "InvalidNumber") "given") (aLen 1 (aCons (pVar 0) aNil))) (aCons (pA (mkXL (ga K "InvalidName") "given") (aLen 1 (aCons (pVar 0) aNil))) (aCons (pA (mkXL (ga K "InvalidWish") "given") (aLen 1 (aCons (pVar 0) aNil))) (aCons (pA (mkXL (ga K "InvalidIndex") "given") (aLen 1 (aCons (pVar 0) aNil))) aNil)))))))) (sSeq (sAsg (gVar 1) (p2 addD (pVar 1) (p1 isL (pA mkL (aCons (pA (mkXL (ga K "InvalidTie") "given") (aLen 1 (aCons (pVar 0) aNil))) (aCons (pA (mkXL (ga K "NotAWeb") "given") (aLen 1 (aCons (pVar 0) aNil))) aNil)))))) (sSeq (sAsg (gVar 2) (p1 isL (pA mkL (aCons (pA (mkXL (ga K "InvalidText") "given") (aLen 1 (aCons (pVar 0) aNil))) (aCons (pA (mkXL (ga K "InvalidNumber") "given") (aLen 1 (aCons (pVar 0) aNil))) (aCons (pA (mkXL (ga K "InvalidName") "given") (aLen 1 (aCons (pVar 0) aNil))) (aCons (pA (mkXL (ga K "InvalidWish") "given") (aLen 1 (aCons (pVar 0) aNil))) aNil))))))) (sRet (p1 isL (pA mkL (aCons (pVar 1) (aCons (p2 addD (pVar 2) (p1 isL (pA mkL (aCons (pA (mkXL (ga K "InvalidIndex") "given") (aLen 1 (aCons (pVar 0) aNil))) (aCons (pA (mkXL (ga K "InvalidTie") "given") (aLen 1 (aCons (pVar 0) aNil))) (aCons (pA (mkXL (ga K "NotAWeb") "given") (aLen 1 (aCons (pVar 0) aNil))) aNil)))))) aNil))))))))
def F__law_given_errors (K : Fg) : List Sl → RS := runF 2 (m__law_given_errors K)
def m__law_sort (K : Fg) : List Sl → RS := (sSeq (sAsg (gVar 1) (p1 isL (pA mkL (aCons (p1 (isXV K (.ref (ga K "InvalidText"))) (pVar 0)) (aCons (p1 (isXV K (.ref (ga K "InvalidNumber"))) (pVar 0)) (aCons (p1 (isXV K (.ref (ga K "InvalidName"))) (pVar 0)) aNil)))))) (sSeq (sAsg (gVar 1) (p2 addD (pVar 1) (p1 isL (pA mkL (aCons (p1 (isXV K (.ref (ga K "InvalidWish"))) (pVar 0)) (aCons (p1 (isXV K (.ref (ga K "InvalidIndex"))) (pVar 0)) (aCons (p1 (isXV K (.ref (ga K "InvalidTie"))) (pVar 0)) aNil))))))) (sSeq (sAsg (gVar 1) (p2 addD (pVar 1) (p1 isL (pA mkL (aCons (p1 (isXV K (.ref (ga K "NotAWeb"))) (pVar 0)) (aCons (p1 (isXV K (.ref (ga K "InvalidTowns"))) (pVar 0)) (aCons (p1 (isXV K (.ref (ga K "InvalidTies"))) (pVar 0)) aNil))))))) (sSeq (sAsg (gVar 1) (p2 addD (pVar 1) (p1 isL (pA mkL (aCons (p1 (isXV K (.ref (ga K "InvalidLot"))) (pVar 0)) (aCons (p1 (isXV K (.ref (ga K "InvalidRows"))) (pVar 0)) (aCons (p1 (isXV K (.ref (ga K "InvalidRead"))) (pVar 0)) aNil))))))) (sSeq (sAsg (gVar 1) (p2 addD (pVar 1) (p1 isL (pA mkL (aCons (p1 (isXV K (.ref (ga K "InvalidOffers"))) (pVar 0)) (aCons (p1 (isXV K (.ref (ga K "InvalidDoubts"))) (pVar 0)) (aCons (p1 (isXV K (.ref (ga K "UnknownName"))) (pVar 0)) aNil))))))) (sSeq (sAsg (gVar 1) (p2 addD (pVar 1) (p1 isL (pA mkL (aCons (p1 (isXV K (.ref (ga K "Apart"))) (pVar 0)) (aCons (p1 (isXV K (.ref (ga K "TooMany"))) (pVar 0)) (aCons (p1 (isXV K (.ref (ga K "NoBits"))) (pVar 0)) aNil))))))) (sSeq (sAsg (gVar 1) (p2 addD (pVar 1) (p1 isL (pA mkL (aCons (p1 (isXV K (.ref (ga K "NothingToUndo"))) (pVar 0)) (aCons (p1 (isXV K (.ref (ga K "Broken"))) (pVar 0)) (aCons (p1 (isXV K (.ref (ga K "WrongValue"))) (pVar 0)) aNil))))))) (sSeq (sAsg (gVar 1) (p2 addD (pVar 1) (p1 isL (pA mkL (aCons (p1 (isXV K (.ref (ga K "WrongName"))) (pVar 0)) (aCons (p1 (isXV K (.ref (ga K "NoAnswer"))) (pVar 0)) (aCons (p1 (isXV K (.type "ValueError")) (pVar 0)) aNil))))))) (sSeq (sAsg (gVar 1) (p2 addD (pVar 1) (p1 isL (pA mkL (aCons (p1 (isXV K (.type "LookupError")) (pVar 0)) (aCons (p1 (isXV K (.type "ArithmeticError")) (pVar 0)) aNil)))))) (sRet (p1 isL (pLc (iRange1 (pC (.int 26))) [2] (gVar 2) (b1 asB (p2 ixD (pVar 1) (pVar 2))) (pVar 2)))))))))))))
def F__law_sort (K : Fg) : List Sl → RS := runF 2 (m__law_sort K)
def m__law_index_errors (K : Fg) : List Sl → RS := (sSeq (sAsg (gVar 1) (p1 isL (pA mkL (aCons (pA (mkXL (ga K "InvalidTowns") "index") (aLen 1 (aCons (pVar 0) aNil))) (aCons (pA (mkXL (ga K "InvalidTies") "index") (aLen 1 (aCons (pVar 0) aNil))) (aCons (pA (mkXL (ga K "InvalidLot") "index") (aLen 1 (aCons (pVar 0) aNil))) (aCons (pA (mkXL (ga K "InvalidRows") "index") (aLen 1 (aCons (pVar 0) aNil))) (aCons (pA (mkXL (ga K "InvalidRead") "index") (aLen 1 (aCons (pVar 0) aNil))) aNil)))))))) (sSeq (sAsg (gVar 1) (p2 addD (pVar 1) (p1 isL (pA mkL (aCons (pA (mkXL (ga K "InvalidOffers") "index") (aLen 1 (aCons (pVar 0) aNil))) (aCons (pA (mkXL (ga K "InvalidDoubts") "index") (aLen 1 (aCons (pVar 0) aNil))) aNil)))))) (sSeq (sAsg (gVar 2) (p1 isL (pA mkL (aCons (pA (mkXL (ga K "InvalidTowns") "index") (aLen 1 (aCons (pVar 0) aNil))) (aCons (pA (mkXL (ga K "InvalidTies") "index") (aLen 1 (aCons (pVar 0) aNil))) (aCons (pA (mkXL (ga K "InvalidLot") "index") (aLen 1 (aCons (pVar 0) aNil))) (aCons (pA (mkXL (ga K "InvalidRows") "index") (aLen 1 (aCons (pVar 0) aNil))) aNil))))))) (sRet (p1 isL (pA mkL (aCons (pVar 1) (aCons (p2 addD (pVar 2) (p1 isL (pA mkL (aCons (pA (mkXL (ga K "InvalidRead") "index") (aLen 1 (aCons (pVar 0) aNil))) (aCons (pA (mkXL (ga K "InvalidOffers") "index") (aLen 1 (aCons (pVar 0) aNil))) (aCons (pA (mkXL (ga K "InvalidDoubts") "index") (aLen 1 (aCons (pVar 0) aNil))) aNil)))))) aNil))))))))
def F__law_index_errors (K : Fg) : List Sl → RS := runF 2 (m__law_index_errors K)
def m__law_right__v41 (K : Fg) : List Sl → RS := (sSeq (sAsgE (gVar 1) (eCallO F__law_from 0 (bCons (liftE (p1 isL (pA mkL (aCons (pC .non) (aCons (pC (.int 0)) (aCons (pC (.bl false)) (aCons (pC (.str "x")) (aCons (pA mkT (aCons (pC (.int 5)) (aCons (pC (.str "y")) aNil))) (aCons (p1 isL (pA mkL (aCons (pC (.int 6)) aNil))) (aCons (pFrzK (fun _ => .ok (.dk []))) (aCons (p2 powD (pC (.int 10)) (pC (.int 60))) (aCons (pA mkT aNil) (aCons (p1 negD (pC (.int 9))) aNil))))))))))))) bNil))) (sSeq (sFor (i1 itemsD (pA (callV (F__law_given_errors K)) (aCons (pVar 1) aNil))) (gVar 2) (sSeq (sIf (b1 asB (p2 neD (p1 reprY (p1 isL (pLc (i1 itemsD (pVar 2)) [3] (gVar 3) tYes' (p1 (fldX K "given") (pVar 3))))) (p1 reprY (p2 mulD (p1 isL (pA mkL (aCons (pVar 1) aNil))) (pC (.int 7)))))) (sRet (pC (.bl false))) sNext) (sIf (b1 asB (p2 neD (p1 isL (pLc (i1 itemsD (pVar 2)) [3] (gVar 3) tYes' (pA (callV (F__law_sort K)) (aCons (pVar 3) aNil)))) (p1 isL (pLc (iRange1 (pC (.int 7))) [4] (gVar 4) tYes' (p1 isL (pA mkL (aCons (pVar 4) (aCons (pC (.int 20)) (aCons (pC (.int 23)) aNil))))))))) (sRet (pC (.bl false))) sNext))) (sSeq (sFor (i1 itemsD (pA (callV (F__law_index_errors K)) (aCons (pVar 1) aNil))) (gVar 2) (sSeq (sIf (b1 asB (p2 neD (p1 reprY (p1 isL (pLc (i1 itemsD (pVar 2)) [3] (gVar 3) tYes' (p1 (fldX K "index") (pVar 3))))) (p1 reprY (p2 mulD (p1 isL (pA mkL (aCons (pVar 1) aNil))) (pC (.int 7)))))) (sRet (pC (.bl false))) sNext) (sIf (b1 asB (p2 neD (p1 isL (pLc (i1 itemsD (pVar 2)) [3] (gVar 3) tYes' (pA (callV (F__law_sort K)) (aCons (pVar 3) aNil)))) (p1 isL (pLc (iRange1 (pC (.int 7))) [4] (gVar 4) tYes' (p1 isL (pA mkL (aCons (p2 addD (pC (.int 7)) (pVar 4)) (aCons (pC (.int 20)) (aCons (pC (.int 23)) aNil))))))))) (sRet (pC (.bl false))) sNext))) (sSeq (sFor (i1 itemsD (p1 isL (pA mkL (aCons (pA (mkXL (ga K "UnknownName") "given") (aLen 1 (aCons (pVar 1) aNil))) (aCons (pA (mkXL (ga K "UnknownName") "given") (aLen 1 (aCons (pVar 1) aNil))) aNil))))) (gVar 3) (sIf (bOr (b1 asB (p2 neD (p1 reprY (p1 (fldX K "given") (pVar 3))) (p1 reprY (pVar 1)))) (b1 asB (p2 neD (pA (callV (F__law_sort K)) (aCons (pVar 3) aNil)) (p1 isL (pA mkL (aCons (pC (.int 14)) (aCons (pC (.int 21)) (aCons (pC (.int 24)) aNil)))))))) (sRet (pC (.bl false))) sNext)) (sSeq (sFor (i1 itemsD (p1 isL (pA mkL (aCons (p1 isL (pA mkL (aCons (pA (mkXL (ga K "Apart") "given") (aLen 1 (aCons (pVar 1) aNil))) (aCons (pA (mkXL (ga K "TooMany") "given") (aLen 1 (aCons (pVar 1) aNil))) aNil)))) (aCons (p1 isL (pA mkL (aCons (pA (mkXL (ga K "Apart") "given") (aLen 1 (aCons (pVar 1) aNil))) (aCons (pA (mkXL (ga K "TooMany") "given") (aLen 1 (aCons (pVar 1) aNil))) aNil)))) aNil))))) (gVar 2) (sSeq (sIf (b1 asB (p2 neD (p1 reprY (p1 isL (pLc (i1 itemsD (pVar 2)) [3] (gVar 3) tYes' (p1 (fldX K "given") (pVar 3))))) (p1 reprY (p2 mulD (p1 isL (pA mkL (aCons (pVar 1) aNil))) (pC (.int 2)))))) (sRet (pC (.bl false))) sNext) (sIf (b1 asB (p2 neD (p1 isL (pLc (i1 itemsD (pVar 2)) [3] (gVar 3) tYes' (pA (callV (F__law_sort K)) (aCons (pVar 3) aNil)))) (p1 isL (pA mkL (aCons (p1 isL (pA mkL (aCons (pC (.int 15)) (aCons (pC (.int 22)) (aCons (pC (.int 25)) aNil))))) (aCons (p1 isL (pA mkL (aCons (pC (.int 16)) (aCons (pC (.int 22)) (aCons (pC (.int 25)) aNil))))) aNil)))))) (sRet (pC (.bl false))) sNext))) (sSeq (sFor (i1 itemsD (p1 isL (pA mkL (aCons (pA (mkXL (ga K "Broken") "index") (aLen 1 (aCons (pVar 1) aNil))) (aCons (pA (mkXL (ga K "Broken") "index") (aLen 1 (aCons (pVar 1) aNil))) aNil))))) (gVar 3) (sIf (bOr (b1 asB (p2 neD (p1 reprY (p1 (fldX K "index") (pVar 3))) (p1 reprY (pVar 1)))) (b1 asB (p2 neD (pA (callV (F__law_sort K)) (aCons (pVar 3) aNil)) (p1 isL (pA mkL (aCons (pC (.int 19)) (aCons (pC (.int 22)) (aCons (pC (.int 25)) aNil)))))))) (sRet (pC (.bl false))) sNext)) (sRet (p2 eqD (p1 isL (pA mkL (aCons (pA (callV (F__law_sort K)) (aCons (pX0 (ga K "NoBits")) aNil)) (aCons (pA (callV (F__law_sort K)) (aCons (pX0 (ga K "NothingToUndo")) aNil)) aNil)))) (p1 isL (pA mkL (aCons (p1 isL (pA mkL (aCons (pC (.int 17)) (aCons (pC (.int 22)) (aCons (pC (.int 25)) aNil))))) (aCons (p1 isL (pA mkL (aCons (pC (.int 18)) (aCons (pC (.int 22)) (aCons (pC (.int 25)) aNil))))) aNil))))))))))))
def F__law_right__v41 (K : Fg) : List Sl → RS := runF 4 (m__law_right__v41 K)
def m_law__v41 (K : Fg) : List Sl → RS := (sSeq (sAsg (gVar 1) (p1 isL (pA mkL (aCons (pC (.int 14)) (aCons (pC (.int 60)) (aCons (pC (.int 6)) (aCons (pC (.int 8)) (aCons (pC (.int 60)) aNil)))))))) (sSeq (sIf (b1 asB (p2 neD (p1 reprD (pVar 1)) (p1 reprD (p1 isL (pA mkL (aCons (pC (.int 14)) (aCons (pC (.int 60)) (aCons (pC (.int 6)) (aCons (pC (.int 8)) (aCons (pC (.int 60)) aNil)))))))))) (sRet (pC (.bl false))) sNext) (sRet (p1 allD (p1 isL (pLc (iRange1 (p2 maxD (pC (.int 2)) (p2 minD (p1 lenD (pVar 0)) (pC (.int 5))))) [2] (gVar 2) tYes' (pCallF (F__law_right__v41 K) (gLst (pA (callL F__law_phial_of) (aCons (pVar 0) (aCons (pVar 2) aNil)))))))))))
def F_law__v41 (K : Fg) : List Sl → RS := runF 2 (m_law__v41 K)
end
end DM
set_option Elab.async false
set_option linter.all false
set_option maxRecDepth 100000
set_option maxHeartbeats 8000000
namespace MA
open PySem PySem.Spec PyProof.Rows L2 He DL DM Gr
noncomputable section
def hit (j i a b : Nat) : Bool := Nat.beq j i || Nat.beq j a || Nat.beq j b
/-- of which classes the class C is -/
structure Kd (K : Fg) (C : Str) (i a b : Nat) : Prop where
  e : ExcC K (ga K C)
  k0 : PySem.W.kitOne K (.ref (ga K C)) (.ref (ga K "InvalidText")) = some (hit 0 i a b)
  k1 : PySem.W.kitOne K (.ref (ga K C)) (.ref (ga K "InvalidNumber")) = some (hit 1 i a b)
  k2 : PySem.W.kitOne K (.ref (ga K C)) (.ref (ga K "InvalidName")) = some (hit 2 i a b)
  k3 : PySem.W.kitOne K (.ref (ga K C)) (.ref (ga K "InvalidWish")) = some (hit 3 i a b)
  k4 : PySem.W.kitOne K (.ref (ga K C)) (.ref (ga K "InvalidIndex")) = some (hit 4 i a b)
  k5 : PySem.W.kitOne K (.ref (ga K C)) (.ref (ga K "InvalidTie")) = some (hit 5 i a b)
  k6 : PySem.W.kitOne K (.ref (ga K C)) (.ref (ga K "NotAWeb")) = some (hit 6 i a b)
  k7 : PySem.W.kitOne K (.ref (ga K C)) (.ref (ga K "InvalidTowns")) = some (hit 7 i a b)
  k8 : PySem.W.kitOne K (.ref (ga K C)) (.ref (ga K "InvalidTies")) = some (hit 8 i a b)
  k9 : PySem.W.kitOne K (.ref (ga K C)) (.ref (ga K "InvalidLot")) = some (hit 9 i a b)
  k10 : PySem.W.kitOne K (.ref (ga K C)) (.ref (ga K "InvalidRows")) = some (hit 10 i a b)
  k11 : PySem.W.kitOne K (.ref (ga K C)) (.ref (ga K "InvalidRead")) = some (hit 11 i a b)
  k12 : PySem.W.kitOne K (.ref (ga K C)) (.ref (ga K "InvalidOffers")) = some (hit 12 i a b)
  k13 : PySem.W.kitOne K (.ref (ga K C)) (.ref (ga K "InvalidDoubts")) = some (hit 13 i a b)
  k14 : PySem.W.kitOne K (.ref (ga K C)) (.ref (ga K "UnknownName")) = some (hit 14 i a b)
  k15 : PySem.W.kitOne K (.ref (ga K C)) (.ref (ga K "Apart")) = some (hit 15 i a b)
  k16 : PySem.W.kitOne K (.ref (ga K C)) (.ref (ga K "TooMany")) = some (hit 16 i a b)
  k17 : PySem.W.kitOne K (.ref (ga K C)) (.ref (ga K "NoBits")) = some (hit 17 i a b)
  k18 : PySem.W.kitOne K (.ref (ga K C)) (.ref (ga K "NothingToUndo")) = some (hit 18 i a b)
  k19 : PySem.W.kitOne K (.ref (ga K C)) (.ref (ga K "Broken")) = some (hit 19 i a b)
  k20 : PySem.W.kitOne K (.ref (ga K C)) (.ref (ga K "WrongValue")) = some (hit 20 i a b)
  k21 : PySem.W.kitOne K (.ref (ga K C)) (.ref (ga K "WrongName")) = some (hit 21 i a b)
  k22 : PySem.W.kitOne K (.ref (ga K C)) (.ref (ga K "NoAnswer")) = some (hit 22 i a b)
  k23 : PySem.W.kitOne K (.ref (ga K C)) (.type "ValueError") = some (hit 23 i a b)
  k24 : PySem.W.kitOne K (.ref (ga K C)) (.type "LookupError") = some (hit 24 i a b)
  k25 : PySem.W.kitOne K (.ref (ga K C)) (.type "ArithmeticError") = some (hit 25 i a b)
def hits (i a b : Nat) : D := .lst (((List.range 26).filter fun j => hit j i a b).map fun j : Nat => .int j)
theorem add_lstX {a b : List D} (h : a.length + b.length ≤ 1000) : addD (.lst a) (.lst b) = .ok (.lst (a ++ b)) := if_pos (by rw [sizeLine_eq]; omega)
theorem mk2X {a b : D} : mkL [a, b] = .ok (.lst [a, b]) := o_mkL (fits_of (by simp))
theorem mk3X {a b c : D} : mkL [a, b, c] = .ok (.lst [a, b, c]) := o_mkL (fits_of (by simp))
theorem sort_c {K : Fg} {C : Str} {i a b : Nat} (T : Kd K C i a b) {fs : List (Str × D)} : callV (F__law_sort K) [.exv (ga K C) fs] = .ok (hits i a b) := by
  refine cv_rt ?_
  show Wp (m__law_sort K [.val (.exv (ga K C) fs), .un, .un]) _
  unfold m__law_sort
  have h0 := isXV_at (fs := fs) T.e T.k0
  have h1 := isXV_at (fs := fs) T.e T.k1
  have h2 := isXV_at (fs := fs) T.e T.k2
  have h3 := isXV_at (fs := fs) T.e T.k3
  have h4 := isXV_at (fs := fs) T.e T.k4
  have h5 := isXV_at (fs := fs) T.e T.k5
  have h6 := isXV_at (fs := fs) T.e T.k6
  have h7 := isXV_at (fs := fs) T.e T.k7
  have h8 := isXV_at (fs := fs) T.e T.k8
  have h9 := isXV_at (fs := fs) T.e T.k9
  have h10 := isXV_at (fs := fs) T.e T.k10
  have h11 := isXV_at (fs := fs) T.e T.k11
  have h12 := isXV_at (fs := fs) T.e T.k12
  have h13 := isXV_at (fs := fs) T.e T.k13
  have h14 := isXV_at (fs := fs) T.e T.k14
  have h15 := isXV_at (fs := fs) T.e T.k15
  have h16 := isXV_at (fs := fs) T.e T.k16
  have h17 := isXV_at (fs := fs) T.e T.k17
  have h18 := isXV_at (fs := fs) T.e T.k18
  have h19 := isXV_at (fs := fs) T.e T.k19
  have h20 := isXV_at (fs := fs) T.e T.k20
  have h21 := isXV_at (fs := fs) T.e T.k21
  have h22 := isXV_at (fs := fs) T.e T.k22
  have h23 := isXV_at (fs := fs) T.e T.k23
  have h24 := isXV_at (fs := fs) T.e T.k24
  have h25 := isXV_at (fs := fs) T.e T.k25
  have l0 : ∀ bs : List D, isL (.lst bs) = .ok (.lst bs) := fun _ => rfl
  have a1 : addD (.lst [.bl (hit 0 i a b), .bl (hit 1 i a b), .bl (hit 2 i a b)]) (.lst [.bl (hit 3 i a b), .bl (hit 4 i a b), .bl (hit 5 i a b)]) = .ok (.lst [.bl (hit 0 i a b), .bl (hit 1 i a b), .bl (hit 2 i a b), .bl (hit 3 i a b), .bl (hit 4 i a b), .bl (hit 5 i a b)]) := add_lstX (by simp)
  have a2 : addD (.lst [.bl (hit 0 i a b), .bl (hit 1 i a b), .bl (hit 2 i a b), .bl (hit 3 i a b), .bl (hit 4 i a b), .bl (hit 5 i a b)]) (.lst [.bl (hit 6 i a b), .bl (hit 7 i a b), .bl (hit 8 i a b)]) = .ok (.lst [.bl (hit 0 i a b), .bl (hit 1 i a b), .bl (hit 2 i a b), .bl (hit 3 i a b), .bl (hit 4 i a b), .bl (hit 5 i a b), .bl (hit 6 i a b), .bl (hit 7 i a b), .bl (hit 8 i a b)]) := add_lstX (by simp)
  have a3 : addD (.lst [.bl (hit 0 i a b), .bl (hit 1 i a b), .bl (hit 2 i a b), .bl (hit 3 i a b), .bl (hit 4 i a b), .bl (hit 5 i a b), .bl (hit 6 i a b), .bl (hit 7 i a b), .bl (hit 8 i a b)]) (.lst [.bl (hit 9 i a b), .bl (hit 10 i a b), .bl (hit 11 i a b)]) = .ok (.lst [.bl (hit 0 i a b), .bl (hit 1 i a b), .bl (hit 2 i a b), .bl (hit 3 i a b), .bl (hit 4 i a b), .bl (hit 5 i a b), .bl (hit 6 i a b), .bl (hit 7 i a b), .bl (hit 8 i a b), .bl (hit 9 i a b), .bl (hit 10 i a b), .bl (hit 11 i a b)]) := add_lstX (by simp)
  have a4 : addD (.lst [.bl (hit 0 i a b), .bl (hit 1 i a b), .bl (hit 2 i a b), .bl (hit 3 i a b), .bl (hit 4 i a b), .bl (hit 5 i a b), .bl (hit 6 i a b), .bl (hit 7 i a b), .bl (hit 8 i a b), .bl (hit 9 i a b), .bl (hit 10 i a b), .bl (hit 11 i a b)]) (.lst [.bl (hit 12 i a b), .bl (hit 13 i a b), .bl (hit 14 i a b)]) = .ok (.lst [.bl (hit 0 i a b), .bl (hit 1 i a b), .bl (hit 2 i a b), .bl (hit 3 i a b), .bl (hit 4 i a b), .bl (hit 5 i a b), .bl (hit 6 i a b), .bl (hit 7 i a b), .bl (hit 8 i a b), .bl (hit 9 i a b), .bl (hit 10 i a b), .bl (hit 11 i a b), .bl (hit 12 i a b), .bl (hit 13 i a b), .bl (hit 14 i a b)]) := add_lstX (by simp)
  have a5 : addD (.lst [.bl (hit 0 i a b), .bl (hit 1 i a b), .bl (hit 2 i a b), .bl (hit 3 i a b), .bl (hit 4 i a b), .bl (hit 5 i a b), .bl (hit 6 i a b), .bl (hit 7 i a b), .bl (hit 8 i a b), .bl (hit 9 i a b), .bl (hit 10 i a b), .bl (hit 11 i a b), .bl (hit 12 i a b), .bl (hit 13 i a b), .bl (hit 14 i a b)]) (.lst [.bl (hit 15 i a b), .bl (hit 16 i a b), .bl (hit 17 i a b)]) = .ok (.lst [.bl (hit 0 i a b), .bl (hit 1 i a b), .bl (hit 2 i a b), .bl (hit 3 i a b), .bl (hit 4 i a b), .bl (hit 5 i a b), .bl (hit 6 i a b), .bl (hit 7 i a b), .bl (hit 8 i a b), .bl (hit 9 i a b), .bl (hit 10 i a b), .bl (hit 11 i a b), .bl (hit 12 i a b), .bl (hit 13 i a b), .bl (hit 14 i a b), .bl (hit 15 i a b), .bl (hit 16 i a b), .bl (hit 17 i a b)]) := add_lstX (by simp)
  have a6 : addD (.lst [.bl (hit 0 i a b), .bl (hit 1 i a b), .bl (hit 2 i a b), .bl (hit 3 i a b), .bl (hit 4 i a b), .bl (hit 5 i a b), .bl (hit 6 i a b), .bl (hit 7 i a b), .bl (hit 8 i a b), .bl (hit 9 i a b), .bl (hit 10 i a b), .bl (hit 11 i a b), .bl (hit 12 i a b), .bl (hit 13 i a b), .bl (hit 14 i a b), .bl (hit 15 i a b), .bl (hit 16 i a b), .bl (hit 17 i a b)]) (.lst [.bl (hit 18 i a b), .bl (hit 19 i a b), .bl (hit 20 i a b)]) = .ok (.lst [.bl (hit 0 i a b), .bl (hit 1 i a b), .bl (hit 2 i a b), .bl (hit 3 i a b), .bl (hit 4 i a b), .bl (hit 5 i a b), .bl (hit 6 i a b), .bl (hit 7 i a b), .bl (hit 8 i a b), .bl (hit 9 i a b), .bl (hit 10 i a b), .bl (hit 11 i a b), .bl (hit 12 i a b), .bl (hit 13 i a b), .bl (hit 14 i a b), .bl (hit 15 i a b), .bl (hit 16 i a b), .bl (hit 17 i a b), .bl (hit 18 i a b), .bl (hit 19 i a b), .bl (hit 20 i a b)]) := add_lstX (by simp)
  have a7 : addD (.lst [.bl (hit 0 i a b), .bl (hit 1 i a b), .bl (hit 2 i a b), .bl (hit 3 i a b), .bl (hit 4 i a b), .bl (hit 5 i a b), .bl (hit 6 i a b), .bl (hit 7 i a b), .bl (hit 8 i a b), .bl (hit 9 i a b), .bl (hit 10 i a b), .bl (hit 11 i a b), .bl (hit 12 i a b), .bl (hit 13 i a b), .bl (hit 14 i a b), .bl (hit 15 i a b), .bl (hit 16 i a b), .bl (hit 17 i a b), .bl (hit 18 i a b), .bl (hit 19 i a b), .bl (hit 20 i a b)]) (.lst [.bl (hit 21 i a b), .bl (hit 22 i a b), .bl (hit 23 i a b)]) = .ok (.lst [.bl (hit 0 i a b), .bl (hit 1 i a b), .bl (hit 2 i a b), .bl (hit 3 i a b), .bl (hit 4 i a b), .bl (hit 5 i a b), .bl (hit 6 i a b), .bl (hit 7 i a b), .bl (hit 8 i a b), .bl (hit 9 i a b), .bl (hit 10 i a b), .bl (hit 11 i a b), .bl (hit 12 i a b), .bl (hit 13 i a b), .bl (hit 14 i a b), .bl (hit 15 i a b), .bl (hit 16 i a b), .bl (hit 17 i a b), .bl (hit 18 i a b), .bl (hit 19 i a b), .bl (hit 20 i a b), .bl (hit 21 i a b), .bl (hit 22 i a b), .bl (hit 23 i a b)]) := add_lstX (by simp)
  have a8 : addD (.lst [.bl (hit 0 i a b), .bl (hit 1 i a b), .bl (hit 2 i a b), .bl (hit 3 i a b), .bl (hit 4 i a b), .bl (hit 5 i a b), .bl (hit 6 i a b), .bl (hit 7 i a b), .bl (hit 8 i a b), .bl (hit 9 i a b), .bl (hit 10 i a b), .bl (hit 11 i a b), .bl (hit 12 i a b), .bl (hit 13 i a b), .bl (hit 14 i a b), .bl (hit 15 i a b), .bl (hit 16 i a b), .bl (hit 17 i a b), .bl (hit 18 i a b), .bl (hit 19 i a b), .bl (hit 20 i a b), .bl (hit 21 i a b), .bl (hit 22 i a b), .bl (hit 23 i a b)]) (.lst [.bl (hit 24 i a b), .bl (hit 25 i a b)]) = .ok (.lst [.bl (hit 0 i a b), .bl (hit 1 i a b), .bl (hit 2 i a b), .bl (hit 3 i a b), .bl (hit 4 i a b), .bl (hit 5 i a b), .bl (hit 6 i a b), .bl (hit 7 i a b), .bl (hit 8 i a b), .bl (hit 9 i a b), .bl (hit 10 i a b), .bl (hit 11 i a b), .bl (hit 12 i a b), .bl (hit 13 i a b), .bl (hit 14 i a b), .bl (hit 15 i a b), .bl (hit 16 i a b), .bl (hit 17 i a b), .bl (hit 18 i a b), .bl (hit 19 i a b), .bl (hit 20 i a b), .bl (hit 21 i a b), .bl (hit 22 i a b), .bl (hit 23 i a b), .bl (hit 24 i a b), .bl (hit 25 i a b)]) := add_lstX (by simp)
  have hl : ∀ s0 s2 : Sl, (pLc (iRange1 (pC (.int 26))) [2] (gVar 2) (b1 asB (p2 ixD (pVar 1) (pVar 2))) (pVar 2)) [s0, .val (.lst [.bl (hit 0 i a b), .bl (hit 1 i a b), .bl (hit 2 i a b), .bl (hit 3 i a b), .bl (hit 4 i a b), .bl (hit 5 i a b), .bl (hit 6 i a b), .bl (hit 7 i a b), .bl (hit 8 i a b), .bl (hit 9 i a b), .bl (hit 10 i a b), .bl (hit 11 i a b), .bl (hit 12 i a b), .bl (hit 13 i a b), .bl (hit 14 i a b), .bl (hit 15 i a b), .bl (hit 16 i a b), .bl (hit 17 i a b), .bl (hit 18 i a b), .bl (hit 19 i a b), .bl (hit 20 i a b), .bl (hit 21 i a b), .bl (hit 22 i a b), .bl (hit 23 i a b), .bl (hit 24 i a b), .bl (hit 25 i a b)]), s2] = .ok (hits i a b) := by
    intro s0 s2
    refine Eq.trans ?_ (rfl : _ = R.ok (hits i a b))
    rw [pLc_filter (fun k : Nat => .int k) (fun j => hit j i a b) (fun k : Nat => .int k) (List.range 26) (v_range1 (n := 26) rfl (by omega)) ?_ (by simp)]
    · rfl
    · intro x hx
      have hx := List.mem_range.mp hx
      have ix : ixD (.lst [.bl (hit 0 i a b), .bl (hit 1 i a b), .bl (hit 2 i a b), .bl (hit 3 i a b), .bl (hit 4 i a b), .bl (hit 5 i a b), .bl (hit 6 i a b), .bl (hit 7 i a b), .bl (hit 8 i a b), .bl (hit 9 i a b), .bl (hit 10 i a b), .bl (hit 11 i a b), .bl (hit 12 i a b), .bl (hit 13 i a b), .bl (hit 14 i a b), .bl (hit 15 i a b), .bl (hit 16 i a b), .bl (hit 17 i a b), .bl (hit 18 i a b), .bl (hit 19 i a b), .bl (hit 20 i a b), .bl (hit 21 i a b), .bl (hit 22 i a b), .bl (hit 23 i a b), .bl (hit 24 i a b), .bl (hit 25 i a b)]) (.int (x : Nat)) = .ok (.bl (hit x i a b)) := o_ixL (by
        show (((List.range 26).map fun j => D.bl (hit j i a b))[x]?) = _
        rw [List.getElem?_map, List.getElem?_range hx]
        rfl)
      exact ⟨[s0, .val (.lst [.bl (hit 0 i a b), .bl (hit 1 i a b), .bl (hit 2 i a b), .bl (hit 3 i a b), .bl (hit 4 i a b), .bl (hit 5 i a b), .bl (hit 6 i a b), .bl (hit 7 i a b), .bl (hit 8 i a b), .bl (hit 9 i a b), .bl (hit 10 i a b), .bl (hit 11 i a b), .bl (hit 12 i a b), .bl (hit 13 i a b), .bl (hit 14 i a b), .bl (hit 15 i a b), .bl (hit 16 i a b), .bl (hit 17 i a b), .bl (hit 18 i a b), .bl (hit 19 i a b), .bl (hit 20 i a b), .bl (hit 21 i a b), .bl (hit 22 i a b), .bl (hit 23 i a b), .bl (hit 24 i a b), .bl (hit 25 i a b)]), .val (.int (x : Nat))], rfl, by simp -implicitDefEqProofs only [ea0, ea1, ea2, ea3, ec0, Int.reduceEq, Int.reduceLT, Int.reduceLE, Int.reduceAdd, Int.reduceSub, Int.reduceMul, Int.reduceNeg, Nat.reduceAdd, Nat.reduceLT, Nat.reduceSucc, reduceCtorEq, eb0, ne_eq, not_false_eq_true, ix, asB], fun _ => rfl⟩
  have lh : isL (hits i a b) = .ok (hits i a b) := rfl
  generalize hits i a b = hh at *
  simp -implicitDefEqProofs only [ea0, ea1, ea2, ea3, ec0, Int.reduceEq, Int.reduceLT, Int.reduceLE, Int.reduceAdd, Int.reduceSub, Int.reduceMul, Int.reduceNeg, Nat.reduceAdd, Nat.reduceLT, Nat.reduceSucc, reduceCtorEq, eb0, ne_eq, not_false_eq_true, h0, h1, h2, h3, h4, h5, h6, h7, h8, h9, h10, h11, h12, h13, h14, h15, h16, h17, h18, h19, h20, h21, h22, h23, h24, h25, a1, a2, a3, a4, a5, a6, a7, a8, mk2X, mk3X, l0, hl, lh]
  exact isRt_ok
end
end MA
set_option Elab.async false
set_option linter.all false
set_option maxRecDepth 100000
set_option maxHeartbeats 8000000
namespace MA
open PySem PySem.Spec PyProof.Rows L2 He DL DM Gr
noncomputable section
def nm01 : Nat → Str
  | 0 => "InvalidText"
  | 1 => "InvalidNumber"
  | 2 => "InvalidName"
  | 3 => "InvalidWish"
  | 4 => "InvalidIndex"
  | 5 => "InvalidTie"
  | 6 => "NotAWeb"
  | 7 => "InvalidTowns"
  | 8 => "InvalidTies"
  | 9 => "InvalidLot"
  | 10 => "InvalidRows"
  | 11 => "InvalidRead"
  | 12 => "InvalidOffers"
  | 13 => "InvalidDoubts"
  | 14 => "UnknownName"
  | 15 => "Apart"
  | 16 => "TooMany"
  | 17 => "NoBits"
  | 18 => "NothingToUndo"
  | 19 => "Broken"
  | _ => ""
structure F01 (K : Fg) : Prop where
  c0 : Kd K "InvalidText" 0 20 23
  c1 : Kd K "InvalidNumber" 1 20 23
  c2 : Kd K "InvalidName" 2 20 23
  c3 : Kd K "InvalidWish" 3 20 23
  c4 : Kd K "InvalidIndex" 4 20 23
  c5 : Kd K "InvalidTie" 5 20 23
  c6 : Kd K "NotAWeb" 6 20 23
  c7 : Kd K "InvalidTowns" 7 20 23
  c8 : Kd K "InvalidTies" 8 20 23
  c9 : Kd K "InvalidLot" 9 20 23
  c10 : Kd K "InvalidRows" 10 20 23
  c11 : Kd K "InvalidRead" 11 20 23
  c12 : Kd K "InvalidOffers" 12 20 23
  c13 : Kd K "InvalidDoubts" 13 20 23
  c14 : Kd K "UnknownName" 14 21 24
  c15 : Kd K "Apart" 15 22 25
  c16 : Kd K "TooMany" 16 22 25
  c17 : Kd K "NoBits" 17 22 25
  c18 : Kd K "NothingToUndo" 18 22 25
  c19 : Kd K "Broken" 19 22 25
  f0 : XfC K (ga K "InvalidText") ∧ PySem.W.findIn K (.ref (ga K "InvalidText")) "given" = some none
  f1 : XfC K (ga K "InvalidNumber") ∧ PySem.W.findIn K (.ref (ga K "InvalidNumber")) "given" = some none
  f2 : XfC K (ga K "InvalidName") ∧ PySem.W.findIn K (.ref (ga K "InvalidName")) "given" = some none
  f3 : XfC K (ga K "InvalidWish") ∧ PySem.W.findIn K (.ref (ga K "InvalidWish")) "given" = some none
  f4 : XfC K (ga K "InvalidIndex") ∧ PySem.W.findIn K (.ref (ga K "InvalidIndex")) "given" = some none
  f5 : XfC K (ga K "InvalidTie") ∧ PySem.W.findIn K (.ref (ga K "InvalidTie")) "given" = some none
  f6 : XfC K (ga K "NotAWeb") ∧ PySem.W.findIn K (.ref (ga K "NotAWeb")) "given" = some none
  f7 : XfC K (ga K "InvalidTowns") ∧ PySem.W.findIn K (.ref (ga K "InvalidTowns")) "index" = some none
  f8 : XfC K (ga K "InvalidTies") ∧ PySem.W.findIn K (.ref (ga K "InvalidTies")) "index" = some none
  f9 : XfC K (ga K "InvalidLot") ∧ PySem.W.findIn K (.ref (ga K "InvalidLot")) "index" = some none
  f10 : XfC K (ga K "InvalidRows") ∧ PySem.W.findIn K (.ref (ga K "InvalidRows")) "index" = some none
  f11 : XfC K (ga K "InvalidRead") ∧ PySem.W.findIn K (.ref (ga K "InvalidRead")) "index" = some none
  f12 : XfC K (ga K "InvalidOffers") ∧ PySem.W.findIn K (.ref (ga K "InvalidOffers")) "index" = some none
  f13 : XfC K (ga K "InvalidDoubts") ∧ PySem.W.findIn K (.ref (ga K "InvalidDoubts")) "index" = some none
  f14 : XfC K (ga K "UnknownName") ∧ PySem.W.findIn K (.ref (ga K "UnknownName")) "given" = some none
  f15 : XfC K (ga K "Apart") ∧ PySem.W.findIn K (.ref (ga K "Apart")) "given" = some none
  f16 : XfC K (ga K "TooMany") ∧ PySem.W.findIn K (.ref (ga K "TooMany")) "given" = some none
  f19 : XfC K (ga K "Broken") ∧ PySem.W.findIn K (.ref (ga K "Broken")) "index" = some none
section
variable {K : Fg} (F : F01 K)
include F
theorem kd_g : ∀ i, i < 7 → Kd K (nm01 i) i 20 23 := by
  intro i hi
  have : i = 0 ∨ i = 1 ∨ i = 2 ∨ i = 3 ∨ i = 4 ∨ i = 5 ∨ i = 6 := by omega
  rcases this with rfl | rfl | rfl | rfl | rfl | rfl | rfl
  · exact F.c0
  · exact F.c1
  · exact F.c2
  · exact F.c3
  · exact F.c4
  · exact F.c5
  · exact F.c6
theorem kd_i : ∀ i, i < 7 → Kd K (nm01 (7 + i)) (7 + i) 20 23 := by
  intro i hi
  have : i = 0 ∨ i = 1 ∨ i = 2 ∨ i = 3 ∨ i = 4 ∨ i = 5 ∨ i = 6 := by omega
  rcases this with rfl | rfl | rfl | rfl | rfl | rfl | rfl
  · exact F.c7
  · exact F.c8
  · exact F.c9
  · exact F.c10
  · exact F.c11
  · exact F.c12
  · exact F.c13
theorem xf_g : ∀ i, i < 7 → XfC K (ga K (nm01 i)) ∧ PySem.W.findIn K (.ref (ga K (nm01 i))) "given" = some none := by
  intro i hi
  have : i = 0 ∨ i = 1 ∨ i = 2 ∨ i = 3 ∨ i = 4 ∨ i = 5 ∨ i = 6 := by omega
  rcases this with rfl | rfl | rfl | rfl | rfl | rfl | rfl
  · exact F.f0
  · exact F.f1
  · exact F.f2
  · exact F.f3
  · exact F.f4
  · exact F.f5
  · exact F.f6
theorem xf_i : ∀ i, i < 7 → XfC K (ga K (nm01 (7 + i))) ∧ PySem.W.findIn K (.ref (ga K (nm01 (7 + i)))) "index" = some none := by
  intro i hi
  have : i = 0 ∨ i = 1 ∨ i = 2 ∨ i = 3 ∨ i = 4 ∨ i = 5 ∨ i = 6 := by omega
  rcases this with rfl | rfl | rfl | rfl | rfl | rfl | rfl
  · exact F.f7
  · exact F.f8
  · exact F.f9
  · exact F.f10
  · exact F.f11
  · exact F.f12
  · exact F.f13
end
theorem mkX_1 {C : Addr} {fx : Str} {d : D} : mkXL C fx [d] = .ok (.exv C [(fx, d)]) := rfl
def eG (K : Fg) (odd : D) : List D := (List.range 7).map fun i => .exv (ga K (nm01 i)) [("given", odd)]
def eI (K : Fg) (odd : D) : List D := (List.range 7).map fun i => .exv (ga K (nm01 (7 + i))) [("index", odd)]
theorem mk4X {a b c d : D} : mkL [a, b, c, d] = .ok (.lst [a, b, c, d]) := o_mkL (fits_of (by simp))
theorem mk5X {a b c d e : D} : mkL [a, b, c, d, e] = .ok (.lst [a, b, c, d, e]) := o_mkL (fits_of (by simp))
theorem isLX {xs : List D} : isL (.lst xs) = .ok (.lst xs) := rfl
theorem given_c {K : Fg} {odd : D} : callV (F__law_given_errors K) [odd] = .ok (.lst [.lst (eG K odd), .lst (eG K odd)]) := by
  refine cv_rt ?_
  show Wp (m__law_given_errors K [.val odd, .un, .un]) _
  unfold m__law_given_errors
  have a1 : addD (.lst [.exv (ga K "InvalidText") [("given", odd)], .exv (ga K "InvalidNumber") [("given", odd)], .exv (ga K "InvalidName") [("given", odd)], .exv (ga K "InvalidWish") [("given", odd)], .exv (ga K "InvalidIndex") [("given", odd)]]) (.lst [.exv (ga K "InvalidTie") [("given", odd)], .exv (ga K "NotAWeb") [("given", odd)]]) = .ok (.lst (eG K odd)) := add_lstX (by simp)
  have a2 : addD (.lst [.exv (ga K "InvalidText") [("given", odd)], .exv (ga K "InvalidNumber") [("given", odd)], .exv (ga K "InvalidName") [("given", odd)], .exv (ga K "InvalidWish") [("given", odd)]]) (.lst [.exv (ga K "InvalidIndex") [("given", odd)], .exv (ga K "InvalidTie") [("given", odd)], .exv (ga K "NotAWeb") [("given", odd)]]) = .ok (.lst (eG K odd)) := add_lstX (by simp)
  simp -implicitDefEqProofs only [ea0, ea1, ea2, ea3, ec0, Int.reduceEq, Int.reduceLT, Int.reduceLE, Int.reduceAdd, Int.reduceSub, Int.reduceMul, Int.reduceNeg, Nat.reduceAdd, Nat.reduceLT, Nat.reduceSucc, reduceCtorEq, eb0, ne_eq, not_false_eq_true, mkX_1, mk2X, mk3X, mk4X, mk5X, isLX, a1, a2]
  exact isRt_ok
theorem index_c {K : Fg} {odd : D} : callV (F__law_index_errors K) [odd] = .ok (.lst [.lst (eI K odd), .lst (eI K odd)]) := by
  refine cv_rt ?_
  show Wp (m__law_index_errors K [.val odd, .un, .un]) _
  unfold m__law_index_errors
  have a1 : addD (.lst [.exv (ga K "InvalidTowns") [("index", odd)], .exv (ga K "InvalidTies") [("index", odd)], .exv (ga K "InvalidLot") [("index", odd)], .exv (ga K "InvalidRows") [("index", odd)], .exv (ga K "InvalidRead") [("index", odd)]]) (.lst [.exv (ga K "InvalidOffers") [("index", odd)], .exv (ga K "InvalidDoubts") [("index", odd)]]) = .ok (.lst (eI K odd)) := add_lstX (by simp)
  have a2 : addD (.lst [.exv (ga K "InvalidTowns") [("index", odd)], .exv (ga K "InvalidTies") [("index", odd)], .exv (ga K "InvalidLot") [("index", odd)], .exv (ga K "InvalidRows") [("index", odd)]]) (.lst [.exv (ga K "InvalidRead") [("index", odd)], .exv (ga K "InvalidOffers") [("index", odd)], .exv (ga K "InvalidDoubts") [("index", odd)]]) = .ok (.lst (eI K odd)) := add_lstX (by simp)
  simp -implicitDefEqProofs only [ea0, ea1, ea2, ea3, ec0, Int.reduceEq, Int.reduceLT, Int.reduceLE, Int.reduceAdd, Int.reduceSub, Int.reduceMul, Int.reduceNeg, Nat.reduceAdd, Nat.reduceLT, Nat.reduceSucc, reduceCtorEq, eb0, ne_eq, not_false_eq_true, mkX_1, mk2X, mk3X, mk4X, mk5X, isLX, a1, a2]
  exact isRt_ok
theorem hits_low : ∀ k, k < 14 → hits k 20 23 = .lst [.int (k : Nat), .int 20, .int 23] := by
  intro k hk
  have : k = 0 ∨ k = 1 ∨ k = 2 ∨ k = 3 ∨ k = 4 ∨ k = 5 ∨ k = 6 ∨ k = 7 ∨ k = 8 ∨ k = 9 ∨ k = 10 ∨ k = 11 ∨ k = 12 ∨ k = 13 := by omega
  rcases this with rfl | rfl | rfl | rfl | rfl | rfl | rfl | rfl | rfl | rfl | rfl | rfl | rfl | rfl <;> rfl
theorem sd_hit {k : Nat} (hk : k < 14) : Sd 1 (.lst [.int (k : Nat), .int 20, .int 23]) := sd_lst (k := 0) fun x hx => by
  simp only [List.mem_cons, List.not_mem_nil, or_false] at hx
  rcases hx with rfl | rfl | rfl
  · exact sd_int _
  · exact sd_int _
  · exact sd_int _
theorem mul7X {a : D} : mulD (.lst [a]) (.int 7) = .ok (.lst [a, a, a, a, a, a, a]) := by
  show (if (0 : Int) ≤ 7 ∧ (7 : Int) < 2 ^ 63 ∧ [a].length * (7 : Int).toNat ≤ sizeLine then DL.R.ok (D.lst (List.replicate (7 : Int).toNat [a]).flatten) else .st) = _
  rw [if_pos ⟨by omega, by decide, by rw [sizeLine_eq]; show 1 * 7 ≤ 16777216; omega⟩]
  rfl
theorem mul2X {a : D} : mulD (.lst [a]) (.int 2) = .ok (.lst [a, a]) := by
  show (if (0 : Int) ≤ 2 ∧ (2 : Int) < 2 ^ 63 ∧ [a].length * (2 : Int).toNat ≤ sizeLine then DL.R.ok (D.lst (List.replicate (2 : Int).toNat [a]).flatten) else .st) = _
  rw [if_pos ⟨by omega, by decide, by rw [sizeLine_eq]; show 1 * 2 ≤ 16777216; omega⟩]
  rfl
theorem mk1X {a : D} : mkL [a] = .ok (.lst [a]) := o_mkL (fits_of (by simp))
/-- a value of which repr makes a text, alone and in lists -/
structure Oddy (d : D) : Prop where
  r1 : ∃ s, reprY d = .ok (.str s)
  r2 : ∃ s, reprY (.lst [d, d]) = .ok (.str s)
  r7 : ∃ s, reprY (.lst [d, d, d, d, d, d, d]) = .ok (.str s)
section
variable {K : Fg} (F : F01 K) {odd : D} (O : Oddy odd)
include F O
theorem it_given {s0 s3 s4 : Sl} : (sSeq (sIf (b1 asB (p2 neD (p1 reprY (p1 isL (pLc (i1 itemsD (pVar 2)) [3] (gVar 3) tYes' (p1 (fldX K "given") (pVar 3))))) (p1 reprY (p2 mulD (p1 isL (pA mkL (aCons (pVar 1) aNil))) (pC (.int 7)))))) (sRet (pC (.bl false))) sNext) (sIf (b1 asB (p2 neD (p1 isL (pLc (i1 itemsD (pVar 2)) [3] (gVar 3) tYes' (pA (callV (F__law_sort K)) (aCons (pVar 3) aNil)))) (p1 isL (pLc (iRange1 (pC (.int 7))) [4] (gVar 4) tYes' (p1 isL (pA mkL (aCons (pVar 4) (aCons (pC (.int 20)) (aCons (pC (.int 23)) aNil))))))))) (sRet (pC (.bl false))) sNext)) [s0, .val odd, .val (.lst (eG K odd)), s3, s4] = .ok .nx [s0, .val odd, .val (.lst (eG K odd)), s3, s4] := by
  obtain ⟨s, r7⟩ := O.r7
  have lg : (pLc (i1 itemsD (pVar 2)) [3] (gVar 3) tYes' (p1 (fldX K "given") (pVar 3))) [s0, .val odd, .val (.lst (eG K odd)), s3, s4] = .ok (.lst [odd, odd, odd, odd, odd, odd, odd]) := by
    refine (pLc_map (fun i : Nat => D.exv (ga K (nm01 i)) [("given", odd)]) (fun _ => odd) (List.range 7) rfl (fun i hi => ⟨_, rfl, rfl, ?_⟩) (by simp)).trans rfl
    have q := fldX_at (xf_g F i (List.mem_range.mp hi)) (fs := [("given", odd)]) (v := odd) rfl
    simp -implicitDefEqProofs only [ea0, ea1, ea2, ea3, ec0, Int.reduceEq, Int.reduceLT, Int.reduceLE, Int.reduceAdd, Int.reduceSub, Int.reduceMul, Int.reduceNeg, Nat.reduceAdd, Nat.reduceLT, Nat.reduceSucc, reduceCtorEq, eb0, ne_eq, not_false_eq_true, q, wipeS]
  have ls : (pLc (i1 itemsD (pVar 2)) [3] (gVar 3) tYes' (pA (callV (F__law_sort K)) (aCons (pVar 3) aNil))) [s0, .val odd, .val (.lst (eG K odd)), s3, s4] = .ok (.lst ((List.range 7).map fun k : Nat => D.lst [.int (k : Nat), .int 20, .int 23])) := by
    refine pLc_map (fun i : Nat => D.exv (ga K (nm01 i)) [("given", odd)]) (fun k : Nat => D.lst [.int (k : Nat), .int 20, .int 23]) (List.range 7) rfl (fun i hi => ⟨_, rfl, rfl, ?_⟩) (by simp)
    have hi := List.mem_range.mp hi
    have q := sort_c (kd_g F i hi) (fs := [("given", odd)])
    rw [hits_low _ (by omega)] at q
    simp -implicitDefEqProofs only [ea0, ea1, ea2, ea3, ec0, Int.reduceEq, Int.reduceLT, Int.reduceLE, Int.reduceAdd, Int.reduceSub, Int.reduceMul, Int.reduceNeg, Nat.reduceAdd, Nat.reduceLT, Nat.reduceSucc, reduceCtorEq, eb0, ne_eq, not_false_eq_true, q, wipeS]
  have lr : (pLc (iRange1 (pC (.int 7))) [4] (gVar 4) tYes' (p1 isL (pA mkL (aCons (pVar 4) (aCons (pC (.int 20)) (aCons (pC (.int 23)) aNil)))))) [s0, .val odd, .val (.lst (eG K odd)), s3, s4] = .ok (.lst ((List.range 7).map fun k : Nat => D.lst [.int (k : Nat), .int 20, .int 23])) := by
    refine pLc_map (fun i : Nat => .int i) (fun k : Nat => D.lst [.int (k : Nat), .int 20, .int 23]) (List.range 7) (v_range1 (n := 7) rfl (by omega)) (fun i hi => ⟨_, rfl, rfl, ?_⟩) (by simp)
    have hi := List.mem_range.mp hi
    simp -implicitDefEqProofs only [ea0, ea1, ea2, ea3, ec0, Int.reduceEq, Int.reduceLT, Int.reduceLE, Int.reduceAdd, Int.reduceSub, Int.reduceMul, Int.reduceNeg, Nat.reduceAdd, Nat.reduceLT, Nat.reduceSucc, reduceCtorEq, eb0, ne_eq, not_false_eq_true, mk3X, isLX, wipeS]
  have ne := ne_str_same s
  have n2 : neD (.lst ((List.range 7).map fun k : Nat => D.lst [.int (k : Nat), .int 20, .int 23])) (.lst ((List.range 7).map fun k : Nat => D.lst [.int (k : Nat), .int 20, .int 23])) = .ok (.bl false) := ne_same (k := 2) (sd_lst fun x hx => by
    obtain ⟨k, hk, rfl⟩ := List.mem_map.mp hx
    exact sd_hit (by have := List.mem_range.mp hk; omega)) (by omega)
  have iH : isL (.lst ((List.range 7).map fun k : Nat => D.lst [.int (k : Nat), .int 20, .int 23])) = .ok (.lst ((List.range 7).map fun k : Nat => D.lst [.int (k : Nat), .int 20, .int 23])) := rfl
  generalize (D.lst ((List.range 7).map fun k : Nat => D.lst [.int (k : Nat), .int 20, .int 23])) = HH at *
  generalize (D.lst (eG K odd)) = EE at *
  simp -implicitDefEqProofs only [ea0, ea1, ea2, ea3, ec0, Int.reduceEq, Int.reduceLT, Int.reduceLE, Int.reduceAdd, Int.reduceSub, Int.reduceMul, Int.reduceNeg, Nat.reduceAdd, Nat.reduceLT, Nat.reduceSucc, reduceCtorEq, eb0, ne_eq, not_false_eq_true, lg, ls, lr, mul7X, mk1X, isLX, r7, ne, n2, iH]
theorem it_index {s0 s3 s4 : Sl} : (sSeq (sIf (b1 asB (p2 neD (p1 reprY (p1 isL (pLc (i1 itemsD (pVar 2)) [3] (gVar 3) tYes' (p1 (fldX K "index") (pVar 3))))) (p1 reprY (p2 mulD (p1 isL (pA mkL (aCons (pVar 1) aNil))) (pC (.int 7)))))) (sRet (pC (.bl false))) sNext) (sIf (b1 asB (p2 neD (p1 isL (pLc (i1 itemsD (pVar 2)) [3] (gVar 3) tYes' (pA (callV (F__law_sort K)) (aCons (pVar 3) aNil)))) (p1 isL (pLc (iRange1 (pC (.int 7))) [4] (gVar 4) tYes' (p1 isL (pA mkL (aCons (p2 addD (pC (.int 7)) (pVar 4)) (aCons (pC (.int 20)) (aCons (pC (.int 23)) aNil))))))))) (sRet (pC (.bl false))) sNext)) [s0, .val odd, .val (.lst (eI K odd)), s3, s4] = .ok .nx [s0, .val odd, .val (.lst (eI K odd)), s3, s4] := by
  obtain ⟨s, r7⟩ := O.r7
  have lg : (pLc (i1 itemsD (pVar 2)) [3] (gVar 3) tYes' (p1 (fldX K "index") (pVar 3))) [s0, .val odd, .val (.lst (eI K odd)), s3, s4] = .ok (.lst [odd, odd, odd, odd, odd, odd, odd]) := by
    refine (pLc_map (fun i : Nat => D.exv (ga K (nm01 (7 + i))) [("index", odd)]) (fun _ => odd) (List.range 7) rfl (fun i hi => ⟨_, rfl, rfl, ?_⟩) (by simp)).trans rfl
    have q := fldX_at (xf_i F i (List.mem_range.mp hi)) (fs := [("index", odd)]) (v := odd) rfl
    simp -implicitDefEqProofs only [ea0, ea1, ea2, ea3, ec0, Int.reduceEq, Int.reduceLT, Int.reduceLE, Int.reduceAdd, Int.reduceSub, Int.reduceMul, Int.reduceNeg, Nat.reduceAdd, Nat.reduceLT, Nat.reduceSucc, reduceCtorEq, eb0, ne_eq, not_false_eq_true, q, wipeS]
  have ls : (pLc (i1 itemsD (pVar 2)) [3] (gVar 3) tYes' (pA (callV (F__law_sort K)) (aCons (pVar 3) aNil))) [s0, .val odd, .val (.lst (eI K odd)), s3, s4] = .ok (.lst ((List.range 7).map fun k : Nat => D.lst [.int ((7 + k) : Nat), .int 20, .int 23])) := by
    refine pLc_map (fun i : Nat => D.exv (ga K (nm01 (7 + i))) [("index", odd)]) (fun k : Nat => D.lst [.int ((7 + k) : Nat), .int 20, .int 23]) (List.range 7) rfl (fun i hi => ⟨_, rfl, rfl, ?_⟩) (by simp)
    have hi := List.mem_range.mp hi
    have q := sort_c (kd_i F i hi) (fs := [("index", odd)])
    rw [hits_low _ (by omega)] at q
    simp -implicitDefEqProofs only [ea0, ea1, ea2, ea3, ec0, Int.reduceEq, Int.reduceLT, Int.reduceLE, Int.reduceAdd, Int.reduceSub, Int.reduceMul, Int.reduceNeg, Nat.reduceAdd, Nat.reduceLT, Nat.reduceSucc, reduceCtorEq, eb0, ne_eq, not_false_eq_true, q, wipeS]
  have lr : (pLc (iRange1 (pC (.int 7))) [4] (gVar 4) tYes' (p1 isL (pA mkL (aCons (p2 addD (pC (.int 7)) (pVar 4)) (aCons (pC (.int 20)) (aCons (pC (.int 23)) aNil)))))) [s0, .val odd, .val (.lst (eI K odd)), s3, s4] = .ok (.lst ((List.range 7).map fun k : Nat => D.lst [.int ((7 + k) : Nat), .int 20, .int 23])) := by
    refine pLc_map (fun i : Nat => .int i) (fun k : Nat => D.lst [.int ((7 + k) : Nat), .int 20, .int 23]) (List.range 7) (v_range1 (n := 7) rfl (by omega)) (fun i hi => ⟨_, rfl, rfl, ?_⟩) (by simp)
    have hi := List.mem_range.mp hi
    have ad : addD (.int 7) (.int (i : Nat)) = .ok (.int ((7 + i : Nat) : Nat)) := rfl
    simp -implicitDefEqProofs only [ea0, ea1, ea2, ea3, ec0, Int.reduceEq, Int.reduceLT, Int.reduceLE, Int.reduceAdd, Int.reduceSub, Int.reduceMul, Int.reduceNeg, Nat.reduceAdd, Nat.reduceLT, Nat.reduceSucc, reduceCtorEq, eb0, ne_eq, not_false_eq_true, mk3X, isLX, wipeS, ad]
  have ne := ne_str_same s
  have n2 : neD (.lst ((List.range 7).map fun k : Nat => D.lst [.int ((7 + k) : Nat), .int 20, .int 23])) (.lst ((List.range 7).map fun k : Nat => D.lst [.int ((7 + k) : Nat), .int 20, .int 23])) = .ok (.bl false) := ne_same (k := 2) (sd_lst fun x hx => by
    obtain ⟨k, hk, rfl⟩ := List.mem_map.mp hx
    exact sd_hit (by have := List.mem_range.mp hk; omega)) (by omega)
  have iH : isL (.lst ((List.range 7).map fun k : Nat => D.lst [.int ((7 + k) : Nat), .int 20, .int 23])) = .ok (.lst ((List.range 7).map fun k : Nat => D.lst [.int ((7 + k) : Nat), .int 20, .int 23])) := rfl
  generalize (D.lst ((List.range 7).map fun k : Nat => D.lst [.int ((7 + k) : Nat), .int 20, .int 23])) = HH at *
  generalize (D.lst (eI K odd)) = EE at *
  simp -implicitDefEqProofs only [ea0, ea1, ea2, ea3, ec0, Int.reduceEq, Int.reduceLT, Int.reduceLE, Int.reduceAdd, Int.reduceSub, Int.reduceMul, Int.reduceNeg, Nat.reduceAdd, Nat.reduceLT, Nat.reduceSucc, reduceCtorEq, eb0, ne_eq, not_false_eq_true, lg, ls, lr, mul7X, mk1X, isLX, r7, ne, n2, iH]
theorem it_un {s0 s2 s4 : Sl} : (sIf (bOr (b1 asB (p2 neD (p1 reprY (p1 (fldX K "given") (pVar 3))) (p1 reprY (pVar 1)))) (b1 asB (p2 neD (pA (callV (F__law_sort K)) (aCons (pVar 3) aNil)) (p1 isL (pA mkL (aCons (pC (.int 14)) (aCons (pC (.int 21)) (aCons (pC (.int 24)) aNil)))))))) (sRet (pC (.bl false))) sNext) [s0, .val odd, s2, .val (.exv (ga K "UnknownName") [("given", odd)]), s4] = .ok .nx [s0, .val odd, s2, .val (.exv (ga K "UnknownName") [("given", odd)]), s4] := by
  obtain ⟨s, r1⟩ := O.r1
  have q := fldX_at F.f14 (fs := [("given", odd)]) (v := odd) rfl
  have so := sort_c F.c14 (fs := [("given", odd)])
  have e : hits 14 21 24 = .lst [.int 14, .int 21, .int 24] := rfl
  rw [e] at so
  have ne := ne_str_same s
  have n2 : neD (.lst [.int 14, .int 21, .int 24]) (.lst [.int 14, .int 21, .int 24]) = .ok (.bl false) := ne_same (k := 1) (sd_lst (k := 0) fun x hx => by
    simp only [List.mem_cons, List.not_mem_nil, or_false] at hx
    rcases hx with rfl | rfl | rfl <;> exact sd_int _) (by omega)
  have mk : mkL [.int 14, .int 21, .int 24] = .ok (.lst [.int 14, .int 21, .int 24]) := mk3X
  have iH : isL (.lst [.int 14, .int 21, .int 24]) = .ok (.lst [.int 14, .int 21, .int 24]) := rfl
  generalize (D.lst [.int 14, .int 21, .int 24]) = HH at *
  generalize (D.exv (ga K "UnknownName") [("given", odd)]) = EE at *
  simp -implicitDefEqProofs only [ea0, ea1, ea2, ea3, ec0, Int.reduceEq, Int.reduceLT, Int.reduceLE, Int.reduceAdd, Int.reduceSub, Int.reduceMul, Int.reduceNeg, Nat.reduceAdd, Nat.reduceLT, Nat.reduceSucc, reduceCtorEq, eb0, ne_eq, not_false_eq_true, q, so, r1, ne, n2, mk, iH]
theorem it_br {s0 s2 s4 : Sl} : (sIf (bOr (b1 asB (p2 neD (p1 reprY (p1 (fldX K "index") (pVar 3))) (p1 reprY (pVar 1)))) (b1 asB (p2 neD (pA (callV (F__law_sort K)) (aCons (pVar 3) aNil)) (p1 isL (pA mkL (aCons (pC (.int 19)) (aCons (pC (.int 22)) (aCons (pC (.int 25)) aNil)))))))) (sRet (pC (.bl false))) sNext) [s0, .val odd, s2, .val (.exv (ga K "Broken") [("index", odd)]), s4] = .ok .nx [s0, .val odd, s2, .val (.exv (ga K "Broken") [("index", odd)]), s4] := by
  obtain ⟨s, r1⟩ := O.r1
  have q := fldX_at F.f19 (fs := [("index", odd)]) (v := odd) rfl
  have so := sort_c F.c19 (fs := [("index", odd)])
  have e : hits 19 22 25 = .lst [.int 19, .int 22, .int 25] := rfl
  rw [e] at so
  have ne := ne_str_same s
  have n2 : neD (.lst [.int 19, .int 22, .int 25]) (.lst [.int 19, .int 22, .int 25]) = .ok (.bl false) := ne_same (k := 1) (sd_lst (k := 0) fun x hx => by
    simp only [List.mem_cons, List.not_mem_nil, or_false] at hx
    rcases hx with rfl | rfl | rfl <;> exact sd_int _) (by omega)
  have mk : mkL [.int 19, .int 22, .int 25] = .ok (.lst [.int 19, .int 22, .int 25]) := mk3X
  have iH : isL (.lst [.int 19, .int 22, .int 25]) = .ok (.lst [.int 19, .int 22, .int 25]) := rfl
  generalize (D.lst [.int 19, .int 22, .int 25]) = HH at *
  generalize (D.exv (ga K "Broken") [("index", odd)]) = EE at *
  simp -implicitDefEqProofs only [ea0, ea1, ea2, ea3, ec0, Int.reduceEq, Int.reduceLT, Int.reduceLE, Int.reduceAdd, Int.reduceSub, Int.reduceMul, Int.reduceNeg, Nat.reduceAdd, Nat.reduceLT, Nat.reduceSucc, reduceCtorEq, eb0, ne_eq, not_false_eq_true, q, so, r1, ne, n2, mk, iH]
theorem it_at {s0 s3 s4 : Sl} : (sSeq (sIf (b1 asB (p2 neD (p1 reprY (p1 isL (pLc (i1 itemsD (pVar 2)) [3] (gVar 3) tYes' (p1 (fldX K "given") (pVar 3))))) (p1 reprY (p2 mulD (p1 isL (pA mkL (aCons (pVar 1) aNil))) (pC (.int 2)))))) (sRet (pC (.bl false))) sNext) (sIf (b1 asB (p2 neD (p1 isL (pLc (i1 itemsD (pVar 2)) [3] (gVar 3) tYes' (pA (callV (F__law_sort K)) (aCons (pVar 3) aNil)))) (p1 isL (pA mkL (aCons (p1 isL (pA mkL (aCons (pC (.int 15)) (aCons (pC (.int 22)) (aCons (pC (.int 25)) aNil))))) (aCons (p1 isL (pA mkL (aCons (pC (.int 16)) (aCons (pC (.int 22)) (aCons (pC (.int 25)) aNil))))) aNil)))))) (sRet (pC (.bl false))) sNext)) [s0, .val odd, .val (.lst [.exv (ga K "Apart") [("given", odd)], .exv (ga K "TooMany") [("given", odd)]]), s3, s4] = .ok .nx [s0, .val odd, .val (.lst [.exv (ga K "Apart") [("given", odd)], .exv (ga K "TooMany") [("given", odd)]]), s3, s4] := by
  obtain ⟨s, r2⟩ := O.r2
  have q1 := fldX_at F.f15 (fs := [("given", odd)]) (v := odd) rfl
  have q2 := fldX_at F.f16 (fs := [("given", odd)]) (v := odd) rfl
  have o1 := sort_c F.c15 (fs := [("given", odd)])
  have o2 := sort_c F.c16 (fs := [("given", odd)])
  have lg : (pLc (i1 itemsD (pVar 2)) [3] (gVar 3) tYes' (p1 (fldX K "given") (pVar 3))) [s0, .val odd, .val (.lst [.exv (ga K "Apart") [("given", odd)], .exv (ga K "TooMany") [("given", odd)]]), s3, s4] = .ok (.lst [odd, odd]) := by
    refine (pLc_map (fun i : Nat => D.exv (ga K (nm01 (15 + i))) [("given", odd)]) (fun _ => odd) (List.range 2) rfl (fun i hi => ⟨_, rfl, rfl, ?_⟩) (by simp)).trans rfl
    have hi := List.mem_range.mp hi
    have : i = 0 ∨ i = 1 := by omega
    rcases this with rfl | rfl
    · exact q1
    · exact q2
  have ls : (pLc (i1 itemsD (pVar 2)) [3] (gVar 3) tYes' (pA (callV (F__law_sort K)) (aCons (pVar 3) aNil))) [s0, .val odd, .val (.lst [.exv (ga K "Apart") [("given", odd)], .exv (ga K "TooMany") [("given", odd)]]), s3, s4] = .ok (.lst [.lst [.int 15, .int 22, .int 25], .lst [.int 16, .int 22, .int 25]]) := by
    unfold pLc
    have sr : (i1 itemsD (pVar 2)) [s0, .val odd, .val (.lst [.exv (ga K "Apart") [("given", odd)], .exv (ga K "TooMany") [("given", odd)]]), s3, s4] = .ok [.exv (ga K "Apart") [("given", odd)], .exv (ga K "TooMany") [("given", odd)]] := rfl
    rw [sr, R.bind_ok]
    have w1 : wipeS [s0, .val odd, .val (.lst [.exv (ga K "Apart") [("given", odd)], .exv (ga K "TooMany") [("given", odd)]]), s3, s4] [3] = [s0, .val odd, .val (.lst [.exv (ga K "Apart") [("given", odd)], .exv (ga K "TooMany") [("given", odd)]]), .un, s4] := rfl
    rw [w1]
    have e1 : hits 15 22 25 = .lst [.int 15, .int 22, .int 25] := rfl
    have e2 : hits 16 22 25 = .lst [.int 16, .int 22, .int 25] := rfl
    rw [e1] at o1
    rw [e2] at o2
    have g : ∀ (x : D) (s : Sl), gVar 3 x [s0, .val odd, .val (.lst [.exv (ga K "Apart") [("given", odd)], .exv (ga K "TooMany") [("given", odd)]]), s, s4] = some [s0, .val odd, .val (.lst [.exv (ga K "Apart") [("given", odd)], .exv (ga K "TooMany") [("given", odd)]]), .val x, s4] := fun _ _ => rfl
    have v : ∀ (x : D) (d : D), callV (F__law_sort K) [x] = .ok d → (pA (callV (F__law_sort K)) (aCons (pVar 3) aNil)) [s0, .val odd, .val (.lst [.exv (ga K "Apart") [("given", odd)], .exv (ga K "TooMany") [("given", odd)]]), .val x, s4] = .ok d := fun x d h => h
    have v1 := v _ _ o1
    have v2 := v _ _ o2
    have ty : ∀ ρ : List Sl, tYes' ρ = .ok true := fun _ => rfl
    have go : lcGo (gVar 3) tYes' (pA (callV (F__law_sort K)) (aCons (pVar 3) aNil)) [s0, .val odd, .val (.lst [.exv (ga K "Apart") [("given", odd)], .exv (ga K "TooMany") [("given", odd)]]), .un, s4] [.exv (ga K "Apart") [("given", odd)], .exv (ga K "TooMany") [("given", odd)]] = .ok [.lst [.int 15, .int 22, .int 25], .lst [.int 16, .int 22, .int 25]] := by
      unfold lcGo
      rw [g]
      dsimp only
      rw [ty, R.bind_ok, if_true_, v1, R.bind_ok]
      unfold lcGo
      rw [g]
      dsimp only
      rw [ty, R.bind_ok, if_true_, v2, R.bind_ok]
      rfl
    rw [go]
    exact mk2X
  have ne := ne_str_same s
  have n2 : neD (.lst [.lst [.int 15, .int 22, .int 25], .lst [.int 16, .int 22, .int 25]]) (.lst [.lst [.int 15, .int 22, .int 25], .lst [.int 16, .int 22, .int 25]]) = .ok (.bl false) := ne_same (k := 2) (sd_lst (k := 1) fun x hx => by
    simp only [List.mem_cons, List.not_mem_nil, or_false] at hx
    rcases hx with rfl | rfl <;> exact sd_lst (k := 0) fun x hx => by
      simp only [List.mem_cons, List.not_mem_nil, or_false] at hx
      rcases hx with rfl | rfl | rfl <;> exact sd_int _) (by omega)
  have m1 : mkL [.int 15, .int 22, .int 25] = .ok (.lst [.int 15, .int 22, .int 25]) := mk3X
  have m2 : mkL [.int 16, .int 22, .int 25] = .ok (.lst [.int 16, .int 22, .int 25]) := mk3X
  have m3 : mkL [.lst [.int 15, .int 22, .int 25], .lst [.int 16, .int 22, .int 25]] = .ok (.lst [.lst [.int 15, .int 22, .int 25], .lst [.int 16, .int 22, .int 25]]) := mk2X
  have i1_ : isL (.lst [.int 15, .int 22, .int 25]) = .ok (.lst [.int 15, .int 22, .int 25]) := rfl
  have i2_ : isL (.lst [.int 16, .int 22, .int 25]) = .ok (.lst [.int 16, .int 22, .int 25]) := rfl
  have i3_ : isL (.lst [.lst [.int 15, .int 22, .int 25], .lst [.int 16, .int 22, .int 25]]) = .ok (.lst [.lst [.int 15, .int 22, .int 25], .lst [.int 16, .int 22, .int 25]]) := rfl
  generalize (D.lst [.lst [.int 15, .int 22, .int 25], .lst [.int 16, .int 22, .int 25]]) = H3 at *
  generalize (D.lst [.int 15, .int 22, .int 25]) = H1 at *
  generalize (D.lst [.int 16, .int 22, .int 25]) = H2 at *
  generalize (D.lst [.exv (ga K "Apart") [("given", odd)], .exv (ga K "TooMany") [("given", odd)]]) = EE at *
  simp -implicitDefEqProofs only [ea0, ea1, ea2, ea3, ec0, Int.reduceEq, Int.reduceLT, Int.reduceLE, Int.reduceAdd, Int.reduceSub, Int.reduceMul, Int.reduceNeg, Nat.reduceAdd, Nat.reduceLT, Nat.reduceSucc, reduceCtorEq, eb0, ne_eq, not_false_eq_true, lg, ls, mul2X, mk1X, isLX, r2, ne, n2, m1, m2, m3, i1_, i2_, i3_]
end
theorem end_c {K : Fg} (F : F01 K) {ρ : List Sl} : (p2 eqD (p1 isL (pA mkL (aCons (pA (callV (F__law_sort K)) (aCons (pX0 (ga K "NoBits")) aNil)) (aCons (pA (callV (F__law_sort K)) (aCons (pX0 (ga K "NothingToUndo")) aNil)) aNil)))) (p1 isL (pA mkL (aCons (p1 isL (pA mkL (aCons (pC (.int 17)) (aCons (pC (.int 22)) (aCons (pC (.int 25)) aNil))))) (aCons (p1 isL (pA mkL (aCons (pC (.int 18)) (aCons (pC (.int 22)) (aCons (pC (.int 25)) aNil))))) aNil))))) ρ = .ok (.bl true) := by
  have o1 := sort_c F.c17 (fs := [])
  have o2 := sort_c F.c18 (fs := [])
  have e1 : hits 17 22 25 = .lst [.int 17, .int 22, .int 25] := rfl
  have e2 : hits 18 22 25 = .lst [.int 18, .int 22, .int 25] := rfl
  rw [e1] at o1
  rw [e2] at o2
  have p0 : ∀ (C : Addr) (ρ : List Sl), pX0 C ρ = .ok (.exv C []) := fun _ _ => rfl
  have m1 : mkL [.int 17, .int 22, .int 25] = .ok (.lst [.int 17, .int 22, .int 25]) := mk3X
  have m2 : mkL [.int 18, .int 22, .int 25] = .ok (.lst [.int 18, .int 22, .int 25]) := mk3X
  have m3 : mkL [.lst [.int 17, .int 22, .int 25], .lst [.int 18, .int 22, .int 25]] = .ok (.lst [.lst [.int 17, .int 22, .int 25], .lst [.int 18, .int 22, .int 25]]) := mk2X
  have i1_ : isL (.lst [.int 17, .int 22, .int 25]) = .ok (.lst [.int 17, .int 22, .int 25]) := rfl
  have i2_ : isL (.lst [.int 18, .int 22, .int 25]) = .ok (.lst [.int 18, .int 22, .int 25]) := rfl
  have i3_ : isL (.lst [.lst [.int 17, .int 22, .int 25], .lst [.int 18, .int 22, .int 25]]) = .ok (.lst [.lst [.int 17, .int 22, .int 25], .lst [.int 18, .int 22, .int 25]]) := rfl
  have eq : eqD (.lst [.lst [.int 17, .int 22, .int 25], .lst [.int 18, .int 22, .int 25]]) (.lst [.lst [.int 17, .int 22, .int 25], .lst [.int 18, .int 22, .int 25]]) = .ok (.bl true) := eq_same (k := 2) (sd_lst (k := 1) fun x hx => by
    simp only [List.mem_cons, List.not_mem_nil, or_false] at hx
    rcases hx with rfl | rfl <;> exact sd_lst (k := 0) fun x hx => by
      simp only [List.mem_cons, List.not_mem_nil, or_false] at hx
      rcases hx with rfl | rfl | rfl <;> exact sd_int _) (by omega)
  generalize (D.lst [.lst [.int 17, .int 22, .int 25], .lst [.int 18, .int 22, .int 25]]) = H3 at *
  generalize (D.lst [.int 17, .int 22, .int 25]) = H1 at *
  generalize (D.lst [.int 18, .int 22, .int 25]) = H2 at *
  simp -implicitDefEqProofs only [ea0, ea1, ea2, ea3, ec0, Int.reduceEq, Int.reduceLT, Int.reduceLE, Int.reduceAdd, Int.reduceSub, Int.reduceMul, Int.reduceNeg, Nat.reduceAdd, Nat.reduceLT, Nat.reduceSucc, reduceCtorEq, eb0, ne_eq, not_false_eq_true, p0, o1, o2, m1, m2, m3, i1_, i2_, i3_, eq]
end
end MA
set_option Elab.async false
set_option linter.all false
set_option maxRecDepth 100000
set_option maxHeartbeats 8000000
namespace MA
open PySem PySem.Spec PyProof.Rows L2 He DL DM Gr
noncomputable section
def odds01 : List D := [.non, .int 0, .bl false, .str "x", .tup [.int 5, .str "y"], .lst [.int 6], .dct [], .int (10 ^ 60), .tup [], .int (-9)]
def okR (d : D) : Bool := d.showy || d.shows
theorem okR_ok {d : D} (h : okR d = true) : ∃ s, reprY d = .ok (.str s) := by
  unfold reprY
  split
  · exact ⟨_, rfl⟩
  · rename_i hn
    unfold okR at h
    rw [Bool.or_eq_true] at h
    unfold reprD
    rw [if_pos (h.resolve_left hn)]
    exact ⟨_, rfl⟩
theorem odds_ok : (odds01.all fun d => okR d && (okR (.lst [d, d]) && okR (.lst [d, d, d, d, d, d, d]))) = true := by decide +kernel
theorem oddy {d : D} (h : d ∈ odds01) : Oddy d := by
  have := List.all_eq_true.mp odds_ok d h
  rw [Bool.and_eq_true, Bool.and_eq_true] at this
  exact ⟨okR_ok this.1, okR_ok this.2.1, okR_ok this.2.2⟩
theorem o_pow60y : powD (.int 10) (.int 60) = .ok (.int (10 ^ 60)) := by
  show (if (0 : Int) ≤ 60 ∧ (60 : Int) ≤ 1000000 ∧ (10 : Int).natAbs < 2 ^ 64 then DL.R.ok (D.int (10 ^ (60 : Int).toNat)) else .st) = _
  rw [if_pos ⟨by omega, by omega, by decide⟩]
  rfl
theorem menu_c {o : Ow} (ho : PhOk o) {s1 s2 s3 s4 : Sl} : ∃ (odd : D) (o' : Ow), odd ∈ odds01 ∧ PhOk o' ∧ (sAsgE (gVar 1) (eCallO F__law_from 0 (bCons (liftE (p1 isL (pA mkL (aCons (pC .non) (aCons (pC (.int 0)) (aCons (pC (.bl false)) (aCons (pC (.str "x")) (aCons (pA mkT (aCons (pC (.int 5)) (aCons (pC (.str "y")) aNil))) (aCons (p1 isL (pA mkL (aCons (pC (.int 6)) aNil))) (aCons (pFrzK (fun _ => .ok (.dk []))) (aCons (p2 powD (pC (.int 10)) (pC (.int 60))) (aCons (pA mkT aNil) (aCons (p1 negD (pC (.int 9))) aNil))))))))))))) bNil))) [.own 0 o, s1, s2, s3, s4] = .ok .nx [.own 0 o', .val odd, s2, s3, s4] := by
  obtain ⟨r, d, o', q, hd, ho'⟩ := from_list ho (xs := odds01) (by decide) (by decide)
  refine ⟨d, o', List.mem_of_getElem? hd, ho', ?_⟩
  have pw := o_pow60y
  have d0 : ∀ ρ : List Sl, pFrzK (fun _ => .ok (.dk [])) ρ = .ok (.dct []) := fun _ => rfl
  have n9 : negD (.int 9) = .ok (.int (-9)) := rfl
  have m0 : mkT [] = .ok (.tup []) := rfl
  have m2 : mkT [.int 5, .str "y"] = .ok (.tup [.int 5, .str "y"]) := rfl
  have m1 : mkL [.int 6] = .ok (.lst [.int 6]) := mk1X
  have ml : mkL [.non, .int 0, .bl false, .str "x", .tup [.int 5, .str "y"], .lst [.int 6], .dct [], .int (10 ^ 60), .tup [], .int (-9)] = .ok (.lst odds01) := o_mkL (fits_of (by simp))
  have il : isL (.lst odds01) = .ok (.lst odds01) := rfl
  have i6 : isL (.lst [.int 6]) = .ok (.lst [.int 6]) := rfl
  have q : F__law_from [.own 1 o, .val (.lst odds01)] = .ok (.rt d) [.own 1 o', .val (.lst odds01)] := q
  generalize (D.lst odds01) = OO at *
  generalize (D.int (10 ^ 60)) = big at *
  generalize (D.int (-9)) = neg at *
  generalize (D.tup []) = t0 at *
  generalize (D.tup [.int 5, .str "y"]) = t2 at *
  generalize (D.lst [.int 6]) = t1 at *
  generalize (D.dct []) = dc at *
  simp -implicitDefEqProofs only [ea0, ea1, ea2, ea3, ec0, Int.reduceEq, Int.reduceLT, Int.reduceLE, Int.reduceAdd, Int.reduceSub, Int.reduceMul, Int.reduceNeg, Nat.reduceAdd, Nat.reduceLT, Nat.reduceSucc, reduceCtorEq, eb0, ne_eq, not_false_eq_true, pw, d0, n9, m0, m2, m1, ml, il, i6, q]
theorem right01 {K : Fg} (F : F01 K) {o : Ow} (ho : PhOk o) : Wp (m__law_right__v41 K [.own 0 o, .un, .un, .un, .un]) (isRt (.bl true)) := by
  unfold m__law_right__v41
  obtain ⟨odd, o', hm, ho', h1⟩ := menu_c ho (s1 := .un) (s2 := .un) (s3 := .un) (s4 := .un)
  have O := oddy hm
  rw [v_seq, h1, RS.then_nx]
  have gc := given_c (K := K) (odd := odd)
  have ic := index_c (K := K) (odd := odd)
  have w1 := fun s0 s3 s4 : Sl => it_given F O (s0 := s0) (s3 := s3) (s4 := s4)
  have w2 := fun s0 s3 s4 : Sl => it_index F O (s0 := s0) (s3 := s3) (s4 := s4)
  have w3 := fun s0 s2 s4 : Sl => it_un F O (s0 := s0) (s2 := s2) (s4 := s4)
  have w4 := fun s0 s3 s4 : Sl => it_at F O (s0 := s0) (s3 := s3) (s4 := s4)
  have w5 := fun s0 s2 s4 : Sl => it_br F O (s0 := s0) (s2 := s2) (s4 := s4)
  have w6 := fun ρ : List Sl => end_c F (ρ := ρ)
  rw [v_seq]
  refine wp_pre (fun x : D => x) (fun _ ρ => ∃ s2, ρ = [.own 0 o', .val odd, s2, .un, .un]) [.lst (eG K odd), .lst (eG K odd)] (by rw [List.map_id']; simp -implicitDefEqProofs only [ea0, ea1, ea2, ea3, ec0, Int.reduceEq, Int.reduceLT, Int.reduceLE, Int.reduceAdd, Int.reduceSub, Int.reduceMul, Int.reduceNeg, Nat.reduceAdd, Nat.reduceLT, Nat.reduceSucc, reduceCtorEq, eb0, ne_eq, not_false_eq_true, gc]) ⟨_, rfl⟩ ?_ ?_
  · rintro pre x post _ e ⟨s2, rfl⟩
    have hx : x = .lst (eG K odd) := by
      have : x ∈ [D.lst (eG K odd), D.lst (eG K odd)] := by rw [e]; simp
      simpa using this
    subst hx
    generalize hQ : turnQ _ _ = Q0
    rw [show gVar 2 (D.lst (eG K odd)) [.own 0 o', .val odd, s2, .un, .un] = some [.own 0 o', .val odd, .val (D.lst (eG K odd)), .un, .un] from rfl, wpO_some, w1]
    subst hQ
    exact ⟨_, rfl⟩
  rintro _ ⟨s2, rfl⟩
  rw [v_seq]
  refine wp_pre (fun x : D => x) (fun _ ρ => ∃ s2, ρ = [.own 0 o', .val odd, s2, .un, .un]) [.lst (eI K odd), .lst (eI K odd)] (by rw [List.map_id']; simp -implicitDefEqProofs only [ea0, ea1, ea2, ea3, ec0, Int.reduceEq, Int.reduceLT, Int.reduceLE, Int.reduceAdd, Int.reduceSub, Int.reduceMul, Int.reduceNeg, Nat.reduceAdd, Nat.reduceLT, Nat.reduceSucc, reduceCtorEq, eb0, ne_eq, not_false_eq_true, ic]) ⟨_, rfl⟩ ?_ ?_
  · rintro pre x post _ e ⟨s2, rfl⟩
    have hx : x = .lst (eI K odd) := by
      have : x ∈ [D.lst (eI K odd), D.lst (eI K odd)] := by rw [e]; simp
      simpa using this
    subst hx
    generalize hQ : turnQ _ _ = Q0
    rw [show gVar 2 (D.lst (eI K odd)) [.own 0 o', .val odd, s2, .un, .un] = some [.own 0 o', .val odd, .val (D.lst (eI K odd)), .un, .un] from rfl, wpO_some, w2]
    subst hQ
    exact ⟨_, rfl⟩
  rintro _ ⟨s2, rfl⟩
  rw [v_seq]
  refine wp_pre (fun x : D => x) (fun _ ρ => ∃ s3, ρ = [.own 0 o', .val odd, s2, s3, .un]) [.exv (ga K "UnknownName") [("given", odd)], .exv (ga K "UnknownName") [("given", odd)]] (by rw [List.map_id']; simp -implicitDefEqProofs only [ea0, ea1, ea2, ea3, ec0, Int.reduceEq, Int.reduceLT, Int.reduceLE, Int.reduceAdd, Int.reduceSub, Int.reduceMul, Int.reduceNeg, Nat.reduceAdd, Nat.reduceLT, Nat.reduceSucc, reduceCtorEq, eb0, ne_eq, not_false_eq_true, mkX_1, mk2X, isLX]) ⟨_, rfl⟩ ?_ ?_
  · rintro pre x post _ e ⟨s3, rfl⟩
    have hx : x = .exv (ga K "UnknownName") [("given", odd)] := by
      have : x ∈ [D.exv (ga K "UnknownName") [("given", odd)], .exv (ga K "UnknownName") [("given", odd)]] := by rw [e]; simp
      simpa using this
    subst hx
    generalize hQ : turnQ _ _ = Q0
    rw [show gVar 3 (D.exv (ga K "UnknownName") [("given", odd)]) [.own 0 o', .val odd, s2, s3, .un] = some [.own 0 o', .val odd, s2, .val (D.exv (ga K "UnknownName") [("given", odd)]), .un] from rfl, wpO_some, w3]
    subst hQ
    exact ⟨_, rfl⟩
  rintro _ ⟨s3, rfl⟩
  rw [v_seq]
  refine wp_pre (fun x : D => x) (fun _ ρ => ∃ s2, ρ = [.own 0 o', .val odd, s2, s3, .un]) [.lst [.exv (ga K "Apart") [("given", odd)], .exv (ga K "TooMany") [("given", odd)]], .lst [.exv (ga K "Apart") [("given", odd)], .exv (ga K "TooMany") [("given", odd)]]] (by rw [List.map_id']; simp -implicitDefEqProofs only [ea0, ea1, ea2, ea3, ec0, Int.reduceEq, Int.reduceLT, Int.reduceLE, Int.reduceAdd, Int.reduceSub, Int.reduceMul, Int.reduceNeg, Nat.reduceAdd, Nat.reduceLT, Nat.reduceSucc, reduceCtorEq, eb0, ne_eq, not_false_eq_true, mkX_1, mk2X, isLX]) ⟨_, rfl⟩ ?_ ?_
  · rintro pre x post _ e ⟨s2, rfl⟩
    have hx : x = .lst [.exv (ga K "Apart") [("given", odd)], .exv (ga K "TooMany") [("given", odd)]] := by
      have : x ∈ [D.lst [.exv (ga K "Apart") [("given", odd)], .exv (ga K "TooMany") [("given", odd)]], .lst [.exv (ga K "Apart") [("given", odd)], .exv (ga K "TooMany") [("given", odd)]]] := by rw [e]; simp
      simpa using this
    subst hx
    generalize hQ : turnQ _ _ = Q0
    rw [show gVar 2 (D.lst [.exv (ga K "Apart") [("given", odd)], .exv (ga K "TooMany") [("given", odd)]]) [.own 0 o', .val odd, s2, s3, .un] = some [.own 0 o', .val odd, .val (D.lst [.exv (ga K "Apart") [("given", odd)], .exv (ga K "TooMany") [("given", odd)]]), s3, .un] from rfl, wpO_some, w4]
    subst hQ
    exact ⟨_, rfl⟩
  rintro _ ⟨s2, rfl⟩
  rw [v_seq]
  refine wp_pre (fun x : D => x) (fun _ ρ => ∃ s3, ρ = [.own 0 o', .val odd, s2, s3, .un]) [.exv (ga K "Broken") [("index", odd)], .exv (ga K "Broken") [("index", odd)]] (by rw [List.map_id']; simp -implicitDefEqProofs only [ea0, ea1, ea2, ea3, ec0, Int.reduceEq, Int.reduceLT, Int.reduceLE, Int.reduceAdd, Int.reduceSub, Int.reduceMul, Int.reduceNeg, Nat.reduceAdd, Nat.reduceLT, Nat.reduceSucc, reduceCtorEq, eb0, ne_eq, not_false_eq_true, mkX_1, mk2X, isLX]) ⟨_, rfl⟩ ?_ ?_
  · rintro pre x post _ e ⟨s3, rfl⟩
    have hx : x = .exv (ga K "Broken") [("index", odd)] := by
      have : x ∈ [D.exv (ga K "Broken") [("index", odd)], .exv (ga K "Broken") [("index", odd)]] := by rw [e]; simp
      simpa using this
    subst hx
    generalize hQ : turnQ _ _ = Q0
    rw [show gVar 3 (D.exv (ga K "Broken") [("index", odd)]) [.own 0 o', .val odd, s2, s3, .un] = some [.own 0 o', .val odd, s2, .val (D.exv (ga K "Broken") [("index", odd)]), .un] from rfl, wpO_some, w5]
    subst hQ
    exact ⟨_, rfl⟩
  rintro _ ⟨s3, rfl⟩
  rw [v_sRet, w6]
  exact isRt_ok
theorem law01 {K : Fg} (F : F01 K) (ns : List Int) : ∃ ρ, F_law__v41 K [.val (.scr ns)] = .ok (.rt (.bl true)) ρ := by
  suffices hs : Wp (m_law__v41 K [.val (.scr ns), .un, .un]) (isRt (.bl true)) by
    obtain ⟨ρ, hs⟩ := hs
    exact ⟨_, runF_rt (nl := 2) hs⟩
  unfold m_law__v41
  have ml : mkL [.int 14, .int 60, .int 6, .int 8, .int 60] = .ok (.lst [.int 14, .int 60, .int 6, .int 8, .int 60]) := mk5X
  have il : isL (.lst [.int 14, .int 60, .int 6, .int 8, .int 60]) = .ok (.lst [.int 14, .int 60, .int 6, .int 8, .int 60]) := rfl
  have sw : Sw 1 205 (.lst [.int 14, .int 60, .int 6, .int 8, .int 60]) := sw_lst (k := 0) (w := 40) (xs := [.int 14, .int 60, .int 6, .int 8, .int 60]) fun x hx => by
    simp only [List.mem_cons, List.not_mem_nil, or_false] at hx
    rcases hx with rfl | rfl | rfl | rfl | rfl <;> exact sw_int (by decide)
  have rp := sw.repr (by omega) (by omega)
  have ne := ne_str_same (D.py (.lst [.int 14, .int 60, .int 6, .int 8, .int 60])).shown
  generalize (D.py (.lst [.int 14, .int 60, .int 6, .int 8, .int 60])).shown = tt at *
  generalize (D.lst [.int 14, .int 60, .int 6, .int 8, .int 60]) = lm at *
  have hr : iRange1 (p2 maxD (pC (.int 2)) (p2 minD (p1 lenD (pVar 0)) (pC (.int 5)))) [.val (.scr ns), .val lm, .un] = .ok (arr (max 2 (min ns.length 5)) fun i : Nat => .int i) := by
    refine v_range1 ?_ (by omega)
    simp -implicitDefEqProofs only [ea0, ea1, ea2, ea3, ec0, Int.reduceEq, Int.reduceLT, Int.reduceLE, Int.reduceAdd, Int.reduceSub, Int.reduceMul, Int.reduceNeg, Nat.reduceAdd, Nat.reduceLT, Nat.reduceSucc, reduceCtorEq, eb0, ne_eq, not_false_eq_true]
    congr 2
    split <;> split <;> omega
  have lc := pLc_map (ρ := [.val (.scr ns), .val lm, .un]) (vs := [2]) (tf := gVar 2) (c := tYes') (g := pCallF (F__law_right__v41 K) (gLst (pA (callL F__law_phial_of) (aCons (pVar 0) (aCons (pVar 2) aNil))))) (fun i : Nat => .int i) (fun _ => .bl true) (List.range (max 2 (min ns.length 5))) hr (fun t ht => by
    refine ⟨_, rfl, rfl, ?_⟩
    obtain ⟨a, b, e, ha⟩ := phial_c ns t
    obtain ⟨ρ', h2⟩ := right01 F (o := .lst [.int a, .int b, .int 0]) ⟨a, b, 0, rfl, ha⟩
    refine pCallF_of (o := .lst [.int a, .int b, .int 0]) ?_ (runF_rt (nl := 4) (ρ := [.own 0 _]) h2)
    simp -implicitDefEqProofs only [ea0, ea1, ea2, ea3, ec0, Int.reduceEq, Int.reduceLT, Int.reduceLE, Int.reduceAdd, Int.reduceSub, Int.reduceMul, Int.reduceNeg, Nat.reduceAdd, Nat.reduceLT, Nat.reduceSucc, reduceCtorEq, eb0, ne_eq, not_false_eq_true, wipeS, e]) (by rw [List.length_range]; omega)
  have at_ := all_true (List.range (max 2 (min ns.length 5)))
  have i2 : isL (.lst ((List.range (max 2 (min ns.length 5))).map fun _ => D.bl true)) = .ok (.lst ((List.range (max 2 (min ns.length 5))).map fun _ => D.bl true)) := rfl
  generalize (D.lst ((List.range (max 2 (min ns.length 5))).map fun _ => D.bl true)) = LL at *
  simp -implicitDefEqProofs only [ea0, ea1, ea2, ea3, ec0, Int.reduceEq, Int.reduceLT, Int.reduceLE, Int.reduceAdd, Int.reduceSub, Int.reduceMul, Int.reduceNeg, Nat.reduceAdd, Nat.reduceLT, Nat.reduceSucc, reduceCtorEq, eb0, ne_eq, not_false_eq_true, ml, il, rp, ne, lc, i2, at_]
  exact isRt_ok
end
end MA
set_option Elab.async false
set_option linter.all false
set_option maxRecDepth 100000
set_option maxHeartbeats 2000000
namespace DL
open PySem PySem.Spec PyProof.Rows L2 He
theorem csK_mem {K : Fg} {p : Addr × Addr} (h : p ∈ csK K) : ∃ x ∈ lamNames, tabInX K x = some p := by
  obtain ⟨x, hx, hp⟩ := List.mem_flatMap.mp h
  refine ⟨x, hx, ?_⟩
  unfold csN at hp
  split at hp
  · rename_i q e
    rw [List.mem_singleton.mp hp]; exact e
  · cases hp
theorem tabsK_mem {K : Fg} {p : Addr × Str} (h : p ∈ tabsK K) : ∃ c, (c, p.1) ∈ csK K := by
  obtain ⟨x, hx, hp⟩ := List.mem_flatMap.mp h
  unfold tabOfN at hp
  split at hp
  · rename_i c P e
    refine ⟨c, List.mem_flatMap.mpr ⟨x, hx, ?_⟩⟩
    unfold csN
    rw [e, List.mem_singleton.mp hp]
    exact List.mem_singleton.mpr rfl
  · cases hp
/-- the script and the tables alone may be tracked -/
structure OnlyT (cs : List (Addr × Addr)) (H : Hp) : Prop where
  t : ∀ p ∈ cs, H p.2 = some (.tbl #[])
  o : ∀ b, H b = none ∨ b ∈ cs.map (·.2) ∨ ∃ o xs, H b = some (.frz o (.lst xs))
def tbH (cs : List (Addr × Addr)) (H0 : Hp) : Hp := fun b => if b ∈ cs.map (·.2) then some (.tbl #[]) else H0 b
section
variable {P : Program} {w : World} {K : Fg} {mg : Str → Option Value} {k : Nat} {fd : FuncData} {sp : Sp}
theorem lawT_two {a : Addr} {s₁ : Shared} {vs : List Value} {ns : List Int} {cs : List (Addr × Addr)} {C : Prop} (KX : K.In s₁.heap) (ha : s₁.heap.get? a = some { cls := .type "list", data := .seq vs.toArray }) (hi : IntsAre vs ns) (hl : ns.length ≤ sizeLine)
    (hT : ∀ p ∈ cs, s₁.heap.get? p.2 = some { cls := .none, data := .fields #[] }) (nT : ∀ p ∈ cs, K.lookup p.2 = none)
    (main : ∀ H : Hp, OnlyT cs H → SqL K H a (ns.map V.int) → HOk P w H s₁.heap → (∀ b, H b ≠ none → b = a ∨ b ∈ cs.map (·.2)) → (∀ b, H b ≠ none → K.lookup b = none) → C) : C := by
  have isT : ∀ b ∈ cs.map (·.2), s₁.heap.get? b = some { cls := .none, data := .fields #[] } ∧ K.lookup b = none := fun b hb => by
    obtain ⟨p, hp, rfl⟩ := List.mem_map.mp hb
    exact ⟨hT p hp, nT p hp⟩
  have aT : a ∉ cs.map (·.2) := fun z => by
    have q := (isT a z).1
    rw [ha] at q
    cases q
  refine lawG_two (P := P) (w := w) KX ha hi hl fun H0 hO hS hok hA hK => ?_
  have inT : ∀ b, b ∈ cs.map (·.2) → tbH cs H0 b = some (.tbl #[]) := fun b hb => if_pos hb
  have outT : ∀ b, b ∉ cs.map (·.2) → tbH cs H0 b = H0 b := fun b hb => if_neg hb
  refine main (tbH cs H0) ⟨fun p hp => inT _ (List.mem_map.mpr ⟨p, hp, rfl⟩), fun b => ?_⟩ ?_ (fun b u z => ?_) (fun b z => ?_) fun b z => ?_
  · by_cases hb : b ∈ cs.map (·.2)
    · exact .inr (.inl hb)
    · rw [outT b hb]
      exact (hO b).imp id .inr
  · rcases hS with (h | ⟨o, h⟩) | h
    · exact .inl (.inl (by rw [outT a aT]; exact h))
    · exact .inl (.inr ⟨o, by rw [outT a aT]; exact h⟩)
    · exact .inr h
  · by_cases hb : b ∈ cs.map (·.2)
    · rw [inT b hb] at z
      cases z
      exact (isT b hb).1
    · rw [outT b hb] at z
      rcases hO b with q | ⟨o, xs, q⟩
      · rw [q] at z; cases z
      · rw [q] at z
        cases z
        exact hok b _ q
  · by_cases hb : b ∈ cs.map (·.2)
    · exact .inr hb
    · rw [outT b hb] at z
      exact .inl (hA b z)
  · by_cases hb : b ∈ cs.map (·.2)
    · exact (isT b hb).2
    · rw [outT b hb] at z
      have := hA b z
      subst this
      exact hK z
theorem lawT_call {mb : Str → Option Value} {fa a : Addr} {x : Str} {s₁ : Shared} {vs : List Value} {ns : List Int} {cs : List (Addr × Addr)}
    (KX : K.In s₁.heap) (hns : s₁.heap.Ns mainGlobals mg) (hb : s₁.heap.Ns builtinsNs mb) (hbb : ∀ x : Str, x ≠ "__name__" → mb x = bootBuiltins x) (hlim : s₁.heap.NoLimit) (hg : s₁.gens = #[])
    (hT : ∀ p ∈ cs, s₁.heap.get? p.2 = some { cls := .none, data := .fields #[] }) (nT : ∀ p ∈ cs, K.lookup p.2 = none) (hC : ∀ p ∈ cs, PySem.W.CodeHd s₁.heap p.1 p.2)
    (hbm : ∃ (bm : Addr) (ob : Obj), mg "__builtins__" = some (.ref bm) ∧ bm ≠ builtinsNs ∧ s₁.heap.get? bm = some ob ∧ ob.cls = .type "module" ∧ ob.dict = some builtinsNs ∧ ob.data = .plain)
    (ha : s₁.heap.get? a = some { cls := .type "list", data := .seq vs.toArray }) (hi : IntsAre vs ns) (hl : ns.length ≤ sizeLine) (hr : Room k callerA)
    (F : ∀ base : Heap, K.In base → base.Ns mainGlobals mg → (∀ p ∈ cs, LamX.TabB base mg p.1 p.2) → FnOg P w K mg base k fa fd [x] sp) (hbind : ∀ (s : Shared) (u : Value), BindsTo s fd ⟨[u], []⟩ [(x, u)])
    (hsp : ∀ H : Hp, OnlyT cs H → SqL K H a (ns.map V.int) → sp [.ref a] H (fun v _ => v = .bl true) fun _ _ _ => False) :
    codeAny (model P w) callerA (.call (.ref fa) ⟨[.ref a], []⟩) (fun r s' => r = .ok (.ret (.bool true)) ∧ OldK s₁.heap s'.heap ∧ s'.os = s₁.os ∧ AllBare s'.gens) s₁ := by
  refine lawT_two (P := P) (w := w) KX ha hi hl hT nT fun H hO hS hok hA hK => ?_
  -- what is tracked: a list, and empty tables
  have shape : ∀ {b : Addr} {o : Obj}, s₁.heap.get? b = some o → H b ≠ none → o.data = .seq vs.toArray ∨ o.data = .fields #[] := fun {b o} e z => by
    rcases hA b z with q | q
    · rw [q, ha] at e; cases e; exact .inl rfl
    · obtain ⟨p, hp, ep⟩ := List.mem_map.mp q
      rw [← ep, hT p hp] at e; cases e; exact .inr rfl
  have dictless : ∀ {b : Addr} {o : Obj} {es : Array DictEntry} {ep : Nat}, s₁.heap.get? b = some o → o.data = .dict es ep → H b = none := fun {b o es ep} e d => by
    by_cases z : H b = none
    · exact z
    · rcases shape e z with q | q <;> rw [d] at q <;> cases q
  have nsH : ∀ {b : Addr} {m : Str → Option Value}, s₁.heap.Ns b m → (hidT s₁.heap H).Ns b m := fun ⟨o, es, ep, e, d, r⟩ => ⟨o, es, ep, hidT_get e (dictless e d), d, r⟩
  have inH : K.In (hidT s₁.heap H) := fun b o e => by
    refine hidT_get (KX b o e) ?_
    by_cases z : H b = none
    · exact z
    · rw [hK b z] at e; cases e
  have tb : ∀ p ∈ cs, LamX.TabB (hidT s₁.heap H) mg p.1 p.2 := fun p hp => by
    have hTp := hT p hp
    obtain ⟨bm, ob, b1, b2, b3, b4, b5, b6⟩ := hbm
    refine ⟨?_, ⟨bm, ob, b1, b2, fun q => ?_, fun q => ?_, ?_, b4, b5, b6⟩, fun q => ?_⟩
    · obtain ⟨o, us, c1, c2, c3, c4, c5, c6, c7, e1, r1, r2, r3, r⟩ := hC p hp
      refine ⟨o, us, c1, c2, c3, c4, c5, c6, c7, hidT_get e1 ?_, r1, r2, r3, r⟩
      by_cases z : H p.1 = none
      · exact z
      · rcases shape e1 z with q | q <;> rw [r2] at q <;> cases q
        simp at r3
    · obtain ⟨o, es, ep, e, d, _⟩ := hns
      rw [← q, b3] at e
      cases e
      rw [b6] at d; cases d
    · rw [q, hTp] at b3
      cases b3
      cases b6
    · refine hidT_get b3 ?_
      by_cases z : H bm = none
      · exact z
      · rcases shape b3 z with q | q <;> rw [b6] at q <;> cases q
    · obtain ⟨o, es, ep, e, d, _⟩ := hns
      rw [q, hTp] at e
      cases e
      cases d
  have env : Env0 P w K mg (hidT s₁.heap H) callerA [] s₁ H := by
    refine ⟨rfl, ⟨inH, nsH hns, ⟨mb, nsH hb, hbb⟩, ?_⟩, fun b o e => of_hidT e, Nat.le_of_eq (hidT_size _ _), trivial, (fun b z => nomatch (show b ∈ ([] : List Addr) from z)), hok, AllBare.of_eq hg⟩
    obtain ⟨mc, h1, h2⟩ := hlim
    exact ⟨mc, nsH h1, h2⟩
  have run := (F _ inH (nsH hns) tb).run (args := ⟨[.ref a], []⟩) (us := [.ref a]) (vs := [.ref a]) rfl hr env (hbind s₁ (.ref a)) (.cons rfl .nil) (hsp H hO hS)
  refine codeAny_mono run fun r s' h => ?_
  match r, h with
  | .error e, h => exact (endCX h).elim
  | .ok (.ret u), h =>
    obtain ⟨v, H', os, bare, un, hok', r', q⟩ := h
    cases (show v = .bl true from q)
    cases r'
    have more : ∀ p ∈ cs, ∃ ms : Array Value, s'.heap.get? p.2 = some { cls := .none, data := .fields ms } := fun p hp => by
      obtain ⟨ms, z⟩ := un.tbls p.2 #[] (hO.t p hp)
      exact ⟨_, hok' p.2 _ z⟩
    have keep : ∀ b o, b ∉ cs.map (·.2) → s₁.heap.get? b = some o → s'.heap.get? b = some o := fun b o nb e => by
      cases q : H b with
      | none => exact un.keep b o e q (by intro z; cases z) (by simp)
      | some u =>
        rcases hO.o b with z | z | ⟨ob, xs, z⟩
        · rw [q] at z; cases z
        · exact absurd z nb
        · obtain ⟨e1, _⟩ := hok b _ z
          obtain ⟨e2, _⟩ := hok' b _ (un.frzs b ob _ z)
          rw [e] at e1; cases e1
          exact e2
    refine ⟨rfl, ⟨fun b o e => ?_, fun b o e => ?_⟩, os, bare⟩
    · by_cases hb : b ∈ cs.map (·.2)
      · obtain ⟨p, hp, ep⟩ := List.mem_map.mp hb
        obtain ⟨ms, hm⟩ := more p hp
        rw [← ep, hT p hp] at e
        cases e
        rw [← ep]
        exact .inr (.inl ⟨((hC p hp).tab (hT p hp)).isCodeTable, rfl, #[], ms, rfl, by rw [Array.empty_append]; exact hm⟩)
      · exact .inl (keep b o hb e)
    · by_cases hb : b ∈ cs.map (·.2)
      · obtain ⟨p, hp, ep⟩ := List.mem_map.mp hb
        obtain ⟨ms, hm⟩ := more p hp
        exact ⟨_, by rw [← ep]; exact hm⟩
      · exact ⟨o, keep b o hb e⟩
  | .ok .next, h => exact h.elim
  | .ok .brk, h => exact h.elim
  | .ok .cont, h => exact h.elim
/-- the law over a head by facts, with tables -/
theorem walkT {l : PySem.W.OpenLaw} {n k : Nat} {q : Program} {loose : List Str} {XP : (Str → Option Value) → Heap → Prop} {YP : World → Heap → Prop} {d : DefRec} {x : Str}
    (hn : l.most = some n) (hn2 : n ≤ sizeLine) (hdf : d.params.defaults = []) (hr : Room k callerA)
    (F : ∀ (w : World) (mg : Str → Option Value) (fa : Addr) (h : Heap), YP w h → h.Ns mainGlobals mg → mg d.name = some (.ref fa) →
      ∃ (K : Fg) (fd : FuncData) (sp : Sp), K.In h ∧ TabsH K h ∧ (∀ (s : Shared) (u : Value), BindsTo s fd ⟨[u], []⟩ [(x, u)]) ∧
        (∀ (H : Hp) (a : Addr) (ns : List Int), ns.length ≤ n → OnlyT (csK K) H → SqL K H a (ns.map V.int) → sp [.ref a] H (fun v _ => v = .bl true) fun _ _ _ => False) ∧
        ∀ base : Heap, K.In base → base.Ns mainGlobals mg → (∀ p ∈ csK K, LamX.TabB base mg p.1 p.2) → FnOg l.prog w K mg base k fa fd [x] sp) :
    PySem.W.WalkO q loose XP YP l.row.toRowW d [] (fun f vs => PySem.call f vs) :=
  Att.attach_call hn hdf fun w _ _ mg _ fa _ _ _ _ a _ ns G Y _ _ _ hmg hobj hints hlen hg => by
    obtain ⟨K, fd, sp, KX, TH, hb, hsp, hF⟩ := F w mg fa _ Y G.T.g hmg
    have ft : ∀ p ∈ csK K, K.lookup p.2 = none ∧ _ ∧ PySem.W.CodeHd _ p.1 p.2 := fun p hp => by
      obtain ⟨x, hx, e⟩ := csK_mem hp
      exact TH x hx p.1 p.2 e
    exact lawT_call KX G.T.g G.T.b G.T.builtins G.T.nolimit hg (fun p hp => (ft p hp).2.1) (fun p hp => (ft p hp).1) (fun p hp => (ft p hp).2.2) G.T.bmain hobj hints (Nat.le_trans hlen hn2) hr hF hb (hsp · a ns hlen)
end
/-- the frozen part of what is tracked at first -/
def noTb (H : Hp) : Hp := fun b => match H b with
  | some (.tbl _) => none
  | o => o
theorem noTb_same (H : Hp) : Same (noTb H) H := fun b o e => by
  unfold noTb at e
  split at e
  · cases e
  · exact e
theorem noTb_k {H : Hp} {b : Addr} {o : HO} (e : H b = some o) (n : NT o) : noTb H b = some o := by
  unfold noTb
  rw [e]
  split
  · rename_i ps q
    cases q
    exact absurd rfl (n ps)
  · rfl
theorem spT_law {K : Fg} {F : List Sl → RS} {H : Hp} {a : Addr} {ns : List Int} (O : OnlyT (csK K) H) (hS : SqL K H a (ns.map V.int)) (hm : ∃ ρ, F [.val (.scr ns)] = .ok (.rt (.bl true)) ρ) : spD K 1 F [.ref a] H (fun v _ => v = .bl true) fun _ _ _ => False := by
  obtain ⟨ρ, e⟩ := hm
  have s : SqL K (noTb H) a (ns.map V.int) := SameN.seq (H := H) (fun b o h n => noTb_k h n) hS
  have t : TbOk K (noTb H) H := fun p hp => by
    obtain ⟨c, hc⟩ := tabsK_mem hp
    have := O.t _ hc
    refine ⟨?_, LamX.TabS.nil this⟩
    unfold noTb
    rw [this]
  refine ⟨rfl, fun _ => 0, noTb H, [.val (.scr ns)], [], Stt.vals (noTb_same H) t (.cons (.scr s) .nil), ?_⟩
  rw [e]
  intro v G' H' W' fr S r
  cases r
  rfl
end DL
set_option Elab.async false
set_option linter.all false
set_option maxRecDepth 100000
set_option maxHeartbeats 0
namespace Lk01
open PySem PySem.Spec PyProof.Rows L2 He DL DM
abbrev N__law_drop : List Str := ["_law_phial", "_law_top", "_law_base", "_law_got"]
theorem sc__law_drop : FnScope N__law_drop ["_law_phial", "_law_top"] (defScope s__law_drop) := ⟨rfl, rfl, rfl, by decide +kernel, rfl, by decide +kernel, by decide +kernel⟩
abbrev N__law_from : List Str := ["_law_phial", "_law_menu"]
theorem sc__law_from : FnScope N__law_from ["_law_phial", "_law_menu"] (defScope s__law_from) := ⟨rfl, rfl, rfl, by decide +kernel, rfl, by decide +kernel, by decide +kernel⟩
abbrev N__law_given_errors : List Str := ["_law_odd", "_law_found", "_law_later"]
theorem sc__law_given_errors : FnScope N__law_given_errors ["_law_odd"] (defScope s__law_given_errors) := ⟨rfl, rfl, rfl, by decide +kernel, rfl, by decide +kernel, by decide +kernel⟩
abbrev N__law_sort : List Str := ["_law_e", "_law_found", "_law_k"]
theorem sc__law_sort : FnScope N__law_sort ["_law_e"] (defScope s__law_sort) := ⟨rfl, rfl, rfl, by decide +kernel, rfl, by decide +kernel, by decide +kernel⟩
abbrev N__law_index_errors : List Str := ["_law_odd", "_law_found", "_law_later"]
theorem sc__law_index_errors : FnScope N__law_index_errors ["_law_odd"] (defScope s__law_index_errors) := ⟨rfl, rfl, rfl, by decide +kernel, rfl, by decide +kernel, by decide +kernel⟩
abbrev N__law_right : List Str := ["_law_phial", "_law_odd", "_law_some", "_law_e", "_law_k"]
theorem sc__law_right : FnScope N__law_right ["_law_phial"] (defScope s__law_right) := ⟨rfl, rfl, rfl, by decide +kernel, rfl, by decide +kernel, by decide +kernel⟩
abbrev N__law_phial_of : List Str := ["_law_script", "_law_turn", "_law_cell", "_law_swirled", "_law_at", "_law_each"]
theorem sc__law_phial_of : FnScope N__law_phial_of ["_law_script", "_law_turn"] (defScope s__law_phial_of) := ⟨rfl, rfl, rfl, by decide +kernel, rfl, by decide +kernel, by decide +kernel⟩
abbrev N_law : List Str := ["_law_script", "_law_limits_here", "_law_turn"]
theorem sc_law : FnScope N_law ["_law_script"] (defScope s_law) := ⟨rfl, rfl, rfl, by decide +kernel, rfl, by decide +kernel, by decide +kernel⟩
abbrev N_Apart___init__ : List Str := ["self", "given"]
theorem sc_Apart___init__ : FnScope N_Apart___init__ ["self", "given"] (defScope s_Apart___init__) := ⟨rfl, rfl, rfl, by decide +kernel, rfl, by decide +kernel, by decide +kernel⟩
abbrev N_Broken___init__ : List Str := ["self", "index"]
theorem sc_Broken___init__ : FnScope N_Broken___init__ ["self", "index"] (defScope s_Broken___init__) := ⟨rfl, rfl, rfl, by decide +kernel, rfl, by decide +kernel, by decide +kernel⟩
abbrev N_InvalidDoubts___init__ : List Str := ["self", "index"]
theorem sc_InvalidDoubts___init__ : FnScope N_InvalidDoubts___init__ ["self", "index"] (defScope s_InvalidDoubts___init__) := ⟨rfl, rfl, rfl, by decide +kernel, rfl, by decide +kernel, by decide +kernel⟩
abbrev N_InvalidIndex___init__ : List Str := ["self", "given"]
theorem sc_InvalidIndex___init__ : FnScope N_InvalidIndex___init__ ["self", "given"] (defScope s_InvalidIndex___init__) := ⟨rfl, rfl, rfl, by decide +kernel, rfl, by decide +kernel, by decide +kernel⟩
abbrev N_InvalidLot___init__ : List Str := ["self", "index"]
theorem sc_InvalidLot___init__ : FnScope N_InvalidLot___init__ ["self", "index"] (defScope s_InvalidLot___init__) := ⟨rfl, rfl, rfl, by decide +kernel, rfl, by decide +kernel, by decide +kernel⟩
abbrev N_InvalidName___init__ : List Str := ["self", "given"]
theorem sc_InvalidName___init__ : FnScope N_InvalidName___init__ ["self", "given"] (defScope s_InvalidName___init__) := ⟨rfl, rfl, rfl, by decide +kernel, rfl, by decide +kernel, by decide +kernel⟩
abbrev N_InvalidNumber___init__ : List Str := ["self", "given"]
theorem sc_InvalidNumber___init__ : FnScope N_InvalidNumber___init__ ["self", "given"] (defScope s_InvalidNumber___init__) := ⟨rfl, rfl, rfl, by decide +kernel, rfl, by decide +kernel, by decide +kernel⟩
abbrev N_InvalidOffers___init__ : List Str := ["self", "index"]
theorem sc_InvalidOffers___init__ : FnScope N_InvalidOffers___init__ ["self", "index"] (defScope s_InvalidOffers___init__) := ⟨rfl, rfl, rfl, by decide +kernel, rfl, by decide +kernel, by decide +kernel⟩
abbrev N_InvalidRead___init__ : List Str := ["self", "index"]
theorem sc_InvalidRead___init__ : FnScope N_InvalidRead___init__ ["self", "index"] (defScope s_InvalidRead___init__) := ⟨rfl, rfl, rfl, by decide +kernel, rfl, by decide +kernel, by decide +kernel⟩
abbrev N_InvalidRows___init__ : List Str := ["self", "index"]
theorem sc_InvalidRows___init__ : FnScope N_InvalidRows___init__ ["self", "index"] (defScope s_InvalidRows___init__) := ⟨rfl, rfl, rfl, by decide +kernel, rfl, by decide +kernel, by decide +kernel⟩
abbrev N_InvalidText___init__ : List Str := ["self", "given"]
theorem sc_InvalidText___init__ : FnScope N_InvalidText___init__ ["self", "given"] (defScope s_InvalidText___init__) := ⟨rfl, rfl, rfl, by decide +kernel, rfl, by decide +kernel, by decide +kernel⟩
abbrev N_InvalidTie___init__ : List Str := ["self", "given"]
theorem sc_InvalidTie___init__ : FnScope N_InvalidTie___init__ ["self", "given"] (defScope s_InvalidTie___init__) := ⟨rfl, rfl, rfl, by decide +kernel, rfl, by decide +kernel, by decide +kernel⟩
abbrev N_InvalidTies___init__ : List Str := ["self", "index"]
theorem sc_InvalidTies___init__ : FnScope N_InvalidTies___init__ ["self", "index"] (defScope s_InvalidTies___init__) := ⟨rfl, rfl, rfl, by decide +kernel, rfl, by decide +kernel, by decide +kernel⟩
abbrev N_InvalidTowns___init__ : List Str := ["self", "index"]
theorem sc_InvalidTowns___init__ : FnScope N_InvalidTowns___init__ ["self", "index"] (defScope s_InvalidTowns___init__) := ⟨rfl, rfl, rfl, by decide +kernel, rfl, by decide +kernel, by decide +kernel⟩
abbrev N_InvalidWish___init__ : List Str := ["self", "given"]
theorem sc_InvalidWish___init__ : FnScope N_InvalidWish___init__ ["self", "given"] (defScope s_InvalidWish___init__) := ⟨rfl, rfl, rfl, by decide +kernel, rfl, by decide +kernel, by decide +kernel⟩
abbrev N_NotAWeb___init__ : List Str := ["self", "given"]
theorem sc_NotAWeb___init__ : FnScope N_NotAWeb___init__ ["self", "given"] (defScope s_NotAWeb___init__) := ⟨rfl, rfl, rfl, by decide +kernel, rfl, by decide +kernel, by decide +kernel⟩
abbrev N_TooMany___init__ : List Str := ["self", "given"]
theorem sc_TooMany___init__ : FnScope N_TooMany___init__ ["self", "given"] (defScope s_TooMany___init__) := ⟨rfl, rfl, rfl, by decide +kernel, rfl, by decide +kernel, by decide +kernel⟩
abbrev N_UnknownName___init__ : List Str := ["self", "given"]
theorem sc_UnknownName___init__ : FnScope N_UnknownName___init__ ["self", "given"] (defScope s_UnknownName___init__) := ⟨rfl, rfl, rfl, by decide +kernel, rfl, by decide +kernel, by decide +kernel⟩
structure Fx (K : Fg) (mg : Str → Option Value) : Prop where
  g__law_drop : mg "_law_drop" = some (.ref (ga K "_law_drop"))
  g__law_from : mg "_law_from" = some (.ref (ga K "_law_from"))
  g__law_given_errors : mg "_law_given_errors" = some (.ref (ga K "_law_given_errors"))
  g__law_sort : mg "_law_sort" = some (.ref (ga K "_law_sort"))
  g__law_index_errors : mg "_law_index_errors" = some (.ref (ga K "_law_index_errors"))
  g__law_right : mg "_law_right" = some (.ref (ga K "_law_right"))
  g__law_phial_of : mg "_law_phial_of" = some (.ref (ga K "_law_phial_of"))
  g_law : mg "law" = some (.ref (ga K "law"))
  k_MOST_TOWNS : ∃ t, mg "MOST_TOWNS" = some (.int 14 t)
  k_MOST_TIES : ∃ t, mg "MOST_TIES" = some (.int 60 t)
  k_MOST_OFFERS : ∃ t, mg "MOST_OFFERS" = some (.int 6 t)
  k_MOST_DOUBTS : ∃ t, mg "MOST_DOUBTS" = some (.int 8 t)
  k_MOST_BITS : ∃ t, mg "MOST_BITS" = some (.int 60 t)
  n_repr : mg "repr" = none
  n_len : mg "len" = none
  n_min : mg "min" = none
  n_max : mg "max" = none
  n_range : mg "range" = none
  n_all : mg "all" = none
  n_enumerate : mg "enumerate" = none
  n_int : mg "int" = none
  n_abs : mg "abs" = none
  n_isinstance : mg "isinstance" = none
  n_ValueError : mg "ValueError" = none
  n_LookupError : mg "LookupError" = none
  n_ArithmeticError : mg "ArithmeticError" = none
  n_divmod : mg "divmod" = none
  g_Apart : mg "Apart" = some (.ref (ga K "Apart"))
  e_Apart : OexT K (ga K "Apart") ∧ PySem.W.findIn K (.ref (ga K "Apart")) "given" = some none ∧ PySem.W.findIn K (.ref (ga K "Apart")) "__init__" = some (some (.ref (ma K (ga K "Apart") "__init__"))) ∧ PySem.W.typeIn K (.ref (ma K (ga K "Apart") "__init__")) = some (.type "function")
  g_Broken : mg "Broken" = some (.ref (ga K "Broken"))
  e_Broken : OexT K (ga K "Broken") ∧ PySem.W.findIn K (.ref (ga K "Broken")) "index" = some none ∧ PySem.W.findIn K (.ref (ga K "Broken")) "__init__" = some (some (.ref (ma K (ga K "Broken") "__init__"))) ∧ PySem.W.typeIn K (.ref (ma K (ga K "Broken") "__init__")) = some (.type "function")
  g_InvalidDoubts : mg "InvalidDoubts" = some (.ref (ga K "InvalidDoubts"))
  e_InvalidDoubts : OexC K (ga K "InvalidDoubts") ∧ PySem.W.findIn K (.ref (ga K "InvalidDoubts")) "index" = some none ∧ PySem.W.findIn K (.ref (ga K "InvalidDoubts")) "__init__" = some (some (.ref (ma K (ga K "InvalidDoubts") "__init__"))) ∧ PySem.W.typeIn K (.ref (ma K (ga K "InvalidDoubts") "__init__")) = some (.type "function")
  g_InvalidIndex : mg "InvalidIndex" = some (.ref (ga K "InvalidIndex"))
  e_InvalidIndex : OexC K (ga K "InvalidIndex") ∧ PySem.W.findIn K (.ref (ga K "InvalidIndex")) "given" = some none ∧ PySem.W.findIn K (.ref (ga K "InvalidIndex")) "__init__" = some (some (.ref (ma K (ga K "InvalidIndex") "__init__"))) ∧ PySem.W.typeIn K (.ref (ma K (ga K "InvalidIndex") "__init__")) = some (.type "function")
  g_InvalidLot : mg "InvalidLot" = some (.ref (ga K "InvalidLot"))
  e_InvalidLot : OexC K (ga K "InvalidLot") ∧ PySem.W.findIn K (.ref (ga K "InvalidLot")) "index" = some none ∧ PySem.W.findIn K (.ref (ga K "InvalidLot")) "__init__" = some (some (.ref (ma K (ga K "InvalidLot") "__init__"))) ∧ PySem.W.typeIn K (.ref (ma K (ga K "InvalidLot") "__init__")) = some (.type "function")
  g_InvalidName : mg "InvalidName" = some (.ref (ga K "InvalidName"))
  e_InvalidName : OexC K (ga K "InvalidName") ∧ PySem.W.findIn K (.ref (ga K "InvalidName")) "given" = some none ∧ PySem.W.findIn K (.ref (ga K "InvalidName")) "__init__" = some (some (.ref (ma K (ga K "InvalidName") "__init__"))) ∧ PySem.W.typeIn K (.ref (ma K (ga K "InvalidName") "__init__")) = some (.type "function")
  g_InvalidNumber : mg "InvalidNumber" = some (.ref (ga K "InvalidNumber"))
  e_InvalidNumber : OexC K (ga K "InvalidNumber") ∧ PySem.W.findIn K (.ref (ga K "InvalidNumber")) "given" = some none ∧ PySem.W.findIn K (.ref (ga K "InvalidNumber")) "__init__" = some (some (.ref (ma K (ga K "InvalidNumber") "__init__"))) ∧ PySem.W.typeIn K (.ref (ma K (ga K "InvalidNumber") "__init__")) = some (.type "function")
  g_InvalidOffers : mg "InvalidOffers" = some (.ref (ga K "InvalidOffers"))
  e_InvalidOffers : OexC K (ga K "InvalidOffers") ∧ PySem.W.findIn K (.ref (ga K "InvalidOffers")) "index" = some none ∧ PySem.W.findIn K (.ref (ga K "InvalidOffers")) "__init__" = some (some (.ref (ma K (ga K "InvalidOffers") "__init__"))) ∧ PySem.W.typeIn K (.ref (ma K (ga K "InvalidOffers") "__init__")) = some (.type "function")
  g_InvalidRead : mg "InvalidRead" = some (.ref (ga K "InvalidRead"))
  e_InvalidRead : OexC K (ga K "InvalidRead") ∧ PySem.W.findIn K (.ref (ga K "InvalidRead")) "index" = some none ∧ PySem.W.findIn K (.ref (ga K "InvalidRead")) "__init__" = some (some (.ref (ma K (ga K "InvalidRead") "__init__"))) ∧ PySem.W.typeIn K (.ref (ma K (ga K "InvalidRead") "__init__")) = some (.type "function")
  g_InvalidRows : mg "InvalidRows" = some (.ref (ga K "InvalidRows"))
  e_InvalidRows : OexC K (ga K "InvalidRows") ∧ PySem.W.findIn K (.ref (ga K "InvalidRows")) "index" = some none ∧ PySem.W.findIn K (.ref (ga K "InvalidRows")) "__init__" = some (some (.ref (ma K (ga K "InvalidRows") "__init__"))) ∧ PySem.W.typeIn K (.ref (ma K (ga K "InvalidRows") "__init__")) = some (.type "function")
  g_InvalidText : mg "InvalidText" = some (.ref (ga K "InvalidText"))
  e_InvalidText : OexC K (ga K "InvalidText") ∧ PySem.W.findIn K (.ref (ga K "InvalidText")) "given" = some none ∧ PySem.W.findIn K (.ref (ga K "InvalidText")) "__init__" = some (some (.ref (ma K (ga K "InvalidText") "__init__"))) ∧ PySem.W.typeIn K (.ref (ma K (ga K "InvalidText") "__init__")) = some (.type "function")
  g_InvalidTie : mg "InvalidTie" = some (.ref (ga K "InvalidTie"))
  e_InvalidTie : OexC K (ga K "InvalidTie") ∧ PySem.W.findIn K (.ref (ga K "InvalidTie")) "given" = some none ∧ PySem.W.findIn K (.ref (ga K "InvalidTie")) "__init__" = some (some (.ref (ma K (ga K "InvalidTie") "__init__"))) ∧ PySem.W.typeIn K (.ref (ma K (ga K "InvalidTie") "__init__")) = some (.type "function")
  g_InvalidTies : mg "InvalidTies" = some (.ref (ga K "InvalidTies"))
  e_InvalidTies : OexC K (ga K "InvalidTies") ∧ PySem.W.findIn K (.ref (ga K "InvalidTies")) "index" = some none ∧ PySem.W.findIn K (.ref (ga K "InvalidTies")) "__init__" = some (some (.ref (ma K (ga K "InvalidTies") "__init__"))) ∧ PySem.W.typeIn K (.ref (ma K (ga K "InvalidTies") "__init__")) = some (.type "function")
  g_InvalidTowns : mg "InvalidTowns" = some (.ref (ga K "InvalidTowns"))
  e_InvalidTowns : OexC K (ga K "InvalidTowns") ∧ PySem.W.findIn K (.ref (ga K "InvalidTowns")) "index" = some none ∧ PySem.W.findIn K (.ref (ga K "InvalidTowns")) "__init__" = some (some (.ref (ma K (ga K "InvalidTowns") "__init__"))) ∧ PySem.W.typeIn K (.ref (ma K (ga K "InvalidTowns") "__init__")) = some (.type "function")
  g_InvalidWish : mg "InvalidWish" = some (.ref (ga K "InvalidWish"))
  e_InvalidWish : OexC K (ga K "InvalidWish") ∧ PySem.W.findIn K (.ref (ga K "InvalidWish")) "given" = some none ∧ PySem.W.findIn K (.ref (ga K "InvalidWish")) "__init__" = some (some (.ref (ma K (ga K "InvalidWish") "__init__"))) ∧ PySem.W.typeIn K (.ref (ma K (ga K "InvalidWish") "__init__")) = some (.type "function")
  g_NotAWeb : mg "NotAWeb" = some (.ref (ga K "NotAWeb"))
  e_NotAWeb : OexC K (ga K "NotAWeb") ∧ PySem.W.findIn K (.ref (ga K "NotAWeb")) "given" = some none ∧ PySem.W.findIn K (.ref (ga K "NotAWeb")) "__init__" = some (some (.ref (ma K (ga K "NotAWeb") "__init__"))) ∧ PySem.W.typeIn K (.ref (ma K (ga K "NotAWeb") "__init__")) = some (.type "function")
  g_TooMany : mg "TooMany" = some (.ref (ga K "TooMany"))
  e_TooMany : OexT K (ga K "TooMany") ∧ PySem.W.findIn K (.ref (ga K "TooMany")) "given" = some none ∧ PySem.W.findIn K (.ref (ga K "TooMany")) "__init__" = some (some (.ref (ma K (ga K "TooMany") "__init__"))) ∧ PySem.W.typeIn K (.ref (ma K (ga K "TooMany") "__init__")) = some (.type "function")
  g_UnknownName : mg "UnknownName" = some (.ref (ga K "UnknownName"))
  e_UnknownName : OexT K (ga K "UnknownName") ∧ PySem.W.findIn K (.ref (ga K "UnknownName")) "given" = some none ∧ PySem.W.findIn K (.ref (ga K "UnknownName")) "__init__" = some (some (.ref (ma K (ga K "UnknownName") "__init__"))) ∧ PySem.W.typeIn K (.ref (ma K (ga K "UnknownName") "__init__")) = some (.type "function")
  g_NoBits : mg "NoBits" = some (.ref (ga K "NoBits"))
  e0_NoBits : Exc0 K (ga K "NoBits")
  g_NothingToUndo : mg "NothingToUndo" = some (.ref (ga K "NothingToUndo"))
  e0_NothingToUndo : Exc0 K (ga K "NothingToUndo")
  g_NoAnswer : mg "NoAnswer" = some (.ref (ga K "NoAnswer"))
  g_WrongName : mg "WrongName" = some (.ref (ga K "WrongName"))
  g_WrongValue : mg "WrongValue" = some (.ref (ga K "WrongValue"))
  xf_InvalidText_given : XfC K (ga K "InvalidText") ∧ PySem.W.findIn K (.ref (ga K "InvalidText")) "given" = some none
  xf_InvalidNumber_given : XfC K (ga K "InvalidNumber") ∧ PySem.W.findIn K (.ref (ga K "InvalidNumber")) "given" = some none
  xf_InvalidName_given : XfC K (ga K "InvalidName") ∧ PySem.W.findIn K (.ref (ga K "InvalidName")) "given" = some none
  xf_InvalidWish_given : XfC K (ga K "InvalidWish") ∧ PySem.W.findIn K (.ref (ga K "InvalidWish")) "given" = some none
  xf_InvalidIndex_given : XfC K (ga K "InvalidIndex") ∧ PySem.W.findIn K (.ref (ga K "InvalidIndex")) "given" = some none
  xf_InvalidTie_given : XfC K (ga K "InvalidTie") ∧ PySem.W.findIn K (.ref (ga K "InvalidTie")) "given" = some none
  xf_NotAWeb_given : XfC K (ga K "NotAWeb") ∧ PySem.W.findIn K (.ref (ga K "NotAWeb")) "given" = some none
  xf_UnknownName_given : XfC K (ga K "UnknownName") ∧ PySem.W.findIn K (.ref (ga K "UnknownName")) "given" = some none
  xf_Apart_given : XfC K (ga K "Apart") ∧ PySem.W.findIn K (.ref (ga K "Apart")) "given" = some none
  xf_TooMany_given : XfC K (ga K "TooMany") ∧ PySem.W.findIn K (.ref (ga K "TooMany")) "given" = some none
  xf_InvalidTowns_index : XfC K (ga K "InvalidTowns") ∧ PySem.W.findIn K (.ref (ga K "InvalidTowns")) "index" = some none
  xf_InvalidTies_index : XfC K (ga K "InvalidTies") ∧ PySem.W.findIn K (.ref (ga K "InvalidTies")) "index" = some none
  xf_InvalidLot_index : XfC K (ga K "InvalidLot") ∧ PySem.W.findIn K (.ref (ga K "InvalidLot")) "index" = some none
  xf_InvalidRows_index : XfC K (ga K "InvalidRows") ∧ PySem.W.findIn K (.ref (ga K "InvalidRows")) "index" = some none
  xf_InvalidRead_index : XfC K (ga K "InvalidRead") ∧ PySem.W.findIn K (.ref (ga K "InvalidRead")) "index" = some none
  xf_InvalidOffers_index : XfC K (ga K "InvalidOffers") ∧ PySem.W.findIn K (.ref (ga K "InvalidOffers")) "index" = some none
  xf_InvalidDoubts_index : XfC K (ga K "InvalidDoubts") ∧ PySem.W.findIn K (.ref (ga K "InvalidDoubts")) "index" = some none
  xf_Broken_index : XfC K (ga K "Broken") ∧ PySem.W.findIn K (.ref (ga K "Broken")) "index" = some none
  ec_UnknownName : ExcC K (ga K "UnknownName")
  ec_Apart : ExcC K (ga K "Apart")
  ec_TooMany : ExcC K (ga K "TooMany")
  ec_Broken : ExcC K (ga K "Broken")
  ec_NoBits : ExcC K (ga K "NoBits")
  ec_NothingToUndo : ExcC K (ga K "NothingToUndo")
  ec_InvalidTowns : ExcC K (ga K "InvalidTowns")
  ec_InvalidTies : ExcC K (ga K "InvalidTies")
  ec_InvalidLot : ExcC K (ga K "InvalidLot")
  ec_InvalidRows : ExcC K (ga K "InvalidRows")
  ec_InvalidRead : ExcC K (ga K "InvalidRead")
  ec_InvalidOffers : ExcC K (ga K "InvalidOffers")
  ec_InvalidDoubts : ExcC K (ga K "InvalidDoubts")
  kx_Apart_InvalidText : PySem.W.kitOne K (.ref (ga K "Apart")) (.ref (ga K "InvalidText")) = some false
  kx_Broken_InvalidText : PySem.W.kitOne K (.ref (ga K "Broken")) (.ref (ga K "InvalidText")) = some false
  kx_InvalidDoubts_InvalidText : PySem.W.kitOne K (.ref (ga K "InvalidDoubts")) (.ref (ga K "InvalidText")) = some false
  kx_InvalidIndex_InvalidText : PySem.W.kitOne K (.ref (ga K "InvalidIndex")) (.ref (ga K "InvalidText")) = some false
  kx_InvalidLot_InvalidText : PySem.W.kitOne K (.ref (ga K "InvalidLot")) (.ref (ga K "InvalidText")) = some false
  kx_InvalidName_InvalidText : PySem.W.kitOne K (.ref (ga K "InvalidName")) (.ref (ga K "InvalidText")) = some false
  kx_InvalidNumber_InvalidText : PySem.W.kitOne K (.ref (ga K "InvalidNumber")) (.ref (ga K "InvalidText")) = some false
  kx_InvalidOffers_InvalidText : PySem.W.kitOne K (.ref (ga K "InvalidOffers")) (.ref (ga K "InvalidText")) = some false
  kx_InvalidRead_InvalidText : PySem.W.kitOne K (.ref (ga K "InvalidRead")) (.ref (ga K "InvalidText")) = some false
  kx_InvalidRows_InvalidText : PySem.W.kitOne K (.ref (ga K "InvalidRows")) (.ref (ga K "InvalidText")) = some false
  kx_InvalidText_InvalidText : PySem.W.kitOne K (.ref (ga K "InvalidText")) (.ref (ga K "InvalidText")) = some true
  kx_InvalidTie_InvalidText : PySem.W.kitOne K (.ref (ga K "InvalidTie")) (.ref (ga K "InvalidText")) = some false
  kx_InvalidTies_InvalidText : PySem.W.kitOne K (.ref (ga K "InvalidTies")) (.ref (ga K "InvalidText")) = some false
  kx_InvalidTowns_InvalidText : PySem.W.kitOne K (.ref (ga K "InvalidTowns")) (.ref (ga K "InvalidText")) = some false
  kx_InvalidWish_InvalidText : PySem.W.kitOne K (.ref (ga K "InvalidWish")) (.ref (ga K "InvalidText")) = some false
  kx_NotAWeb_InvalidText : PySem.W.kitOne K (.ref (ga K "NotAWeb")) (.ref (ga K "InvalidText")) = some false
  kx_TooMany_InvalidText : PySem.W.kitOne K (.ref (ga K "TooMany")) (.ref (ga K "InvalidText")) = some false
  kx_UnknownName_InvalidText : PySem.W.kitOne K (.ref (ga K "UnknownName")) (.ref (ga K "InvalidText")) = some false
  kx_NoBits_InvalidText : PySem.W.kitOne K (.ref (ga K "NoBits")) (.ref (ga K "InvalidText")) = some false
  kx_NothingToUndo_InvalidText : PySem.W.kitOne K (.ref (ga K "NothingToUndo")) (.ref (ga K "InvalidText")) = some false
  kx_Apart_InvalidNumber : PySem.W.kitOne K (.ref (ga K "Apart")) (.ref (ga K "InvalidNumber")) = some false
  kx_Broken_InvalidNumber : PySem.W.kitOne K (.ref (ga K "Broken")) (.ref (ga K "InvalidNumber")) = some false
  kx_InvalidDoubts_InvalidNumber : PySem.W.kitOne K (.ref (ga K "InvalidDoubts")) (.ref (ga K "InvalidNumber")) = some false
  kx_InvalidIndex_InvalidNumber : PySem.W.kitOne K (.ref (ga K "InvalidIndex")) (.ref (ga K "InvalidNumber")) = some false
  kx_InvalidLot_InvalidNumber : PySem.W.kitOne K (.ref (ga K "InvalidLot")) (.ref (ga K "InvalidNumber")) = some false
  kx_InvalidName_InvalidNumber : PySem.W.kitOne K (.ref (ga K "InvalidName")) (.ref (ga K "InvalidNumber")) = some false
  kx_InvalidNumber_InvalidNumber : PySem.W.kitOne K (.ref (ga K "InvalidNumber")) (.ref (ga K "InvalidNumber")) = some true
  kx_InvalidOffers_InvalidNumber : PySem.W.kitOne K (.ref (ga K "InvalidOffers")) (.ref (ga K "InvalidNumber")) = some false
  kx_InvalidRead_InvalidNumber : PySem.W.kitOne K (.ref (ga K "InvalidRead")) (.ref (ga K "InvalidNumber")) = some false
  kx_InvalidRows_InvalidNumber : PySem.W.kitOne K (.ref (ga K "InvalidRows")) (.ref (ga K "InvalidNumber")) = some false
  kx_InvalidText_InvalidNumber : PySem.W.kitOne K (.ref (ga K "InvalidText")) (.ref (ga K "InvalidNumber")) = some false
  kx_InvalidTie_InvalidNumber : PySem.W.kitOne K (.ref (ga K "InvalidTie")) (.ref (ga K "InvalidNumber")) = some false
  kx_InvalidTies_InvalidNumber : PySem.W.kitOne K (.ref (ga K "InvalidTies")) (.ref (ga K "InvalidNumber")) = some false
  kx_InvalidTowns_InvalidNumber : PySem.W.kitOne K (.ref (ga K "InvalidTowns")) (.ref (ga K "InvalidNumber")) = some false
  kx_InvalidWish_InvalidNumber : PySem.W.kitOne K (.ref (ga K "InvalidWish")) (.ref (ga K "InvalidNumber")) = some false
  kx_NotAWeb_InvalidNumber : PySem.W.kitOne K (.ref (ga K "NotAWeb")) (.ref (ga K "InvalidNumber")) = some false
  kx_TooMany_InvalidNumber : PySem.W.kitOne K (.ref (ga K "TooMany")) (.ref (ga K "InvalidNumber")) = some false
  kx_UnknownName_InvalidNumber : PySem.W.kitOne K (.ref (ga K "UnknownName")) (.ref (ga K "InvalidNumber")) = some false
  kx_NoBits_InvalidNumber : PySem.W.kitOne K (.ref (ga K "NoBits")) (.ref (ga K "InvalidNumber")) = some false
  kx_NothingToUndo_InvalidNumber : PySem.W.kitOne K (.ref (ga K "NothingToUndo")) (.ref (ga K "InvalidNumber")) = some false
  kx_Apart_InvalidName : PySem.W.kitOne K (.ref (ga K "Apart")) (.ref (ga K "InvalidName")) = some false
  kx_Broken_InvalidName : PySem.W.kitOne K (.ref (ga K "Broken")) (.ref (ga K "InvalidName")) = some false
  kx_InvalidDoubts_InvalidName : PySem.W.kitOne K (.ref (ga K "InvalidDoubts")) (.ref (ga K "InvalidName")) = some false
  kx_InvalidIndex_InvalidName : PySem.W.kitOne K (.ref (ga K "InvalidIndex")) (.ref (ga K "InvalidName")) = some false
  kx_InvalidLot_InvalidName : PySem.W.kitOne K (.ref (ga K "InvalidLot")) (.ref (ga K "InvalidName")) = some false
  kx_InvalidName_InvalidName : PySem.W.kitOne K (.ref (ga K "InvalidName")) (.ref (ga K "InvalidName")) = some true
  kx_InvalidNumber_InvalidName : PySem.W.kitOne K (.ref (ga K "InvalidNumber")) (.ref (ga K "InvalidName")) = some false
  kx_InvalidOffers_InvalidName : PySem.W.kitOne K (.ref (ga K "InvalidOffers")) (.ref (ga K "InvalidName")) = some false
  kx_InvalidRead_InvalidName : PySem.W.kitOne K (.ref (ga K "InvalidRead")) (.ref (ga K "InvalidName")) = some false
  kx_InvalidRows_InvalidName : PySem.W.kitOne K (.ref (ga K "InvalidRows")) (.ref (ga K "InvalidName")) = some false
  kx_InvalidText_InvalidName : PySem.W.kitOne K (.ref (ga K "InvalidText")) (.ref (ga K "InvalidName")) = some false
  kx_InvalidTie_InvalidName : PySem.W.kitOne K (.ref (ga K "InvalidTie")) (.ref (ga K "InvalidName")) = some false
  kx_InvalidTies_InvalidName : PySem.W.kitOne K (.ref (ga K "InvalidTies")) (.ref (ga K "InvalidName")) = some false
  kx_InvalidTowns_InvalidName : PySem.W.kitOne K (.ref (ga K "InvalidTowns")) (.ref (ga K "InvalidName")) = some false
  kx_InvalidWish_InvalidName : PySem.W.kitOne K (.ref (ga K "InvalidWish")) (.ref (ga K "InvalidName")) = some false
  kx_NotAWeb_InvalidName : PySem.W.kitOne K (.ref (ga K "NotAWeb")) (.ref (ga K "InvalidName")) = some false
  kx_TooMany_InvalidName : PySem.W.kitOne K (.ref (ga K "TooMany")) (.ref (ga K "InvalidName")) = some false
  kx_UnknownName_InvalidName : PySem.W.kitOne K (.ref (ga K "UnknownName")) (.ref (ga K "InvalidName")) = some false
  kx_NoBits_InvalidName : PySem.W.kitOne K (.ref (ga K "NoBits")) (.ref (ga K "InvalidName")) = some false
  kx_NothingToUndo_InvalidName : PySem.W.kitOne K (.ref (ga K "NothingToUndo")) (.ref (ga K "InvalidName")) = some false
  kx_Apart_InvalidWish : PySem.W.kitOne K (.ref (ga K "Apart")) (.ref (ga K "InvalidWish")) = some false
  kx_Broken_InvalidWish : PySem.W.kitOne K (.ref (ga K "Broken")) (.ref (ga K "InvalidWish")) = some false
  kx_InvalidDoubts_InvalidWish : PySem.W.kitOne K (.ref (ga K "InvalidDoubts")) (.ref (ga K "InvalidWish")) = some false
  kx_InvalidIndex_InvalidWish : PySem.W.kitOne K (.ref (ga K "InvalidIndex")) (.ref (ga K "InvalidWish")) = some false
  kx_InvalidLot_InvalidWish : PySem.W.kitOne K (.ref (ga K "InvalidLot")) (.ref (ga K "InvalidWish")) = some false
  kx_InvalidName_InvalidWish : PySem.W.kitOne K (.ref (ga K "InvalidName")) (.ref (ga K "InvalidWish")) = some false
  kx_InvalidNumber_InvalidWish : PySem.W.kitOne K (.ref (ga K "InvalidNumber")) (.ref (ga K "InvalidWish")) = some false
  kx_InvalidOffers_InvalidWish : PySem.W.kitOne K (.ref (ga K "InvalidOffers")) (.ref (ga K "InvalidWish")) = some false
  kx_InvalidRead_InvalidWish : PySem.W.kitOne K (.ref (ga K "InvalidRead")) (.ref (ga K "InvalidWish")) = some false
  kx_InvalidRows_InvalidWish : PySem.W.kitOne K (.ref (ga K "InvalidRows")) (.ref (ga K "InvalidWish")) = some false
  kx_InvalidText_InvalidWish : PySem.W.kitOne K (.ref (ga K "InvalidText")) (.ref (ga K "InvalidWish")) = some false
  kx_InvalidTie_InvalidWish : PySem.W.kitOne K (.ref (ga K "InvalidTie")) (.ref (ga K "InvalidWish")) = some false
  kx_InvalidTies_InvalidWish : PySem.W.kitOne K (.ref (ga K "InvalidTies")) (.ref (ga K "InvalidWish")) = some false
  kx_InvalidTowns_InvalidWish : PySem.W.kitOne K (.ref (ga K "InvalidTowns")) (.ref (ga K "InvalidWish")) = some false
  kx_InvalidWish_InvalidWish : PySem.W.kitOne K (.ref (ga K "InvalidWish")) (.ref (ga K "InvalidWish")) = some true
  kx_NotAWeb_InvalidWish : PySem.W.kitOne K (.ref (ga K "NotAWeb")) (.ref (ga K "InvalidWish")) = some false
  kx_TooMany_InvalidWish : PySem.W.kitOne K (.ref (ga K "TooMany")) (.ref (ga K "InvalidWish")) = some false
  kx_UnknownName_InvalidWish : PySem.W.kitOne K (.ref (ga K "UnknownName")) (.ref (ga K "InvalidWish")) = some false
  kx_NoBits_InvalidWish : PySem.W.kitOne K (.ref (ga K "NoBits")) (.ref (ga K "InvalidWish")) = some false
  kx_NothingToUndo_InvalidWish : PySem.W.kitOne K (.ref (ga K "NothingToUndo")) (.ref (ga K "InvalidWish")) = some false
  kx_Apart_InvalidIndex : PySem.W.kitOne K (.ref (ga K "Apart")) (.ref (ga K "InvalidIndex")) = some false
  kx_Broken_InvalidIndex : PySem.W.kitOne K (.ref (ga K "Broken")) (.ref (ga K "InvalidIndex")) = some false
  kx_InvalidDoubts_InvalidIndex : PySem.W.kitOne K (.ref (ga K "InvalidDoubts")) (.ref (ga K "InvalidIndex")) = some false
  kx_InvalidIndex_InvalidIndex : PySem.W.kitOne K (.ref (ga K "InvalidIndex")) (.ref (ga K "InvalidIndex")) = some true
  kx_InvalidLot_InvalidIndex : PySem.W.kitOne K (.ref (ga K "InvalidLot")) (.ref (ga K "InvalidIndex")) = some false
  kx_InvalidName_InvalidIndex : PySem.W.kitOne K (.ref (ga K "InvalidName")) (.ref (ga K "InvalidIndex")) = some false
  kx_InvalidNumber_InvalidIndex : PySem.W.kitOne K (.ref (ga K "InvalidNumber")) (.ref (ga K "InvalidIndex")) = some false
  kx_InvalidOffers_InvalidIndex : PySem.W.kitOne K (.ref (ga K "InvalidOffers")) (.ref (ga K "InvalidIndex")) = some false
  kx_InvalidRead_InvalidIndex : PySem.W.kitOne K (.ref (ga K "InvalidRead")) (.ref (ga K "InvalidIndex")) = some false
  kx_InvalidRows_InvalidIndex : PySem.W.kitOne K (.ref (ga K "InvalidRows")) (.ref (ga K "InvalidIndex")) = some false
  kx_InvalidText_InvalidIndex : PySem.W.kitOne K (.ref (ga K "InvalidText")) (.ref (ga K "InvalidIndex")) = some false
  kx_InvalidTie_InvalidIndex : PySem.W.kitOne K (.ref (ga K "InvalidTie")) (.ref (ga K "InvalidIndex")) = some false
  kx_InvalidTies_InvalidIndex : PySem.W.kitOne K (.ref (ga K "InvalidTies")) (.ref (ga K "InvalidIndex")) = some false
  kx_InvalidTowns_InvalidIndex : PySem.W.kitOne K (.ref (ga K "InvalidTowns")) (.ref (ga K "InvalidIndex")) = some false
  kx_InvalidWish_InvalidIndex : PySem.W.kitOne K (.ref (ga K "InvalidWish")) (.ref (ga K "InvalidIndex")) = some false
  kx_NotAWeb_InvalidIndex : PySem.W.kitOne K (.ref (ga K "NotAWeb")) (.ref (ga K "InvalidIndex")) = some false
  kx_TooMany_InvalidIndex : PySem.W.kitOne K (.ref (ga K "TooMany")) (.ref (ga K "InvalidIndex")) = some false
  kx_UnknownName_InvalidIndex : PySem.W.kitOne K (.ref (ga K "UnknownName")) (.ref (ga K "InvalidIndex")) = some false
  kx_NoBits_InvalidIndex : PySem.W.kitOne K (.ref (ga K "NoBits")) (.ref (ga K "InvalidIndex")) = some false
  kx_NothingToUndo_InvalidIndex : PySem.W.kitOne K (.ref (ga K "NothingToUndo")) (.ref (ga K "InvalidIndex")) = some false
  kx_Apart_InvalidTie : PySem.W.kitOne K (.ref (ga K "Apart")) (.ref (ga K "InvalidTie")) = some false
  kx_Broken_InvalidTie : PySem.W.kitOne K (.ref (ga K "Broken")) (.ref (ga K "InvalidTie")) = some false
  kx_InvalidDoubts_InvalidTie : PySem.W.kitOne K (.ref (ga K "InvalidDoubts")) (.ref (ga K "InvalidTie")) = some false
  kx_InvalidIndex_InvalidTie : PySem.W.kitOne K (.ref (ga K "InvalidIndex")) (.ref (ga K "InvalidTie")) = some false
  kx_InvalidLot_InvalidTie : PySem.W.kitOne K (.ref (ga K "InvalidLot")) (.ref (ga K "InvalidTie")) = some false
  kx_InvalidName_InvalidTie : PySem.W.kitOne K (.ref (ga K "InvalidName")) (.ref (ga K "InvalidTie")) = some false
  kx_InvalidNumber_InvalidTie : PySem.W.kitOne K (.ref (ga K "InvalidNumber")) (.ref (ga K "InvalidTie")) = some false
  kx_InvalidOffers_InvalidTie : PySem.W.kitOne K (.ref (ga K "InvalidOffers")) (.ref (ga K "InvalidTie")) = some false
  kx_InvalidRead_InvalidTie : PySem.W.kitOne K (.ref (ga K "InvalidRead")) (.ref (ga K "InvalidTie")) = some false
  kx_InvalidRows_InvalidTie : PySem.W.kitOne K (.ref (ga K "InvalidRows")) (.ref (ga K "InvalidTie")) = some false
  kx_InvalidText_InvalidTie : PySem.W.kitOne K (.ref (ga K "InvalidText")) (.ref (ga K "InvalidTie")) = some false
  kx_InvalidTie_InvalidTie : PySem.W.kitOne K (.ref (ga K "InvalidTie")) (.ref (ga K "InvalidTie")) = some true
  kx_InvalidTies_InvalidTie : PySem.W.kitOne K (.ref (ga K "InvalidTies")) (.ref (ga K "InvalidTie")) = some false
  kx_InvalidTowns_InvalidTie : PySem.W.kitOne K (.ref (ga K "InvalidTowns")) (.ref (ga K "InvalidTie")) = some false
  kx_InvalidWish_InvalidTie : PySem.W.kitOne K (.ref (ga K "InvalidWish")) (.ref (ga K "InvalidTie")) = some false
  kx_NotAWeb_InvalidTie : PySem.W.kitOne K (.ref (ga K "NotAWeb")) (.ref (ga K "InvalidTie")) = some false
  kx_TooMany_InvalidTie : PySem.W.kitOne K (.ref (ga K "TooMany")) (.ref (ga K "InvalidTie")) = some false
  kx_UnknownName_InvalidTie : PySem.W.kitOne K (.ref (ga K "UnknownName")) (.ref (ga K "InvalidTie")) = some false
  kx_NoBits_InvalidTie : PySem.W.kitOne K (.ref (ga K "NoBits")) (.ref (ga K "InvalidTie")) = some false
  kx_NothingToUndo_InvalidTie : PySem.W.kitOne K (.ref (ga K "NothingToUndo")) (.ref (ga K "InvalidTie")) = some false
  kx_Apart_NotAWeb : PySem.W.kitOne K (.ref (ga K "Apart")) (.ref (ga K "NotAWeb")) = some false
  kx_Broken_NotAWeb : PySem.W.kitOne K (.ref (ga K "Broken")) (.ref (ga K "NotAWeb")) = some false
  kx_InvalidDoubts_NotAWeb : PySem.W.kitOne K (.ref (ga K "InvalidDoubts")) (.ref (ga K "NotAWeb")) = some false
  kx_InvalidIndex_NotAWeb : PySem.W.kitOne K (.ref (ga K "InvalidIndex")) (.ref (ga K "NotAWeb")) = some false
  kx_InvalidLot_NotAWeb : PySem.W.kitOne K (.ref (ga K "InvalidLot")) (.ref (ga K "NotAWeb")) = some false
  kx_InvalidName_NotAWeb : PySem.W.kitOne K (.ref (ga K "InvalidName")) (.ref (ga K "NotAWeb")) = some false
  kx_InvalidNumber_NotAWeb : PySem.W.kitOne K (.ref (ga K "InvalidNumber")) (.ref (ga K "NotAWeb")) = some false
  kx_InvalidOffers_NotAWeb : PySem.W.kitOne K (.ref (ga K "InvalidOffers")) (.ref (ga K "NotAWeb")) = some false
  kx_InvalidRead_NotAWeb : PySem.W.kitOne K (.ref (ga K "InvalidRead")) (.ref (ga K "NotAWeb")) = some false
  kx_InvalidRows_NotAWeb : PySem.W.kitOne K (.ref (ga K "InvalidRows")) (.ref (ga K "NotAWeb")) = some false
  kx_InvalidText_NotAWeb : PySem.W.kitOne K (.ref (ga K "InvalidText")) (.ref (ga K "NotAWeb")) = some false
  kx_InvalidTie_NotAWeb : PySem.W.kitOne K (.ref (ga K "InvalidTie")) (.ref (ga K "NotAWeb")) = some false
  kx_InvalidTies_NotAWeb : PySem.W.kitOne K (.ref (ga K "InvalidTies")) (.ref (ga K "NotAWeb")) = some false
  kx_InvalidTowns_NotAWeb : PySem.W.kitOne K (.ref (ga K "InvalidTowns")) (.ref (ga K "NotAWeb")) = some false
  kx_InvalidWish_NotAWeb : PySem.W.kitOne K (.ref (ga K "InvalidWish")) (.ref (ga K "NotAWeb")) = some false
  kx_NotAWeb_NotAWeb : PySem.W.kitOne K (.ref (ga K "NotAWeb")) (.ref (ga K "NotAWeb")) = some true
  kx_TooMany_NotAWeb : PySem.W.kitOne K (.ref (ga K "TooMany")) (.ref (ga K "NotAWeb")) = some false
  kx_UnknownName_NotAWeb : PySem.W.kitOne K (.ref (ga K "UnknownName")) (.ref (ga K "NotAWeb")) = some false
  kx_NoBits_NotAWeb : PySem.W.kitOne K (.ref (ga K "NoBits")) (.ref (ga K "NotAWeb")) = some false
  kx_NothingToUndo_NotAWeb : PySem.W.kitOne K (.ref (ga K "NothingToUndo")) (.ref (ga K "NotAWeb")) = some false
  kx_Apart_InvalidTowns : PySem.W.kitOne K (.ref (ga K "Apart")) (.ref (ga K "InvalidTowns")) = some false
  kx_Broken_InvalidTowns : PySem.W.kitOne K (.ref (ga K "Broken")) (.ref (ga K "InvalidTowns")) = some false
  kx_InvalidDoubts_InvalidTowns : PySem.W.kitOne K (.ref (ga K "InvalidDoubts")) (.ref (ga K "InvalidTowns")) = some false
  kx_InvalidIndex_InvalidTowns : PySem.W.kitOne K (.ref (ga K "InvalidIndex")) (.ref (ga K "InvalidTowns")) = some false
  kx_InvalidLot_InvalidTowns : PySem.W.kitOne K (.ref (ga K "InvalidLot")) (.ref (ga K "InvalidTowns")) = some false
  kx_InvalidName_InvalidTowns : PySem.W.kitOne K (.ref (ga K "InvalidName")) (.ref (ga K "InvalidTowns")) = some false
  kx_InvalidNumber_InvalidTowns : PySem.W.kitOne K (.ref (ga K "InvalidNumber")) (.ref (ga K "InvalidTowns")) = some false
  kx_InvalidOffers_InvalidTowns : PySem.W.kitOne K (.ref (ga K "InvalidOffers")) (.ref (ga K "InvalidTowns")) = some false
  kx_InvalidRead_InvalidTowns : PySem.W.kitOne K (.ref (ga K "InvalidRead")) (.ref (ga K "InvalidTowns")) = some false
  kx_InvalidRows_InvalidTowns : PySem.W.kitOne K (.ref (ga K "InvalidRows")) (.ref (ga K "InvalidTowns")) = some false
  kx_InvalidText_InvalidTowns : PySem.W.kitOne K (.ref (ga K "InvalidText")) (.ref (ga K "InvalidTowns")) = some false
  kx_InvalidTie_InvalidTowns : PySem.W.kitOne K (.ref (ga K "InvalidTie")) (.ref (ga K "InvalidTowns")) = some false
  kx_InvalidTies_InvalidTowns : PySem.W.kitOne K (.ref (ga K "InvalidTies")) (.ref (ga K "InvalidTowns")) = some false
  kx_InvalidTowns_InvalidTowns : PySem.W.kitOne K (.ref (ga K "InvalidTowns")) (.ref (ga K "InvalidTowns")) = some true
  kx_InvalidWish_InvalidTowns : PySem.W.kitOne K (.ref (ga K "InvalidWish")) (.ref (ga K "InvalidTowns")) = some false
  kx_NotAWeb_InvalidTowns : PySem.W.kitOne K (.ref (ga K "NotAWeb")) (.ref (ga K "InvalidTowns")) = some false
  kx_TooMany_InvalidTowns : PySem.W.kitOne K (.ref (ga K "TooMany")) (.ref (ga K "InvalidTowns")) = some false
  kx_UnknownName_InvalidTowns : PySem.W.kitOne K (.ref (ga K "UnknownName")) (.ref (ga K "InvalidTowns")) = some false
  kx_NoBits_InvalidTowns : PySem.W.kitOne K (.ref (ga K "NoBits")) (.ref (ga K "InvalidTowns")) = some false
  kx_NothingToUndo_InvalidTowns : PySem.W.kitOne K (.ref (ga K "NothingToUndo")) (.ref (ga K "InvalidTowns")) = some false
  kx_Apart_InvalidTies : PySem.W.kitOne K (.ref (ga K "Apart")) (.ref (ga K "InvalidTies")) = some false
  kx_Broken_InvalidTies : PySem.W.kitOne K (.ref (ga K "Broken")) (.ref (ga K "InvalidTies")) = some false
  kx_InvalidDoubts_InvalidTies : PySem.W.kitOne K (.ref (ga K "InvalidDoubts")) (.ref (ga K "InvalidTies")) = some false
  kx_InvalidIndex_InvalidTies : PySem.W.kitOne K (.ref (ga K "InvalidIndex")) (.ref (ga K "InvalidTies")) = some false
  kx_InvalidLot_InvalidTies : PySem.W.kitOne K (.ref (ga K "InvalidLot")) (.ref (ga K "InvalidTies")) = some false
  kx_InvalidName_InvalidTies : PySem.W.kitOne K (.ref (ga K "InvalidName")) (.ref (ga K "InvalidTies")) = some false
  kx_InvalidNumber_InvalidTies : PySem.W.kitOne K (.ref (ga K "InvalidNumber")) (.ref (ga K "InvalidTies")) = some false
  kx_InvalidOffers_InvalidTies : PySem.W.kitOne K (.ref (ga K "InvalidOffers")) (.ref (ga K "InvalidTies")) = some false
  kx_InvalidRead_InvalidTies : PySem.W.kitOne K (.ref (ga K "InvalidRead")) (.ref (ga K "InvalidTies")) = some false
  kx_InvalidRows_InvalidTies : PySem.W.kitOne K (.ref (ga K "InvalidRows")) (.ref (ga K "InvalidTies")) = some false
  kx_InvalidText_InvalidTies : PySem.W.kitOne K (.ref (ga K "InvalidText")) (.ref (ga K "InvalidTies")) = some false
  kx_InvalidTie_InvalidTies : PySem.W.kitOne K (.ref (ga K "InvalidTie")) (.ref (ga K "InvalidTies")) = some false
  kx_InvalidTies_InvalidTies : PySem.W.kitOne K (.ref (ga K "InvalidTies")) (.ref (ga K "InvalidTies")) = some true
  kx_InvalidTowns_InvalidTies : PySem.W.kitOne K (.ref (ga K "InvalidTowns")) (.ref (ga K "InvalidTies")) = some false
  kx_InvalidWish_InvalidTies : PySem.W.kitOne K (.ref (ga K "InvalidWish")) (.ref (ga K "InvalidTies")) = some false
  kx_NotAWeb_InvalidTies : PySem.W.kitOne K (.ref (ga K "NotAWeb")) (.ref (ga K "InvalidTies")) = some false
  kx_TooMany_InvalidTies : PySem.W.kitOne K (.ref (ga K "TooMany")) (.ref (ga K "InvalidTies")) = some false
  kx_UnknownName_InvalidTies : PySem.W.kitOne K (.ref (ga K "UnknownName")) (.ref (ga K "InvalidTies")) = some false
  kx_NoBits_InvalidTies : PySem.W.kitOne K (.ref (ga K "NoBits")) (.ref (ga K "InvalidTies")) = some false
  kx_NothingToUndo_InvalidTies : PySem.W.kitOne K (.ref (ga K "NothingToUndo")) (.ref (ga K "InvalidTies")) = some false
  kx_Apart_InvalidLot : PySem.W.kitOne K (.ref (ga K "Apart")) (.ref (ga K "InvalidLot")) = some false
  kx_Broken_InvalidLot : PySem.W.kitOne K (.ref (ga K "Broken")) (.ref (ga K "InvalidLot")) = some false
  kx_InvalidDoubts_InvalidLot : PySem.W.kitOne K (.ref (ga K "InvalidDoubts")) (.ref (ga K "InvalidLot")) = some false
  kx_InvalidIndex_InvalidLot : PySem.W.kitOne K (.ref (ga K "InvalidIndex")) (.ref (ga K "InvalidLot")) = some false
  kx_InvalidLot_InvalidLot : PySem.W.kitOne K (.ref (ga K "InvalidLot")) (.ref (ga K "InvalidLot")) = some true
  kx_InvalidName_InvalidLot : PySem.W.kitOne K (.ref (ga K "InvalidName")) (.ref (ga K "InvalidLot")) = some false
  kx_InvalidNumber_InvalidLot : PySem.W.kitOne K (.ref (ga K "InvalidNumber")) (.ref (ga K "InvalidLot")) = some false
  kx_InvalidOffers_InvalidLot : PySem.W.kitOne K (.ref (ga K "InvalidOffers")) (.ref (ga K "InvalidLot")) = some false
  kx_InvalidRead_InvalidLot : PySem.W.kitOne K (.ref (ga K "InvalidRead")) (.ref (ga K "InvalidLot")) = some false
  kx_InvalidRows_InvalidLot : PySem.W.kitOne K (.ref (ga K "InvalidRows")) (.ref (ga K "InvalidLot")) = some false
  kx_InvalidText_InvalidLot : PySem.W.kitOne K (.ref (ga K "InvalidText")) (.ref (ga K "InvalidLot")) = some false
  kx_InvalidTie_InvalidLot : PySem.W.kitOne K (.ref (ga K "InvalidTie")) (.ref (ga K "InvalidLot")) = some false
  kx_InvalidTies_InvalidLot : PySem.W.kitOne K (.ref (ga K "InvalidTies")) (.ref (ga K "InvalidLot")) = some false
  kx_InvalidTowns_InvalidLot : PySem.W.kitOne K (.ref (ga K "InvalidTowns")) (.ref (ga K "InvalidLot")) = some false
  kx_InvalidWish_InvalidLot : PySem.W.kitOne K (.ref (ga K "InvalidWish")) (.ref (ga K "InvalidLot")) = some false
  kx_NotAWeb_InvalidLot : PySem.W.kitOne K (.ref (ga K "NotAWeb")) (.ref (ga K "InvalidLot")) = some false
  kx_TooMany_InvalidLot : PySem.W.kitOne K (.ref (ga K "TooMany")) (.ref (ga K "InvalidLot")) = some false
  kx_UnknownName_InvalidLot : PySem.W.kitOne K (.ref (ga K "UnknownName")) (.ref (ga K "InvalidLot")) = some false
  kx_NoBits_InvalidLot : PySem.W.kitOne K (.ref (ga K "NoBits")) (.ref (ga K "InvalidLot")) = some false
  kx_NothingToUndo_InvalidLot : PySem.W.kitOne K (.ref (ga K "NothingToUndo")) (.ref (ga K "InvalidLot")) = some false
  kx_Apart_InvalidRows : PySem.W.kitOne K (.ref (ga K "Apart")) (.ref (ga K "InvalidRows")) = some false
  kx_Broken_InvalidRows : PySem.W.kitOne K (.ref (ga K "Broken")) (.ref (ga K "InvalidRows")) = some false
  kx_InvalidDoubts_InvalidRows : PySem.W.kitOne K (.ref (ga K "InvalidDoubts")) (.ref (ga K "InvalidRows")) = some false
  kx_InvalidIndex_InvalidRows : PySem.W.kitOne K (.ref (ga K "InvalidIndex")) (.ref (ga K "InvalidRows")) = some false
  kx_InvalidLot_InvalidRows : PySem.W.kitOne K (.ref (ga K "InvalidLot")) (.ref (ga K "InvalidRows")) = some false
  kx_InvalidName_InvalidRows : PySem.W.kitOne K (.ref (ga K "InvalidName")) (.ref (ga K "InvalidRows")) = some false
  kx_InvalidNumber_InvalidRows : PySem.W.kitOne K (.ref (ga K "InvalidNumber")) (.ref (ga K "InvalidRows")) = some false
  kx_InvalidOffers_InvalidRows : PySem.W.kitOne K (.ref (ga K "InvalidOffers")) (.ref (ga K "InvalidRows")) = some false
  kx_InvalidRead_InvalidRows : PySem.W.kitOne K (.ref (ga K "InvalidRead")) (.ref (ga K "InvalidRows")) = some false
  kx_InvalidRows_InvalidRows : PySem.W.kitOne K (.ref (ga K "InvalidRows")) (.ref (ga K "InvalidRows")) = some true
  kx_InvalidText_InvalidRows : PySem.W.kitOne K (.ref (ga K "InvalidText")) (.ref (ga K "InvalidRows")) = some false
  kx_InvalidTie_InvalidRows : PySem.W.kitOne K (.ref (ga K "InvalidTie")) (.ref (ga K "InvalidRows")) = some false
  kx_InvalidTies_InvalidRows : PySem.W.kitOne K (.ref (ga K "InvalidTies")) (.ref (ga K "InvalidRows")) = some false
  kx_InvalidTowns_InvalidRows : PySem.W.kitOne K (.ref (ga K "InvalidTowns")) (.ref (ga K "InvalidRows")) = some false
  kx_InvalidWish_InvalidRows : PySem.W.kitOne K (.ref (ga K "InvalidWish")) (.ref (ga K "InvalidRows")) = some false
  kx_NotAWeb_InvalidRows : PySem.W.kitOne K (.ref (ga K "NotAWeb")) (.ref (ga K "InvalidRows")) = some false
  kx_TooMany_InvalidRows : PySem.W.kitOne K (.ref (ga K "TooMany")) (.ref (ga K "InvalidRows")) = some false
  kx_UnknownName_InvalidRows : PySem.W.kitOne K (.ref (ga K "UnknownName")) (.ref (ga K "InvalidRows")) = some false
  kx_NoBits_InvalidRows : PySem.W.kitOne K (.ref (ga K "NoBits")) (.ref (ga K "InvalidRows")) = some false
  kx_NothingToUndo_InvalidRows : PySem.W.kitOne K (.ref (ga K "NothingToUndo")) (.ref (ga K "InvalidRows")) = some false
  kx_Apart_InvalidRead : PySem.W.kitOne K (.ref (ga K "Apart")) (.ref (ga K "InvalidRead")) = some false
  kx_Broken_InvalidRead : PySem.W.kitOne K (.ref (ga K "Broken")) (.ref (ga K "InvalidRead")) = some false
  kx_InvalidDoubts_InvalidRead : PySem.W.kitOne K (.ref (ga K "InvalidDoubts")) (.ref (ga K "InvalidRead")) = some false
  kx_InvalidIndex_InvalidRead : PySem.W.kitOne K (.ref (ga K "InvalidIndex")) (.ref (ga K "InvalidRead")) = some false
  kx_InvalidLot_InvalidRead : PySem.W.kitOne K (.ref (ga K "InvalidLot")) (.ref (ga K "InvalidRead")) = some false
  kx_InvalidName_InvalidRead : PySem.W.kitOne K (.ref (ga K "InvalidName")) (.ref (ga K "InvalidRead")) = some false
  kx_InvalidNumber_InvalidRead : PySem.W.kitOne K (.ref (ga K "InvalidNumber")) (.ref (ga K "InvalidRead")) = some false
  kx_InvalidOffers_InvalidRead : PySem.W.kitOne K (.ref (ga K "InvalidOffers")) (.ref (ga K "InvalidRead")) = some false
  kx_InvalidRead_InvalidRead : PySem.W.kitOne K (.ref (ga K "InvalidRead")) (.ref (ga K "InvalidRead")) = some true
  kx_InvalidRows_InvalidRead : PySem.W.kitOne K (.ref (ga K "InvalidRows")) (.ref (ga K "InvalidRead")) = some false
  kx_InvalidText_InvalidRead : PySem.W.kitOne K (.ref (ga K "InvalidText")) (.ref (ga K "InvalidRead")) = some false
  kx_InvalidTie_InvalidRead : PySem.W.kitOne K (.ref (ga K "InvalidTie")) (.ref (ga K "InvalidRead")) = some false
  kx_InvalidTies_InvalidRead : PySem.W.kitOne K (.ref (ga K "InvalidTies")) (.ref (ga K "InvalidRead")) = some false
  kx_InvalidTowns_InvalidRead : PySem.W.kitOne K (.ref (ga K "InvalidTowns")) (.ref (ga K "InvalidRead")) = some false
  kx_InvalidWish_InvalidRead : PySem.W.kitOne K (.ref (ga K "InvalidWish")) (.ref (ga K "InvalidRead")) = some false
  kx_NotAWeb_InvalidRead : PySem.W.kitOne K (.ref (ga K "NotAWeb")) (.ref (ga K "InvalidRead")) = some false
  kx_TooMany_InvalidRead : PySem.W.kitOne K (.ref (ga K "TooMany")) (.ref (ga K "InvalidRead")) = some false
  kx_UnknownName_InvalidRead : PySem.W.kitOne K (.ref (ga K "UnknownName")) (.ref (ga K "InvalidRead")) = some false
  kx_NoBits_InvalidRead : PySem.W.kitOne K (.ref (ga K "NoBits")) (.ref (ga K "InvalidRead")) = some false
  kx_NothingToUndo_InvalidRead : PySem.W.kitOne K (.ref (ga K "NothingToUndo")) (.ref (ga K "InvalidRead")) = some false
  kx_Apart_InvalidOffers : PySem.W.kitOne K (.ref (ga K "Apart")) (.ref (ga K "InvalidOffers")) = some false
  kx_Broken_InvalidOffers : PySem.W.kitOne K (.ref (ga K "Broken")) (.ref (ga K "InvalidOffers")) = some false
  kx_InvalidDoubts_InvalidOffers : PySem.W.kitOne K (.ref (ga K "InvalidDoubts")) (.ref (ga K "InvalidOffers")) = some false
  kx_InvalidIndex_InvalidOffers : PySem.W.kitOne K (.ref (ga K "InvalidIndex")) (.ref (ga K "InvalidOffers")) = some false
  kx_InvalidLot_InvalidOffers : PySem.W.kitOne K (.ref (ga K "InvalidLot")) (.ref (ga K "InvalidOffers")) = some false
  kx_InvalidName_InvalidOffers : PySem.W.kitOne K (.ref (ga K "InvalidName")) (.ref (ga K "InvalidOffers")) = some false
  kx_InvalidNumber_InvalidOffers : PySem.W.kitOne K (.ref (ga K "InvalidNumber")) (.ref (ga K "InvalidOffers")) = some false
  kx_InvalidOffers_InvalidOffers : PySem.W.kitOne K (.ref (ga K "InvalidOffers")) (.ref (ga K "InvalidOffers")) = some true
  kx_InvalidRead_InvalidOffers : PySem.W.kitOne K (.ref (ga K "InvalidRead")) (.ref (ga K "InvalidOffers")) = some false
  kx_InvalidRows_InvalidOffers : PySem.W.kitOne K (.ref (ga K "InvalidRows")) (.ref (ga K "InvalidOffers")) = some false
  kx_InvalidText_InvalidOffers : PySem.W.kitOne K (.ref (ga K "InvalidText")) (.ref (ga K "InvalidOffers")) = some false
  kx_InvalidTie_InvalidOffers : PySem.W.kitOne K (.ref (ga K "InvalidTie")) (.ref (ga K "InvalidOffers")) = some false
  kx_InvalidTies_InvalidOffers : PySem.W.kitOne K (.ref (ga K "InvalidTies")) (.ref (ga K "InvalidOffers")) = some false
  kx_InvalidTowns_InvalidOffers : PySem.W.kitOne K (.ref (ga K "InvalidTowns")) (.ref (ga K "InvalidOffers")) = some false
  kx_InvalidWish_InvalidOffers : PySem.W.kitOne K (.ref (ga K "InvalidWish")) (.ref (ga K "InvalidOffers")) = some false
  kx_NotAWeb_InvalidOffers : PySem.W.kitOne K (.ref (ga K "NotAWeb")) (.ref (ga K "InvalidOffers")) = some false
  kx_TooMany_InvalidOffers : PySem.W.kitOne K (.ref (ga K "TooMany")) (.ref (ga K "InvalidOffers")) = some false
  kx_UnknownName_InvalidOffers : PySem.W.kitOne K (.ref (ga K "UnknownName")) (.ref (ga K "InvalidOffers")) = some false
  kx_NoBits_InvalidOffers : PySem.W.kitOne K (.ref (ga K "NoBits")) (.ref (ga K "InvalidOffers")) = some false
  kx_NothingToUndo_InvalidOffers : PySem.W.kitOne K (.ref (ga K "NothingToUndo")) (.ref (ga K "InvalidOffers")) = some false
  kx_Apart_InvalidDoubts : PySem.W.kitOne K (.ref (ga K "Apart")) (.ref (ga K "InvalidDoubts")) = some false
  kx_Broken_InvalidDoubts : PySem.W.kitOne K (.ref (ga K "Broken")) (.ref (ga K "InvalidDoubts")) = some false
  kx_InvalidDoubts_InvalidDoubts : PySem.W.kitOne K (.ref (ga K "InvalidDoubts")) (.ref (ga K "InvalidDoubts")) = some true
  kx_InvalidIndex_InvalidDoubts : PySem.W.kitOne K (.ref (ga K "InvalidIndex")) (.ref (ga K "InvalidDoubts")) = some false
  kx_InvalidLot_InvalidDoubts : PySem.W.kitOne K (.ref (ga K "InvalidLot")) (.ref (ga K "InvalidDoubts")) = some false
  kx_InvalidName_InvalidDoubts : PySem.W.kitOne K (.ref (ga K "InvalidName")) (.ref (ga K "InvalidDoubts")) = some false
  kx_InvalidNumber_InvalidDoubts : PySem.W.kitOne K (.ref (ga K "InvalidNumber")) (.ref (ga K "InvalidDoubts")) = some false
  kx_InvalidOffers_InvalidDoubts : PySem.W.kitOne K (.ref (ga K "InvalidOffers")) (.ref (ga K "InvalidDoubts")) = some false
  kx_InvalidRead_InvalidDoubts : PySem.W.kitOne K (.ref (ga K "InvalidRead")) (.ref (ga K "InvalidDoubts")) = some false
  kx_InvalidRows_InvalidDoubts : PySem.W.kitOne K (.ref (ga K "InvalidRows")) (.ref (ga K "InvalidDoubts")) = some false
  kx_InvalidText_InvalidDoubts : PySem.W.kitOne K (.ref (ga K "InvalidText")) (.ref (ga K "InvalidDoubts")) = some false
  kx_InvalidTie_InvalidDoubts : PySem.W.kitOne K (.ref (ga K "InvalidTie")) (.ref (ga K "InvalidDoubts")) = some false
  kx_InvalidTies_InvalidDoubts : PySem.W.kitOne K (.ref (ga K "InvalidTies")) (.ref (ga K "InvalidDoubts")) = some false
  kx_InvalidTowns_InvalidDoubts : PySem.W.kitOne K (.ref (ga K "InvalidTowns")) (.ref (ga K "InvalidDoubts")) = some false
  kx_InvalidWish_InvalidDoubts : PySem.W.kitOne K (.ref (ga K "InvalidWish")) (.ref (ga K "InvalidDoubts")) = some false
  kx_NotAWeb_InvalidDoubts : PySem.W.kitOne K (.ref (ga K "NotAWeb")) (.ref (ga K "InvalidDoubts")) = some false
  kx_TooMany_InvalidDoubts : PySem.W.kitOne K (.ref (ga K "TooMany")) (.ref (ga K "InvalidDoubts")) = some false
  kx_UnknownName_InvalidDoubts : PySem.W.kitOne K (.ref (ga K "UnknownName")) (.ref (ga K "InvalidDoubts")) = some false
  kx_NoBits_InvalidDoubts : PySem.W.kitOne K (.ref (ga K "NoBits")) (.ref (ga K "InvalidDoubts")) = some false
  kx_NothingToUndo_InvalidDoubts : PySem.W.kitOne K (.ref (ga K "NothingToUndo")) (.ref (ga K "InvalidDoubts")) = some false
  kx_Apart_UnknownName : PySem.W.kitOne K (.ref (ga K "Apart")) (.ref (ga K "UnknownName")) = some false
  kx_Broken_UnknownName : PySem.W.kitOne K (.ref (ga K "Broken")) (.ref (ga K "UnknownName")) = some false
  kx_InvalidDoubts_UnknownName : PySem.W.kitOne K (.ref (ga K "InvalidDoubts")) (.ref (ga K "UnknownName")) = some false
  kx_InvalidIndex_UnknownName : PySem.W.kitOne K (.ref (ga K "InvalidIndex")) (.ref (ga K "UnknownName")) = some false
  kx_InvalidLot_UnknownName : PySem.W.kitOne K (.ref (ga K "InvalidLot")) (.ref (ga K "UnknownName")) = some false
  kx_InvalidName_UnknownName : PySem.W.kitOne K (.ref (ga K "InvalidName")) (.ref (ga K "UnknownName")) = some false
  kx_InvalidNumber_UnknownName : PySem.W.kitOne K (.ref (ga K "InvalidNumber")) (.ref (ga K "UnknownName")) = some false
  kx_InvalidOffers_UnknownName : PySem.W.kitOne K (.ref (ga K "InvalidOffers")) (.ref (ga K "UnknownName")) = some false
  kx_InvalidRead_UnknownName : PySem.W.kitOne K (.ref (ga K "InvalidRead")) (.ref (ga K "UnknownName")) = some false
  kx_InvalidRows_UnknownName : PySem.W.kitOne K (.ref (ga K "InvalidRows")) (.ref (ga K "UnknownName")) = some false
  kx_InvalidText_UnknownName : PySem.W.kitOne K (.ref (ga K "InvalidText")) (.ref (ga K "UnknownName")) = some false
  kx_InvalidTie_UnknownName : PySem.W.kitOne K (.ref (ga K "InvalidTie")) (.ref (ga K "UnknownName")) = some false
  kx_InvalidTies_UnknownName : PySem.W.kitOne K (.ref (ga K "InvalidTies")) (.ref (ga K "UnknownName")) = some false
  kx_InvalidTowns_UnknownName : PySem.W.kitOne K (.ref (ga K "InvalidTowns")) (.ref (ga K "UnknownName")) = some false
  kx_InvalidWish_UnknownName : PySem.W.kitOne K (.ref (ga K "InvalidWish")) (.ref (ga K "UnknownName")) = some false
  kx_NotAWeb_UnknownName : PySem.W.kitOne K (.ref (ga K "NotAWeb")) (.ref (ga K "UnknownName")) = some false
  kx_TooMany_UnknownName : PySem.W.kitOne K (.ref (ga K "TooMany")) (.ref (ga K "UnknownName")) = some false
  kx_UnknownName_UnknownName : PySem.W.kitOne K (.ref (ga K "UnknownName")) (.ref (ga K "UnknownName")) = some true
  kx_NoBits_UnknownName : PySem.W.kitOne K (.ref (ga K "NoBits")) (.ref (ga K "UnknownName")) = some false
  kx_NothingToUndo_UnknownName : PySem.W.kitOne K (.ref (ga K "NothingToUndo")) (.ref (ga K "UnknownName")) = some false
  kx_Apart_Apart : PySem.W.kitOne K (.ref (ga K "Apart")) (.ref (ga K "Apart")) = some true
  kx_Broken_Apart : PySem.W.kitOne K (.ref (ga K "Broken")) (.ref (ga K "Apart")) = some false
  kx_InvalidDoubts_Apart : PySem.W.kitOne K (.ref (ga K "InvalidDoubts")) (.ref (ga K "Apart")) = some false
  kx_InvalidIndex_Apart : PySem.W.kitOne K (.ref (ga K "InvalidIndex")) (.ref (ga K "Apart")) = some false
  kx_InvalidLot_Apart : PySem.W.kitOne K (.ref (ga K "InvalidLot")) (.ref (ga K "Apart")) = some false
  kx_InvalidName_Apart : PySem.W.kitOne K (.ref (ga K "InvalidName")) (.ref (ga K "Apart")) = some false
  kx_InvalidNumber_Apart : PySem.W.kitOne K (.ref (ga K "InvalidNumber")) (.ref (ga K "Apart")) = some false
  kx_InvalidOffers_Apart : PySem.W.kitOne K (.ref (ga K "InvalidOffers")) (.ref (ga K "Apart")) = some false
  kx_InvalidRead_Apart : PySem.W.kitOne K (.ref (ga K "InvalidRead")) (.ref (ga K "Apart")) = some false
  kx_InvalidRows_Apart : PySem.W.kitOne K (.ref (ga K "InvalidRows")) (.ref (ga K "Apart")) = some false
  kx_InvalidText_Apart : PySem.W.kitOne K (.ref (ga K "InvalidText")) (.ref (ga K "Apart")) = some false
  kx_InvalidTie_Apart : PySem.W.kitOne K (.ref (ga K "InvalidTie")) (.ref (ga K "Apart")) = some false
  kx_InvalidTies_Apart : PySem.W.kitOne K (.ref (ga K "InvalidTies")) (.ref (ga K "Apart")) = some false
  kx_InvalidTowns_Apart : PySem.W.kitOne K (.ref (ga K "InvalidTowns")) (.ref (ga K "Apart")) = some false
  kx_InvalidWish_Apart : PySem.W.kitOne K (.ref (ga K "InvalidWish")) (.ref (ga K "Apart")) = some false
  kx_NotAWeb_Apart : PySem.W.kitOne K (.ref (ga K "NotAWeb")) (.ref (ga K "Apart")) = some false
  kx_TooMany_Apart : PySem.W.kitOne K (.ref (ga K "TooMany")) (.ref (ga K "Apart")) = some false
  kx_UnknownName_Apart : PySem.W.kitOne K (.ref (ga K "UnknownName")) (.ref (ga K "Apart")) = some false
  kx_NoBits_Apart : PySem.W.kitOne K (.ref (ga K "NoBits")) (.ref (ga K "Apart")) = some false
  kx_NothingToUndo_Apart : PySem.W.kitOne K (.ref (ga K "NothingToUndo")) (.ref (ga K "Apart")) = some false
  kx_Apart_TooMany : PySem.W.kitOne K (.ref (ga K "Apart")) (.ref (ga K "TooMany")) = some false
  kx_Broken_TooMany : PySem.W.kitOne K (.ref (ga K "Broken")) (.ref (ga K "TooMany")) = some false
  kx_InvalidDoubts_TooMany : PySem.W.kitOne K (.ref (ga K "InvalidDoubts")) (.ref (ga K "TooMany")) = some false
  kx_InvalidIndex_TooMany : PySem.W.kitOne K (.ref (ga K "InvalidIndex")) (.ref (ga K "TooMany")) = some false
  kx_InvalidLot_TooMany : PySem.W.kitOne K (.ref (ga K "InvalidLot")) (.ref (ga K "TooMany")) = some false
  kx_InvalidName_TooMany : PySem.W.kitOne K (.ref (ga K "InvalidName")) (.ref (ga K "TooMany")) = some false
  kx_InvalidNumber_TooMany : PySem.W.kitOne K (.ref (ga K "InvalidNumber")) (.ref (ga K "TooMany")) = some false
  kx_InvalidOffers_TooMany : PySem.W.kitOne K (.ref (ga K "InvalidOffers")) (.ref (ga K "TooMany")) = some false
  kx_InvalidRead_TooMany : PySem.W.kitOne K (.ref (ga K "InvalidRead")) (.ref (ga K "TooMany")) = some false
  kx_InvalidRows_TooMany : PySem.W.kitOne K (.ref (ga K "InvalidRows")) (.ref (ga K "TooMany")) = some false
  kx_InvalidText_TooMany : PySem.W.kitOne K (.ref (ga K "InvalidText")) (.ref (ga K "TooMany")) = some false
  kx_InvalidTie_TooMany : PySem.W.kitOne K (.ref (ga K "InvalidTie")) (.ref (ga K "TooMany")) = some false
  kx_InvalidTies_TooMany : PySem.W.kitOne K (.ref (ga K "InvalidTies")) (.ref (ga K "TooMany")) = some false
  kx_InvalidTowns_TooMany : PySem.W.kitOne K (.ref (ga K "InvalidTowns")) (.ref (ga K "TooMany")) = some false
  kx_InvalidWish_TooMany : PySem.W.kitOne K (.ref (ga K "InvalidWish")) (.ref (ga K "TooMany")) = some false
  kx_NotAWeb_TooMany : PySem.W.kitOne K (.ref (ga K "NotAWeb")) (.ref (ga K "TooMany")) = some false
  kx_TooMany_TooMany : PySem.W.kitOne K (.ref (ga K "TooMany")) (.ref (ga K "TooMany")) = some true
  kx_UnknownName_TooMany : PySem.W.kitOne K (.ref (ga K "UnknownName")) (.ref (ga K "TooMany")) = some false
  kx_NoBits_TooMany : PySem.W.kitOne K (.ref (ga K "NoBits")) (.ref (ga K "TooMany")) = some false
  kx_NothingToUndo_TooMany : PySem.W.kitOne K (.ref (ga K "NothingToUndo")) (.ref (ga K "TooMany")) = some false
  kx_Apart_NoBits : PySem.W.kitOne K (.ref (ga K "Apart")) (.ref (ga K "NoBits")) = some false
  kx_Broken_NoBits : PySem.W.kitOne K (.ref (ga K "Broken")) (.ref (ga K "NoBits")) = some false
  kx_InvalidDoubts_NoBits : PySem.W.kitOne K (.ref (ga K "InvalidDoubts")) (.ref (ga K "NoBits")) = some false
  kx_InvalidIndex_NoBits : PySem.W.kitOne K (.ref (ga K "InvalidIndex")) (.ref (ga K "NoBits")) = some false
  kx_InvalidLot_NoBits : PySem.W.kitOne K (.ref (ga K "InvalidLot")) (.ref (ga K "NoBits")) = some false
  kx_InvalidName_NoBits : PySem.W.kitOne K (.ref (ga K "InvalidName")) (.ref (ga K "NoBits")) = some false
  kx_InvalidNumber_NoBits : PySem.W.kitOne K (.ref (ga K "InvalidNumber")) (.ref (ga K "NoBits")) = some false
  kx_InvalidOffers_NoBits : PySem.W.kitOne K (.ref (ga K "InvalidOffers")) (.ref (ga K "NoBits")) = some false
  kx_InvalidRead_NoBits : PySem.W.kitOne K (.ref (ga K "InvalidRead")) (.ref (ga K "NoBits")) = some false
  kx_InvalidRows_NoBits : PySem.W.kitOne K (.ref (ga K "InvalidRows")) (.ref (ga K "NoBits")) = some false
  kx_InvalidText_NoBits : PySem.W.kitOne K (.ref (ga K "InvalidText")) (.ref (ga K "NoBits")) = some false
  kx_InvalidTie_NoBits : PySem.W.kitOne K (.ref (ga K "InvalidTie")) (.ref (ga K "NoBits")) = some false
  kx_InvalidTies_NoBits : PySem.W.kitOne K (.ref (ga K "InvalidTies")) (.ref (ga K "NoBits")) = some false
  kx_InvalidTowns_NoBits : PySem.W.kitOne K (.ref (ga K "InvalidTowns")) (.ref (ga K "NoBits")) = some false
  kx_InvalidWish_NoBits : PySem.W.kitOne K (.ref (ga K "InvalidWish")) (.ref (ga K "NoBits")) = some false
  kx_NotAWeb_NoBits : PySem.W.kitOne K (.ref (ga K "NotAWeb")) (.ref (ga K "NoBits")) = some false
  kx_TooMany_NoBits : PySem.W.kitOne K (.ref (ga K "TooMany")) (.ref (ga K "NoBits")) = some false
  kx_UnknownName_NoBits : PySem.W.kitOne K (.ref (ga K "UnknownName")) (.ref (ga K "NoBits")) = some false
  kx_NoBits_NoBits : PySem.W.kitOne K (.ref (ga K "NoBits")) (.ref (ga K "NoBits")) = some true
  kx_NothingToUndo_NoBits : PySem.W.kitOne K (.ref (ga K "NothingToUndo")) (.ref (ga K "NoBits")) = some false
  kx_Apart_NothingToUndo : PySem.W.kitOne K (.ref (ga K "Apart")) (.ref (ga K "NothingToUndo")) = some false
  kx_Broken_NothingToUndo : PySem.W.kitOne K (.ref (ga K "Broken")) (.ref (ga K "NothingToUndo")) = some false
  kx_InvalidDoubts_NothingToUndo : PySem.W.kitOne K (.ref (ga K "InvalidDoubts")) (.ref (ga K "NothingToUndo")) = some false
  kx_InvalidIndex_NothingToUndo : PySem.W.kitOne K (.ref (ga K "InvalidIndex")) (.ref (ga K "NothingToUndo")) = some false
  kx_InvalidLot_NothingToUndo : PySem.W.kitOne K (.ref (ga K "InvalidLot")) (.ref (ga K "NothingToUndo")) = some false
  kx_InvalidName_NothingToUndo : PySem.W.kitOne K (.ref (ga K "InvalidName")) (.ref (ga K "NothingToUndo")) = some false
  kx_InvalidNumber_NothingToUndo : PySem.W.kitOne K (.ref (ga K "InvalidNumber")) (.ref (ga K "NothingToUndo")) = some false
  kx_InvalidOffers_NothingToUndo : PySem.W.kitOne K (.ref (ga K "InvalidOffers")) (.ref (ga K "NothingToUndo")) = some false
  kx_InvalidRead_NothingToUndo : PySem.W.kitOne K (.ref (ga K "InvalidRead")) (.ref (ga K "NothingToUndo")) = some false
  kx_InvalidRows_NothingToUndo : PySem.W.kitOne K (.ref (ga K "InvalidRows")) (.ref (ga K "NothingToUndo")) = some false
  kx_InvalidText_NothingToUndo : PySem.W.kitOne K (.ref (ga K "InvalidText")) (.ref (ga K "NothingToUndo")) = some false
  kx_InvalidTie_NothingToUndo : PySem.W.kitOne K (.ref (ga K "InvalidTie")) (.ref (ga K "NothingToUndo")) = some false
  kx_InvalidTies_NothingToUndo : PySem.W.kitOne K (.ref (ga K "InvalidTies")) (.ref (ga K "NothingToUndo")) = some false
  kx_InvalidTowns_NothingToUndo : PySem.W.kitOne K (.ref (ga K "InvalidTowns")) (.ref (ga K "NothingToUndo")) = some false
  kx_InvalidWish_NothingToUndo : PySem.W.kitOne K (.ref (ga K "InvalidWish")) (.ref (ga K "NothingToUndo")) = some false
  kx_NotAWeb_NothingToUndo : PySem.W.kitOne K (.ref (ga K "NotAWeb")) (.ref (ga K "NothingToUndo")) = some false
  kx_TooMany_NothingToUndo : PySem.W.kitOne K (.ref (ga K "TooMany")) (.ref (ga K "NothingToUndo")) = some false
  kx_UnknownName_NothingToUndo : PySem.W.kitOne K (.ref (ga K "UnknownName")) (.ref (ga K "NothingToUndo")) = some false
  kx_NoBits_NothingToUndo : PySem.W.kitOne K (.ref (ga K "NoBits")) (.ref (ga K "NothingToUndo")) = some false
  kx_NothingToUndo_NothingToUndo : PySem.W.kitOne K (.ref (ga K "NothingToUndo")) (.ref (ga K "NothingToUndo")) = some true
  kx_Apart_Broken : PySem.W.kitOne K (.ref (ga K "Apart")) (.ref (ga K "Broken")) = some false
  kx_Broken_Broken : PySem.W.kitOne K (.ref (ga K "Broken")) (.ref (ga K "Broken")) = some true
  kx_InvalidDoubts_Broken : PySem.W.kitOne K (.ref (ga K "InvalidDoubts")) (.ref (ga K "Broken")) = some false
  kx_InvalidIndex_Broken : PySem.W.kitOne K (.ref (ga K "InvalidIndex")) (.ref (ga K "Broken")) = some false
  kx_InvalidLot_Broken : PySem.W.kitOne K (.ref (ga K "InvalidLot")) (.ref (ga K "Broken")) = some false
  kx_InvalidName_Broken : PySem.W.kitOne K (.ref (ga K "InvalidName")) (.ref (ga K "Broken")) = some false
  kx_InvalidNumber_Broken : PySem.W.kitOne K (.ref (ga K "InvalidNumber")) (.ref (ga K "Broken")) = some false
  kx_InvalidOffers_Broken : PySem.W.kitOne K (.ref (ga K "InvalidOffers")) (.ref (ga K "Broken")) = some false
  kx_InvalidRead_Broken : PySem.W.kitOne K (.ref (ga K "InvalidRead")) (.ref (ga K "Broken")) = some false
  kx_InvalidRows_Broken : PySem.W.kitOne K (.ref (ga K "InvalidRows")) (.ref (ga K "Broken")) = some false
  kx_InvalidText_Broken : PySem.W.kitOne K (.ref (ga K "InvalidText")) (.ref (ga K "Broken")) = some false
  kx_InvalidTie_Broken : PySem.W.kitOne K (.ref (ga K "InvalidTie")) (.ref (ga K "Broken")) = some false
  kx_InvalidTies_Broken : PySem.W.kitOne K (.ref (ga K "InvalidTies")) (.ref (ga K "Broken")) = some false
  kx_InvalidTowns_Broken : PySem.W.kitOne K (.ref (ga K "InvalidTowns")) (.ref (ga K "Broken")) = some false
  kx_InvalidWish_Broken : PySem.W.kitOne K (.ref (ga K "InvalidWish")) (.ref (ga K "Broken")) = some false
  kx_NotAWeb_Broken : PySem.W.kitOne K (.ref (ga K "NotAWeb")) (.ref (ga K "Broken")) = some false
  kx_TooMany_Broken : PySem.W.kitOne K (.ref (ga K "TooMany")) (.ref (ga K "Broken")) = some false
  kx_UnknownName_Broken : PySem.W.kitOne K (.ref (ga K "UnknownName")) (.ref (ga K "Broken")) = some false
  kx_NoBits_Broken : PySem.W.kitOne K (.ref (ga K "NoBits")) (.ref (ga K "Broken")) = some false
  kx_NothingToUndo_Broken : PySem.W.kitOne K (.ref (ga K "NothingToUndo")) (.ref (ga K "Broken")) = some false
  kx_Apart_WrongValue : PySem.W.kitOne K (.ref (ga K "Apart")) (.ref (ga K "WrongValue")) = some false
  kx_Broken_WrongValue : PySem.W.kitOne K (.ref (ga K "Broken")) (.ref (ga K "WrongValue")) = some false
  kx_InvalidDoubts_WrongValue : PySem.W.kitOne K (.ref (ga K "InvalidDoubts")) (.ref (ga K "WrongValue")) = some true
  kx_InvalidIndex_WrongValue : PySem.W.kitOne K (.ref (ga K "InvalidIndex")) (.ref (ga K "WrongValue")) = some true
  kx_InvalidLot_WrongValue : PySem.W.kitOne K (.ref (ga K "InvalidLot")) (.ref (ga K "WrongValue")) = some true
  kx_InvalidName_WrongValue : PySem.W.kitOne K (.ref (ga K "InvalidName")) (.ref (ga K "WrongValue")) = some true
  kx_InvalidNumber_WrongValue : PySem.W.kitOne K (.ref (ga K "InvalidNumber")) (.ref (ga K "WrongValue")) = some true
  kx_InvalidOffers_WrongValue : PySem.W.kitOne K (.ref (ga K "InvalidOffers")) (.ref (ga K "WrongValue")) = some true
  kx_InvalidRead_WrongValue : PySem.W.kitOne K (.ref (ga K "InvalidRead")) (.ref (ga K "WrongValue")) = some true
  kx_InvalidRows_WrongValue : PySem.W.kitOne K (.ref (ga K "InvalidRows")) (.ref (ga K "WrongValue")) = some true
  kx_InvalidText_WrongValue : PySem.W.kitOne K (.ref (ga K "InvalidText")) (.ref (ga K "WrongValue")) = some true
  kx_InvalidTie_WrongValue : PySem.W.kitOne K (.ref (ga K "InvalidTie")) (.ref (ga K "WrongValue")) = some true
  kx_InvalidTies_WrongValue : PySem.W.kitOne K (.ref (ga K "InvalidTies")) (.ref (ga K "WrongValue")) = some true
  kx_InvalidTowns_WrongValue : PySem.W.kitOne K (.ref (ga K "InvalidTowns")) (.ref (ga K "WrongValue")) = some true
  kx_InvalidWish_WrongValue : PySem.W.kitOne K (.ref (ga K "InvalidWish")) (.ref (ga K "WrongValue")) = some true
  kx_NotAWeb_WrongValue : PySem.W.kitOne K (.ref (ga K "NotAWeb")) (.ref (ga K "WrongValue")) = some true
  kx_TooMany_WrongValue : PySem.W.kitOne K (.ref (ga K "TooMany")) (.ref (ga K "WrongValue")) = some false
  kx_UnknownName_WrongValue : PySem.W.kitOne K (.ref (ga K "UnknownName")) (.ref (ga K "WrongValue")) = some false
  kx_NoBits_WrongValue : PySem.W.kitOne K (.ref (ga K "NoBits")) (.ref (ga K "WrongValue")) = some false
  kx_NothingToUndo_WrongValue : PySem.W.kitOne K (.ref (ga K "NothingToUndo")) (.ref (ga K "WrongValue")) = some false
  kx_Apart_WrongName : PySem.W.kitOne K (.ref (ga K "Apart")) (.ref (ga K "WrongName")) = some false
  kx_Broken_WrongName : PySem.W.kitOne K (.ref (ga K "Broken")) (.ref (ga K "WrongName")) = some false
  kx_InvalidDoubts_WrongName : PySem.W.kitOne K (.ref (ga K "InvalidDoubts")) (.ref (ga K "WrongName")) = some false
  kx_InvalidIndex_WrongName : PySem.W.kitOne K (.ref (ga K "InvalidIndex")) (.ref (ga K "WrongName")) = some false
  kx_InvalidLot_WrongName : PySem.W.kitOne K (.ref (ga K "InvalidLot")) (.ref (ga K "WrongName")) = some false
  kx_InvalidName_WrongName : PySem.W.kitOne K (.ref (ga K "InvalidName")) (.ref (ga K "WrongName")) = some false
  kx_InvalidNumber_WrongName : PySem.W.kitOne K (.ref (ga K "InvalidNumber")) (.ref (ga K "WrongName")) = some false
  kx_InvalidOffers_WrongName : PySem.W.kitOne K (.ref (ga K "InvalidOffers")) (.ref (ga K "WrongName")) = some false
  kx_InvalidRead_WrongName : PySem.W.kitOne K (.ref (ga K "InvalidRead")) (.ref (ga K "WrongName")) = some false
  kx_InvalidRows_WrongName : PySem.W.kitOne K (.ref (ga K "InvalidRows")) (.ref (ga K "WrongName")) = some false
  kx_InvalidText_WrongName : PySem.W.kitOne K (.ref (ga K "InvalidText")) (.ref (ga K "WrongName")) = some false
  kx_InvalidTie_WrongName : PySem.W.kitOne K (.ref (ga K "InvalidTie")) (.ref (ga K "WrongName")) = some false
  kx_InvalidTies_WrongName : PySem.W.kitOne K (.ref (ga K "InvalidTies")) (.ref (ga K "WrongName")) = some false
  kx_InvalidTowns_WrongName : PySem.W.kitOne K (.ref (ga K "InvalidTowns")) (.ref (ga K "WrongName")) = some false
  kx_InvalidWish_WrongName : PySem.W.kitOne K (.ref (ga K "InvalidWish")) (.ref (ga K "WrongName")) = some false
  kx_NotAWeb_WrongName : PySem.W.kitOne K (.ref (ga K "NotAWeb")) (.ref (ga K "WrongName")) = some false
  kx_TooMany_WrongName : PySem.W.kitOne K (.ref (ga K "TooMany")) (.ref (ga K "WrongName")) = some false
  kx_UnknownName_WrongName : PySem.W.kitOne K (.ref (ga K "UnknownName")) (.ref (ga K "WrongName")) = some true
  kx_NoBits_WrongName : PySem.W.kitOne K (.ref (ga K "NoBits")) (.ref (ga K "WrongName")) = some false
  kx_NothingToUndo_WrongName : PySem.W.kitOne K (.ref (ga K "NothingToUndo")) (.ref (ga K "WrongName")) = some false
  kx_Apart_NoAnswer : PySem.W.kitOne K (.ref (ga K "Apart")) (.ref (ga K "NoAnswer")) = some true
  kx_Broken_NoAnswer : PySem.W.kitOne K (.ref (ga K "Broken")) (.ref (ga K "NoAnswer")) = some true
  kx_InvalidDoubts_NoAnswer : PySem.W.kitOne K (.ref (ga K "InvalidDoubts")) (.ref (ga K "NoAnswer")) = some false
  kx_InvalidIndex_NoAnswer : PySem.W.kitOne K (.ref (ga K "InvalidIndex")) (.ref (ga K "NoAnswer")) = some false
  kx_InvalidLot_NoAnswer : PySem.W.kitOne K (.ref (ga K "InvalidLot")) (.ref (ga K "NoAnswer")) = some false
  kx_InvalidName_NoAnswer : PySem.W.kitOne K (.ref (ga K "InvalidName")) (.ref (ga K "NoAnswer")) = some false
  kx_InvalidNumber_NoAnswer : PySem.W.kitOne K (.ref (ga K "InvalidNumber")) (.ref (ga K "NoAnswer")) = some false
  kx_InvalidOffers_NoAnswer : PySem.W.kitOne K (.ref (ga K "InvalidOffers")) (.ref (ga K "NoAnswer")) = some false
  kx_InvalidRead_NoAnswer : PySem.W.kitOne K (.ref (ga K "InvalidRead")) (.ref (ga K "NoAnswer")) = some false
  kx_InvalidRows_NoAnswer : PySem.W.kitOne K (.ref (ga K "InvalidRows")) (.ref (ga K "NoAnswer")) = some false
  kx_InvalidText_NoAnswer : PySem.W.kitOne K (.ref (ga K "InvalidText")) (.ref (ga K "NoAnswer")) = some false
  kx_InvalidTie_NoAnswer : PySem.W.kitOne K (.ref (ga K "InvalidTie")) (.ref (ga K "NoAnswer")) = some false
  kx_InvalidTies_NoAnswer : PySem.W.kitOne K (.ref (ga K "InvalidTies")) (.ref (ga K "NoAnswer")) = some false
  kx_InvalidTowns_NoAnswer : PySem.W.kitOne K (.ref (ga K "InvalidTowns")) (.ref (ga K "NoAnswer")) = some false
  kx_InvalidWish_NoAnswer : PySem.W.kitOne K (.ref (ga K "InvalidWish")) (.ref (ga K "NoAnswer")) = some false
  kx_NotAWeb_NoAnswer : PySem.W.kitOne K (.ref (ga K "NotAWeb")) (.ref (ga K "NoAnswer")) = some false
  kx_TooMany_NoAnswer : PySem.W.kitOne K (.ref (ga K "TooMany")) (.ref (ga K "NoAnswer")) = some true
  kx_UnknownName_NoAnswer : PySem.W.kitOne K (.ref (ga K "UnknownName")) (.ref (ga K "NoAnswer")) = some false
  kx_NoBits_NoAnswer : PySem.W.kitOne K (.ref (ga K "NoBits")) (.ref (ga K "NoAnswer")) = some true
  kx_NothingToUndo_NoAnswer : PySem.W.kitOne K (.ref (ga K "NothingToUndo")) (.ref (ga K "NoAnswer")) = some true
  kb_Apart_ValueError : PySem.W.kitOne K (.ref (ga K "Apart")) (.type "ValueError") = some false
  kb_Broken_ValueError : PySem.W.kitOne K (.ref (ga K "Broken")) (.type "ValueError") = some false
  kb_InvalidDoubts_ValueError : PySem.W.kitOne K (.ref (ga K "InvalidDoubts")) (.type "ValueError") = some true
  kb_InvalidIndex_ValueError : PySem.W.kitOne K (.ref (ga K "InvalidIndex")) (.type "ValueError") = some true
  kb_InvalidLot_ValueError : PySem.W.kitOne K (.ref (ga K "InvalidLot")) (.type "ValueError") = some true
  kb_InvalidName_ValueError : PySem.W.kitOne K (.ref (ga K "InvalidName")) (.type "ValueError") = some true
  kb_InvalidNumber_ValueError : PySem.W.kitOne K (.ref (ga K "InvalidNumber")) (.type "ValueError") = some true
  kb_InvalidOffers_ValueError : PySem.W.kitOne K (.ref (ga K "InvalidOffers")) (.type "ValueError") = some true
  kb_InvalidRead_ValueError : PySem.W.kitOne K (.ref (ga K "InvalidRead")) (.type "ValueError") = some true
  kb_InvalidRows_ValueError : PySem.W.kitOne K (.ref (ga K "InvalidRows")) (.type "ValueError") = some true
  kb_InvalidText_ValueError : PySem.W.kitOne K (.ref (ga K "InvalidText")) (.type "ValueError") = some true
  kb_InvalidTie_ValueError : PySem.W.kitOne K (.ref (ga K "InvalidTie")) (.type "ValueError") = some true
  kb_InvalidTies_ValueError : PySem.W.kitOne K (.ref (ga K "InvalidTies")) (.type "ValueError") = some true
  kb_InvalidTowns_ValueError : PySem.W.kitOne K (.ref (ga K "InvalidTowns")) (.type "ValueError") = some true
  kb_InvalidWish_ValueError : PySem.W.kitOne K (.ref (ga K "InvalidWish")) (.type "ValueError") = some true
  kb_NotAWeb_ValueError : PySem.W.kitOne K (.ref (ga K "NotAWeb")) (.type "ValueError") = some true
  kb_TooMany_ValueError : PySem.W.kitOne K (.ref (ga K "TooMany")) (.type "ValueError") = some false
  kb_UnknownName_ValueError : PySem.W.kitOne K (.ref (ga K "UnknownName")) (.type "ValueError") = some false
  kb_NoBits_ValueError : PySem.W.kitOne K (.ref (ga K "NoBits")) (.type "ValueError") = some false
  kb_NothingToUndo_ValueError : PySem.W.kitOne K (.ref (ga K "NothingToUndo")) (.type "ValueError") = some false
  kb_Apart_LookupError : PySem.W.kitOne K (.ref (ga K "Apart")) (.type "LookupError") = some false
  kb_Broken_LookupError : PySem.W.kitOne K (.ref (ga K "Broken")) (.type "LookupError") = some false
  kb_InvalidDoubts_LookupError : PySem.W.kitOne K (.ref (ga K "InvalidDoubts")) (.type "LookupError") = some false
  kb_InvalidIndex_LookupError : PySem.W.kitOne K (.ref (ga K "InvalidIndex")) (.type "LookupError") = some false
  kb_InvalidLot_LookupError : PySem.W.kitOne K (.ref (ga K "InvalidLot")) (.type "LookupError") = some false
  kb_InvalidName_LookupError : PySem.W.kitOne K (.ref (ga K "InvalidName")) (.type "LookupError") = some false
  kb_InvalidNumber_LookupError : PySem.W.kitOne K (.ref (ga K "InvalidNumber")) (.type "LookupError") = some false
  kb_InvalidOffers_LookupError : PySem.W.kitOne K (.ref (ga K "InvalidOffers")) (.type "LookupError") = some false
  kb_InvalidRead_LookupError : PySem.W.kitOne K (.ref (ga K "InvalidRead")) (.type "LookupError") = some false
  kb_InvalidRows_LookupError : PySem.W.kitOne K (.ref (ga K "InvalidRows")) (.type "LookupError") = some false
  kb_InvalidText_LookupError : PySem.W.kitOne K (.ref (ga K "InvalidText")) (.type "LookupError") = some false
  kb_InvalidTie_LookupError : PySem.W.kitOne K (.ref (ga K "InvalidTie")) (.type "LookupError") = some false
  kb_InvalidTies_LookupError : PySem.W.kitOne K (.ref (ga K "InvalidTies")) (.type "LookupError") = some false
  kb_InvalidTowns_LookupError : PySem.W.kitOne K (.ref (ga K "InvalidTowns")) (.type "LookupError") = some false
  kb_InvalidWish_LookupError : PySem.W.kitOne K (.ref (ga K "InvalidWish")) (.type "LookupError") = some false
  kb_NotAWeb_LookupError : PySem.W.kitOne K (.ref (ga K "NotAWeb")) (.type "LookupError") = some false
  kb_TooMany_LookupError : PySem.W.kitOne K (.ref (ga K "TooMany")) (.type "LookupError") = some false
  kb_UnknownName_LookupError : PySem.W.kitOne K (.ref (ga K "UnknownName")) (.type "LookupError") = some true
  kb_NoBits_LookupError : PySem.W.kitOne K (.ref (ga K "NoBits")) (.type "LookupError") = some false
  kb_NothingToUndo_LookupError : PySem.W.kitOne K (.ref (ga K "NothingToUndo")) (.type "LookupError") = some false
  kb_Apart_ArithmeticError : PySem.W.kitOne K (.ref (ga K "Apart")) (.type "ArithmeticError") = some true
  kb_Broken_ArithmeticError : PySem.W.kitOne K (.ref (ga K "Broken")) (.type "ArithmeticError") = some true
  kb_InvalidDoubts_ArithmeticError : PySem.W.kitOne K (.ref (ga K "InvalidDoubts")) (.type "ArithmeticError") = some false
  kb_InvalidIndex_ArithmeticError : PySem.W.kitOne K (.ref (ga K "InvalidIndex")) (.type "ArithmeticError") = some false
  kb_InvalidLot_ArithmeticError : PySem.W.kitOne K (.ref (ga K "InvalidLot")) (.type "ArithmeticError") = some false
  kb_InvalidName_ArithmeticError : PySem.W.kitOne K (.ref (ga K "InvalidName")) (.type "ArithmeticError") = some false
  kb_InvalidNumber_ArithmeticError : PySem.W.kitOne K (.ref (ga K "InvalidNumber")) (.type "ArithmeticError") = some false
  kb_InvalidOffers_ArithmeticError : PySem.W.kitOne K (.ref (ga K "InvalidOffers")) (.type "ArithmeticError") = some false
  kb_InvalidRead_ArithmeticError : PySem.W.kitOne K (.ref (ga K "InvalidRead")) (.type "ArithmeticError") = some false
  kb_InvalidRows_ArithmeticError : PySem.W.kitOne K (.ref (ga K "InvalidRows")) (.type "ArithmeticError") = some false
  kb_InvalidText_ArithmeticError : PySem.W.kitOne K (.ref (ga K "InvalidText")) (.type "ArithmeticError") = some false
  kb_InvalidTie_ArithmeticError : PySem.W.kitOne K (.ref (ga K "InvalidTie")) (.type "ArithmeticError") = some false
  kb_InvalidTies_ArithmeticError : PySem.W.kitOne K (.ref (ga K "InvalidTies")) (.type "ArithmeticError") = some false
  kb_InvalidTowns_ArithmeticError : PySem.W.kitOne K (.ref (ga K "InvalidTowns")) (.type "ArithmeticError") = some false
  kb_InvalidWish_ArithmeticError : PySem.W.kitOne K (.ref (ga K "InvalidWish")) (.type "ArithmeticError") = some false
  kb_NotAWeb_ArithmeticError : PySem.W.kitOne K (.ref (ga K "NotAWeb")) (.type "ArithmeticError") = some false
  kb_TooMany_ArithmeticError : PySem.W.kitOne K (.ref (ga K "TooMany")) (.type "ArithmeticError") = some true
  kb_UnknownName_ArithmeticError : PySem.W.kitOne K (.ref (ga K "UnknownName")) (.type "ArithmeticError") = some false
  kb_NoBits_ArithmeticError : PySem.W.kitOne K (.ref (ga K "NoBits")) (.type "ArithmeticError") = some true
  kb_NothingToUndo_ArithmeticError : PySem.W.kitOne K (.ref (ga K "NothingToUndo")) (.type "ArithmeticError") = some true
  ec_InvalidText : ExcC K (ga K "InvalidText")
  ec_InvalidNumber : ExcC K (ga K "InvalidNumber")
  ec_InvalidName : ExcC K (ga K "InvalidName")
  ec_InvalidWish : ExcC K (ga K "InvalidWish")
  ec_InvalidIndex : ExcC K (ga K "InvalidIndex")
  ec_InvalidTie : ExcC K (ga K "InvalidTie")
  ec_NotAWeb : ExcC K (ga K "NotAWeb")
  d__law_drop : ∃ fd, FunD K "_law_drop" "_law_drop" (defArgs s__law_drop) (defBody s__law_drop) (defScope s__law_drop) (([] : List Dv).map (Dv.v K)) [] (Ad.at K (.glo "_law_drop")) fd
  d__law_from : ∃ fd, FunD K "_law_from" "_law_from" (defArgs s__law_from) (defBody s__law_from) (defScope s__law_from) (([] : List Dv).map (Dv.v K)) [] (Ad.at K (.glo "_law_from")) fd
  d__law_given_errors : ∃ fd, FunD K "_law_given_errors" "_law_given_errors" (defArgs s__law_given_errors) (defBody s__law_given_errors) (defScope s__law_given_errors) (([] : List Dv).map (Dv.v K)) [] (Ad.at K (.glo "_law_given_errors")) fd
  d__law_sort : ∃ fd, FunD K "_law_sort" "_law_sort" (defArgs s__law_sort) (defBody s__law_sort) (defScope s__law_sort) (([] : List Dv).map (Dv.v K)) [] (Ad.at K (.glo "_law_sort")) fd
  d__law_index_errors : ∃ fd, FunD K "_law_index_errors" "_law_index_errors" (defArgs s__law_index_errors) (defBody s__law_index_errors) (defScope s__law_index_errors) (([] : List Dv).map (Dv.v K)) [] (Ad.at K (.glo "_law_index_errors")) fd
  d__law_right : ∃ fd, FunD K "_law_right" "_law_right" (defArgs s__law_right) (defBody s__law_right) (defScope s__law_right) (([] : List Dv).map (Dv.v K)) [] (Ad.at K (.glo "_law_right")) fd
  d__law_phial_of : ∃ fd, FunD K "_law_phial_of" "_law_phial_of" (defArgs s__law_phial_of) (defBody s__law_phial_of) (defScope s__law_phial_of) (([] : List Dv).map (Dv.v K)) [] (Ad.at K (.glo "_law_phial_of")) fd
  d_law : ∃ fd, FunD K "law" "law" (defArgs s_law) (defBody s_law) (defScope s_law) (([] : List Dv).map (Dv.v K)) [] (Ad.at K (.glo "law")) fd
  d_Apart___init__ : ∃ fd, FunD K "__init__" "Apart.__init__" (defArgs s_Apart___init__) (defBody s_Apart___init__) (defScope s_Apart___init__) (([] : List Dv).map (Dv.v K)) [] (Ad.at K (.mem "Apart" "__init__")) fd
  d_Broken___init__ : ∃ fd, FunD K "__init__" "Broken.__init__" (defArgs s_Broken___init__) (defBody s_Broken___init__) (defScope s_Broken___init__) (([] : List Dv).map (Dv.v K)) [] (Ad.at K (.mem "Broken" "__init__")) fd
  d_InvalidDoubts___init__ : ∃ fd, FunD K "__init__" "InvalidDoubts.__init__" (defArgs s_InvalidDoubts___init__) (defBody s_InvalidDoubts___init__) (defScope s_InvalidDoubts___init__) (([] : List Dv).map (Dv.v K)) [] (Ad.at K (.mem "InvalidDoubts" "__init__")) fd
  d_InvalidIndex___init__ : ∃ fd, FunD K "__init__" "InvalidIndex.__init__" (defArgs s_InvalidIndex___init__) (defBody s_InvalidIndex___init__) (defScope s_InvalidIndex___init__) (([] : List Dv).map (Dv.v K)) [] (Ad.at K (.mem "InvalidIndex" "__init__")) fd
  d_InvalidLot___init__ : ∃ fd, FunD K "__init__" "InvalidLot.__init__" (defArgs s_InvalidLot___init__) (defBody s_InvalidLot___init__) (defScope s_InvalidLot___init__) (([] : List Dv).map (Dv.v K)) [] (Ad.at K (.mem "InvalidLot" "__init__")) fd
  d_InvalidName___init__ : ∃ fd, FunD K "__init__" "InvalidName.__init__" (defArgs s_InvalidName___init__) (defBody s_InvalidName___init__) (defScope s_InvalidName___init__) (([] : List Dv).map (Dv.v K)) [] (Ad.at K (.mem "InvalidName" "__init__")) fd
  d_InvalidNumber___init__ : ∃ fd, FunD K "__init__" "InvalidNumber.__init__" (defArgs s_InvalidNumber___init__) (defBody s_InvalidNumber___init__) (defScope s_InvalidNumber___init__) (([] : List Dv).map (Dv.v K)) [] (Ad.at K (.mem "InvalidNumber" "__init__")) fd
  d_InvalidOffers___init__ : ∃ fd, FunD K "__init__" "InvalidOffers.__init__" (defArgs s_InvalidOffers___init__) (defBody s_InvalidOffers___init__) (defScope s_InvalidOffers___init__) (([] : List Dv).map (Dv.v K)) [] (Ad.at K (.mem "InvalidOffers" "__init__")) fd
  d_InvalidRead___init__ : ∃ fd, FunD K "__init__" "InvalidRead.__init__" (defArgs s_InvalidRead___init__) (defBody s_InvalidRead___init__) (defScope s_InvalidRead___init__) (([] : List Dv).map (Dv.v K)) [] (Ad.at K (.mem "InvalidRead" "__init__")) fd
  d_InvalidRows___init__ : ∃ fd, FunD K "__init__" "InvalidRows.__init__" (defArgs s_InvalidRows___init__) (defBody s_InvalidRows___init__) (defScope s_InvalidRows___init__) (([] : List Dv).map (Dv.v K)) [] (Ad.at K (.mem "InvalidRows" "__init__")) fd
  d_InvalidText___init__ : ∃ fd, FunD K "__init__" "InvalidText.__init__" (defArgs s_InvalidText___init__) (defBody s_InvalidText___init__) (defScope s_InvalidText___init__) (([] : List Dv).map (Dv.v K)) [] (Ad.at K (.mem "InvalidText" "__init__")) fd
  d_InvalidTie___init__ : ∃ fd, FunD K "__init__" "InvalidTie.__init__" (defArgs s_InvalidTie___init__) (defBody s_InvalidTie___init__) (defScope s_InvalidTie___init__) (([] : List Dv).map (Dv.v K)) [] (Ad.at K (.mem "InvalidTie" "__init__")) fd
  d_InvalidTies___init__ : ∃ fd, FunD K "__init__" "InvalidTies.__init__" (defArgs s_InvalidTies___init__) (defBody s_InvalidTies___init__) (defScope s_InvalidTies___init__) (([] : List Dv).map (Dv.v K)) [] (Ad.at K (.mem "InvalidTies" "__init__")) fd
  d_InvalidTowns___init__ : ∃ fd, FunD K "__init__" "InvalidTowns.__init__" (defArgs s_InvalidTowns___init__) (defBody s_InvalidTowns___init__) (defScope s_InvalidTowns___init__) (([] : List Dv).map (Dv.v K)) [] (Ad.at K (.mem "InvalidTowns" "__init__")) fd
  d_InvalidWish___init__ : ∃ fd, FunD K "__init__" "InvalidWish.__init__" (defArgs s_InvalidWish___init__) (defBody s_InvalidWish___init__) (defScope s_InvalidWish___init__) (([] : List Dv).map (Dv.v K)) [] (Ad.at K (.mem "InvalidWish" "__init__")) fd
  d_NotAWeb___init__ : ∃ fd, FunD K "__init__" "NotAWeb.__init__" (defArgs s_NotAWeb___init__) (defBody s_NotAWeb___init__) (defScope s_NotAWeb___init__) (([] : List Dv).map (Dv.v K)) [] (Ad.at K (.mem "NotAWeb" "__init__")) fd
  d_TooMany___init__ : ∃ fd, FunD K "__init__" "TooMany.__init__" (defArgs s_TooMany___init__) (defBody s_TooMany___init__) (defScope s_TooMany___init__) (([] : List Dv).map (Dv.v K)) [] (Ad.at K (.mem "TooMany" "__init__")) fd
  d_UnknownName___init__ : ∃ fd, FunD K "__init__" "UnknownName.__init__" (defArgs s_UnknownName___init__) (defBody s_UnknownName___init__) (defScope s_UnknownName___init__) (([] : List Dv).map (Dv.v K)) [] (Ad.at K (.mem "UnknownName" "__init__")) fd
structure Fy (K : Fg) (mg : Str → Option Value) (base : Heap) : Prop extends Fx K mg where
  tb : ∀ p ∈ csK K, LamX.TabB base mg p.1 p.2
theorem ev_Apart {P : Program} {w : World} {K : Fg} {mg : Str → Option Value} {base : Heap} (h : Fy K mg base) : ErV P w K mg base "Apart" "given" (ga K "Apart") := by
  obtain ⟨fd, F⟩ := h.d_Apart___init__
  exact ErrT.ev h.e_Apart.1 h.g_Apart h.e_Apart.2.1 h.e_Apart.2.2.1 h.e_Apart.2.2.2 (errT_fn F sc_Apart___init__ rfl rfl rfl rfl) (kwb0 F fun kV doc pm an cdv ct first us ws h0 h1 h2 => match first, us, ws, h0, h1, h2 with | [_], [_], [], _, _, _ => rfl) (kwb0 F fun kV doc pm an cdv ct first us ws h0 h1 h2 => match first, us, ws, h0, h1, h2 with | [_], [], [_], _, _, _ => rfl)
theorem ev_Broken {P : Program} {w : World} {K : Fg} {mg : Str → Option Value} {base : Heap} (h : Fy K mg base) : ErV P w K mg base "Broken" "index" (ga K "Broken") := by
  obtain ⟨fd, F⟩ := h.d_Broken___init__
  exact ErrT.ev h.e_Broken.1 h.g_Broken h.e_Broken.2.1 h.e_Broken.2.2.1 h.e_Broken.2.2.2 (errT_fn F sc_Broken___init__ rfl rfl rfl rfl) (kwb0 F fun kV doc pm an cdv ct first us ws h0 h1 h2 => match first, us, ws, h0, h1, h2 with | [_], [_], [], _, _, _ => rfl) (kwb0 F fun kV doc pm an cdv ct first us ws h0 h1 h2 => match first, us, ws, h0, h1, h2 with | [_], [], [_], _, _, _ => rfl)
theorem ev_InvalidDoubts {P : Program} {w : World} {K : Fg} {mg : Str → Option Value} {base : Heap} (h : Fy K mg base) : ErV P w K mg base "InvalidDoubts" "index" (ga K "InvalidDoubts") := by
  obtain ⟨fd, F⟩ := h.d_InvalidDoubts___init__
  exact ErrD.ev h.e_InvalidDoubts.1 h.g_InvalidDoubts h.e_InvalidDoubts.2.1 h.e_InvalidDoubts.2.2.1 h.e_InvalidDoubts.2.2.2 (err_fn F sc_InvalidDoubts___init__ rfl rfl rfl rfl) (kwb0 F fun kV doc pm an cdv ct first us ws h0 h1 h2 => match first, us, ws, h0, h1, h2 with | [_], [_], [], _, _, _ => rfl) (kwb0 F fun kV doc pm an cdv ct first us ws h0 h1 h2 => match first, us, ws, h0, h1, h2 with | [_], [], [_], _, _, _ => rfl)
theorem ev_InvalidIndex {P : Program} {w : World} {K : Fg} {mg : Str → Option Value} {base : Heap} (h : Fy K mg base) : ErV P w K mg base "InvalidIndex" "given" (ga K "InvalidIndex") := by
  obtain ⟨fd, F⟩ := h.d_InvalidIndex___init__
  exact ErrD.ev h.e_InvalidIndex.1 h.g_InvalidIndex h.e_InvalidIndex.2.1 h.e_InvalidIndex.2.2.1 h.e_InvalidIndex.2.2.2 (err_fn F sc_InvalidIndex___init__ rfl rfl rfl rfl) (kwb0 F fun kV doc pm an cdv ct first us ws h0 h1 h2 => match first, us, ws, h0, h1, h2 with | [_], [_], [], _, _, _ => rfl) (kwb0 F fun kV doc pm an cdv ct first us ws h0 h1 h2 => match first, us, ws, h0, h1, h2 with | [_], [], [_], _, _, _ => rfl)
theorem ev_InvalidLot {P : Program} {w : World} {K : Fg} {mg : Str → Option Value} {base : Heap} (h : Fy K mg base) : ErV P w K mg base "InvalidLot" "index" (ga K "InvalidLot") := by
  obtain ⟨fd, F⟩ := h.d_InvalidLot___init__
  exact ErrD.ev h.e_InvalidLot.1 h.g_InvalidLot h.e_InvalidLot.2.1 h.e_InvalidLot.2.2.1 h.e_InvalidLot.2.2.2 (err_fn F sc_InvalidLot___init__ rfl rfl rfl rfl) (kwb0 F fun kV doc pm an cdv ct first us ws h0 h1 h2 => match first, us, ws, h0, h1, h2 with | [_], [_], [], _, _, _ => rfl) (kwb0 F fun kV doc pm an cdv ct first us ws h0 h1 h2 => match first, us, ws, h0, h1, h2 with | [_], [], [_], _, _, _ => rfl)
theorem ev_InvalidName {P : Program} {w : World} {K : Fg} {mg : Str → Option Value} {base : Heap} (h : Fy K mg base) : ErV P w K mg base "InvalidName" "given" (ga K "InvalidName") := by
  obtain ⟨fd, F⟩ := h.d_InvalidName___init__
  exact ErrD.ev h.e_InvalidName.1 h.g_InvalidName h.e_InvalidName.2.1 h.e_InvalidName.2.2.1 h.e_InvalidName.2.2.2 (err_fn F sc_InvalidName___init__ rfl rfl rfl rfl) (kwb0 F fun kV doc pm an cdv ct first us ws h0 h1 h2 => match first, us, ws, h0, h1, h2 with | [_], [_], [], _, _, _ => rfl) (kwb0 F fun kV doc pm an cdv ct first us ws h0 h1 h2 => match first, us, ws, h0, h1, h2 with | [_], [], [_], _, _, _ => rfl)
theorem ev_InvalidNumber {P : Program} {w : World} {K : Fg} {mg : Str → Option Value} {base : Heap} (h : Fy K mg base) : ErV P w K mg base "InvalidNumber" "given" (ga K "InvalidNumber") := by
  obtain ⟨fd, F⟩ := h.d_InvalidNumber___init__
  exact ErrD.ev h.e_InvalidNumber.1 h.g_InvalidNumber h.e_InvalidNumber.2.1 h.e_InvalidNumber.2.2.1 h.e_InvalidNumber.2.2.2 (err_fn F sc_InvalidNumber___init__ rfl rfl rfl rfl) (kwb0 F fun kV doc pm an cdv ct first us ws h0 h1 h2 => match first, us, ws, h0, h1, h2 with | [_], [_], [], _, _, _ => rfl) (kwb0 F fun kV doc pm an cdv ct first us ws h0 h1 h2 => match first, us, ws, h0, h1, h2 with | [_], [], [_], _, _, _ => rfl)
theorem ev_InvalidOffers {P : Program} {w : World} {K : Fg} {mg : Str → Option Value} {base : Heap} (h : Fy K mg base) : ErV P w K mg base "InvalidOffers" "index" (ga K "InvalidOffers") := by
  obtain ⟨fd, F⟩ := h.d_InvalidOffers___init__
  exact ErrD.ev h.e_InvalidOffers.1 h.g_InvalidOffers h.e_InvalidOffers.2.1 h.e_InvalidOffers.2.2.1 h.e_InvalidOffers.2.2.2 (err_fn F sc_InvalidOffers___init__ rfl rfl rfl rfl) (kwb0 F fun kV doc pm an cdv ct first us ws h0 h1 h2 => match first, us, ws, h0, h1, h2 with | [_], [_], [], _, _, _ => rfl) (kwb0 F fun kV doc pm an cdv ct first us ws h0 h1 h2 => match first, us, ws, h0, h1, h2 with | [_], [], [_], _, _, _ => rfl)
theorem ev_InvalidRead {P : Program} {w : World} {K : Fg} {mg : Str → Option Value} {base : Heap} (h : Fy K mg base) : ErV P w K mg base "InvalidRead" "index" (ga K "InvalidRead") := by
  obtain ⟨fd, F⟩ := h.d_InvalidRead___init__
  exact ErrD.ev h.e_InvalidRead.1 h.g_InvalidRead h.e_InvalidRead.2.1 h.e_InvalidRead.2.2.1 h.e_InvalidRead.2.2.2 (err_fn F sc_InvalidRead___init__ rfl rfl rfl rfl) (kwb0 F fun kV doc pm an cdv ct first us ws h0 h1 h2 => match first, us, ws, h0, h1, h2 with | [_], [_], [], _, _, _ => rfl) (kwb0 F fun kV doc pm an cdv ct first us ws h0 h1 h2 => match first, us, ws, h0, h1, h2 with | [_], [], [_], _, _, _ => rfl)
theorem ev_InvalidRows {P : Program} {w : World} {K : Fg} {mg : Str → Option Value} {base : Heap} (h : Fy K mg base) : ErV P w K mg base "InvalidRows" "index" (ga K "InvalidRows") := by
  obtain ⟨fd, F⟩ := h.d_InvalidRows___init__
  exact ErrD.ev h.e_InvalidRows.1 h.g_InvalidRows h.e_InvalidRows.2.1 h.e_InvalidRows.2.2.1 h.e_InvalidRows.2.2.2 (err_fn F sc_InvalidRows___init__ rfl rfl rfl rfl) (kwb0 F fun kV doc pm an cdv ct first us ws h0 h1 h2 => match first, us, ws, h0, h1, h2 with | [_], [_], [], _, _, _ => rfl) (kwb0 F fun kV doc pm an cdv ct first us ws h0 h1 h2 => match first, us, ws, h0, h1, h2 with | [_], [], [_], _, _, _ => rfl)
theorem ev_InvalidText {P : Program} {w : World} {K : Fg} {mg : Str → Option Value} {base : Heap} (h : Fy K mg base) : ErV P w K mg base "InvalidText" "given" (ga K "InvalidText") := by
  obtain ⟨fd, F⟩ := h.d_InvalidText___init__
  exact ErrD.ev h.e_InvalidText.1 h.g_InvalidText h.e_InvalidText.2.1 h.e_InvalidText.2.2.1 h.e_InvalidText.2.2.2 (err_fn F sc_InvalidText___init__ rfl rfl rfl rfl) (kwb0 F fun kV doc pm an cdv ct first us ws h0 h1 h2 => match first, us, ws, h0, h1, h2 with | [_], [_], [], _, _, _ => rfl) (kwb0 F fun kV doc pm an cdv ct first us ws h0 h1 h2 => match first, us, ws, h0, h1, h2 with | [_], [], [_], _, _, _ => rfl)
theorem ev_InvalidTie {P : Program} {w : World} {K : Fg} {mg : Str → Option Value} {base : Heap} (h : Fy K mg base) : ErV P w K mg base "InvalidTie" "given" (ga K "InvalidTie") := by
  obtain ⟨fd, F⟩ := h.d_InvalidTie___init__
  exact ErrD.ev h.e_InvalidTie.1 h.g_InvalidTie h.e_InvalidTie.2.1 h.e_InvalidTie.2.2.1 h.e_InvalidTie.2.2.2 (err_fn F sc_InvalidTie___init__ rfl rfl rfl rfl) (kwb0 F fun kV doc pm an cdv ct first us ws h0 h1 h2 => match first, us, ws, h0, h1, h2 with | [_], [_], [], _, _, _ => rfl) (kwb0 F fun kV doc pm an cdv ct first us ws h0 h1 h2 => match first, us, ws, h0, h1, h2 with | [_], [], [_], _, _, _ => rfl)
theorem ev_InvalidTies {P : Program} {w : World} {K : Fg} {mg : Str → Option Value} {base : Heap} (h : Fy K mg base) : ErV P w K mg base "InvalidTies" "index" (ga K "InvalidTies") := by
  obtain ⟨fd, F⟩ := h.d_InvalidTies___init__
  exact ErrD.ev h.e_InvalidTies.1 h.g_InvalidTies h.e_InvalidTies.2.1 h.e_InvalidTies.2.2.1 h.e_InvalidTies.2.2.2 (err_fn F sc_InvalidTies___init__ rfl rfl rfl rfl) (kwb0 F fun kV doc pm an cdv ct first us ws h0 h1 h2 => match first, us, ws, h0, h1, h2 with | [_], [_], [], _, _, _ => rfl) (kwb0 F fun kV doc pm an cdv ct first us ws h0 h1 h2 => match first, us, ws, h0, h1, h2 with | [_], [], [_], _, _, _ => rfl)
theorem ev_InvalidTowns {P : Program} {w : World} {K : Fg} {mg : Str → Option Value} {base : Heap} (h : Fy K mg base) : ErV P w K mg base "InvalidTowns" "index" (ga K "InvalidTowns") := by
  obtain ⟨fd, F⟩ := h.d_InvalidTowns___init__
  exact ErrD.ev h.e_InvalidTowns.1 h.g_InvalidTowns h.e_InvalidTowns.2.1 h.e_InvalidTowns.2.2.1 h.e_InvalidTowns.2.2.2 (err_fn F sc_InvalidTowns___init__ rfl rfl rfl rfl) (kwb0 F fun kV doc pm an cdv ct first us ws h0 h1 h2 => match first, us, ws, h0, h1, h2 with | [_], [_], [], _, _, _ => rfl) (kwb0 F fun kV doc pm an cdv ct first us ws h0 h1 h2 => match first, us, ws, h0, h1, h2 with | [_], [], [_], _, _, _ => rfl)
theorem ev_InvalidWish {P : Program} {w : World} {K : Fg} {mg : Str → Option Value} {base : Heap} (h : Fy K mg base) : ErV P w K mg base "InvalidWish" "given" (ga K "InvalidWish") := by
  obtain ⟨fd, F⟩ := h.d_InvalidWish___init__
  exact ErrD.ev h.e_InvalidWish.1 h.g_InvalidWish h.e_InvalidWish.2.1 h.e_InvalidWish.2.2.1 h.e_InvalidWish.2.2.2 (err_fn F sc_InvalidWish___init__ rfl rfl rfl rfl) (kwb0 F fun kV doc pm an cdv ct first us ws h0 h1 h2 => match first, us, ws, h0, h1, h2 with | [_], [_], [], _, _, _ => rfl) (kwb0 F fun kV doc pm an cdv ct first us ws h0 h1 h2 => match first, us, ws, h0, h1, h2 with | [_], [], [_], _, _, _ => rfl)
theorem ev_NotAWeb {P : Program} {w : World} {K : Fg} {mg : Str → Option Value} {base : Heap} (h : Fy K mg base) : ErV P w K mg base "NotAWeb" "given" (ga K "NotAWeb") := by
  obtain ⟨fd, F⟩ := h.d_NotAWeb___init__
  exact ErrD.ev h.e_NotAWeb.1 h.g_NotAWeb h.e_NotAWeb.2.1 h.e_NotAWeb.2.2.1 h.e_NotAWeb.2.2.2 (err_fn F sc_NotAWeb___init__ rfl rfl rfl rfl) (kwb0 F fun kV doc pm an cdv ct first us ws h0 h1 h2 => match first, us, ws, h0, h1, h2 with | [_], [_], [], _, _, _ => rfl) (kwb0 F fun kV doc pm an cdv ct first us ws h0 h1 h2 => match first, us, ws, h0, h1, h2 with | [_], [], [_], _, _, _ => rfl)
theorem ev_TooMany {P : Program} {w : World} {K : Fg} {mg : Str → Option Value} {base : Heap} (h : Fy K mg base) : ErV P w K mg base "TooMany" "given" (ga K "TooMany") := by
  obtain ⟨fd, F⟩ := h.d_TooMany___init__
  exact ErrT.ev h.e_TooMany.1 h.g_TooMany h.e_TooMany.2.1 h.e_TooMany.2.2.1 h.e_TooMany.2.2.2 (errT_fn F sc_TooMany___init__ rfl rfl rfl rfl) (kwb0 F fun kV doc pm an cdv ct first us ws h0 h1 h2 => match first, us, ws, h0, h1, h2 with | [_], [_], [], _, _, _ => rfl) (kwb0 F fun kV doc pm an cdv ct first us ws h0 h1 h2 => match first, us, ws, h0, h1, h2 with | [_], [], [_], _, _, _ => rfl)
theorem ev_UnknownName {P : Program} {w : World} {K : Fg} {mg : Str → Option Value} {base : Heap} (h : Fy K mg base) : ErV P w K mg base "UnknownName" "given" (ga K "UnknownName") := by
  obtain ⟨fd, F⟩ := h.d_UnknownName___init__
  exact ErrT.ev h.e_UnknownName.1 h.g_UnknownName h.e_UnknownName.2.1 h.e_UnknownName.2.2.1 h.e_UnknownName.2.2.2 (errT_fn F sc_UnknownName___init__ rfl rfl rfl rfl) (kwb0 F fun kV doc pm an cdv ct first us ws h0 h1 h2 => match first, us, ws, h0, h1, h2 with | [_], [_], [], _, _, _ => rfl) (kwb0 F fun kV doc pm an cdv ct first us ws h0 h1 h2 => match first, us, ws, h0, h1, h2 with | [_], [], [_], _, _, _ => rfl)
theorem fp__law_drop {P : Program} {w : World} {K : Fg} {mg : Str → Option Value} {base : Heap} {fd : FuncData} (h : Fy K mg base) (F : FunD K "_law_drop" "_law_drop" (defArgs s__law_drop) (defBody s__law_drop) (defScope s__law_drop) (([] : List Dv).map (Dv.v K)) [] (Ad.at K (.glo "_law_drop")) fd) : FnOk P w K mg base (L2N.CX P w) 1 (Ad.at K (.glo "_law_drop")) fd ["_law_phial", "_law_top"] (spD K 2 (F__law_drop)) := by
  refine FnD.fnok (k := 0) F sc__law_drop (by decide) fun cdv A outer s H E hr => ?_
  have hN := sc__law_drop.nd
  have tk := L2N.takes_of (X := cxOf (L2N.CX P w) P w K mg base N__law_drop "_law_drop" (defScope s__law_drop) (Ad.at K (.glo "_law_drop")) cdv A outer s H E) rfl rfl rfl rfl
  exact (dss_cons (ds_if (t_gt (w_ix (dq_var (pv 0)) dp_int.weak).weak dp_int.weak) (dss_cons (ds_asgI (tm_cons (tm_ix (i := 0) (g := (pC (.int 0)))) (tm_cons (TgOk.m (tg_name 3)) tm_nil)) (len_cons (len_cons len_nil)) (w_divmod h.n_divmod (w_ix (dq_var (pv 0)) dp_int.weak) (dp_var (pv 1))) (fun _ z => ps_asg z (pg_tup rfl (pgs_cons (pg_sub (pv 0) (DZ.run dp_int) set_list) (pgs_cons (pg_name hN rfl (by first | exact .inl rfl | exact .inr rfl)) pgs_nil))))) (dss_one (ds_ret (dp_var (pv 3))))) dss_nil) (dss_cons (ds_asgM (tm_ix (i := 0) (g := (pC (.int 2)))) (w_add (w_ix (dq_var (pv 0)) dp_int.weak).weak dp_int.weak) (fun _ z => ps_asg z (pg_sub (pv 0) (DZ.run dp_int) set_list))) (dss_cons (ds_asg (tg_name 2) (w_mod (w_int h.n_int (w_add (w_ix (dq_var (pv 0)) dp_int.weak).weak (w_mul dp_int.weak (w_ix (dq_var (pv 0)) dp_int.weak).weak).weak).weak).weak dp_int.weak) (fun _ z => ps_set hN rfl (by first | exact .inl rfl | exact .inr rfl) z)) (dss_cons (ds_asgM (tm_ix (i := 0) (g := (pC (.int 1)))) (w_mod (w_int h.n_int (w_add (w_add (w_mul (dp_var (pv 2)).weak (w_add (w_mod (w_int h.n_int (dp_var (pv 2)).weak).weak dp_int.weak).weak dp_int.weak).weak).weak (w_mul dp_int.weak (w_ix (dq_var (pv 0)) dp_int.weak).weak).weak).weak dp_int.weak).weak).weak dp_int.weak) (fun _ z => ps_asg z (pg_sub (pv 0) (DZ.run dp_int) set_list))) (dss_one (ds_ret (w_mod (w_fdiv (w_int h.n_int (w_ix (dq_var (pv 0)) dp_int.weak).weak).weak dp_int.weak).weak (dp_var (pv 1)).weak)))))))
theorem fo__law_drop {P : Program} {w : World} {K : Fg} {mg : Str → Option Value} {base : Heap} (h : Fy K mg base) : ∃ fd, FnOk P w K mg base (L2N.CX P w) 1 (Ad.at K (.glo "_law_drop")) fd ["_law_phial", "_law_top"] (spD K 2 (F__law_drop)) ∧ FunD K "_law_drop" "_law_drop" (defArgs s__law_drop) (defBody s__law_drop) (defScope s__law_drop) (([] : List Dv).map (Dv.v K)) [] (Ad.at K (.glo "_law_drop")) fd :=
  let ⟨fd, F⟩ := h.d__law_drop
  ⟨fd, fp__law_drop h F, F⟩
theorem ok__law_drop {P : Program} {w : World} {K : Fg} {mg : Str → Option Value} {base : Heap} (h : Fy K mg base) : FnD P w K mg base 1 "_law_drop" ["_law_phial", "_law_top"] (F__law_drop) :=
  let ⟨fd, a, F⟩ := fo__law_drop h
  ⟨_, fd, a, h.g__law_drop, F.kp, F.bindsN fun _ _ _ _ _ _ us hl => match us, hl with | [_, _], _ => rfl⟩
theorem fp__law_from {P : Program} {w : World} {K : Fg} {mg : Str → Option Value} {base : Heap} {fd : FuncData} (h : Fy K mg base) (F : FunD K "_law_from" "_law_from" (defArgs s__law_from) (defBody s__law_from) (defScope s__law_from) (([] : List Dv).map (Dv.v K)) [] (Ad.at K (.glo "_law_from")) fd) : FnOk P w K mg base (L2N.CX P w) 2 (Ad.at K (.glo "_law_from")) fd ["_law_phial", "_law_menu"] (spD K 2 (F__law_from)) := by
  refine FnD.fnok (k := 1) F sc__law_from (by decide) fun cdv A outer s H E hr => ?_
  have hN := sc__law_from.nd
  have tk := L2N.takes_of (X := cxOf (L2N.CX P w) P w K mg base N__law_from "_law_from" (defScope s__law_from) (Ad.at K (.glo "_law_from")) cdv A outer s H E) rfl rfl rfl rfl
  exact (dss_one (ds_retE (we_ix (DP.de (dp_var (pv 1))) (de_callO (FnD.cal ((ok__law_drop h).mono (by decide)) hr (by rfl) tk) (pv 0) (db_cons (DP.de (w_len h.n_len (dp_var (pv 1)))) db_nil) (len_bCons len_bNil)))))
theorem fo__law_from {P : Program} {w : World} {K : Fg} {mg : Str → Option Value} {base : Heap} (h : Fy K mg base) : ∃ fd, FnOk P w K mg base (L2N.CX P w) 2 (Ad.at K (.glo "_law_from")) fd ["_law_phial", "_law_menu"] (spD K 2 (F__law_from)) ∧ FunD K "_law_from" "_law_from" (defArgs s__law_from) (defBody s__law_from) (defScope s__law_from) (([] : List Dv).map (Dv.v K)) [] (Ad.at K (.glo "_law_from")) fd :=
  let ⟨fd, F⟩ := h.d__law_from
  ⟨fd, fp__law_from h F, F⟩
theorem ok__law_from {P : Program} {w : World} {K : Fg} {mg : Str → Option Value} {base : Heap} (h : Fy K mg base) : FnD P w K mg base 2 "_law_from" ["_law_phial", "_law_menu"] (F__law_from) :=
  let ⟨fd, a, F⟩ := fo__law_from h
  ⟨_, fd, a, h.g__law_from, F.kp, F.bindsN fun _ _ _ _ _ _ us hl => match us, hl with | [_, _], _ => rfl⟩
theorem fp__law_given_errors {P : Program} {w : World} {K : Fg} {mg : Str → Option Value} {base : Heap} {fd : FuncData} (h : Fy K mg base) (F : FunD K "_law_given_errors" "_law_given_errors" (defArgs s__law_given_errors) (defBody s__law_given_errors) (defScope s__law_given_errors) (([] : List Dv).map (Dv.v K)) [] (Ad.at K (.glo "_law_given_errors")) fd) : FnOk P w K mg base (L2N.CX P w) 3 (Ad.at K (.glo "_law_given_errors")) fd ["_law_odd"] (spD K 1 (F__law_given_errors K)) := by
  refine FnD.fnok (k := 2) F sc__law_given_errors (by decide) fun cdv A outer s H E hr => ?_
  have hN := sc__law_given_errors.nd
  have tk := L2N.takes_of (X := cxOf (L2N.CX P w) P w K mg base N__law_given_errors "_law_given_errors" (defScope s__law_given_errors) (Ad.at K (.glo "_law_given_errors")) cdv A outer s H E) rfl rfl rfl rfl
  exact (dss_cons (ds_asg (tg_name 1) (DF.dp (df_lst (da_cons (dp_errP (ev_InvalidText h) (hr.mono (by decide)) tk (dg_pos (da_cons (dp_var (pv 0)) da_nil))) (da_cons (dp_errP (ev_InvalidNumber h) (hr.mono (by decide)) tk (dg_pos (da_cons (dp_var (pv 0)) da_nil))) (da_cons (dp_errP (ev_InvalidName h) (hr.mono (by decide)) tk (dg_pos (da_cons (dp_var (pv 0)) da_nil))) (da_cons (dp_errP (ev_InvalidWish h) (hr.mono (by decide)) tk (dg_pos (da_cons (dp_var (pv 0)) da_nil))) (da_cons (dp_errP (ev_InvalidIndex h) (hr.mono (by decide)) tk (dg_pos (da_cons (dp_var (pv 0)) da_nil))) da_nil))))))) (fun _ z => ps_set hN rfl (by first | exact .inl rfl | exact .inr rfl) z)) (dss_cons (ds_asg (tg_name 1) (w_add (dp_var (pv 1)).weak (DF.dp (df_lst (da_cons (dp_errP (ev_InvalidTie h) (hr.mono (by decide)) tk (dg_pos (da_cons (dp_var (pv 0)) da_nil))) (da_cons (dp_errP (ev_NotAWeb h) (hr.mono (by decide)) tk (dg_pos (da_cons (dp_var (pv 0)) da_nil))) da_nil)))).weak) (fun _ z => ps_set hN rfl (by first | exact .inl rfl | exact .inr rfl) z)) (dss_cons (ds_asg (tg_name 2) (DF.dp (df_lst (da_cons (dp_errK (ev_InvalidText h) (hr.mono (by decide)) tk (dg_kw0 (dk_cons (dp_var (pv 0)) dk_nil))) (da_cons (dp_errK (ev_InvalidNumber h) (hr.mono (by decide)) tk (dg_kw0 (dk_cons (dp_var (pv 0)) dk_nil))) (da_cons (dp_errK (ev_InvalidName h) (hr.mono (by decide)) tk (dg_kw0 (dk_cons (dp_var (pv 0)) dk_nil))) (da_cons (dp_errK (ev_InvalidWish h) (hr.mono (by decide)) tk (dg_kw0 (dk_cons (dp_var (pv 0)) dk_nil))) da_nil)))))) (fun _ z => ps_set hN rfl (by first | exact .inl rfl | exact .inr rfl) z)) (dss_one (ds_ret (DF.dp (df_lst (da_cons (dp_var (pv 1)) (da_cons (w_add (dp_var (pv 2)).weak (DF.dp (df_lst (da_cons (dp_errK (ev_InvalidIndex h) (hr.mono (by decide)) tk (dg_kw0 (dk_cons (dp_var (pv 0)) dk_nil))) (da_cons (dp_errK (ev_InvalidTie h) (hr.mono (by decide)) tk (dg_kw0 (dk_cons (dp_var (pv 0)) dk_nil))) (da_cons (dp_errK (ev_NotAWeb h) (hr.mono (by decide)) tk (dg_kw0 (dk_cons (dp_var (pv 0)) dk_nil))) da_nil))))).weak) da_nil)))))))))
theorem fo__law_given_errors {P : Program} {w : World} {K : Fg} {mg : Str → Option Value} {base : Heap} (h : Fy K mg base) : ∃ fd, FnOk P w K mg base (L2N.CX P w) 3 (Ad.at K (.glo "_law_given_errors")) fd ["_law_odd"] (spD K 1 (F__law_given_errors K)) ∧ FunD K "_law_given_errors" "_law_given_errors" (defArgs s__law_given_errors) (defBody s__law_given_errors) (defScope s__law_given_errors) (([] : List Dv).map (Dv.v K)) [] (Ad.at K (.glo "_law_given_errors")) fd :=
  let ⟨fd, F⟩ := h.d__law_given_errors
  ⟨fd, fp__law_given_errors h F, F⟩
theorem ok__law_given_errors {P : Program} {w : World} {K : Fg} {mg : Str → Option Value} {base : Heap} (h : Fy K mg base) : FnD P w K mg base 3 "_law_given_errors" ["_law_odd"] (F__law_given_errors K) :=
  let ⟨fd, a, F⟩ := fo__law_given_errors h
  ⟨_, fd, a, h.g__law_given_errors, F.kp, F.bindsN fun _ _ _ _ _ _ us hl => match us, hl with | [_], _ => rfl⟩
theorem fp__law_sort {P : Program} {w : World} {K : Fg} {mg : Str → Option Value} {base : Heap} {fd : FuncData} (h : Fy K mg base) (F : FunD K "_law_sort" "_law_sort" (defArgs s__law_sort) (defBody s__law_sort) (defScope s__law_sort) (([] : List Dv).map (Dv.v K)) [] (Ad.at K (.glo "_law_sort")) fd) : FnOk P w K mg base (L2N.CX P w) 1 (Ad.at K (.glo "_law_sort")) fd ["_law_e"] (spD K 1 (F__law_sort K)) := by
  refine FnD.fnok (k := 0) F sc__law_sort (by decide) fun cdv A outer s H E hr => ?_
  have hN := sc__law_sort.nd
  have tk := L2N.takes_of (X := cxOf (L2N.CX P w) P w K mg base N__law_sort "_law_sort" (defScope s__law_sort) (Ad.at K (.glo "_law_sort")) cdv A outer s H E) rfl rfl rfl rfl
  exact (dss_cons (ds_asg (tg_name 1) (DF.dp (df_lst (da_cons (dp_isXC (dp_var (pv 0)) h.n_isinstance h.g_InvalidText) (da_cons (dp_isXC (dp_var (pv 0)) h.n_isinstance h.g_InvalidNumber) (da_cons (dp_isXC (dp_var (pv 0)) h.n_isinstance h.g_InvalidName) da_nil))))) (fun _ z => ps_set hN rfl (by first | exact .inl rfl | exact .inr rfl) z)) (dss_cons (ds_asg (tg_name 1) (w_add (dp_var (pv 1)).weak (DF.dp (df_lst (da_cons (dp_isXC (dp_var (pv 0)) h.n_isinstance h.g_InvalidWish) (da_cons (dp_isXC (dp_var (pv 0)) h.n_isinstance h.g_InvalidIndex) (da_cons (dp_isXC (dp_var (pv 0)) h.n_isinstance h.g_InvalidTie) da_nil))))).weak) (fun _ z => ps_set hN rfl (by first | exact .inl rfl | exact .inr rfl) z)) (dss_cons (ds_asg (tg_name 1) (w_add (dp_var (pv 1)).weak (DF.dp (df_lst (da_cons (dp_isXC (dp_var (pv 0)) h.n_isinstance h.g_NotAWeb) (da_cons (dp_isXC (dp_var (pv 0)) h.n_isinstance h.g_InvalidTowns) (da_cons (dp_isXC (dp_var (pv 0)) h.n_isinstance h.g_InvalidTies) da_nil))))).weak) (fun _ z => ps_set hN rfl (by first | exact .inl rfl | exact .inr rfl) z)) (dss_cons (ds_asg (tg_name 1) (w_add (dp_var (pv 1)).weak (DF.dp (df_lst (da_cons (dp_isXC (dp_var (pv 0)) h.n_isinstance h.g_InvalidLot) (da_cons (dp_isXC (dp_var (pv 0)) h.n_isinstance h.g_InvalidRows) (da_cons (dp_isXC (dp_var (pv 0)) h.n_isinstance h.g_InvalidRead) da_nil))))).weak) (fun _ z => ps_set hN rfl (by first | exact .inl rfl | exact .inr rfl) z)) (dss_cons (ds_asg (tg_name 1) (w_add (dp_var (pv 1)).weak (DF.dp (df_lst (da_cons (dp_isXC (dp_var (pv 0)) h.n_isinstance h.g_InvalidOffers) (da_cons (dp_isXC (dp_var (pv 0)) h.n_isinstance h.g_InvalidDoubts) (da_cons (dp_isXC (dp_var (pv 0)) h.n_isinstance h.g_UnknownName) da_nil))))).weak) (fun _ z => ps_set hN rfl (by first | exact .inl rfl | exact .inr rfl) z)) (dss_cons (ds_asg (tg_name 1) (w_add (dp_var (pv 1)).weak (DF.dp (df_lst (da_cons (dp_isXC (dp_var (pv 0)) h.n_isinstance h.g_Apart) (da_cons (dp_isXC (dp_var (pv 0)) h.n_isinstance h.g_TooMany) (da_cons (dp_isXC (dp_var (pv 0)) h.n_isinstance h.g_NoBits) da_nil))))).weak) (fun _ z => ps_set hN rfl (by first | exact .inl rfl | exact .inr rfl) z)) (dss_cons (ds_asg (tg_name 1) (w_add (dp_var (pv 1)).weak (DF.dp (df_lst (da_cons (dp_isXC (dp_var (pv 0)) h.n_isinstance h.g_NothingToUndo) (da_cons (dp_isXC (dp_var (pv 0)) h.n_isinstance h.g_Broken) (da_cons (dp_isXC (dp_var (pv 0)) h.n_isinstance h.g_WrongValue) da_nil))))).weak) (fun _ z => ps_set hN rfl (by first | exact .inl rfl | exact .inr rfl) z)) (dss_cons (ds_asg (tg_name 1) (w_add (dp_var (pv 1)).weak (DF.dp (df_lst (da_cons (dp_isXC (dp_var (pv 0)) h.n_isinstance h.g_WrongName) (da_cons (dp_isXC (dp_var (pv 0)) h.n_isinstance h.g_NoAnswer) (da_cons (dp_isXT (dp_var (pv 0)) h.n_isinstance h.n_ValueError) da_nil))))).weak) (fun _ z => ps_set hN rfl (by first | exact .inl rfl | exact .inr rfl) z)) (dss_cons (ds_asg (tg_name 1) (w_add (dp_var (pv 1)).weak (DF.dp (df_lst (da_cons (dp_isXT (dp_var (pv 0)) h.n_isinstance h.n_LookupError) (da_cons (dp_isXT (dp_var (pv 0)) h.n_isinstance h.n_ArithmeticError) da_nil)))).weak) (fun _ z => ps_set hN rfl (by first | exact .inl rfl | exact .inr rfl) z)) (dss_one (ds_ret (DF.dp (df_lc (own := [("_law_k", 2)]) rfl hN (w_range1 h.n_range dp_int) (blk_ok rfl (by kernel_rfl) (by kernel_rfl) (by kernel_rfl) (by kernel_rfl)) (fun _ _ _ _ _ => (pg_name hN rfl (by first | exact .inl rfl | exact .inr rfl))) (tg_name 2) (by decide) (fun _ _ _ _ _ => (dts_one (dt_val (w_ix (dp_var (pv 1)).weak (dp_var (pv 2)).weak)))) (fun _ _ _ _ _ => (dp_var (pv 2))))))))))))))))
theorem fo__law_sort {P : Program} {w : World} {K : Fg} {mg : Str → Option Value} {base : Heap} (h : Fy K mg base) : ∃ fd, FnOk P w K mg base (L2N.CX P w) 1 (Ad.at K (.glo "_law_sort")) fd ["_law_e"] (spD K 1 (F__law_sort K)) ∧ FunD K "_law_sort" "_law_sort" (defArgs s__law_sort) (defBody s__law_sort) (defScope s__law_sort) (([] : List Dv).map (Dv.v K)) [] (Ad.at K (.glo "_law_sort")) fd :=
  let ⟨fd, F⟩ := h.d__law_sort
  ⟨fd, fp__law_sort h F, F⟩
theorem ok__law_sort {P : Program} {w : World} {K : Fg} {mg : Str → Option Value} {base : Heap} (h : Fy K mg base) : FnD P w K mg base 1 "_law_sort" ["_law_e"] (F__law_sort K) :=
  let ⟨fd, a, F⟩ := fo__law_sort h
  ⟨_, fd, a, h.g__law_sort, F.kp, F.bindsN fun _ _ _ _ _ _ us hl => match us, hl with | [_], _ => rfl⟩
theorem fp__law_index_errors {P : Program} {w : World} {K : Fg} {mg : Str → Option Value} {base : Heap} {fd : FuncData} (h : Fy K mg base) (F : FunD K "_law_index_errors" "_law_index_errors" (defArgs s__law_index_errors) (defBody s__law_index_errors) (defScope s__law_index_errors) (([] : List Dv).map (Dv.v K)) [] (Ad.at K (.glo "_law_index_errors")) fd) : FnOk P w K mg base (L2N.CX P w) 3 (Ad.at K (.glo "_law_index_errors")) fd ["_law_odd"] (spD K 1 (F__law_index_errors K)) := by
  refine FnD.fnok (k := 2) F sc__law_index_errors (by decide) fun cdv A outer s H E hr => ?_
  have hN := sc__law_index_errors.nd
  have tk := L2N.takes_of (X := cxOf (L2N.CX P w) P w K mg base N__law_index_errors "_law_index_errors" (defScope s__law_index_errors) (Ad.at K (.glo "_law_index_errors")) cdv A outer s H E) rfl rfl rfl rfl
  exact (dss_cons (ds_asg (tg_name 1) (DF.dp (df_lst (da_cons (dp_errP (ev_InvalidTowns h) (hr.mono (by decide)) tk (dg_pos (da_cons (dp_var (pv 0)) da_nil))) (da_cons (dp_errP (ev_InvalidTies h) (hr.mono (by decide)) tk (dg_pos (da_cons (dp_var (pv 0)) da_nil))) (da_cons (dp_errP (ev_InvalidLot h) (hr.mono (by decide)) tk (dg_pos (da_cons (dp_var (pv 0)) da_nil))) (da_cons (dp_errP (ev_InvalidRows h) (hr.mono (by decide)) tk (dg_pos (da_cons (dp_var (pv 0)) da_nil))) (da_cons (dp_errP (ev_InvalidRead h) (hr.mono (by decide)) tk (dg_pos (da_cons (dp_var (pv 0)) da_nil))) da_nil))))))) (fun _ z => ps_set hN rfl (by first | exact .inl rfl | exact .inr rfl) z)) (dss_cons (ds_asg (tg_name 1) (w_add (dp_var (pv 1)).weak (DF.dp (df_lst (da_cons (dp_errP (ev_InvalidOffers h) (hr.mono (by decide)) tk (dg_pos (da_cons (dp_var (pv 0)) da_nil))) (da_cons (dp_errP (ev_InvalidDoubts h) (hr.mono (by decide)) tk (dg_pos (da_cons (dp_var (pv 0)) da_nil))) da_nil)))).weak) (fun _ z => ps_set hN rfl (by first | exact .inl rfl | exact .inr rfl) z)) (dss_cons (ds_asg (tg_name 2) (DF.dp (df_lst (da_cons (dp_errK (ev_InvalidTowns h) (hr.mono (by decide)) tk (dg_kw0 (dk_cons (dp_var (pv 0)) dk_nil))) (da_cons (dp_errK (ev_InvalidTies h) (hr.mono (by decide)) tk (dg_kw0 (dk_cons (dp_var (pv 0)) dk_nil))) (da_cons (dp_errK (ev_InvalidLot h) (hr.mono (by decide)) tk (dg_kw0 (dk_cons (dp_var (pv 0)) dk_nil))) (da_cons (dp_errK (ev_InvalidRows h) (hr.mono (by decide)) tk (dg_kw0 (dk_cons (dp_var (pv 0)) dk_nil))) da_nil)))))) (fun _ z => ps_set hN rfl (by first | exact .inl rfl | exact .inr rfl) z)) (dss_one (ds_ret (DF.dp (df_lst (da_cons (dp_var (pv 1)) (da_cons (w_add (dp_var (pv 2)).weak (DF.dp (df_lst (da_cons (dp_errK (ev_InvalidRead h) (hr.mono (by decide)) tk (dg_kw0 (dk_cons (dp_var (pv 0)) dk_nil))) (da_cons (dp_errK (ev_InvalidOffers h) (hr.mono (by decide)) tk (dg_kw0 (dk_cons (dp_var (pv 0)) dk_nil))) (da_cons (dp_errK (ev_InvalidDoubts h) (hr.mono (by decide)) tk (dg_kw0 (dk_cons (dp_var (pv 0)) dk_nil))) da_nil))))).weak) da_nil)))))))))
theorem fo__law_index_errors {P : Program} {w : World} {K : Fg} {mg : Str → Option Value} {base : Heap} (h : Fy K mg base) : ∃ fd, FnOk P w K mg base (L2N.CX P w) 3 (Ad.at K (.glo "_law_index_errors")) fd ["_law_odd"] (spD K 1 (F__law_index_errors K)) ∧ FunD K "_law_index_errors" "_law_index_errors" (defArgs s__law_index_errors) (defBody s__law_index_errors) (defScope s__law_index_errors) (([] : List Dv).map (Dv.v K)) [] (Ad.at K (.glo "_law_index_errors")) fd :=
  let ⟨fd, F⟩ := h.d__law_index_errors
  ⟨fd, fp__law_index_errors h F, F⟩
theorem ok__law_index_errors {P : Program} {w : World} {K : Fg} {mg : Str → Option Value} {base : Heap} (h : Fy K mg base) : FnD P w K mg base 3 "_law_index_errors" ["_law_odd"] (F__law_index_errors K) :=
  let ⟨fd, a, F⟩ := fo__law_index_errors h
  ⟨_, fd, a, h.g__law_index_errors, F.kp, F.bindsN fun _ _ _ _ _ _ us hl => match us, hl with | [_], _ => rfl⟩
theorem fp__law_right {P : Program} {w : World} {K : Fg} {mg : Str → Option Value} {base : Heap} {fd : FuncData} (h : Fy K mg base) (F : FunD K "_law_right" "_law_right" (defArgs s__law_right) (defBody s__law_right) (defScope s__law_right) (([] : List Dv).map (Dv.v K)) [] (Ad.at K (.glo "_law_right")) fd) : FnOg P w K mg base 4 (Ad.at K (.glo "_law_right")) fd ["_law_phial"] (spD K 1 (F__law_right__v41 K)) := by
  refine FnG.fnokC (k := 3) F sc__law_right fun cdv A outer s H E hcd hgd hr => ?_
  have hN := sc__law_right.nd
  have tk := L2N.takes_of (X := cxOf (L2N.CX P w) P w K mg base N__law_right "_law_right" (defScope s__law_right) (Ad.at K (.glo "_law_right")) cdv A outer s H E) rfl rfl rfl rfl
  exact (dss_cons (ds_asgE (tg_name 1) (de_callO (FnD.cal ((ok__law_from h).mono (by decide)) hr (by rfl) tk) (pv 0) (db_cons (DP.de (DF.dp (df_lst (da_cons dp_non (da_cons dp_int (da_cons dp_bl (da_cons dp_str (da_cons (dp_tup (da_cons dp_int (da_cons dp_str da_nil))) (da_cons (DF.dp (df_lst (da_cons dp_int da_nil))) (da_cons (DG.dk dg_dict0) (da_cons (w_pow dp_int.weak dp_int.weak) (da_cons (dp_tup da_nil) (da_cons (w_neg dp_int.weak) da_nil))))))))))))) db_nil) (len_bCons len_bNil)) (fun _ z => ps_set hN rfl (by first | exact .inl rfl | exact .inr rfl) z)) (dss_cons (ds_for (passes_of rfl) rfl (di_seq (dp_call (FnD.cal ((ok__law_given_errors h).mono (by decide)) hr (by rfl) tk) (da_cons (dp_var (pv 1)) da_nil) (len_aCons len_aNil))) (pg_name hN rfl (by first | exact .inl rfl | exact .inr rfl)) (tg_name 2) (dss_cons (ds_if (t_ne hr (w_reprY hgd hr h.n_repr (DF.dp (df_lc (own := [("_law_e", 3)]) rfl hN (di_seq (dp_var (pv 2))) (blk_ok rfl (by kernel_rfl) (by kernel_rfl) (by kernel_rfl) (by kernel_rfl)) (fun _ _ _ _ _ => (pg_name hN rfl (by first | exact .inl rfl | exact .inr rfl))) (tg_name 3) (by decide) (fun _ _ _ _ _ => dts_nil) (fun _ _ _ _ _ => (dp_fldX (dp_var (pv 3))))))) (w_reprY hgd hr h.n_repr (w_mul (DF.dp (df_lst (da_cons (dp_var (pv 1)) da_nil))).weak dp_int.weak))) (dss_one (ds_ret dp_bl)) dss_nil) (dss_one (ds_if (t_ne hr (DF.dp (df_lc (own := [("_law_e", 3)]) rfl hN (di_seq (dp_var (pv 2))) (blk_ok rfl (by kernel_rfl) (by kernel_rfl) (by kernel_rfl) (by kernel_rfl)) (fun _ _ _ _ _ => (pg_name hN rfl (by first | exact .inl rfl | exact .inr rfl))) (tg_name 3) (by decide) (fun _ _ _ _ _ => dts_nil) (fun _ _ _ _ _ => (dp_call (FnD.cal ((ok__law_sort h).mono (by decide)) hr (by rfl) none_x) (da_cons (dp_var (pv 3)) da_nil) (len_aCons len_aNil))))) (DF.dp (df_lc (own := [("_law_k", 4)]) rfl hN (w_range1 h.n_range dp_int) (blk_ok rfl (by kernel_rfl) (by kernel_rfl) (by kernel_rfl) (by kernel_rfl)) (fun _ _ _ _ _ => (pg_name hN rfl (by first | exact .inl rfl | exact .inr rfl))) (tg_name 4) (by decide) (fun _ _ _ _ _ => dts_nil) (fun _ _ _ _ _ => (DF.dp (df_lst (da_cons (dp_var (pv 4)) (da_cons dp_int (da_cons dp_int da_nil))))))))) (dss_one (ds_ret dp_bl)) dss_nil)))) (dss_cons (ds_for (passes_of rfl) rfl (di_seq (dp_call (FnD.cal ((ok__law_index_errors h).mono (by decide)) hr (by rfl) tk) (da_cons (dp_var (pv 1)) da_nil) (len_aCons len_aNil))) (pg_name hN rfl (by first | exact .inl rfl | exact .inr rfl)) (tg_name 2) (dss_cons (ds_if (t_ne hr (w_reprY hgd hr h.n_repr (DF.dp (df_lc (own := [("_law_e", 3)]) rfl hN (di_seq (dp_var (pv 2))) (blk_ok rfl (by kernel_rfl) (by kernel_rfl) (by kernel_rfl) (by kernel_rfl)) (fun _ _ _ _ _ => (pg_name hN rfl (by first | exact .inl rfl | exact .inr rfl))) (tg_name 3) (by decide) (fun _ _ _ _ _ => dts_nil) (fun _ _ _ _ _ => (dp_fldX (dp_var (pv 3))))))) (w_reprY hgd hr h.n_repr (w_mul (DF.dp (df_lst (da_cons (dp_var (pv 1)) da_nil))).weak dp_int.weak))) (dss_one (ds_ret dp_bl)) dss_nil) (dss_one (ds_if (t_ne hr (DF.dp (df_lc (own := [("_law_e", 3)]) rfl hN (di_seq (dp_var (pv 2))) (blk_ok rfl (by kernel_rfl) (by kernel_rfl) (by kernel_rfl) (by kernel_rfl)) (fun _ _ _ _ _ => (pg_name hN rfl (by first | exact .inl rfl | exact .inr rfl))) (tg_name 3) (by decide) (fun _ _ _ _ _ => dts_nil) (fun _ _ _ _ _ => (dp_call (FnD.cal ((ok__law_sort h).mono (by decide)) hr (by rfl) none_x) (da_cons (dp_var (pv 3)) da_nil) (len_aCons len_aNil))))) (DF.dp (df_lc (own := [("_law_k", 4)]) rfl hN (w_range1 h.n_range dp_int) (blk_ok rfl (by kernel_rfl) (by kernel_rfl) (by kernel_rfl) (by kernel_rfl)) (fun _ _ _ _ _ => (pg_name hN rfl (by first | exact .inl rfl | exact .inr rfl))) (tg_name 4) (by decide) (fun _ _ _ _ _ => dts_nil) (fun _ _ _ _ _ => (DF.dp (df_lst (da_cons (w_add dp_int.weak (dp_var (pv 4)).weak) (da_cons dp_int (da_cons dp_int da_nil))))))))) (dss_one (ds_ret dp_bl)) dss_nil)))) (dss_cons (ds_for (passes_of rfl) rfl (di_seq (DF.dp (df_lst (da_cons (dp_errP (ev_UnknownName h) (hr.mono (by decide)) tk (dg_pos (da_cons (dp_var (pv 1)) da_nil))) (da_cons (dp_errK (ev_UnknownName h) (hr.mono (by decide)) tk (dg_kw0 (dk_cons (dp_var (pv 1)) dk_nil))) da_nil))))) (pg_name hN rfl (by first | exact .inl rfl | exact .inr rfl)) (tg_name 3) (dss_one (ds_if (DW.dt (dw_or (t_ne hr (w_reprY hgd hr h.n_repr (dp_fldX (dp_var (pv 3)))) (w_reprY hgd hr h.n_repr (dp_var (pv 1)))) (dw_or1 (t_ne hr (dp_call (FnD.cal ((ok__law_sort h).mono (by decide)) hr (by rfl) tk) (da_cons (dp_var (pv 3)) da_nil) (len_aCons len_aNil)) (DF.dp (df_lst (da_cons dp_int (da_cons dp_int (da_cons dp_int da_nil))))))))) (dss_one (ds_ret dp_bl)) dss_nil))) (dss_cons (ds_for (passes_of rfl) rfl (di_seq (DF.dp (df_lst (da_cons (DF.dp (df_lst (da_cons (dp_errP (ev_Apart h) (hr.mono (by decide)) tk (dg_pos (da_cons (dp_var (pv 1)) da_nil))) (da_cons (dp_errP (ev_TooMany h) (hr.mono (by decide)) tk (dg_pos (da_cons (dp_var (pv 1)) da_nil))) da_nil)))) (da_cons (DF.dp (df_lst (da_cons (dp_errK (ev_Apart h) (hr.mono (by decide)) tk (dg_kw0 (dk_cons (dp_var (pv 1)) dk_nil))) (da_cons (dp_errK (ev_TooMany h) (hr.mono (by decide)) tk (dg_kw0 (dk_cons (dp_var (pv 1)) dk_nil))) da_nil)))) da_nil))))) (pg_name hN rfl (by first | exact .inl rfl | exact .inr rfl)) (tg_name 2) (dss_cons (ds_if (t_ne hr (w_reprY hgd hr h.n_repr (DF.dp (df_lc (own := [("_law_e", 3)]) rfl hN (di_seq (dp_var (pv 2))) (blk_ok rfl (by kernel_rfl) (by kernel_rfl) (by kernel_rfl) (by kernel_rfl)) (fun _ _ _ _ _ => (pg_name hN rfl (by first | exact .inl rfl | exact .inr rfl))) (tg_name 3) (by decide) (fun _ _ _ _ _ => dts_nil) (fun _ _ _ _ _ => (dp_fldX (dp_var (pv 3))))))) (w_reprY hgd hr h.n_repr (w_mul (DF.dp (df_lst (da_cons (dp_var (pv 1)) da_nil))).weak dp_int.weak))) (dss_one (ds_ret dp_bl)) dss_nil) (dss_one (ds_if (t_ne hr (DF.dp (df_lc (own := [("_law_e", 3)]) rfl hN (di_seq (dp_var (pv 2))) (blk_ok rfl (by kernel_rfl) (by kernel_rfl) (by kernel_rfl) (by kernel_rfl)) (fun _ _ _ _ _ => (pg_name hN rfl (by first | exact .inl rfl | exact .inr rfl))) (tg_name 3) (by decide) (fun _ _ _ _ _ => dts_nil) (fun _ _ _ _ _ => (dp_call (FnD.cal ((ok__law_sort h).mono (by decide)) hr (by rfl) none_x) (da_cons (dp_var (pv 3)) da_nil) (len_aCons len_aNil))))) (DF.dp (df_lst (da_cons (DF.dp (df_lst (da_cons dp_int (da_cons dp_int (da_cons dp_int da_nil))))) (da_cons (DF.dp (df_lst (da_cons dp_int (da_cons dp_int (da_cons dp_int da_nil))))) da_nil))))) (dss_one (ds_ret dp_bl)) dss_nil)))) (dss_cons (ds_for (passes_of rfl) rfl (di_seq (DF.dp (df_lst (da_cons (dp_errP (ev_Broken h) (hr.mono (by decide)) tk (dg_pos (da_cons (dp_var (pv 1)) da_nil))) (da_cons (dp_errK (ev_Broken h) (hr.mono (by decide)) tk (dg_kw0 (dk_cons (dp_var (pv 1)) dk_nil))) da_nil))))) (pg_name hN rfl (by first | exact .inl rfl | exact .inr rfl)) (tg_name 3) (dss_one (ds_if (DW.dt (dw_or (t_ne hr (w_reprY hgd hr h.n_repr (dp_fldX (dp_var (pv 3)))) (w_reprY hgd hr h.n_repr (dp_var (pv 1)))) (dw_or1 (t_ne hr (dp_call (FnD.cal ((ok__law_sort h).mono (by decide)) hr (by rfl) tk) (da_cons (dp_var (pv 3)) da_nil) (len_aCons len_aNil)) (DF.dp (df_lst (da_cons dp_int (da_cons dp_int (da_cons dp_int da_nil))))))))) (dss_one (ds_ret dp_bl)) dss_nil))) (dss_one (ds_ret (w_eq hr (DF.dp (df_lst (da_cons (dp_call (FnD.cal ((ok__law_sort h).mono (by decide)) hr (by rfl) tk) (da_cons (dp_err0A h.e0_NoBits.q h.g_NoBits h.e0_NoBits.k) da_nil) (len_aCons len_aNil)) (da_cons (dp_call (FnD.cal ((ok__law_sort h).mono (by decide)) hr (by rfl) tk) (da_cons (dp_err0A h.e0_NothingToUndo.q h.g_NothingToUndo h.e0_NothingToUndo.k) da_nil) (len_aCons len_aNil)) da_nil)))) (DF.dp (df_lst (da_cons (DF.dp (df_lst (da_cons dp_int (da_cons dp_int (da_cons dp_int da_nil))))) (da_cons (DF.dp (df_lst (da_cons dp_int (da_cons dp_int (da_cons dp_int da_nil))))) da_nil)))))))))))))
theorem fo__law_right {P : Program} {w : World} {K : Fg} {mg : Str → Option Value} {base : Heap} (h : Fy K mg base) : ∃ fd, FnOg P w K mg base 4 (Ad.at K (.glo "_law_right")) fd ["_law_phial"] (spD K 1 (F__law_right__v41 K)) ∧ FunD K "_law_right" "_law_right" (defArgs s__law_right) (defBody s__law_right) (defScope s__law_right) (([] : List Dv).map (Dv.v K)) [] (Ad.at K (.glo "_law_right")) fd :=
  let ⟨fd, F⟩ := h.d__law_right
  ⟨fd, fp__law_right h F, F⟩
theorem ok__law_right {P : Program} {w : World} {K : Fg} {mg : Str → Option Value} {base : Heap} (h : Fy K mg base) : FnG P w K mg base 4 "_law_right" ["_law_phial"] (F__law_right__v41 K) :=
  let ⟨fd, a, F⟩ := fo__law_right h
  ⟨_, fd, a, h.g__law_right, F.kp, F.bindsN fun _ _ _ _ _ _ us hl => match us, hl with | [_], _ => rfl⟩
theorem fp__law_phial_of {P : Program} {w : World} {K : Fg} {mg : Str → Option Value} {base : Heap} {fd : FuncData} (h : Fy K mg base) (F : FunD K "_law_phial_of" "_law_phial_of" (defArgs s__law_phial_of) (defBody s__law_phial_of) (defScope s__law_phial_of) (([] : List Dv).map (Dv.v K)) [] (Ad.at K (.glo "_law_phial_of")) fd) : FnOk P w K mg base (L2N.CX P w) 1 (Ad.at K (.glo "_law_phial_of")) fd ["_law_script", "_law_turn"] (spD K 2 (F__law_phial_of)) := by
  refine FnD.fnok (k := 0) F sc__law_phial_of (by decide) fun cdv A outer s H E hr => ?_
  have hN := sc__law_phial_of.nd
  have tk := L2N.takes_of (X := cxOf (L2N.CX P w) P w K mg base N__law_phial_of "_law_phial_of" (defScope s__law_phial_of) (Ad.at K (.glo "_law_phial_of")) cdv A outer s H E) rfl rfl rfl rfl
  exact (dss_cons (ds_par2 (dv_val (DP.de (dp_if (t_lt (dp_var (pv 1)).weak (w_len h.n_len (dp_var (pv 0))).weak) (w_ix (dp_var (pv 0)).weak (dp_var (pv 1)).weak) dp_int)) (dv_val (DP.de (w_add dp_int.weak (w_mul dp_int.weak (dp_var (pv 1)).weak).weak)) dv_nil)) fun _ z => ps_par rfl hN rfl rfl (by decide) rfl rfl z (by rfl)) (dss_cons (ds_for (passes_of rfl) rfl (w_enum h.n_enumerate (dp_slice (dp_var (pv 0)).weak do_none (do_some dp_int))) (pg_tup rfl (pgs_cons (pg_name hN rfl (by first | exact .inl rfl | exact .inr rfl)) (pgs_cons (pg_name hN rfl (by first | exact .inl rfl | exact .inr rfl)) pgs_nil))) (tg_tup (tgs_cons (tg_name 4) (tgs_cons (tg_name 5) tgs_nil)) (len_cons (len_cons len_nil))) (dss_one (ds_asg (tg_name 3) (w_mod (w_int h.n_int (w_add (w_mul (dp_var (pv 3)).weak (w_add dp_int.weak (w_mul dp_int.weak (dp_var (pv 4)).weak).weak).weak).weak (w_mul dp_int.weak (dp_var (pv 5)).weak).weak).weak).weak dp_int.weak) (fun _ z => ps_set hN rfl (by first | exact .inl rfl | exact .inr rfl) z)))) (dss_one (ds_retF (df_lst (da_cons (dp_if (DW.dt (dw_or (t_lt (dp_var (pv 2)).weak dp_int.weak) (dw_or1 (t_ge (dp_var (pv 2)).weak (w_pow dp_int.weak dp_int.weak).weak)))) (w_abs h.n_abs (dp_var (pv 2)).weak) dp_int) (da_cons (w_mod (w_int h.n_int (w_add (dp_var (pv 3)).weak (w_mul dp_int.weak (dp_var (pv 2)).weak).weak).weak).weak dp_int.weak) (da_cons dp_int da_nil))))))))
theorem fo__law_phial_of {P : Program} {w : World} {K : Fg} {mg : Str → Option Value} {base : Heap} (h : Fy K mg base) : ∃ fd, FnOk P w K mg base (L2N.CX P w) 1 (Ad.at K (.glo "_law_phial_of")) fd ["_law_script", "_law_turn"] (spD K 2 (F__law_phial_of)) ∧ FunD K "_law_phial_of" "_law_phial_of" (defArgs s__law_phial_of) (defBody s__law_phial_of) (defScope s__law_phial_of) (([] : List Dv).map (Dv.v K)) [] (Ad.at K (.glo "_law_phial_of")) fd :=
  let ⟨fd, F⟩ := h.d__law_phial_of
  ⟨fd, fp__law_phial_of h F, F⟩
theorem ok__law_phial_of {P : Program} {w : World} {K : Fg} {mg : Str → Option Value} {base : Heap} (h : Fy K mg base) : FnD P w K mg base 1 "_law_phial_of" ["_law_script", "_law_turn"] (F__law_phial_of) :=
  let ⟨fd, a, F⟩ := fo__law_phial_of h
  ⟨_, fd, a, h.g__law_phial_of, F.kp, F.bindsN fun _ _ _ _ _ _ us hl => match us, hl with | [_, _], _ => rfl⟩
theorem fp_law {P : Program} {w : World} {K : Fg} {mg : Str → Option Value} {base : Heap} {fd : FuncData} (h : Fy K mg base) (F : FunD K "law" "law" (defArgs s_law) (defBody s_law) (defScope s_law) (([] : List Dv).map (Dv.v K)) [] (Ad.at K (.glo "law")) fd) : FnOg P w K mg base 5 (Ad.at K (.glo "law")) fd ["_law_script"] (spD K 1 (F_law__v41 K)) := by
  refine FnG.fnokC (k := 4) F sc_law fun cdv A outer s H E hcd hgd hr => ?_
  have hN := sc_law.nd
  have tk := L2N.takes_of (X := cxOf (L2N.CX P w) P w K mg base N_law "law" (defScope s_law) (Ad.at K (.glo "law")) cdv A outer s H E) rfl rfl rfl rfl
  exact (dss_cons (ds_asg (tg_name 1) (DF.dp (df_lst (da_cons (w_gint h.k_MOST_TOWNS) (da_cons (w_gint h.k_MOST_TIES) (da_cons (w_gint h.k_MOST_OFFERS) (da_cons (w_gint h.k_MOST_DOUBTS) (da_cons (w_gint h.k_MOST_BITS) da_nil))))))) (fun _ z => ps_set hN rfl (by first | exact .inl rfl | exact .inr rfl) z)) (dss_cons (ds_if (t_ne hr (w_repr hgd hr h.n_repr (dp_var (pv 1))) (w_repr hgd hr h.n_repr (DF.dp (df_lst (da_cons dp_int (da_cons dp_int (da_cons dp_int (da_cons dp_int (da_cons dp_int da_nil))))))))) (dss_one (ds_ret dp_bl)) dss_nil) (dss_one (ds_ret (w_all rfl h.n_all (DF.dp (df_lc (own := [("_law_turn", 2)]) rfl hN (w_range1 h.n_range (w_max2 rfl h.n_max dp_int.weak (w_min2 rfl h.n_min (w_len h.n_len (dp_var (pv 0))).weak dp_int.weak).weak)) (blk_ok rfl (by kernel_rfl) (by kernel_rfl) (by kernel_rfl) (by kernel_rfl)) (fun _ _ _ _ _ => (pg_name hN rfl (by first | exact .inl rfl | exact .inr rfl))) (tg_name 2) (by decide) (fun _ _ _ _ _ => dts_nil) (fun _ _ _ _ _ => (dp_callF (FnG.cal ((ok__law_right h).mono (by decide)) hgd hr (by rfl) none_x) (DF.dg (df_call (FnD.cal ((ok__law_phial_of h).mono (by decide)) hr (by rfl) none_x) (da_cons (dp_var (pv 0)) (da_cons (dp_var (pv 2)) da_nil)) (len_aCons (len_aCons len_aNil)))))))).weak)))))
theorem fx_of {K : Fg} {h : Heap} {mg : Str → Option Value} (X : K.In h) (G : h.Ns mainGlobals mg) (c : SaysY fa fb fn K) : Fx K mg := by
  constructor
  · exact glo_ok X G (c.fact 0)
  · exact glo_ok X G (c.fact 1)
  · exact glo_ok X G (c.fact 2)
  · exact glo_ok X G (c.fact 3)
  · exact glo_ok X G (c.fact 4)
  · exact glo_ok X G (c.fact 5)
  · exact glo_ok X G (c.fact 6)
  · exact glo_ok X G (c.fact 7)
  · exact int_ok X G (c.fact 8)
  · exact int_ok X G (c.fact 9)
  · exact int_ok X G (c.fact 10)
  · exact int_ok X G (c.fact 11)
  · exact int_ok X G (c.fact 12)
  · exact free_ok X G (c.fact 13)
  · exact free_ok X G (c.fact 14)
  · exact free_ok X G (c.fact 15)
  · exact free_ok X G (c.fact 16)
  · exact free_ok X G (c.fact 17)
  · exact free_ok X G (c.fact 18)
  · exact free_ok X G (c.fact 19)
  · exact free_ok X G (c.fact 20)
  · exact free_ok X G (c.fact 21)
  · exact free_ok X G (c.fact 22)
  · exact free_ok X G (c.fact 23)
  · exact free_ok X G (c.fact 24)
  · exact free_ok X G (c.fact 25)
  · exact free_ok X G (c.fact 26)
  · exact glo_ok X G (c.fact 27)
  · exact errT_ok (c.more 0)
  · exact glo_ok X G (c.fact 28)
  · exact errT_ok (c.more 1)
  · exact glo_ok X G (c.fact 29)
  · exact err_ok (c.more 2)
  · exact glo_ok X G (c.fact 30)
  · exact err_ok (c.more 3)
  · exact glo_ok X G (c.fact 31)
  · exact err_ok (c.more 4)
  · exact glo_ok X G (c.fact 32)
  · exact err_ok (c.more 5)
  · exact glo_ok X G (c.fact 33)
  · exact err_ok (c.more 6)
  · exact glo_ok X G (c.fact 34)
  · exact err_ok (c.more 7)
  · exact glo_ok X G (c.fact 35)
  · exact err_ok (c.more 8)
  · exact glo_ok X G (c.fact 36)
  · exact err_ok (c.more 9)
  · exact glo_ok X G (c.fact 37)
  · exact err_ok (c.more 10)
  · exact glo_ok X G (c.fact 38)
  · exact err_ok (c.more 11)
  · exact glo_ok X G (c.fact 39)
  · exact err_ok (c.more 12)
  · exact glo_ok X G (c.fact 40)
  · exact err_ok (c.more 13)
  · exact glo_ok X G (c.fact 41)
  · exact err_ok (c.more 14)
  · exact glo_ok X G (c.fact 42)
  · exact err_ok (c.more 15)
  · exact glo_ok X G (c.fact 43)
  · exact errT_ok (c.more 16)
  · exact glo_ok X G (c.fact 44)
  · exact errT_ok (c.more 17)
  · exact glo_ok X G (c.fact 45)
  · exact exc0_ok (c.more 18)
  · exact glo_ok X G (c.fact 46)
  · exact exc0_ok (c.more 19)
  · exact glo_ok X G (c.fact 47)
  · exact glo_ok X G (c.fact 48)
  · exact glo_ok X G (c.fact 49)
  · exact xf_ok (c.more 20)
  · exact xf_ok (c.more 21)
  · exact xf_ok (c.more 22)
  · exact xf_ok (c.more 23)
  · exact xf_ok (c.more 24)
  · exact xf_ok (c.more 25)
  · exact xf_ok (c.more 26)
  · exact xf_ok (c.more 27)
  · exact xf_ok (c.more 28)
  · exact xf_ok (c.more 29)
  · exact xf_ok (c.more 30)
  · exact xf_ok (c.more 31)
  · exact xf_ok (c.more 32)
  · exact xf_ok (c.more 33)
  · exact xf_ok (c.more 34)
  · exact xf_ok (c.more 35)
  · exact xf_ok (c.more 36)
  · exact xf_ok (c.more 37)
  · exact exc_ok (c.more 38)
  · exact exc_ok (c.more 39)
  · exact exc_ok (c.more 40)
  · exact exc_ok (c.more 41)
  · exact exc_ok (c.more 42)
  · exact exc_ok (c.more 43)
  · exact exc_ok (c.more 44)
  · exact exc_ok (c.more 45)
  · exact exc_ok (c.more 46)
  · exact exc_ok (c.more 47)
  · exact exc_ok (c.more 48)
  · exact exc_ok (c.more 49)
  · exact exc_ok (c.more 50)
  · exact kitc_ok (c.more 51)
  · exact kitc_ok (c.more 52)
  · exact kitc_ok (c.more 53)
  · exact kitc_ok (c.more 54)
  · exact kitc_ok (c.more 55)
  · exact kitc_ok (c.more 56)
  · exact kitc_ok (c.more 57)
  · exact kitc_ok (c.more 58)
  · exact kitc_ok (c.more 59)
  · exact kitc_ok (c.more 60)
  · exact kitc_ok (c.more 61)
  · exact kitc_ok (c.more 62)
  · exact kitc_ok (c.more 63)
  · exact kitc_ok (c.more 64)
  · exact kitc_ok (c.more 65)
  · exact kitc_ok (c.more 66)
  · exact kitc_ok (c.more 67)
  · exact kitc_ok (c.more 68)
  · exact kitc_ok (c.more 69)
  · exact kitc_ok (c.more 70)
  · exact kitc_ok (c.more 71)
  · exact kitc_ok (c.more 72)
  · exact kitc_ok (c.more 73)
  · exact kitc_ok (c.more 74)
  · exact kitc_ok (c.more 75)
  · exact kitc_ok (c.more 76)
  · exact kitc_ok (c.more 77)
  · exact kitc_ok (c.more 78)
  · exact kitc_ok (c.more 79)
  · exact kitc_ok (c.more 80)
  · exact kitc_ok (c.more 81)
  · exact kitc_ok (c.more 82)
  · exact kitc_ok (c.more 83)
  · exact kitc_ok (c.more 84)
  · exact kitc_ok (c.more 85)
  · exact kitc_ok (c.more 86)
  · exact kitc_ok (c.more 87)
  · exact kitc_ok (c.more 88)
  · exact kitc_ok (c.more 89)
  · exact kitc_ok (c.more 90)
  · exact kitc_ok (c.more 91)
  · exact kitc_ok (c.more 92)
  · exact kitc_ok (c.more 93)
  · exact kitc_ok (c.more 94)
  · exact kitc_ok (c.more 95)
  · exact kitc_ok (c.more 96)
  · exact kitc_ok (c.more 97)
  · exact kitc_ok (c.more 98)
  · exact kitc_ok (c.more 99)
  · exact kitc_ok (c.more 100)
  · exact kitc_ok (c.more 101)
  · exact kitc_ok (c.more 102)
  · exact kitc_ok (c.more 103)
  · exact kitc_ok (c.more 104)
  · exact kitc_ok (c.more 105)
  · exact kitc_ok (c.more 106)
  · exact kitc_ok (c.more 107)
  · exact kitc_ok (c.more 108)
  · exact kitc_ok (c.more 109)
  · exact kitc_ok (c.more 110)
  · exact kitc_ok (c.more 111)
  · exact kitc_ok (c.more 112)
  · exact kitc_ok (c.more 113)
  · exact kitc_ok (c.more 114)
  · exact kitc_ok (c.more 115)
  · exact kitc_ok (c.more 116)
  · exact kitc_ok (c.more 117)
  · exact kitc_ok (c.more 118)
  · exact kitc_ok (c.more 119)
  · exact kitc_ok (c.more 120)
  · exact kitc_ok (c.more 121)
  · exact kitc_ok (c.more 122)
  · exact kitc_ok (c.more 123)
  · exact kitc_ok (c.more 124)
  · exact kitc_ok (c.more 125)
  · exact kitc_ok (c.more 126)
  · exact kitc_ok (c.more 127)
  · exact kitc_ok (c.more 128)
  · exact kitc_ok (c.more 129)
  · exact kitc_ok (c.more 130)
  · exact kitc_ok (c.more 131)
  · exact kitc_ok (c.more 132)
  · exact kitc_ok (c.more 133)
  · exact kitc_ok (c.more 134)
  · exact kitc_ok (c.more 135)
  · exact kitc_ok (c.more 136)
  · exact kitc_ok (c.more 137)
  · exact kitc_ok (c.more 138)
  · exact kitc_ok (c.more 139)
  · exact kitc_ok (c.more 140)
  · exact kitc_ok (c.more 141)
  · exact kitc_ok (c.more 142)
  · exact kitc_ok (c.more 143)
  · exact kitc_ok (c.more 144)
  · exact kitc_ok (c.more 145)
  · exact kitc_ok (c.more 146)
  · exact kitc_ok (c.more 147)
  · exact kitc_ok (c.more 148)
  · exact kitc_ok (c.more 149)
  · exact kitc_ok (c.more 150)
  · exact kitc_ok (c.more 151)
  · exact kitc_ok (c.more 152)
  · exact kitc_ok (c.more 153)
  · exact kitc_ok (c.more 154)
  · exact kitc_ok (c.more 155)
  · exact kitc_ok (c.more 156)
  · exact kitc_ok (c.more 157)
  · exact kitc_ok (c.more 158)
  · exact kitc_ok (c.more 159)
  · exact kitc_ok (c.more 160)
  · exact kitc_ok (c.more 161)
  · exact kitc_ok (c.more 162)
  · exact kitc_ok (c.more 163)
  · exact kitc_ok (c.more 164)
  · exact kitc_ok (c.more 165)
  · exact kitc_ok (c.more 166)
  · exact kitc_ok (c.more 167)
  · exact kitc_ok (c.more 168)
  · exact kitc_ok (c.more 169)
  · exact kitc_ok (c.more 170)
  · exact kitc_ok (c.more 171)
  · exact kitc_ok (c.more 172)
  · exact kitc_ok (c.more 173)
  · exact kitc_ok (c.more 174)
  · exact kitc_ok (c.more 175)
  · exact kitc_ok (c.more 176)
  · exact kitc_ok (c.more 177)
  · exact kitc_ok (c.more 178)
  · exact kitc_ok (c.more 179)
  · exact kitc_ok (c.more 180)
  · exact kitc_ok (c.more 181)
  · exact kitc_ok (c.more 182)
  · exact kitc_ok (c.more 183)
  · exact kitc_ok (c.more 184)
  · exact kitc_ok (c.more 185)
  · exact kitc_ok (c.more 186)
  · exact kitc_ok (c.more 187)
  · exact kitc_ok (c.more 188)
  · exact kitc_ok (c.more 189)
  · exact kitc_ok (c.more 190)
  · exact kitc_ok (c.more 191)
  · exact kitc_ok (c.more 192)
  · exact kitc_ok (c.more 193)
  · exact kitc_ok (c.more 194)
  · exact kitc_ok (c.more 195)
  · exact kitc_ok (c.more 196)
  · exact kitc_ok (c.more 197)
  · exact kitc_ok (c.more 198)
  · exact kitc_ok (c.more 199)
  · exact kitc_ok (c.more 200)
  · exact kitc_ok (c.more 201)
  · exact kitc_ok (c.more 202)
  · exact kitc_ok (c.more 203)
  · exact kitc_ok (c.more 204)
  · exact kitc_ok (c.more 205)
  · exact kitc_ok (c.more 206)
  · exact kitc_ok (c.more 207)
  · exact kitc_ok (c.more 208)
  · exact kitc_ok (c.more 209)
  · exact kitc_ok (c.more 210)
  · exact kitc_ok (c.more 211)
  · exact kitc_ok (c.more 212)
  · exact kitc_ok (c.more 213)
  · exact kitc_ok (c.more 214)
  · exact kitc_ok (c.more 215)
  · exact kitc_ok (c.more 216)
  · exact kitc_ok (c.more 217)
  · exact kitc_ok (c.more 218)
  · exact kitc_ok (c.more 219)
  · exact kitc_ok (c.more 220)
  · exact kitc_ok (c.more 221)
  · exact kitc_ok (c.more 222)
  · exact kitc_ok (c.more 223)
  · exact kitc_ok (c.more 224)
  · exact kitc_ok (c.more 225)
  · exact kitc_ok (c.more 226)
  · exact kitc_ok (c.more 227)
  · exact kitc_ok (c.more 228)
  · exact kitc_ok (c.more 229)
  · exact kitc_ok (c.more 230)
  · exact kitc_ok (c.more 231)
  · exact kitc_ok (c.more 232)
  · exact kitc_ok (c.more 233)
  · exact kitc_ok (c.more 234)
  · exact kitc_ok (c.more 235)
  · exact kitc_ok (c.more 236)
  · exact kitc_ok (c.more 237)
  · exact kitc_ok (c.more 238)
  · exact kitc_ok (c.more 239)
  · exact kitc_ok (c.more 240)
  · exact kitc_ok (c.more 241)
  · exact kitc_ok (c.more 242)
  · exact kitc_ok (c.more 243)
  · exact kitc_ok (c.more 244)
  · exact kitc_ok (c.more 245)
  · exact kitc_ok (c.more 246)
  · exact kitc_ok (c.more 247)
  · exact kitc_ok (c.more 248)
  · exact kitc_ok (c.more 249)
  · exact kitc_ok (c.more 250)
  · exact kitc_ok (c.more 251)
  · exact kitc_ok (c.more 252)
  · exact kitc_ok (c.more 253)
  · exact kitc_ok (c.more 254)
  · exact kitc_ok (c.more 255)
  · exact kitc_ok (c.more 256)
  · exact kitc_ok (c.more 257)
  · exact kitc_ok (c.more 258)
  · exact kitc_ok (c.more 259)
  · exact kitc_ok (c.more 260)
  · exact kitc_ok (c.more 261)
  · exact kitc_ok (c.more 262)
  · exact kitc_ok (c.more 263)
  · exact kitc_ok (c.more 264)
  · exact kitc_ok (c.more 265)
  · exact kitc_ok (c.more 266)
  · exact kitc_ok (c.more 267)
  · exact kitc_ok (c.more 268)
  · exact kitc_ok (c.more 269)
  · exact kitc_ok (c.more 270)
  · exact kitc_ok (c.more 271)
  · exact kitc_ok (c.more 272)
  · exact kitc_ok (c.more 273)
  · exact kitc_ok (c.more 274)
  · exact kitc_ok (c.more 275)
  · exact kitc_ok (c.more 276)
  · exact kitc_ok (c.more 277)
  · exact kitc_ok (c.more 278)
  · exact kitc_ok (c.more 279)
  · exact kitc_ok (c.more 280)
  · exact kitc_ok (c.more 281)
  · exact kitc_ok (c.more 282)
  · exact kitc_ok (c.more 283)
  · exact kitc_ok (c.more 284)
  · exact kitc_ok (c.more 285)
  · exact kitc_ok (c.more 286)
  · exact kitc_ok (c.more 287)
  · exact kitc_ok (c.more 288)
  · exact kitc_ok (c.more 289)
  · exact kitc_ok (c.more 290)
  · exact kitc_ok (c.more 291)
  · exact kitc_ok (c.more 292)
  · exact kitc_ok (c.more 293)
  · exact kitc_ok (c.more 294)
  · exact kitc_ok (c.more 295)
  · exact kitc_ok (c.more 296)
  · exact kitc_ok (c.more 297)
  · exact kitc_ok (c.more 298)
  · exact kitc_ok (c.more 299)
  · exact kitc_ok (c.more 300)
  · exact kitc_ok (c.more 301)
  · exact kitc_ok (c.more 302)
  · exact kitc_ok (c.more 303)
  · exact kitc_ok (c.more 304)
  · exact kitc_ok (c.more 305)
  · exact kitc_ok (c.more 306)
  · exact kitc_ok (c.more 307)
  · exact kitc_ok (c.more 308)
  · exact kitc_ok (c.more 309)
  · exact kitc_ok (c.more 310)
  · exact kitc_ok (c.more 311)
  · exact kitc_ok (c.more 312)
  · exact kitc_ok (c.more 313)
  · exact kitc_ok (c.more 314)
  · exact kitc_ok (c.more 315)
  · exact kitc_ok (c.more 316)
  · exact kitc_ok (c.more 317)
  · exact kitc_ok (c.more 318)
  · exact kitc_ok (c.more 319)
  · exact kitc_ok (c.more 320)
  · exact kitc_ok (c.more 321)
  · exact kitc_ok (c.more 322)
  · exact kitc_ok (c.more 323)
  · exact kitc_ok (c.more 324)
  · exact kitc_ok (c.more 325)
  · exact kitc_ok (c.more 326)
  · exact kitc_ok (c.more 327)
  · exact kitc_ok (c.more 328)
  · exact kitc_ok (c.more 329)
  · exact kitc_ok (c.more 330)
  · exact kitc_ok (c.more 331)
  · exact kitc_ok (c.more 332)
  · exact kitc_ok (c.more 333)
  · exact kitc_ok (c.more 334)
  · exact kitc_ok (c.more 335)
  · exact kitc_ok (c.more 336)
  · exact kitc_ok (c.more 337)
  · exact kitc_ok (c.more 338)
  · exact kitc_ok (c.more 339)
  · exact kitc_ok (c.more 340)
  · exact kitc_ok (c.more 341)
  · exact kitc_ok (c.more 342)
  · exact kitc_ok (c.more 343)
  · exact kitc_ok (c.more 344)
  · exact kitc_ok (c.more 345)
  · exact kitc_ok (c.more 346)
  · exact kitc_ok (c.more 347)
  · exact kitc_ok (c.more 348)
  · exact kitc_ok (c.more 349)
  · exact kitc_ok (c.more 350)
  · exact kitc_ok (c.more 351)
  · exact kitc_ok (c.more 352)
  · exact kitc_ok (c.more 353)
  · exact kitc_ok (c.more 354)
  · exact kitc_ok (c.more 355)
  · exact kitc_ok (c.more 356)
  · exact kitc_ok (c.more 357)
  · exact kitc_ok (c.more 358)
  · exact kitc_ok (c.more 359)
  · exact kitc_ok (c.more 360)
  · exact kitc_ok (c.more 361)
  · exact kitc_ok (c.more 362)
  · exact kitc_ok (c.more 363)
  · exact kitc_ok (c.more 364)
  · exact kitc_ok (c.more 365)
  · exact kitc_ok (c.more 366)
  · exact kitc_ok (c.more 367)
  · exact kitc_ok (c.more 368)
  · exact kitc_ok (c.more 369)
  · exact kitc_ok (c.more 370)
  · exact kitc_ok (c.more 371)
  · exact kitc_ok (c.more 372)
  · exact kitc_ok (c.more 373)
  · exact kitc_ok (c.more 374)
  · exact kitc_ok (c.more 375)
  · exact kitc_ok (c.more 376)
  · exact kitc_ok (c.more 377)
  · exact kitc_ok (c.more 378)
  · exact kitc_ok (c.more 379)
  · exact kitc_ok (c.more 380)
  · exact kitc_ok (c.more 381)
  · exact kitc_ok (c.more 382)
  · exact kitc_ok (c.more 383)
  · exact kitc_ok (c.more 384)
  · exact kitc_ok (c.more 385)
  · exact kitc_ok (c.more 386)
  · exact kitc_ok (c.more 387)
  · exact kitc_ok (c.more 388)
  · exact kitc_ok (c.more 389)
  · exact kitc_ok (c.more 390)
  · exact kitc_ok (c.more 391)
  · exact kitc_ok (c.more 392)
  · exact kitc_ok (c.more 393)
  · exact kitc_ok (c.more 394)
  · exact kitc_ok (c.more 395)
  · exact kitc_ok (c.more 396)
  · exact kitc_ok (c.more 397)
  · exact kitc_ok (c.more 398)
  · exact kitc_ok (c.more 399)
  · exact kitc_ok (c.more 400)
  · exact kitc_ok (c.more 401)
  · exact kitc_ok (c.more 402)
  · exact kitc_ok (c.more 403)
  · exact kitc_ok (c.more 404)
  · exact kitc_ok (c.more 405)
  · exact kitc_ok (c.more 406)
  · exact kitc_ok (c.more 407)
  · exact kitc_ok (c.more 408)
  · exact kitc_ok (c.more 409)
  · exact kitc_ok (c.more 410)
  · exact kitc_ok (c.more 411)
  · exact kitc_ok (c.more 412)
  · exact kitc_ok (c.more 413)
  · exact kitc_ok (c.more 414)
  · exact kitc_ok (c.more 415)
  · exact kitc_ok (c.more 416)
  · exact kitc_ok (c.more 417)
  · exact kitc_ok (c.more 418)
  · exact kitc_ok (c.more 419)
  · exact kitc_ok (c.more 420)
  · exact kitc_ok (c.more 421)
  · exact kitc_ok (c.more 422)
  · exact kitc_ok (c.more 423)
  · exact kitc_ok (c.more 424)
  · exact kitc_ok (c.more 425)
  · exact kitc_ok (c.more 426)
  · exact kitc_ok (c.more 427)
  · exact kitc_ok (c.more 428)
  · exact kitc_ok (c.more 429)
  · exact kitc_ok (c.more 430)
  · exact kitc_ok (c.more 431)
  · exact kitc_ok (c.more 432)
  · exact kitc_ok (c.more 433)
  · exact kitc_ok (c.more 434)
  · exact kitc_ok (c.more 435)
  · exact kitc_ok (c.more 436)
  · exact kitc_ok (c.more 437)
  · exact kitc_ok (c.more 438)
  · exact kitc_ok (c.more 439)
  · exact kitc_ok (c.more 440)
  · exact kitc_ok (c.more 441)
  · exact kitc_ok (c.more 442)
  · exact kitc_ok (c.more 443)
  · exact kitc_ok (c.more 444)
  · exact kitc_ok (c.more 445)
  · exact kitc_ok (c.more 446)
  · exact kitc_ok (c.more 447)
  · exact kitc_ok (c.more 448)
  · exact kitc_ok (c.more 449)
  · exact kitc_ok (c.more 450)
  · exact kitc_ok (c.more 451)
  · exact kitc_ok (c.more 452)
  · exact kitc_ok (c.more 453)
  · exact kitc_ok (c.more 454)
  · exact kitc_ok (c.more 455)
  · exact kitc_ok (c.more 456)
  · exact kitc_ok (c.more 457)
  · exact kitc_ok (c.more 458)
  · exact kitc_ok (c.more 459)
  · exact kitc_ok (c.more 460)
  · exact kitc_ok (c.more 461)
  · exact kitc_ok (c.more 462)
  · exact kitc_ok (c.more 463)
  · exact kitc_ok (c.more 464)
  · exact kitc_ok (c.more 465)
  · exact kitc_ok (c.more 466)
  · exact kitc_ok (c.more 467)
  · exact kitc_ok (c.more 468)
  · exact kitc_ok (c.more 469)
  · exact kitc_ok (c.more 470)
  · exact kitc_ok (c.more 471)
  · exact kitc_ok (c.more 472)
  · exact kitc_ok (c.more 473)
  · exact kitc_ok (c.more 474)
  · exact kitc_ok (c.more 475)
  · exact kitc_ok (c.more 476)
  · exact kitc_ok (c.more 477)
  · exact kitc_ok (c.more 478)
  · exact kitc_ok (c.more 479)
  · exact kitc_ok (c.more 480)
  · exact kitc_ok (c.more 481)
  · exact kitc_ok (c.more 482)
  · exact kitc_ok (c.more 483)
  · exact kitc_ok (c.more 484)
  · exact kitc_ok (c.more 485)
  · exact kitc_ok (c.more 486)
  · exact kitc_ok (c.more 487)
  · exact kitc_ok (c.more 488)
  · exact kitc_ok (c.more 489)
  · exact kitc_ok (c.more 490)
  · exact kitc_ok (c.more 491)
  · exact kitc_ok (c.more 492)
  · exact kitc_ok (c.more 493)
  · exact kitc_ok (c.more 494)
  · exact kitc_ok (c.more 495)
  · exact kitc_ok (c.more 496)
  · exact kitc_ok (c.more 497)
  · exact kitc_ok (c.more 498)
  · exact kitc_ok (c.more 499)
  · exact kitc_ok (c.more 500)
  · exact kitc_ok (c.more 501)
  · exact kitc_ok (c.more 502)
  · exact kitc_ok (c.more 503)
  · exact kitc_ok (c.more 504)
  · exact kitc_ok (c.more 505)
  · exact kitc_ok (c.more 506)
  · exact kitc_ok (c.more 507)
  · exact kitc_ok (c.more 508)
  · exact kitc_ok (c.more 509)
  · exact kitc_ok (c.more 510)
  · exact kitb_ok (c.more 511)
  · exact kitb_ok (c.more 512)
  · exact kitb_ok (c.more 513)
  · exact kitb_ok (c.more 514)
  · exact kitb_ok (c.more 515)
  · exact kitb_ok (c.more 516)
  · exact kitb_ok (c.more 517)
  · exact kitb_ok (c.more 518)
  · exact kitb_ok (c.more 519)
  · exact kitb_ok (c.more 520)
  · exact kitb_ok (c.more 521)
  · exact kitb_ok (c.more 522)
  · exact kitb_ok (c.more 523)
  · exact kitb_ok (c.more 524)
  · exact kitb_ok (c.more 525)
  · exact kitb_ok (c.more 526)
  · exact kitb_ok (c.more 527)
  · exact kitb_ok (c.more 528)
  · exact kitb_ok (c.more 529)
  · exact kitb_ok (c.more 530)
  · exact kitb_ok (c.more 531)
  · exact kitb_ok (c.more 532)
  · exact kitb_ok (c.more 533)
  · exact kitb_ok (c.more 534)
  · exact kitb_ok (c.more 535)
  · exact kitb_ok (c.more 536)
  · exact kitb_ok (c.more 537)
  · exact kitb_ok (c.more 538)
  · exact kitb_ok (c.more 539)
  · exact kitb_ok (c.more 540)
  · exact kitb_ok (c.more 541)
  · exact kitb_ok (c.more 542)
  · exact kitb_ok (c.more 543)
  · exact kitb_ok (c.more 544)
  · exact kitb_ok (c.more 545)
  · exact kitb_ok (c.more 546)
  · exact kitb_ok (c.more 547)
  · exact kitb_ok (c.more 548)
  · exact kitb_ok (c.more 549)
  · exact kitb_ok (c.more 550)
  · exact kitb_ok (c.more 551)
  · exact kitb_ok (c.more 552)
  · exact kitb_ok (c.more 553)
  · exact kitb_ok (c.more 554)
  · exact kitb_ok (c.more 555)
  · exact kitb_ok (c.more 556)
  · exact kitb_ok (c.more 557)
  · exact kitb_ok (c.more 558)
  · exact kitb_ok (c.more 559)
  · exact kitb_ok (c.more 560)
  · exact kitb_ok (c.more 561)
  · exact kitb_ok (c.more 562)
  · exact kitb_ok (c.more 563)
  · exact kitb_ok (c.more 564)
  · exact kitb_ok (c.more 565)
  · exact kitb_ok (c.more 566)
  · exact kitb_ok (c.more 567)
  · exact kitb_ok (c.more 568)
  · exact kitb_ok (c.more 569)
  · exact kitb_ok (c.more 570)
  · exact exc_ok (c.more 571)
  · exact exc_ok (c.more 572)
  · exact exc_ok (c.more 573)
  · exact exc_ok (c.more 574)
  · exact exc_ok (c.more 575)
  · exact exc_ok (c.more 576)
  · exact exc_ok (c.more 577)
  · exact c.def_ 0 (d := d__law_drop)
  · exact c.def_ 1 (d := d__law_from)
  · exact c.def_ 2 (d := d__law_given_errors)
  · exact c.def_ 3 (d := d__law_sort)
  · exact c.def_ 4 (d := d__law_index_errors)
  · exact c.def_ 5 (d := d__law_right)
  · exact c.def_ 6 (d := d__law_phial_of)
  · exact c.def_ 7 (d := d_law)
  · exact c.def_ 8 (d := d_Apart___init__)
  · exact c.def_ 9 (d := d_Broken___init__)
  · exact c.def_ 10 (d := d_InvalidDoubts___init__)
  · exact c.def_ 11 (d := d_InvalidIndex___init__)
  · exact c.def_ 12 (d := d_InvalidLot___init__)
  · exact c.def_ 13 (d := d_InvalidName___init__)
  · exact c.def_ 14 (d := d_InvalidNumber___init__)
  · exact c.def_ 15 (d := d_InvalidOffers___init__)
  · exact c.def_ 16 (d := d_InvalidRead___init__)
  · exact c.def_ 17 (d := d_InvalidRows___init__)
  · exact c.def_ 18 (d := d_InvalidText___init__)
  · exact c.def_ 19 (d := d_InvalidTie___init__)
  · exact c.def_ 20 (d := d_InvalidTies___init__)
  · exact c.def_ 21 (d := d_InvalidTowns___init__)
  · exact c.def_ 22 (d := d_InvalidWish___init__)
  · exact c.def_ 23 (d := d_NotAWeb___init__)
  · exact c.def_ 24 (d := d_TooMany___init__)
  · exact c.def_ 25 (d := d_UnknownName___init__)
end Lk01
set_option Elab.async false
set_option linter.all false
set_option maxRecDepth 100000
set_option maxHeartbeats 2000000
namespace DL
open PySem PySem.Spec PyProof.Rows L2 He
theorem obsYM_eq {n : Nat} {fa : List Fa} {fb : List Fb} {fn : List Df} {g : Addr → Option Obj} {s : Shared} (h : ∀ a, g a = s.heap.get? a) : obsYM n fa fb fn g = (hookYM n fa fb fn).obs s := by
  have e : g = s.heap.get? := funext h
  rw [e] <;> rfl
end DL
set_option Elab.async false
set_option linter.all false
set_option maxRecDepth 100000
set_option maxHeartbeats 0
namespace Lk01
open PySem PySem.Spec PyProof.Rows L2 He DL
theorem ob_eq (s : PySem.W.SharedT) : ob s = hk.obs s.abs := obsYM_eq (HandSHeadRun.getT_eq s)
end Lk01
open PySem PySem.W PySem.Calls PyProof.Rows
theorem Lk01.holds_of (hm : ∀ (K : DL.Fg) (mg : Str → Option Value), Lk01.Fx K mg → ∀ ns : List Int, ns.length ≤ 63 → ∃ ρ, DM.F_law__v41 K [.val (.scr ns)] = .ok (.rt (.bl true)) ρ) : PySem.Challenge.rw_bitplaces_k01_errors_and_limits.Holds := by
  w_on; o_law
  refine HandSHeadRun.head_any (r := OpenLaw.row PySem.Challenge.rw_bitplaces_k01_errors_and_limits) (q := view (OpenLaw.row PySem.Challenge.rw_bitplaces_k01_errors_and_limits).prog [37]) (H := Lk01.hk) (ob := Lk01.ob) (M := 40000) (loose := Lk01.loose) (d := HandSHeadRun.topDef (OpenLaw.row PySem.Challenge.rw_bitplaces_k01_errors_and_limits).prog 37) (kwd := []) Lk01.ob_eq
    (by kernel_rfl) (fun s => by kernel_rfl) Lk01.run (by kernel_rfl) (by kernel_rfl) (by kernel_rfl) (by rfl) (by first | assumption | decide +kernel) (by decide +kernel) ⟨rfl, rfl, rfl, rfl, rfl, by decide +kernel⟩ ?hw ?hc
  case hw => w_witness2
  case hc =>
    refine DL.walkT (l := PySem.Challenge.rw_bitplaces_k01_errors_and_limits) (n := 63) (k := 5) (x := "_law_script") rfl (by decide) (by kernel_rfl) ⟨rfl, by decide, by decide⟩ ?F
    intro w mg fa h Y G hmg0
    obtain ⟨K, KX, c, TH⟩ := Y
    have X := Lk01.fx_of KX G c
    have hmg : mg ("law" : PySem.Str) = some (.ref fa) := by
      have e : (HandSHeadRun.topDef (OpenLaw.row PySem.Challenge.rw_bitplaces_k01_errors_and_limits).prog 37).name = ("law" : PySem.Str) := by kernel_rfl
      rw [← e]
      exact hmg0
    have e := hmg.symm.trans X.g_law
    cases e
    obtain ⟨fd, F⟩ := X.d_law
    have b := L2.FunD.bindsA (ps := ["_law_script"]) F fun _ _ _ _ _ _ us hl => match us, hl with | [_], _ => rfl
    exact ⟨K, fd, DL.spD K 1 (DM.F_law__v41 K), KX, TH, fun s v => b s [v] rfl, fun H a ns hl hO hS => DL.spT_law hO hS (hm K mg X ns hl), fun base _ _ tb => Lk01.fp_law ⟨X, tb⟩ F⟩
theorem PySem.Challenge.cw_bitplaces_k01_errors_and_limits_holds : PySem.Challenge.rw_bitplaces_k01_errors_and_limits.Holds := by
  exact Lk01.holds_of fun K mg X ns hl => MA.law01 ⟨⟨X.ec_InvalidText, X.kx_InvalidText_InvalidText, X.kx_InvalidText_InvalidNumber, X.kx_InvalidText_InvalidName, X.kx_InvalidText_InvalidWish, X.kx_InvalidText_InvalidIndex, X.kx_InvalidText_InvalidTie, X.kx_InvalidText_NotAWeb, X.kx_InvalidText_InvalidTowns, X.kx_InvalidText_InvalidTies, X.kx_InvalidText_InvalidLot, X.kx_InvalidText_InvalidRows, X.kx_InvalidText_InvalidRead, X.kx_InvalidText_InvalidOffers, X.kx_InvalidText_InvalidDoubts, X.kx_InvalidText_UnknownName, X.kx_InvalidText_Apart, X.kx_InvalidText_TooMany, X.kx_InvalidText_NoBits, X.kx_InvalidText_NothingToUndo, X.kx_InvalidText_Broken, X.kx_InvalidText_WrongValue, X.kx_InvalidText_WrongName, X.kx_InvalidText_NoAnswer, X.kb_InvalidText_ValueError, X.kb_InvalidText_LookupError, X.kb_InvalidText_ArithmeticError⟩, ⟨X.ec_InvalidNumber, X.kx_InvalidNumber_InvalidText, X.kx_InvalidNumber_InvalidNumber, X.kx_InvalidNumber_InvalidName, X.kx_InvalidNumber_InvalidWish, X.kx_InvalidNumber_InvalidIndex, X.kx_InvalidNumber_InvalidTie, X.kx_InvalidNumber_NotAWeb, X.kx_InvalidNumber_InvalidTowns, X.kx_InvalidNumber_InvalidTies, X.kx_InvalidNumber_InvalidLot, X.kx_InvalidNumber_InvalidRows, X.kx_InvalidNumber_InvalidRead, X.kx_InvalidNumber_InvalidOffers, X.kx_InvalidNumber_InvalidDoubts, X.kx_InvalidNumber_UnknownName, X.kx_InvalidNumber_Apart, X.kx_InvalidNumber_TooMany, X.kx_InvalidNumber_NoBits, X.kx_InvalidNumber_NothingToUndo, X.kx_InvalidNumber_Broken, X.kx_InvalidNumber_WrongValue, X.kx_InvalidNumber_WrongName, X.kx_InvalidNumber_NoAnswer, X.kb_InvalidNumber_ValueError, X.kb_InvalidNumber_LookupError, X.kb_InvalidNumber_ArithmeticError⟩, ⟨X.ec_InvalidName, X.kx_InvalidName_InvalidText, X.kx_InvalidName_InvalidNumber, X.kx_InvalidName_InvalidName, X.kx_InvalidName_InvalidWish, X.kx_InvalidName_InvalidIndex, X.kx_InvalidName_InvalidTie, X.kx_InvalidName_NotAWeb, X.kx_InvalidName_InvalidTowns, X.kx_InvalidName_InvalidTies, X.kx_InvalidName_InvalidLot, X.kx_InvalidName_InvalidRows, X.kx_InvalidName_InvalidRead, X.kx_InvalidName_InvalidOffers, X.kx_InvalidName_InvalidDoubts, X.kx_InvalidName_UnknownName, X.kx_InvalidName_Apart, X.kx_InvalidName_TooMany, X.kx_InvalidName_NoBits, X.kx_InvalidName_NothingToUndo, X.kx_InvalidName_Broken, X.kx_InvalidName_WrongValue, X.kx_InvalidName_WrongName, X.kx_InvalidName_NoAnswer, X.kb_InvalidName_ValueError, X.kb_InvalidName_LookupError, X.kb_InvalidName_ArithmeticError⟩, ⟨X.ec_InvalidWish, X.kx_InvalidWish_InvalidText, X.kx_InvalidWish_InvalidNumber, X.kx_InvalidWish_InvalidName, X.kx_InvalidWish_InvalidWish, X.kx_InvalidWish_InvalidIndex, X.kx_InvalidWish_InvalidTie, X.kx_InvalidWish_NotAWeb, X.kx_InvalidWish_InvalidTowns, X.kx_InvalidWish_InvalidTies, X.kx_InvalidWish_InvalidLot, X.kx_InvalidWish_InvalidRows, X.kx_InvalidWish_InvalidRead, X.kx_InvalidWish_InvalidOffers, X.kx_InvalidWish_InvalidDoubts, X.kx_InvalidWish_UnknownName, X.kx_InvalidWish_Apart, X.kx_InvalidWish_TooMany, X.kx_InvalidWish_NoBits, X.kx_InvalidWish_NothingToUndo, X.kx_InvalidWish_Broken, X.kx_InvalidWish_WrongValue, X.kx_InvalidWish_WrongName, X.kx_InvalidWish_NoAnswer, X.kb_InvalidWish_ValueError, X.kb_InvalidWish_LookupError, X.kb_InvalidWish_ArithmeticError⟩, ⟨X.ec_InvalidIndex, X.kx_InvalidIndex_InvalidText, X.kx_InvalidIndex_InvalidNumber, X.kx_InvalidIndex_InvalidName, X.kx_InvalidIndex_InvalidWish, X.kx_InvalidIndex_InvalidIndex, X.kx_InvalidIndex_InvalidTie, X.kx_InvalidIndex_NotAWeb, X.kx_InvalidIndex_InvalidTowns, X.kx_InvalidIndex_InvalidTies, X.kx_InvalidIndex_InvalidLot, X.kx_InvalidIndex_InvalidRows, X.kx_InvalidIndex_InvalidRead, X.kx_InvalidIndex_InvalidOffers, X.kx_InvalidIndex_InvalidDoubts, X.kx_InvalidIndex_UnknownName, X.kx_InvalidIndex_Apart, X.kx_InvalidIndex_TooMany, X.kx_InvalidIndex_NoBits, X.kx_InvalidIndex_NothingToUndo, X.kx_InvalidIndex_Broken, X.kx_InvalidIndex_WrongValue, X.kx_InvalidIndex_WrongName, X.kx_InvalidIndex_NoAnswer, X.kb_InvalidIndex_ValueError, X.kb_InvalidIndex_LookupError, X.kb_InvalidIndex_ArithmeticError⟩, ⟨X.ec_InvalidTie, X.kx_InvalidTie_InvalidText, X.kx_InvalidTie_InvalidNumber, X.kx_InvalidTie_InvalidName, X.kx_InvalidTie_InvalidWish, X.kx_InvalidTie_InvalidIndex, X.kx_InvalidTie_InvalidTie, X.kx_InvalidTie_NotAWeb, X.kx_InvalidTie_InvalidTowns, X.kx_InvalidTie_InvalidTies, X.kx_InvalidTie_InvalidLot, X.kx_InvalidTie_InvalidRows, X.kx_InvalidTie_InvalidRead, X.kx_InvalidTie_InvalidOffers, X.kx_InvalidTie_InvalidDoubts, X.kx_InvalidTie_UnknownName, X.kx_InvalidTie_Apart, X.kx_InvalidTie_TooMany, X.kx_InvalidTie_NoBits, X.kx_InvalidTie_NothingToUndo, X.kx_InvalidTie_Broken, X.kx_InvalidTie_WrongValue, X.kx_InvalidTie_WrongName, X.kx_InvalidTie_NoAnswer, X.kb_InvalidTie_ValueError, X.kb_InvalidTie_LookupError, X.kb_InvalidTie_ArithmeticError⟩, ⟨X.ec_NotAWeb, X.kx_NotAWeb_InvalidText, X.kx_NotAWeb_InvalidNumber, X.kx_NotAWeb_InvalidName, X.kx_NotAWeb_InvalidWish, X.kx_NotAWeb_InvalidIndex, X.kx_NotAWeb_InvalidTie, X.kx_NotAWeb_NotAWeb, X.kx_NotAWeb_InvalidTowns, X.kx_NotAWeb_InvalidTies, X.kx_NotAWeb_InvalidLot, X.kx_NotAWeb_InvalidRows, X.kx_NotAWeb_InvalidRead, X.kx_NotAWeb_InvalidOffers, X.kx_NotAWeb_InvalidDoubts, X.kx_NotAWeb_UnknownName, X.kx_NotAWeb_Apart, X.kx_NotAWeb_TooMany, X.kx_NotAWeb_NoBits, X.kx_NotAWeb_NothingToUndo, X.kx_NotAWeb_Broken, X.kx_NotAWeb_WrongValue, X.kx_NotAWeb_WrongName, X.kx_NotAWeb_NoAnswer, X.kb_NotAWeb_ValueError, X.kb_NotAWeb_LookupError, X.kb_NotAWeb_ArithmeticError⟩, ⟨X.ec_InvalidTowns, X.kx_InvalidTowns_InvalidText, X.kx_InvalidTowns_InvalidNumber, X.kx_InvalidTowns_InvalidName, X.kx_InvalidTowns_InvalidWish, X.kx_InvalidTowns_InvalidIndex, X.kx_InvalidTowns_InvalidTie, X.kx_InvalidTowns_NotAWeb, X.kx_InvalidTowns_InvalidTowns, X.kx_InvalidTowns_InvalidTies, X.kx_InvalidTowns_InvalidLot, X.kx_InvalidTowns_InvalidRows, X.kx_InvalidTowns_InvalidRead, X.kx_InvalidTowns_InvalidOffers, X.kx_InvalidTowns_InvalidDoubts, X.kx_InvalidTowns_UnknownName, X.kx_InvalidTowns_Apart, X.kx_InvalidTowns_TooMany, X.kx_InvalidTowns_NoBits, X.kx_InvalidTowns_NothingToUndo, X.kx_InvalidTowns_Broken, X.kx_InvalidTowns_WrongValue, X.kx_InvalidTowns_WrongName, X.kx_InvalidTowns_NoAnswer, X.kb_InvalidTowns_ValueError, X.kb_InvalidTowns_LookupError, X.kb_InvalidTowns_ArithmeticError⟩, ⟨X.ec_InvalidTies, X.kx_InvalidTies_InvalidText, X.kx_InvalidTies_InvalidNumber, X.kx_InvalidTies_InvalidName, X.kx_InvalidTies_InvalidWish, X.kx_InvalidTies_InvalidIndex, X.kx_InvalidTies_InvalidTie, X.kx_InvalidTies_NotAWeb, X.kx_InvalidTies_InvalidTowns, X.kx_InvalidTies_InvalidTies, X.kx_InvalidTies_InvalidLot, X.kx_InvalidTies_InvalidRows, X.kx_InvalidTies_InvalidRead, X.kx_InvalidTies_InvalidOffers, X.kx_InvalidTies_InvalidDoubts, X.kx_InvalidTies_UnknownName, X.kx_InvalidTies_Apart, X.kx_InvalidTies_TooMany, X.kx_InvalidTies_NoBits, X.kx_InvalidTies_NothingToUndo, X.kx_InvalidTies_Broken, X.kx_InvalidTies_WrongValue, X.kx_InvalidTies_WrongName, X.kx_InvalidTies_NoAnswer, X.kb_InvalidTies_ValueError, X.kb_InvalidTies_LookupError, X.kb_InvalidTies_ArithmeticError⟩, ⟨X.ec_InvalidLot, X.kx_InvalidLot_InvalidText, X.kx_InvalidLot_InvalidNumber, X.kx_InvalidLot_InvalidName, X.kx_InvalidLot_InvalidWish, X.kx_InvalidLot_InvalidIndex, X.kx_InvalidLot_InvalidTie, X.kx_InvalidLot_NotAWeb, X.kx_InvalidLot_InvalidTowns, X.kx_InvalidLot_InvalidTies, X.kx_InvalidLot_InvalidLot, X.kx_InvalidLot_InvalidRows, X.kx_InvalidLot_InvalidRead, X.kx_InvalidLot_InvalidOffers, X.kx_InvalidLot_InvalidDoubts, X.kx_InvalidLot_UnknownName, X.kx_InvalidLot_Apart, X.kx_InvalidLot_TooMany, X.kx_InvalidLot_NoBits, X.kx_InvalidLot_NothingToUndo, X.kx_InvalidLot_Broken, X.kx_InvalidLot_WrongValue, X.kx_InvalidLot_WrongName, X.kx_InvalidLot_NoAnswer, X.kb_InvalidLot_ValueError, X.kb_InvalidLot_LookupError, X.kb_InvalidLot_ArithmeticError⟩, ⟨X.ec_InvalidRows, X.kx_InvalidRows_InvalidText, X.kx_InvalidRows_InvalidNumber, X.kx_InvalidRows_InvalidName, X.kx_InvalidRows_InvalidWish, X.kx_InvalidRows_InvalidIndex, X.kx_InvalidRows_InvalidTie, X.kx_InvalidRows_NotAWeb, X.kx_InvalidRows_InvalidTowns, X.kx_InvalidRows_InvalidTies, X.kx_InvalidRows_InvalidLot, X.kx_InvalidRows_InvalidRows, X.kx_InvalidRows_InvalidRead, X.kx_InvalidRows_InvalidOffers, X.kx_InvalidRows_InvalidDoubts, X.kx_InvalidRows_UnknownName, X.kx_InvalidRows_Apart, X.kx_InvalidRows_TooMany, X.kx_InvalidRows_NoBits, X.kx_InvalidRows_NothingToUndo, X.kx_InvalidRows_Broken, X.kx_InvalidRows_WrongValue, X.kx_InvalidRows_WrongName, X.kx_InvalidRows_NoAnswer, X.kb_InvalidRows_ValueError, X.kb_InvalidRows_LookupError, X.kb_InvalidRows_ArithmeticError⟩, ⟨X.ec_InvalidRead, X.kx_InvalidRead_InvalidText, X.kx_InvalidRead_InvalidNumber, X.kx_InvalidRead_InvalidName, X.kx_InvalidRead_InvalidWish, X.kx_InvalidRead_InvalidIndex, X.kx_InvalidRead_InvalidTie, X.kx_InvalidRead_NotAWeb, X.kx_InvalidRead_InvalidTowns, X.kx_InvalidRead_InvalidTies, X.kx_InvalidRead_InvalidLot, X.kx_InvalidRead_InvalidRows, X.kx_InvalidRead_InvalidRead, X.kx_InvalidRead_InvalidOffers, X.kx_InvalidRead_InvalidDoubts, X.kx_InvalidRead_UnknownName, X.kx_InvalidRead_Apart, X.kx_InvalidRead_TooMany, X.kx_InvalidRead_NoBits, X.kx_InvalidRead_NothingToUndo, X.kx_InvalidRead_Broken, X.kx_InvalidRead_WrongValue, X.kx_InvalidRead_WrongName, X.kx_InvalidRead_NoAnswer, X.kb_InvalidRead_ValueError, X.kb_InvalidRead_LookupError, X.kb_InvalidRead_ArithmeticError⟩, ⟨X.ec_InvalidOffers, X.kx_InvalidOffers_InvalidText, X.kx_InvalidOffers_InvalidNumber, X.kx_InvalidOffers_InvalidName, X.kx_InvalidOffers_InvalidWish, X.kx_InvalidOffers_InvalidIndex, X.kx_InvalidOffers_InvalidTie, X.kx_InvalidOffers_NotAWeb, X.kx_InvalidOffers_InvalidTowns, X.kx_InvalidOffers_InvalidTies, X.kx_InvalidOffers_InvalidLot, X.kx_InvalidOffers_InvalidRows, X.kx_InvalidOffers_InvalidRead, X.kx_InvalidOffers_InvalidOffers, X.kx_InvalidOffers_InvalidDoubts, X.kx_InvalidOffers_UnknownName, X.kx_InvalidOffers_Apart, X.kx_InvalidOffers_TooMany, X.kx_InvalidOffers_NoBits, X.kx_InvalidOffers_NothingToUndo, X.kx_InvalidOffers_Broken, X.kx_InvalidOffers_WrongValue, X.kx_InvalidOffers_WrongName, X.kx_InvalidOffers_NoAnswer, X.kb_InvalidOffers_ValueError, X.kb_InvalidOffers_LookupError, X.kb_InvalidOffers_ArithmeticError⟩, ⟨X.ec_InvalidDoubts, X.kx_InvalidDoubts_InvalidText, X.kx_InvalidDoubts_InvalidNumber, X.kx_InvalidDoubts_InvalidName, X.kx_InvalidDoubts_InvalidWish, X.kx_InvalidDoubts_InvalidIndex, X.kx_InvalidDoubts_InvalidTie, X.kx_InvalidDoubts_NotAWeb, X.kx_InvalidDoubts_InvalidTowns, X.kx_InvalidDoubts_InvalidTies, X.kx_InvalidDoubts_InvalidLot, X.kx_InvalidDoubts_InvalidRows, X.kx_InvalidDoubts_InvalidRead, X.kx_InvalidDoubts_InvalidOffers, X.kx_InvalidDoubts_InvalidDoubts, X.kx_InvalidDoubts_UnknownName, X.kx_InvalidDoubts_Apart, X.kx_InvalidDoubts_TooMany, X.kx_InvalidDoubts_NoBits, X.kx_InvalidDoubts_NothingToUndo, X.kx_InvalidDoubts_Broken, X.kx_InvalidDoubts_WrongValue, X.kx_InvalidDoubts_WrongName, X.kx_InvalidDoubts_NoAnswer, X.kb_InvalidDoubts_ValueError, X.kb_InvalidDoubts_LookupError, X.kb_InvalidDoubts_ArithmeticError⟩, ⟨X.ec_UnknownName, X.kx_UnknownName_InvalidText, X.kx_UnknownName_InvalidNumber, X.kx_UnknownName_InvalidName, X.kx_UnknownName_InvalidWish, X.kx_UnknownName_InvalidIndex, X.kx_UnknownName_InvalidTie, X.kx_UnknownName_NotAWeb, X.kx_UnknownName_InvalidTowns, X.kx_UnknownName_InvalidTies, X.kx_UnknownName_InvalidLot, X.kx_UnknownName_InvalidRows, X.kx_UnknownName_InvalidRead, X.kx_UnknownName_InvalidOffers, X.kx_UnknownName_InvalidDoubts, X.kx_UnknownName_UnknownName, X.kx_UnknownName_Apart, X.kx_UnknownName_TooMany, X.kx_UnknownName_NoBits, X.kx_UnknownName_NothingToUndo, X.kx_UnknownName_Broken, X.kx_UnknownName_WrongValue, X.kx_UnknownName_WrongName, X.kx_UnknownName_NoAnswer, X.kb_UnknownName_ValueError, X.kb_UnknownName_LookupError, X.kb_UnknownName_ArithmeticError⟩, ⟨X.ec_Apart, X.kx_Apart_InvalidText, X.kx_Apart_InvalidNumber, X.kx_Apart_InvalidName, X.kx_Apart_InvalidWish, X.kx_Apart_InvalidIndex, X.kx_Apart_InvalidTie, X.kx_Apart_NotAWeb, X.kx_Apart_InvalidTowns, X.kx_Apart_InvalidTies, X.kx_Apart_InvalidLot, X.kx_Apart_InvalidRows, X.kx_Apart_InvalidRead, X.kx_Apart_InvalidOffers, X.kx_Apart_InvalidDoubts, X.kx_Apart_UnknownName, X.kx_Apart_Apart, X.kx_Apart_TooMany, X.kx_Apart_NoBits, X.kx_Apart_NothingToUndo, X.kx_Apart_Broken, X.kx_Apart_WrongValue, X.kx_Apart_WrongName, X.kx_Apart_NoAnswer, X.kb_Apart_ValueError, X.kb_Apart_LookupError, X.kb_Apart_ArithmeticError⟩, ⟨X.ec_TooMany, X.kx_TooMany_InvalidText, X.kx_TooMany_InvalidNumber, X.kx_TooMany_InvalidName, X.kx_TooMany_InvalidWish, X.kx_TooMany_InvalidIndex, X.kx_TooMany_InvalidTie, X.kx_TooMany_NotAWeb, X.kx_TooMany_InvalidTowns, X.kx_TooMany_InvalidTies, X.kx_TooMany_InvalidLot, X.kx_TooMany_InvalidRows, X.kx_TooMany_InvalidRead, X.kx_TooMany_InvalidOffers, X.kx_TooMany_InvalidDoubts, X.kx_TooMany_UnknownName, X.kx_TooMany_Apart, X.kx_TooMany_TooMany, X.kx_TooMany_NoBits, X.kx_TooMany_NothingToUndo, X.kx_TooMany_Broken, X.kx_TooMany_WrongValue, X.kx_TooMany_WrongName, X.kx_TooMany_NoAnswer, X.kb_TooMany_ValueError, X.kb_TooMany_LookupError, X.kb_TooMany_ArithmeticError⟩, ⟨X.ec_NoBits, X.kx_NoBits_InvalidText, X.kx_NoBits_InvalidNumber, X.kx_NoBits_InvalidName, X.kx_NoBits_InvalidWish, X.kx_NoBits_InvalidIndex, X.kx_NoBits_InvalidTie, X.kx_NoBits_NotAWeb, X.kx_NoBits_InvalidTowns, X.kx_NoBits_InvalidTies, X.kx_NoBits_InvalidLot, X.kx_NoBits_InvalidRows, X.kx_NoBits_InvalidRead, X.kx_NoBits_InvalidOffers, X.kx_NoBits_InvalidDoubts, X.kx_NoBits_UnknownName, X.kx_NoBits_Apart, X.kx_NoBits_TooMany, X.kx_NoBits_NoBits, X.kx_NoBits_NothingToUndo, X.kx_NoBits_Broken, X.kx_NoBits_WrongValue, X.kx_NoBits_WrongName, X.kx_NoBits_NoAnswer, X.kb_NoBits_ValueError, X.kb_NoBits_LookupError, X.kb_NoBits_ArithmeticError⟩, ⟨X.ec_NothingToUndo, X.kx_NothingToUndo_InvalidText, X.kx_NothingToUndo_InvalidNumber, X.kx_NothingToUndo_InvalidName, X.kx_NothingToUndo_InvalidWish, X.kx_NothingToUndo_InvalidIndex, X.kx_NothingToUndo_InvalidTie, X.kx_NothingToUndo_NotAWeb, X.kx_NothingToUndo_InvalidTowns, X.kx_NothingToUndo_InvalidTies, X.kx_NothingToUndo_InvalidLot, X.kx_NothingToUndo_InvalidRows, X.kx_NothingToUndo_InvalidRead, X.kx_NothingToUndo_InvalidOffers, X.kx_NothingToUndo_InvalidDoubts, X.kx_NothingToUndo_UnknownName, X.kx_NothingToUndo_Apart, X.kx_NothingToUndo_TooMany, X.kx_NothingToUndo_NoBits, X.kx_NothingToUndo_NothingToUndo, X.kx_NothingToUndo_Broken, X.kx_NothingToUndo_WrongValue, X.kx_NothingToUndo_WrongName, X.kx_NothingToUndo_NoAnswer, X.kb_NothingToUndo_ValueError, X.kb_NothingToUndo_LookupError, X.kb_NothingToUndo_ArithmeticError⟩, ⟨X.ec_Broken, X.kx_Broken_InvalidText, X.kx_Broken_InvalidNumber, X.kx_Broken_InvalidName, X.kx_Broken_InvalidWish, X.kx_Broken_InvalidIndex, X.kx_Broken_InvalidTie, X.kx_Broken_NotAWeb, X.kx_Broken_InvalidTowns, X.kx_Broken_InvalidTies, X.kx_Broken_InvalidLot, X.kx_Broken_InvalidRows, X.kx_Broken_InvalidRead, X.kx_Broken_InvalidOffers, X.kx_Broken_InvalidDoubts, X.kx_Broken_UnknownName, X.kx_Broken_Apart, X.kx_Broken_TooMany, X.kx_Broken_NoBits, X.kx_Broken_NothingToUndo, X.kx_Broken_Broken, X.kx_Broken_WrongValue, X.kx_Broken_WrongName, X.kx_Broken_NoAnswer, X.kb_Broken_ValueError, X.kb_Broken_LookupError, X.kb_Broken_ArithmeticError⟩, X.xf_InvalidText_given, X.xf_InvalidNumber_given, X.xf_InvalidName_given, X.xf_InvalidWish_given, X.xf_InvalidIndex_given, X.xf_InvalidTie_given, X.xf_NotAWeb_given, X.xf_InvalidTowns_index, X.xf_InvalidTies_index, X.xf_InvalidLot_index, X.xf_InvalidRows_index, X.xf_InvalidRead_index, X.xf_InvalidOffers_index, X.xf_InvalidDoubts_index, X.xf_UnknownName_given, X.xf_Apart_given, X.xf_TooMany_given, X.xf_Broken_index⟩ ns
