import PyProof.Rows.All
import PySem.PyData
import Wide.All
import OpenK.AllK
import Wide.FinOn
import HandS.ForMost
import HandS.ForExc
import HandS.TupAny
import HandS.TupMul
import HandS.IsInst
import HandS.Walk
import HandS.Defaults
import HandS.Zip
import PyProof.EqAt
import PyProof.EqKinds
import PyProof.TupleCall
import KE.KExcSuper
import HandS.ForSpec
import HandS.ExcSuper
import HandS.ExcOwn
import KE.KDflt
import HandS.Lambda
import HandS.Small
import HandS.HeadHook4
import HandS.HeadWalk
import HandS.Dict
import HandS.Exc
import HandS.HeadHook1
import HandS.HeadHook2
import HandS.HeadHook3
import KE.KStateDown
import HandS.More
import HandS.Head0
import HandS.Head1
import HandS.Head2
import HandS.HeadEnd
import PySem.Challenge.RW_tornwebs_k54_whole_named_words
import HandS.NestedK
section
/-! RfCore: readings of a body as plain functions over data trees (own work; no program in sight). -/
set_option linter.all false
namespace Rf
open PySem

abbrev D := PyData

/-- what an evaluation comes to: a value and the state, an exception of the class of that name with its field, or nothing is claimed -/
inductive Rs (S α : Type) where
  | ok (a : α) (s : S)
  | exc (c : Str) (d : D) (s : S)
  | stuck

namespace Rs
def bind {S α β : Type} (r : Rs S α) (f : α → S → Rs S β) : Rs S β := match r with
  | .ok a s => f a s
  | .exc c d s => .exc c d s
  | .stuck => .stuck
theorem bind_ok {S α β : Type} {a : α} {s : S} {f : α → S → Rs S β} : (Rs.ok a s).bind f = f a s := rfl
theorem bind_exc {S α β : Type} {c : Str} {d : D} {s : S} {f : α → S → Rs S β} : (Rs.exc c d s : Rs S α).bind f = .exc c d s := rfl
theorem bind_stuck {S α β : Type} {f : α → S → Rs S β} : (Rs.stuck : Rs S α).bind f = .stuck := rfl
/-- an exception is claimed to be none -/
def nox {S α : Type} (r : Rs S α) : Rs S α := match r with
  | .ok a s => .ok a s
  | _ => .stuck
def ofO {S α : Type} (o : Option α) (s : S) : Rs S α := match o with
  | some a => .ok a s
  | none => .stuck
end Rs

inductive Slot where
  | no
  | val (d : D)
  | own (ds : List D)
abbrev En := List Slot

abbrev Fe (S : Type) := En → S → Rs S D
abbrev Fb (S : Type) := En → S → Rs S Bool
abbrev Fa (S : Type) := En → S → Rs S (List D)
/-- how a statement ends -/
inductive Out where
  | nx (e : En)
  | rt (d : D)
  | bk (e : En)
  | ct (e : En)
abbrev Fs (S : Type) := En → S → Rs S Out
/-- a target: the item, the names -/
abbrev Ft := D → En → Option En

/-- a handle: the object at a, opaque -/
def hnd (a : Nat) : D := .dict [(.int a, .none)]

section
variable {S : Type}
/-! ### expressions -/
def vVar (i : Nat) : Fe S := fun e s => match e[i]? with
  | some (.val d) => .ok d s
  | _ => .stuck
def vCst (d : D) : Fe S := fun _ s => .ok d s
def v1 (f : D → Option D) (a : Fe S) : Fe S := fun e s => (a e s).bind fun x s1 => .ofO (f x) s1
def v2 (f : D → D → Option D) (a b : Fe S) : Fe S := fun e s => (a e s).bind fun x s1 => (b e s1).bind fun y s2 => .ofO (f x y) s2
def aNil : Fa S := fun _ s => .ok [] s
def aCons (a : Fe S) (r : Fa S) : Fa S := fun e s => (a e s).bind fun x s1 => (r e s1).bind fun xs s2 => .ok (x :: xs) s2
def vA (f : List D → Option D) (a : Fa S) : Fe S := fun e s => (a e s).bind fun xs s1 => .ofO (f xs) s1
/-- a call of a def of the program -/
def vCall (φ : List D → S → Rs S D) (a : Fa S) : Fe S := fun e s => (a e s).bind fun xs s1 => φ xs s1
/-- keywords' values behind, put in the parameters' order by g -/
def vCallK (φ : List D → S → Rs S D) (g : List D → List D → List D) (a k : Fa S) : Fe S := fun e s => (a e s).bind fun xs s1 => (k e s1).bind fun ys s2 => φ (g xs ys) s2
def vIte (c : Fb S) (a b : Fe S) : Fe S := fun e s => (c e s).bind fun t s1 => match t with
  | true => a e s1
  | false => b e s1
/-! ### tests -/
def bVal (a : Fe S) : Fb S := fun e s => (a e s).bind fun d s1 => match d with
  | .bool b => .ok b s1
  | _ => .stuck
def bAnd (a b : Fb S) : Fb S := fun e s => (a e s).bind fun t s1 => match t with
  | true => b e s1
  | false => .ok false s1
def bOr (a b : Fb S) : Fb S := fun e s => (a e s).bind fun t s1 => match t with
  | true => .ok true s1
  | false => b e s1
def bNot (a : Fb S) : Fb S := fun e s => (a e s).bind fun t s1 => .ok (!t) s1
/-- a test as a value -/
def vB (a : Fb S) : Fe S := fun e s => (a e s).bind fun t s1 => .ok (.bool t) s1
/-! ### values -/
def line : Nat := 1000000
def dTup (xs : List D) : Option D := if xs.length ≤ line then some (.tuple xs) else none
def dLst (xs : List D) : Option D := if xs.length ≤ line then some (.list xs) else none
def dAdd : D → D → Option D
  | .int a, .int b => some (.int (a + b))
  | .tuple a, .tuple b => if a.length + b.length ≤ line then some (.tuple (a ++ b)) else none
  | .list a, .list b => if a.length + b.length ≤ line then some (.list (a ++ b)) else none
  | _, _ => none
def dSub : D → D → Option D
  | .int a, .int b => some (.int (a - b))
  | _, _ => none
/-- xs * k -/
def rep {α : Type} (xs : List α) : Nat → List α
  | 0 => []
  | n + 1 => xs ++ rep xs n
def dIx (i : Int) (xs : List D) : Option D := if 0 ≤ i then xs[i.toNat]? else if -(xs.length : Int) ≤ i then xs[(i + xs.length).toNat]? else none
def dItem : D → D → Option D
  | .tuple xs, .int i => dIx i xs
  | .list xs, .int i => dIx i xs
  | _, _ => none
def dLen : List D → Option D
  | [.tuple xs] => some (.int xs.length)
  | [.list xs] => some (.int xs.length)
  | _ => none
def dCmp (p : Int → Int → Bool) : D → D → Option D
  | .int a, .int b => some (.bool (p a b))
  | _, _ => none
/-! ### statements -/
def sNil : Fs S := fun e s => .ok (.nx e) s
def sSeq (a b : Fs S) : Fs S := fun e s => (a e s).bind fun o s1 => match o with
  | .nx e1 => b e1 s1
  | o => .ok o s1
def sSet (i : Nat) (a : Fe S) : Fs S := fun e s => (a e s).bind fun d s1 => .ok (.nx (e.set i (.val d))) s1
def sRet (a : Fe S) : Fs S := fun e s => (a e s).bind fun d s1 => .ok (.rt d) s1
def sDrop (a : Fe S) : Fs S := fun e s => (a e s).bind fun _ s1 => .ok (.nx e) s1
def sIf (c : Fb S) (a b : Fs S) : Fs S := fun e s => (c e s).bind fun t s1 => match t with
  | true => a e s1
  | false => b e s1
def sBrk : Fs S := fun e s => .ok (.bk e) s
def sCnt : Fs S := fun e s => .ok (.ct e) s
def sRaise (c : Str) (a : Fe S) : Fs S := fun e s => (a e s).bind fun d s1 => .exc c d s1
/-- from here on read as a value -/
def frzS : Slot → Slot
  | .own ds => .val (.list ds)
  | x => x
def sFrz (i : Nat) : Fs S := fun e s => match e[i]? with
  | some x => .ok (.nx (e.set i (frzS x))) s
  | none => .stuck
def ownAt (e : En) (i : Nat) : Option (List D) := match e[i]? with
  | some (.own ds) => some ds
  | _ => none
def sApp (i : Nat) (a : Fe S) : Fs S := fun e s => match ownAt e i with
  | some ds => (a e s).bind fun d s1 => if ds.length < line then .ok (.nx (e.set i (.own (ds ++ [d])))) s1 else .stuck
  | none => .stuck
def gNm (i : Nat) : Ft := fun d e => some (e.set i (.val d))
def gTps : List Ft → List D → En → Option En
  | [], [], e => some e
  | t :: ts, d :: ds, e => (t d e).bind fun e1 => gTps ts ds e1
  | _, _, _ => none
def gTp (ts : List Ft) : Ft := fun d e => match d with
  | .tuple xs => gTps ts xs e
  | _ => none
def sUnp (t : Ft) (a : Fe S) : Fs S := fun e s => (a e s).bind fun d s1 => match t d e with
  | some e1 => .ok (.nx e1) s1
  | none => .stuck
/-- the turns of a for -/
def forGo (t : Ft) (b : Fs S) : List D → Fs S
  | [] => fun e s => .ok (.nx e) s
  | d :: r => fun e s => match t d e with
    | none => .stuck
    | some e1 => (b e1 s).bind fun o s1 => match o with
      | .nx e2 => forGo t b r e2 s1
      | .ct e2 => forGo t b r e2 s1
      | .bk e2 => .ok (.nx e2) s1
      | .rt d => .ok (.rt d) s1
def sFor (t : Ft) (it : Fa S) (b : Fs S) : Fs S := fun e s => (it e s).bind fun ds s1 => forGo t b ds e s1
def whGo (c : Fb S) (b : Fs S) : Nat → Fs S
  | 0 => fun _ _ => .stuck
  | n + 1 => fun e s => (c e s).bind fun t s1 => match t with
    | false => .ok (.nx e) s1
    | true => (b e s1).bind fun o s2 => match o with
      | .nx e2 => whGo c b n e2 s2
      | .ct e2 => whGo c b n e2 s2
      | .bk e2 => .ok (.nx e2) s2
      | .rt d => .ok (.rt d) s2
def sWhile (n : Nat) (c : Fb S) (b : Fs S) : Fs S := whGo c b n
/-- what is walked -/
def iTp (a : Fe S) : Fa S := fun e s => (a e s).bind fun d s1 => match d with
  | .tuple xs => .ok xs s1
  | _ => .stuck
def iLs (a : Fe S) : Fa S := fun e s => (a e s).bind fun d s1 => match d with
  | .list xs => .ok xs s1
  | _ => .stuck
def rng (lo : Int) (n : Nat) : List D := (List.range n).map fun (i : Nat) => PyData.int (lo + (i : Int))
def iRng (a : Fe S) : Fa S := fun e s => (a e s).bind fun d s1 => match d with
  | .int j => if -(line : Int) ≤ j ∧ j ≤ line then .ok (rng 0 j.toNat) s1 else .stuck
  | _ => .stuck
def pairD (a b : D) : D := .tuple [a, b]
def iZip (a b : Fe S) : Fa S := fun e s => (a e s).bind fun d s1 => (b e s1).bind fun d2 s2 => match d with
  | .tuple xs => (match d2 with
    | .tuple ys => .ok (List.zipWith pairD xs ys) s2
    | _ => .stuck)
  | .list xs => (match d2 with
    | .list ys => .ok (List.zipWith pairD xs ys) s2
    | _ => .stuck)
  | _ => .stuck
def enumGo : Nat → List D → List D
  | _, [] => []
  | i, d :: r => pairD (.int (i : Int)) d :: enumGo (i + 1) r
def iEnL (a : Fe S) : Fa S := fun e s => (a e s).bind fun d s1 => match d with
  | .list xs => .ok (enumGo 0 xs) s1
  | _ => .stuck
/-- [a for t in it if c] -/
def lcGo (t : Ft) (c : Fb S) (a : Fe S) (e : En) : List D → S → Rs S (List D)
  | [], s => .ok [] s
  | d :: r, s => match t d e with
    | none => .stuck
    | some e1 => (c e1 s).nox.bind fun b s1 => match b with
      | true => (a e1 s1).nox.bind fun y s2 => (lcGo t c a e r s2).bind fun ys s3 => .ok (y :: ys) s3
      | false => lcGo t c a e r s1
def wipeE (e : En) : List Nat → En
  | [] => e
  | i :: r => (wipeE e r).set i .no
/-- what is kept to itself is not read within a comprehension -/
def hideS : Slot → Slot
  | .own _ => .no
  | x => x
def vLc (own : List Nat) (t : Ft) (it : Fa S) (c : Fb S) (a : Fe S) : Fa S := fun e s => (it e s).bind fun ds s1 => if ds.length ≤ line then (lcGo t c a (wipeE (e.map hideS) own) ds s1).bind fun ys s2 => .ok ys s2 else .stuck
def cYes : Fb S := fun _ s => .ok true s
/-- a list that an expression makes, as data; as a slot of its own -/
def vNew (a : Fa S) : Fe S := fun e s => (a e s).bind fun ds s1 => if ds.length ≤ line then .ok (.list ds) s1 else .stuck
abbrev Fc (S : Type) := En → S → Rs S Slot
def cVal (a : Fe S) : Fc S := fun e s => (a e s).bind fun d s1 => .ok (.val d) s1
def cNew (a : Fa S) : Fc S := fun e s => (a e s).bind fun ds s1 => if ds.length ≤ line then .ok (.own ds) s1 else .stuck
def sSetC (i : Nat) (c : Fc S) : Fs S := fun e s => (c e s).bind fun sl s1 => .ok (.nx (e.set i sl)) s1
def sPar (i j : Nat) (c d : Fc S) : Fs S := fun e s => (c e s).bind fun sl s1 => (d e s1).bind fun sl2 s2 => .ok (.nx ((e.set i sl).set j sl2)) s2
/-- x == [], x != [], len(x) of a list kept to itself -/
def bEmp (neg : Bool) (i : Nat) : Fb S := fun e s => match ownAt e i with
  | some ds => .ok (if neg then !ds.isEmpty else ds.isEmpty) s
  | none => .stuck
def vLenO (i : Nat) : Fe S := fun e s => match ownAt e i with
  | some ds => .ok (.int ds.length) s
  | none => .stuck
def vIxO (i : Nat) (a : Fe S) : Fe S := fun e s => match ownAt e i with
  | some ds => (a e s).bind fun k s1 => .ofO (dItem (.list ds) k) s1
  | none => .stuck
/-- tuple(x) of such a list -/
def vTupO (i : Nat) : Fe S := fun e s => match ownAt e i with
  | some ds => .ok (.tuple ds) s
  | none => .stuck
/-- t = x.pop() -/
def sPop (i : Nat) (t : Ft) : Fs S := fun e s => match ownAt e i with
  | some ds => (match ds.getLast? with
    | some d => (match t d (e.set i (.own ds.dropLast)) with
      | some e1 => .ok (.nx e1) s
      | none => .stuck)
    | none => .stuck)
  | none => .stuck
/-- x[k] = e -/
def sSetIx (i : Nat) (k a : Fe S) : Fs S := fun e s => match ownAt e i with
  | some ds => (a e s).bind fun d s1 => (k e s1).bind fun j s2 => match j with
    | .int z => if 0 ≤ z ∧ z < ds.length then .ok (.nx (e.set i (.own (ds.set z.toNat d)))) s2 else .stuck
    | _ => .stuck
  | none => .stuck
/-- a body run on its arguments -/
def start (n : Nat) (ds : List D) : En := ds.map .val ++ List.replicate (n - ds.length) .no
def run (n : Nat) (b : Fs S) (ds : List D) (s : S) : Rs S D := (b (start n ds) s).bind fun o s1 => match o with
  | .nx _ => .ok .none s1
  | .rt d => .ok d s1
  | _ => .stuck
end
end Rf
end

section
set_option Elab.async false
set_option linter.all false
set_option maxRecDepth 100000
set_option maxHeartbeats 4000000
/-! RfRep: data trees as they lie in the heap; what a body's frame says (own work). -/
namespace Rf
open PySem PySem.Spec PyProof.Rows L2

/-- a tuple of the written part -/
def KT (K : PySem.W.Frag) (a : Addr) (xs : List V) : Prop :=
  ∃ (o : Obj) (its : Array Value) (n : Nat), K.lookup a = some o ∧ o.cls = .type "tuple" ∧ o.data = .seq its n ∧ its.size ≤ sizeLine ∧ Vals xs its.toList
mutual
/-- the value v is the data d; no list or dict of it lies among O -/
def Rep (K : PySem.W.Frag) (O : Addr → Prop) (H : Hp) : D → V → Prop
  | .none, v => v = .non
  | .bool b, v => v = .bl b
  | .int i, v => v = .int i
  | .str x, v => v = .str x
  | .list ds, v => ∃ a xs, v = .ref a ∧ (H a = some (.lst xs) ∧ ¬ O a) ∧ ds.length ≤ line ∧ Reps K O H ds xs
  | .tuple ds, v => ∃ a xs, v = .ref a ∧ ((H a = some (.tup xs) ∧ ¬ O a) ∨ KT K a xs) ∧ ds.length ≤ line ∧ Reps K O H ds xs
  | .dict kvs, v => (kvs = [] ∧ ∃ a, v = .ref a ∧ H a = some (.dK []) ∧ ¬ O a) ∨ ∃ a : Addr, kvs = [(.int a, .none)] ∧ v = .ref a
def Reps (K : PySem.W.Frag) (O : Addr → Prop) (H : Hp) : List D → List V → Prop
  | [], xs => xs = []
  | d :: ds, xs => ∃ x r, xs = x :: r ∧ Rep K O H d x ∧ Reps K O H ds r
end
section
variable {K : PySem.W.Frag} {O O' : Addr → Prop} {H H' : Hp}
mutual
theorem Rep.move (k : ∀ a o, ¬ O a → H a = some o → H' a = some o ∧ ¬ O' a) : ∀ (d : D) (v : V), Rep K O H d v → Rep K O' H' d v
  | .none, v, h => by
    have h : v = .non := by simpa only [Rep] using h
    simpa only [Rep] using h
  | .bool b, v, h => by
    have h : v = .bl b := by simpa only [Rep] using h
    simpa only [Rep] using h
  | .int i, v, h => by
    have h : v = .int i := by simpa only [Rep] using h
    simpa only [Rep] using h
  | .str x, v, h => by
    have h : v = .str x := by simpa only [Rep] using h
    simpa only [Rep] using h
  | .list ds, v, h => by
    simp only [Rep] at h ⊢
    obtain ⟨a, xs, e, ⟨h1, h2⟩, hl, h3⟩ := h
    exact ⟨a, xs, e, k a _ h2 h1, hl, Reps.move k ds xs h3⟩
  | .tuple ds, v, h => by
    simp only [Rep] at h ⊢
    obtain ⟨a, xs, e, h1, hl, h3⟩ := h
    refine ⟨a, xs, e, ?_, hl, Reps.move k ds xs h3⟩
    rcases h1 with ⟨h1, h2⟩ | h1
    · exact .inl (k a _ h2 h1)
    · exact .inr h1
  | .dict kvs, v, h => by
    simp only [Rep] at h ⊢
    rcases h with ⟨e, a, e2, h1, h2⟩ | h
    · exact .inl ⟨e, a, e2, k a _ h2 h1⟩
    · exact .inr h
theorem Reps.move (k : ∀ a o, ¬ O a → H a = some o → H' a = some o ∧ ¬ O' a) : ∀ (ds : List D) (xs : List V), Reps K O H ds xs → Reps K O' H' ds xs
  | [], xs, h => by
    simp only [Reps] at h ⊢
    exact h
  | d :: ds, xs, h => by
    simp only [Reps] at h ⊢
    obtain ⟨x, r, e, h1, h2⟩ := h
    exact ⟨x, r, e, Rep.move k d x h1, Reps.move k ds r h2⟩
end
theorem Reps.nil : Reps K O H [] [] := by simp only [Reps]
theorem Reps.cons {d : D} {v : V} {ds : List D} {vs : List V} (h : Rep K O H d v) (r : Reps K O H ds vs) : Reps K O H (d :: ds) (v :: vs) := by
  simp only [Reps]
  exact ⟨v, vs, rfl, h, r⟩
theorem Reps.nil_inv {vs : List V} (h : Reps K O H [] vs) : vs = [] := by simpa only [Reps] using h
theorem Reps.cons_inv {d : D} {ds : List D} {vs : List V} (h : Reps K O H (d :: ds) vs) : ∃ v r, vs = v :: r ∧ Rep K O H d v ∧ Reps K O H ds r := by simpa only [Reps] using h
theorem Reps.length : ∀ {ds : List D} {vs : List V}, Reps K O H ds vs → vs.length = ds.length
  | [], vs, h => by rw [h.nil_inv]; rfl
  | d :: ds, vs, h => by
    obtain ⟨v, r, rfl, _, h2⟩ := h.cons_inv
    rw [List.length_cons, List.length_cons, h2.length]
theorem Reps.get : ∀ {ds : List D} {vs : List V} {i : Nat} {v : V}, Reps K O H ds vs → vs[i]? = some v → ∃ d, ds[i]? = some d ∧ Rep K O H d v
  | [], vs, i, v, h, e => by rw [h.nil_inv] at e; simp at e
  | d :: ds, vs, 0, v, h, e => by
    obtain ⟨x, r, rfl, h1, h2⟩ := h.cons_inv
    simp only [List.getElem?_cons_zero, Option.some.injEq] at e
    subst e
    exact ⟨d, rfl, h1⟩
  | d :: ds, vs, i + 1, v, h, e => by
    obtain ⟨x, r, rfl, h1, h2⟩ := h.cons_inv
    simp only [List.getElem?_cons_succ] at e ⊢
    exact h2.get e
theorem Reps.get' : ∀ {ds : List D} {vs : List V} {i : Nat} {d : D}, Reps K O H ds vs → ds[i]? = some d → ∃ v, vs[i]? = some v ∧ Rep K O H d v
  | [], vs, i, d, h, e => by simp at e
  | d' :: ds, vs, 0, d, h, e => by
    obtain ⟨x, r, rfl, h1, h2⟩ := h.cons_inv
    simp only [List.getElem?_cons_zero, Option.some.injEq] at e
    subst e
    exact ⟨x, rfl, h1⟩
  | d' :: ds, vs, i + 1, d, h, e => by
    obtain ⟨x, r, rfl, h1, h2⟩ := h.cons_inv
    simp only [List.getElem?_cons_succ] at e ⊢
    exact h2.get' e
theorem Reps.append : ∀ {ds es : List D} {vs us : List V}, Reps K O H ds vs → Reps K O H es us → Reps K O H (ds ++ es) (vs ++ us)
  | [], es, vs, us, h, h' => by rw [h.nil_inv]; exact h'
  | d :: ds, es, vs, us, h, h' => by
    obtain ⟨x, r, rfl, h1, h2⟩ := h.cons_inv
    exact Reps.cons h1 (h2.append h')
theorem Reps.take : ∀ {ds : List D} {vs : List V} (n : Nat), Reps K O H ds vs → Reps K O H (ds.take n) (vs.take n)
  | ds, vs, 0, h => by simpa using Reps.nil
  | [], vs, n + 1, h => by rw [h.nil_inv]; simpa using Reps.nil
  | d :: ds, vs, n + 1, h => by
    obtain ⟨x, r, rfl, h1, h2⟩ := h.cons_inv
    simpa using Reps.cons h1 (h2.take n)
theorem Reps.drop : ∀ {ds : List D} {vs : List V} (n : Nat), Reps K O H ds vs → Reps K O H (ds.drop n) (vs.drop n)
  | ds, vs, 0, h => by simpa using h
  | [], vs, n + 1, h => by rw [h.nil_inv]; simpa using Reps.nil
  | d :: ds, vs, n + 1, h => by
    obtain ⟨x, r, rfl, h1, h2⟩ := h.cons_inv
    simpa using h2.drop n
theorem Reps.set : ∀ {ds : List D} {vs : List V} {d : D} {v : V} (i : Nat), Reps K O H ds vs → Rep K O H d v → Reps K O H (ds.set i d) (vs.set i v)
  | [], vs, d, v, i, h, h' => by rw [h.nil_inv]; simpa using Reps.nil
  | d' :: ds, vs, d, v, 0, h, h' => by
    obtain ⟨x, r, rfl, h1, h2⟩ := h.cons_inv
    exact Reps.cons h' h2
  | d' :: ds, vs, d, v, i + 1, h, h' => by
    obtain ⟨x, r, rfl, h1, h2⟩ := h.cons_inv
    exact Reps.cons h1 (h2.set i h')
/-! one form each -/
theorem Rep.none_inv {v : V} (h : Rep K O H .none v) : v = .non := by simpa only [Rep] using h
theorem Rep.bool_inv {b : Bool} {v : V} (h : Rep K O H (.bool b) v) : v = .bl b := by simpa only [Rep] using h
theorem Rep.int_inv {i : Int} {v : V} (h : Rep K O H (.int i) v) : v = .int i := by simpa only [Rep] using h
theorem Rep.str_inv {x : Str} {v : V} (h : Rep K O H (.str x) v) : v = .str x := by simpa only [Rep] using h
theorem Rep.list_inv {ds : List D} {v : V} (h : Rep K O H (.list ds) v) : ∃ a xs, v = .ref a ∧ (H a = some (.lst xs) ∧ ¬ O a) ∧ ds.length ≤ line ∧ Reps K O H ds xs := by simpa only [Rep] using h
theorem Rep.tuple_inv {ds : List D} {v : V} (h : Rep K O H (.tuple ds) v) : ∃ a xs, v = .ref a ∧ ((H a = some (.tup xs) ∧ ¬ O a) ∨ KT K a xs) ∧ ds.length ≤ line ∧ Reps K O H ds xs := by simpa only [Rep] using h
theorem Rep.dict_inv {kvs : List (D × D)} {v : V} (h : Rep K O H (.dict kvs) v) : (kvs = [] ∧ ∃ a, v = .ref a ∧ H a = some (.dK []) ∧ ¬ O a) ∨ ∃ a : Addr, kvs = [(.int a, .none)] ∧ v = .ref a := by simpa only [Rep] using h
theorem Rep.none : Rep K O H .none .non := by simp only [Rep]
theorem Rep.bool (b : Bool) : Rep K O H (.bool b) (.bl b) := by simp only [Rep]
theorem Rep.int (i : Int) : Rep K O H (.int i) (.int i) := by simp only [Rep]
theorem Rep.str (x : Str) : Rep K O H (.str x) (.str x) := by simp only [Rep]
theorem Rep.list {ds : List D} {a : Addr} {xs : List V} (h : H a = some (.lst xs)) (ho : ¬ O a) (hl : ds.length ≤ line) (r : Reps K O H ds xs) : Rep K O H (.list ds) (.ref a) := by
  simp only [Rep]
  exact ⟨a, xs, rfl, ⟨h, ho⟩, hl, r⟩
theorem Rep.tuple {ds : List D} {a : Addr} {xs : List V} (h : H a = some (.tup xs)) (ho : ¬ O a) (hl : ds.length ≤ line) (r : Reps K O H ds xs) : Rep K O H (.tuple ds) (.ref a) := by
  simp only [Rep]
  exact ⟨a, xs, rfl, .inl ⟨h, ho⟩, hl, r⟩
theorem Rep.hnd (a : Addr) : Rep K O H (Rf.hnd a) (.ref a) := by
  simp only [Rf.hnd, Rep]
  exact .inr ⟨a, rfl, rfl⟩
theorem KT.sq {a : Addr} {xs : List V} (h : KT K a xs) (H : Hp) : SqT K H a xs := .inr h
theorem Rep.tuple_sq {ds : List D} {v : V} (h : Rep K O H (.tuple ds) v) : ∃ a xs, v = .ref a ∧ SqT K H a xs ∧ ds.length ≤ line ∧ Reps K O H ds xs := by
  obtain ⟨a, xs, e, h1, hl, h2⟩ := h.tuple_inv
  refine ⟨a, xs, e, ?_, hl, h2⟩
  rcases h1 with ⟨h1, _⟩ | h1
  · exact SqT.of h1
  · exact h1.sq H
theorem line_size : line ≤ sizeLine := by rw [sizeLine_eq]; decide
theorem line_lt : line < sizeLine := by rw [sizeLine_eq]; decide
end

/-! ### what may change besides -/
/-- the world of changing things: its states, the addresses that may change, how a state lies in the heap -/
structure Wd (K : PySem.W.Frag) where
  S : Type
  M : Addr → Prop
  R : S → Hp → Prop
  stable : ∀ s H H', R s H → (∀ a o, (M a ∨ ∀ xs, o ≠ .lst xs) → H a = some o → H' a = some o) → R s H'
  there : ∀ s H a, R s H → M a → ∃ o, H a = some o
/-- all but M is kept -/
def Ext (M : Addr → Prop) (H H' : Hp) : Prop := ∀ a o, ¬ M a → H a = some o → H' a = some o
theorem Ext.refl {M : Addr → Prop} (H : Hp) : Ext M H H := fun _ _ _ h => h
theorem Ext.trans {M : Addr → Prop} {H H1 H2 : Hp} (a : Ext M H H1) (b : Ext M H1 H2) : Ext M H H2 := fun x o h e => b x o h (a x o h e)
theorem Ext.new {M : Addr → Prop} {H : Hp} {p : Addr} {o : HO} (h : H p = none) : Ext M H (upd H p o) := fun a u _ e => by
  rw [upd_ne (ne_of_none e h)]
  exact e
theorem Wd.new {K : PySem.W.Frag} {W : Wd K} {s : W.S} {H : Hp} {p : Addr} {o : HO} (r : W.R s H) (h : H p = none) : W.R s (upd H p o) :=
  W.stable s H _ r fun a u _ e => by
    rw [upd_ne (ne_of_none e h)]
    exact e
/-- what a frame leans on: addresses not to be touched, facts that stand -/
structure Bs where
  O : Addr → Prop
  P : Addr → HO → Prop
def Ow (O : Addr → Prop) (ads : List (Option Addr)) : Addr → Prop := fun a => O a ∨ some a ∈ ads
inductive EnvR (K : PySem.W.Frag) (O : Addr → Prop) (H : Hp) : En → List (Option Addr) → L2.St → Prop
  | nil : EnvR K O H [] [] []
  | no {e ad σ x} : EnvR K O H e ad σ → EnvR K O H (.no :: e) (none :: ad) (x :: σ)
  | val {e ad σ d v} : Rep K O H d v → EnvR K O H e ad σ → EnvR K O H (.val d :: e) (none :: ad) (some v :: σ)
  | own {e ad σ ds a xs} : H a = some (.lst xs) → ds.length ≤ line → Reps K O H ds xs → EnvR K O H e ad σ → EnvR K O H (.own ds :: e) (some a :: ad) (some (.ref a) :: σ)
section
variable {K : PySem.W.Frag} {O O' : Addr → Prop} {H H' : Hp} {e : En} {ad : List (Option Addr)} {σ : L2.St}
theorem EnvR.move (k : ∀ a o, ¬ O a → H a = some o → H' a = some o ∧ ¬ O' a) (h : EnvR K O H e ad σ) (own : ∀ a o, some a ∈ ad → H a = some o → H' a = some o) : EnvR K O' H' e ad σ := by
  induction h with
  | nil => exact .nil
  | no _ ih => exact .no (ih fun a o hm => own a o (List.mem_cons_of_mem _ hm))
  | val r _ ih => exact .val (r.move k _ _) (ih fun a o hm => own a o (List.mem_cons_of_mem _ hm))
  | own h1 h2 h3 _ ih => exact .own (own _ _ List.mem_cons_self h1) h2 (h3.move k _ _) (ih fun a o hm => own a o (List.mem_cons_of_mem _ hm))
theorem EnvR.len (h : EnvR K O H e ad σ) : e.length = σ.length ∧ ad.length = σ.length := by
  induction h with
  | nil => exact ⟨rfl, rfl⟩
  | no _ ih => simp only [List.length_cons]; omega
  | val _ _ ih => simp only [List.length_cons]; omega
  | own _ _ _ _ ih => simp only [List.length_cons]; omega
theorem EnvR.val_at : ∀ {e : En} {ad : List (Option Addr)} {σ : L2.St} {i : Nat} {d : D}, EnvR K O H e ad σ → e[i]? = some (.val d) → ∃ v, σ[i]? = some (some v) ∧ Rep K O H d v
  | _, _, _, i, d, .nil, h => by simp at h
  | _, _, _, 0, d, .no _, h => by simp at h
  | _, _, _, 0, d, .own _ _ _ _, h => by simp at h
  | _, _, _, 0, d, .val r _, h => by
    simp only [List.getElem?_cons_zero, Option.some.injEq, Slot.val.injEq] at h
    subst h
    exact ⟨_, rfl, r⟩
  | _, _, _, i + 1, d, .no t, h => by simpa using t.val_at (by simpa using h)
  | _, _, _, i + 1, d, .val _ t, h => by simpa using t.val_at (by simpa using h)
  | _, _, _, i + 1, d, .own _ _ _ t, h => by simpa using t.val_at (by simpa using h)
theorem EnvR.own_at : ∀ {e : En} {ad : List (Option Addr)} {σ : L2.St} {i : Nat} {ds : List D}, EnvR K O H e ad σ → e[i]? = some (.own ds) → ∃ a xs, σ[i]? = some (some (.ref a)) ∧ ad[i]? = some (some a) ∧ H a = some (.lst xs) ∧ ds.length ≤ line ∧ Reps K O H ds xs
  | _, _, _, i, d, .nil, h => by simp at h
  | _, _, _, 0, d, .no _, h => by simp at h
  | _, _, _, 0, d, .val _ _, h => by simp at h
  | _, _, _, 0, d, .own h1 h2 h3 _, h => by
    simp only [List.getElem?_cons_zero, Option.some.injEq, Slot.own.injEq] at h
    subst h
    exact ⟨_, _, rfl, rfl, h1, h2, h3⟩
  | _, _, _, i + 1, d, .no t, h => by simpa using t.own_at (by simpa using h)
  | _, _, _, i + 1, d, .val _ t, h => by simpa using t.own_at (by simpa using h)
  | _, _, _, i + 1, d, .own _ _ _ t, h => by simpa using t.own_at (by simpa using h)
/-- every owned address is tracked -/
theorem EnvR.tracked (h : EnvR K O H e ad σ) {a : Addr} (ha : some a ∈ ad) : ∃ xs, H a = some (.lst xs) := by
  induction h with
  | nil => simp at ha
  | no _ ih =>
    rcases List.mem_cons.mp ha with z | z
    · cases z
    · exact ih z
  | val _ _ ih =>
    rcases List.mem_cons.mp ha with z | z
    · cases z
    · exact ih z
  | own h1 _ _ _ ih =>
    rcases List.mem_cons.mp ha with z | z
    · cases z
      exact ⟨_, h1⟩
    · exact ih z
theorem EnvR.set_val : ∀ {e : En} {ad : List (Option Addr)} {σ : L2.St} {i : Nat} {d : D} {v : V}, EnvR K O H e ad σ → Rep K O H d v → EnvR K O H (e.set i (.val d)) (ad.set i none) (σ.set i (some v))
  | _, _, _, i, d, v, .nil, r => by simpa using EnvR.nil
  | _, _, _, 0, d, v, .no t, r => .val r t
  | _, _, _, 0, d, v, .val _ t, r => .val r t
  | _, _, _, 0, d, v, .own _ _ _ t, r => .val r t
  | _, _, _, i + 1, d, v, .no t, r => .no (t.set_val r)
  | _, _, _, i + 1, d, v, .val q t, r => .val q (t.set_val r)
  | _, _, _, i + 1, d, v, .own h1 h2 h3 t, r => .own h1 h2 h3 (t.set_val r)
theorem EnvR.set_own : ∀ {e : En} {ad : List (Option Addr)} {σ : L2.St} {i : Nat} {ds : List D} {a : Addr} {xs : List V}, EnvR K O H e ad σ → H a = some (.lst xs) → ds.length ≤ line → Reps K O H ds xs →
    EnvR K O H (e.set i (.own ds)) (ad.set i (some a)) (σ.set i (some (.ref a)))
  | _, _, _, i, d, v, _, .nil, r, _, _ => by simpa using EnvR.nil
  | _, _, _, 0, d, v, _, .no t, h1, h2, h3 => .own h1 h2 h3 t
  | _, _, _, 0, d, v, _, .val _ t, h1, h2, h3 => .own h1 h2 h3 t
  | _, _, _, 0, d, v, _, .own _ _ _ t, h1, h2, h3 => .own h1 h2 h3 t
  | _, _, _, i + 1, d, v, _, .no t, h1, h2, h3 => .no (t.set_own h1 h2 h3)
  | _, _, _, i + 1, d, v, _, .val q t, h1, h2, h3 => .val q (t.set_own h1 h2 h3)
  | _, _, _, i + 1, d, v, _, .own k1 k2 k3 t, h1, h2, h3 => .own k1 k2 k3 (t.set_own h1 h2 h3)
theorem EnvR.set_no : ∀ {e : En} {ad : List (Option Addr)} {σ : L2.St} {i : Nat} {x : Option V}, EnvR K O H e ad σ → EnvR K O H (e.set i .no) (ad.set i none) (σ.set i x)
  | _, _, _, i, x, .nil => by simpa using EnvR.nil
  | _, _, _, 0, x, .no t => .no t
  | _, _, _, 0, x, .val _ t => .no t
  | _, _, _, 0, x, .own _ _ _ t => .no t
  | _, _, _, i + 1, x, .no t => .no t.set_no
  | _, _, _, i + 1, x, .val q t => .val q t.set_no
  | _, _, _, i + 1, x, .own k1 k2 k3 t => .own k1 k2 k3 t.set_no
end
theorem mem_set_none {l : List (Option Addr)} {i : Nat} {a : Addr} (h : some a ∈ l.set i none) : some a ∈ l := by
  rcases List.mem_or_eq_of_mem_set h with z | z
  · exact z
  · cases z
theorem mem_set_some {l : List (Option Addr)} {i : Nat} {a b : Addr} (h : some a ∈ l.set i (some b)) : some a ∈ l ∨ a = b := by
  rcases List.mem_or_eq_of_mem_set h with z | z
  · exact .inl z
  · exact .inr (Option.some.inj z)
/-- each address once -/
def Once (l : List (Option Addr)) : Prop := ∀ (i j : Nat) (a : Addr), l[i]? = some (some a) → l[j]? = some (some a) → i = j
theorem Once.set_none {l : List (Option Addr)} (h : Once l) (i : Nat) : Once (l.set i none) := fun j k a h1 h2 => by
  rw [List.getElem?_set] at h1 h2
  split at h1
  · split at h1 <;> cases h1
  · split at h2
    · split at h2 <;> cases h2
    · exact h j k a h1 h2
theorem Once.set_some {l : List (Option Addr)} (h : Once l) (i : Nat) {b : Addr} (hb : some b ∉ l) : Once (l.set i (some b)) := fun j k a h1 h2 => by
  have nb : ∀ {m : Nat}, l[m]? = some (some b) → False := fun {m} e => hb (List.mem_of_getElem? e)
  rw [List.getElem?_set] at h1 h2
  split at h1
  · rename_i e1
    split at h1
    · cases h1
      split at h2
      · rename_i e2
        omega
      · exact (nb h2).elim
    · cases h1
  · split at h2
    · split at h2
      · cases h2
        exact (nb h1).elim
      · cases h2
    · exact h j k a h1 h2

/-- a frame's slots, as the environment says, over the base -/
structure Good (K : PySem.W.Frag) (W : Wd K) (B : Bs) (e : En) (ad : List (Option Addr)) (σ : L2.St) (H : Hp) (s : W.S) : Prop where
  env : EnvR K (Ow B.O ad) H e ad σ
  once : Once ad
  keep : ∀ a o, B.P a o → H a = some o
  out : ∀ a, some a ∈ ad → ¬ B.O a ∧ ∀ o, ¬ B.P a o
  trk : ∀ a, B.O a → ∃ o, H a = some o
  mo : ∀ a, W.M a → B.O a
  mp : ∀ a o, B.P a o → ¬ W.M a
  R : W.R s H
section
variable {K : PySem.W.Frag} {W : Wd K} {B : Bs} {e : En} {ad : List (Option Addr)} {σ : L2.St} {H H' : Hp} {s s' : W.S}
theorem Good.nm (G : Good K W B e ad σ H s) {a : Addr} (h : ¬ Ow B.O ad a) : ¬ W.M a := fun z => h (.inl (G.mo a z))
theorem Good.fresh (G : Good K W B e ad σ H s) {p : Addr} (h : H p = none) : ¬ Ow B.O ad p := fun z => by
  rcases z with z | z
  · obtain ⟨o, e⟩ := G.trk p z
    rw [h] at e; cases e
  · obtain ⟨xs, e⟩ := G.env.tracked z
    rw [h] at e; cases e
theorem Good.ext (G : Good K W B e ad σ H s) (x : Ext W.M H H') (r : W.R s' H') : Good K W B e ad σ H' s' where
  env := G.env.move (fun a o h e => ⟨x a o (G.nm h) e, h⟩) fun a o h e => x a o (fun z => (G.out a h).1 (G.mo a z)) e
  once := G.once
  keep := fun a o p => x a o (G.mp a o p) (G.keep a o p)
  out := G.out
  trk := fun a h => by
    obtain ⟨o, e⟩ := G.trk a h
    by_cases m : W.M a
    · exact W.there s' H' a r m
    · exact ⟨o, x a o m e⟩
  mo := G.mo
  mp := G.mp
  R := r
/-- what was data is data behind an expression -/
theorem Good.rep (G : Good K W B e ad σ H s) (x : Ext W.M H H') {d : D} {v : V} (r : Rep K (Ow B.O ad) H d v) : Rep K (Ow B.O ad) H' d v :=
  r.move (fun a o h e => ⟨x a o (G.nm h) e, h⟩) _ _
theorem Good.reps (G : Good K W B e ad σ H s) (x : Ext W.M H H') {d : List D} {v : List V} (r : Reps K (Ow B.O ad) H d v) : Reps K (Ow B.O ad) H' d v :=
  r.move (fun a o h e => ⟨x a o (G.nm h) e, h⟩) _ _
/-- data at the base's own word -/
theorem Good.back (G : Good K W B e ad σ H s) {d : D} {v : V} (r : Rep K (Ow B.O ad) H d v) : Rep K B.O H d v :=
  r.move (fun a o h e => ⟨e, fun z => h (.inl z)⟩) _ _
end
end Rf
end

section
set_option Elab.async false
set_option linter.all false
set_option maxRecDepth 100000
set_option maxHeartbeats 4000000
/-! RfExp: expressions by their readings (own work). -/
namespace Rf
open PySem PySem.Spec PyProof.Rows L2

/-- classes of exceptions by name: the class, its field -/
abbrev Xc := Str → Option (Addr × Str)
/-- an exception of the class c with the data d is let out -/
def ExcP (K : PySem.W.Frag) (W : Wd K) (cls : Xc) (O : Addr → Prop) (H : Hp) (Ex : XK) (c : Str) (d : D) (s' : W.S) : Prop :=
  ∃ C f, cls c = some (C, f) ∧ ∀ dct v H', Ext W.M H H' → W.R s' H' → H' dct = some (.xd [(f, v)]) → Rep K O H' d v → Ex (.ref C) (some dct) H'
def Post {S α : Type} (k : α → S → Prop) (x : Str → D → S → Prop) : Rs S α → Prop
  | .ok a s => k a s
  | .exc c d s => x c d s
  | .stuck => False
section
variable {S α β : Type} {k k' : α → S → Prop} {x x' : Str → D → S → Prop} {r : Rs S α}
theorem Post.imp (h : Post k x r) (hk : ∀ a s, k a s → k' a s) (hx : ∀ c d s, x c d s → x' c d s) : Post k' x' r := by
  cases r with
  | ok a s => exact hk a s h
  | exc c d s => exact hx c d s h
  | stuck => exact h
theorem Post.unbind {f : α → S → Rs S β} {k2 : β → S → Prop} (h : Post k2 x (r.bind f)) : Post (fun a s => Post k2 x (f a s)) x r := by
  cases r with
  | ok a s => exact h
  | exc c d s => exact h
  | stuck => exact h
theorem Post.ofO {o : Option α} {s : S} (h : Post k x (Rs.ofO o s)) : ∃ a, o = some a ∧ k a s := by
  cases o with
  | none => exact h.elim
  | some a => exact ⟨a, rfl, h⟩
end
theorem ExcP.ext {K : PySem.W.Frag} {W : Wd K} {cls : Xc} {O : Addr → Prop} {H H1 : Hp} {Ex : XK} {c : Str} {d : D} {s' : W.S} (h : ExcP K W cls O H Ex c d s') (x : Ext W.M H H1) : ExcP K W cls O H1 Ex c d s' := by
  obtain ⟨C, f, e, g⟩ := h
  exact ⟨C, f, e, fun dct v H' x' r hd hr => g dct v H' (x.trans x') r hd hr⟩

/-! ### what is claimed of an expression, a test, an argument list -/
section
variable (K : PySem.W.Frag) (W : Wd K) (cls : Xc) (Wx : WX)
/-- behind an expression -/
def PostD (O : Addr → Prop) (σ : L2.St) (H : Hp) (Q : VK) : Rs W.S D → Prop := Post (fun d s' => ∀ v H', Ext W.M H H' → W.R s' H' → Rep K O H' d v → Q v H') (ExcP K W cls O H fun c dd H' => Wx c dd σ H')
def PostB (O : Addr → Prop) (σ : L2.St) (H : Hp) (Q : Bool → Hp → Prop) : Rs W.S Bool → Prop := Post (fun b s' => ∀ H', Ext W.M H H' → W.R s' H' → Q b H') (ExcP K W cls O H fun c dd H' => Wx c dd σ H')
def PostA (O : Addr → Prop) (σ : L2.St) (H : Hp) (Q : List V → Hp → Prop) : Rs W.S (List D) → Prop := Post (fun ds s' => ∀ vs H', Ext W.M H H' → W.R s' H' → Reps K O H' ds vs → Q vs H') (ExcP K W cls O H fun c dd H' => Wx c dd σ H')
/-- a list that is new -/
def PostO (O : Addr → Prop) (σ : L2.St) (H : Hp) (Q : VK) : Rs W.S (List D) → Prop := Post (fun ds s' => ds.length ≤ line ∧ ∀ a xs H', H a = none → Ext W.M H H' → W.R s' H' → H' a = some (.lst xs) → Reps K (fun b => O b ∨ b = a) H' ds xs → Q (.ref a) H') (ExcP K W cls O H fun c dd H' => Wx c dd σ H')
def TEv (F : Fe W.S) : TE := fun σ H Q => ∃ B e ad s, Good K W B e ad σ H s ∧ PostD K W cls Wx (Ow B.O ad) σ H Q (F e s)
def TBv (F : Fb W.S) : TT := fun σ H Q => ∃ B e ad s, Good K W B e ad σ H s ∧ PostB K W cls Wx (Ow B.O ad) σ H Q (F e s)
def TAv (F : Fa W.S) : TA := fun σ H Q => ∃ B e ad s, Good K W B e ad σ H s ∧ PostA K W cls Wx (Ow B.O ad) σ H Q (F e s)
def TOv (F : Fa W.S) : TE := fun σ H Q => ∃ B e ad s, Good K W B e ad σ H s ∧ PostO K W cls Wx (Ow B.O ad) σ H Q (F e s)
end
theorem peConv {X : Cx} {e : Expr} {t t' : TE} (h : PE X e t) (c : ∀ σ H Q, t' σ H Q → t σ H Q) : PE X e t' := ⟨fun pins s σ H Q I q => h.run pins s σ H Q I (c σ H Q q)⟩
theorem ptConv {X : Cx} {e : Expr} {t t' : TT} (h : PT X e t) (c : ∀ σ H Q, t' σ H Q → t σ H Q) : PT X e t' := ⟨fun pins s σ H Q I q => h.run pins s σ H Q I (c σ H Q q)⟩
theorem pwConv {X : Cx} {e : Expr} {t t' : TT} (h : PW X e t) (c : ∀ σ H Q, t' σ H Q → t σ H Q) : PW X e t' := ⟨fun w pins s σ H Q I q => h.run w pins s σ H Q I (c σ H Q q)⟩
theorem paConv {X : Cx} {es : List Expr} {t t' : TA} (h : PA X es t) (c : ∀ σ H Q, t' σ H Q → t σ H Q) : PA X es t' := ⟨fun pos pins s σ H Q I q => h.run pos pins s σ H Q I (c σ H Q q)⟩
/-- the frame at hand, for a rule on values -/
structure Fit (K : PySem.W.Frag) (W : Wd K) (O : Addr → Prop) (H : Hp) (s : W.S) : Prop where
  trk : ∀ a, O a → ∃ o, H a = some o
  mo : ∀ a, W.M a → O a
  R : W.R s H
section
variable {K : PySem.W.Frag} {W : Wd K} {cls : Xc} {Wx : WX} {B : Bs} {e : En} {ad : List (Option Addr)} {σ : L2.St} {H H1 : Hp} {s s1 : W.S} {Q : VK} {O : Addr → Prop}
theorem Good.fit (G : Good K W B e ad σ H s) : Fit K W (Ow B.O ad) H s where
  trk := fun a h => by
    rcases h with h | h
    · exact G.trk a h
    · obtain ⟨xs, q⟩ := G.env.tracked h
      exact ⟨_, q⟩
  mo := fun a h => .inl (G.mo a h)
  R := G.R
theorem Fit.fresh (F : Fit K W O H s) {p : Addr} (h : H p = none) : ¬ O p := fun z => by
  obtain ⟨o, e⟩ := F.trk p z
  rw [h] at e
  cases e
theorem Fit.rep (F : Fit K W O H s) (x : Ext W.M H H1) {d : D} {v : V} (r : Rep K O H d v) : Rep K O H1 d v := r.move (fun a o h e => ⟨x a o (fun z => h (F.mo a z)) e, h⟩) _ _
theorem Fit.reps (F : Fit K W O H s) (x : Ext W.M H H1) {d : List D} {v : List V} (r : Reps K O H d v) : Reps K O H1 d v := r.move (fun a o h e => ⟨x a o (fun z => h (F.mo a z)) e, h⟩) _ _
/-- a new tuple -/
theorem Fit.tup (F : Fit K W O H s) {ds : List D} {xs : List V} (r : Reps K O H ds xs) (hl : ds.length ≤ line) {p : Addr} (hp : H p = none) : Rep K O (upd H p (.tup xs)) (.tuple ds) (.ref p) :=
  .tuple upd_same (F.fresh hp) hl (F.reps (Ext.new hp) r)
theorem Fit.lst (F : Fit K W O H s) {ds : List D} {xs : List V} (r : Reps K O H ds xs) (hl : ds.length ≤ line) {p : Addr} (hp : H p = none) : Rep K O (upd H p (.lst xs)) (.list ds) (.ref p) :=
  .list upd_same (F.fresh hp) hl (F.reps (Ext.new hp) r)
theorem Fit.next (F : Fit K W O H s) (x : Ext W.M H H1) (r : W.R s1 H1) : Fit K W O H1 s1 where
  trk := fun a h => by
    obtain ⟨o, e⟩ := F.trk a h
    by_cases m : W.M a
    · exact W.there s1 H1 a r m
    · exact ⟨o, x a o m e⟩
  mo := F.mo
  R := r
/-! ### a rule on one value, on two, on several -/
def Op1 (K : PySem.W.Frag) (W : Wd K) (f : D → Option D) (r : V → Hp → VK → Prop) : Prop :=
  ∀ (O : Addr → Prop) (H : Hp) (s : W.S) (x z : D) (v : V) (Q : VK), Fit K W O H s → Rep K O H x v → f x = some z → (∀ w H', Ext W.M H H' → W.R s H' → Rep K O H' z w → Q w H') → r v H Q
def Op2 (K : PySem.W.Frag) (W : Wd K) (f : D → D → Option D) (r : R2) : Prop :=
  ∀ (O : Addr → Prop) (H : Hp) (s : W.S) (x y z : D) (v u : V) (Q : VK), Fit K W O H s → Rep K O H x v → Rep K O H y u → f x y = some z → (∀ w H', Ext W.M H H' → W.R s H' → Rep K O H' z w → Q w H') → r v u H Q
def OpA (K : PySem.W.Frag) (W : Wd K) (f : List D → Option D) (r : List V → Hp → VK → Prop) : Prop :=
  ∀ (O : Addr → Prop) (H : Hp) (s : W.S) (xs : List D) (z : D) (vs : List V) (Q : VK), Fit K W O H s → Reps K O H xs vs → f xs = some z → (∀ w H', Ext W.M H H' → W.R s H' → Rep K O H' z w → Q w H') → r vs H Q
theorem tv1 {f : D → Option D} {r : V → Hp → VK → Prop} {a : Fe W.S} (h : Op1 K W f r) : ∀ σ H Q, TEv K W cls Wx (v1 f a) σ H Q → tUn r (TEv K W cls Wx a) σ H Q := by
  rintro σ H Q ⟨B, e, ad, s, G, P⟩
  refine ⟨B, e, ad, s, G, (Post.unbind P).imp (fun x s1 P1 v H1 e1 r1 hr => ?_) fun _ _ _ x => x⟩
  obtain ⟨z, hz, q⟩ := P1.ofO
  exact h _ H1 s1 x z v Q (G.ext e1 r1).fit hr hz fun w H' e' r' => q w H' (e1.trans e') r'
theorem tv2 {f : D → D → Option D} {r : R2} {a b : Fe W.S} (h : Op2 K W f r) : ∀ σ H Q, TEv K W cls Wx (v2 f a b) σ H Q → tOp r (TEv K W cls Wx a) (TEv K W cls Wx b) σ H Q := by
  rintro σ H Q ⟨B, e, ad, s, G, P⟩
  refine ⟨B, e, ad, s, G, (Post.unbind P).imp (fun x s1 P1 v H1 e1 r1 hx => ?_) fun _ _ _ x => x⟩
  have G1 := G.ext e1 r1
  refine ⟨B, e, ad, s1, G1, (Post.unbind P1).imp (fun y s2 P2 u H2 e2 r2 hy => ?_) fun _ _ _ x => x.ext e1⟩
  obtain ⟨z, hz, q⟩ := P2.ofO
  exact h _ H2 s2 x y z v u Q (G1.ext e2 r2).fit (G1.rep e2 hx) hy hz fun w H' e' r' => q w H' ((e1.trans e2).trans e') r'
theorem tvA {f : List D → Option D} {r : List V → Hp → VK → Prop} {a : Fa W.S} (h : OpA K W f r) : ∀ σ H Q, TEv K W cls Wx (vA f a) σ H Q → tCB r (TAv K W cls Wx a) σ H Q := by
  rintro σ H Q ⟨B, e, ad, s, G, P⟩
  refine ⟨B, e, ad, s, G, (Post.unbind P).imp (fun x s1 P1 v H1 e1 r1 hr => ?_) fun _ _ _ x => x⟩
  obtain ⟨z, hz, q⟩ := P1.ofO
  exact h _ H1 s1 x z v Q (G.ext e1 r1).fit hr hz fun w H' e' r' => q w H' (e1.trans e') r'
theorem tNilv : ∀ σ H Q, TAv K W cls Wx aNil σ H Q → tNil σ H Q := by
  rintro σ H Q ⟨B, e, ad, s, G, P⟩
  exact P [] H (Ext.refl H) G.R Reps.nil
theorem tConsv {a : Fe W.S} {r : Fa W.S} : ∀ σ H Q, TAv K W cls Wx (aCons a r) σ H Q → tCons (TEv K W cls Wx a) (TAv K W cls Wx r) σ H Q := by
  rintro σ H Q ⟨B, e, ad, s, G, P⟩
  refine ⟨B, e, ad, s, G, (Post.unbind P).imp (fun x s1 P1 v H1 e1 r1 hx => ?_) fun _ _ _ x => x⟩
  have G1 := G.ext e1 r1
  refine ⟨B, e, ad, s1, G1, (Post.unbind P1).imp (fun ys s2 P2 us H2 e2 r2 hy => ?_) fun _ _ _ x => x.ext e1⟩
  exact P2 (v :: us) H2 (e1.trans e2) r2 (Reps.cons (G1.rep e2 hx) hy)
end

/-! ### the rules -/
section
variable {X : Cx} {W : Wd X.K} {cls : Xc} {Wx : WX} {pos p : Pos}
abbrev PV (X : Cx) (W : Wd X.K) (cls : Xc) (Wx : WX) (e : Expr) (F : Fe W.S) : Prop := PE X e (TEv X.K W cls Wx F)
abbrev PB (X : Cx) (W : Wd X.K) (cls : Xc) (Wx : WX) (e : Expr) (F : Fb W.S) : Prop := PT X e (TBv X.K W cls Wx F)
abbrev PAr (X : Cx) (W : Wd X.K) (cls : Xc) (Wx : WX) (es : List Expr) (F : Fa W.S) : Prop := PA X es (TAv X.K W cls Wx F)
theorem rv_var (i : Nat) {x : Str} (hN : X.N[i]? = some x := by rfl) (hv : Vis X.env.scope x := by first | exact Or.inl rfl | exact Or.inr (Or.inl rfl) | exact Or.inr (Or.inr rfl)) (hd : (x == ("__debug__" : Str)) = false := by decide)
    (hcd : (x == ("__classdict__" : Str)) = false := by decide) : PV X W cls Wx (.Name x pos) (vVar i) := by
  refine peConv (pe_var hN hv hd hcd) fun σ H Q h => ?_
  obtain ⟨B, e, ad, s, G, P⟩ := h
  cases q : e[i]? with
  | none =>
    have P' : PostD X.K W cls Wx (Ow B.O ad) σ H Q (match e[i]? with | some (.val d) => .ok d s | _ => .stuck) := P
    rw [q] at P'
    exact P'.elim
  | some sl =>
    have P' : PostD X.K W cls Wx (Ow B.O ad) σ H Q (match e[i]? with | some (.val d) => .ok d s | _ => .stuck) := P
    rw [q] at P'
    cases sl with
    | no => exact P'.elim
    | own ds => exact P'.elim
    | val d =>
      obtain ⟨v, e1, r⟩ := G.env.val_at q
      exact ⟨v, e1, P' v H (Ext.refl H) G.R r⟩
theorem tv_cst {K : PySem.W.Frag} {W : Wd K} {d : D} {v : V} (hr : ∀ O H, Rep K O H d v) : ∀ σ H Q, TEv K W cls Wx (vCst d) σ H Q → tC v σ H Q := by
  rintro σ H Q ⟨B, e, ad, s, G, P⟩
  exact P v H (Ext.refl H) G.R (hr _ _)
theorem rv_int {i : Int} {j : Nat} : PV X W cls Wx (.Constant (.int i) j pos) (vCst (.int i)) := peConv pe_int (tv_cst fun _ _ => Rep.int i)
theorem rv_bool {b : Bool} {j : Nat} : PV X W cls Wx (.Constant (.bool b) j pos) (vCst (.bool b)) := peConv pe_bl (tv_cst fun _ _ => Rep.bool b)
theorem rv_none {j : Nat} : PV X W cls Wx (.Constant .none j pos) (vCst .none) := peConv pe_non (tv_cst fun _ _ => Rep.none)
theorem rv_str {x : Str} {j : Nat} : PV X W cls Wx (.Constant (.str x) j pos) (vCst (.str x)) := peConv pe_str (tv_cst fun _ _ => Rep.str x)
theorem rv_gint {x : Str} {i : Int} {t : Tok} (hg : Gl X x) (hm : X.mg x = some (.int i t)) (hd : (x == ("__debug__" : Str)) = false := by decide) : PV X W cls Wx (.Name x pos) (vCst (.int i)) :=
  peConv (pe_glob hg hm (v := .int i) ⟨t, rfl⟩ hd) (tv_cst fun _ _ => Rep.int i)
theorem rv_gstr {x z : Str} {t : Tok} (hg : Gl X x) (hm : X.mg x = some (.str z t)) (hd : (x == ("__debug__" : Str)) = false := by decide) : PV X W cls Wx (.Name x pos) (vCst (.str z)) :=
  peConv (pe_glob hg hm (v := .str z) ⟨t, rfl⟩ hd) (tv_cst fun _ _ => Rep.str z)
/-- a tuple of the module's own -/
theorem rv_gtup {x : Str} {a : Addr} {ds : List D} {xs : List V} (hg : Gl X x) (hm : X.mg x = some (.ref a)) (hk : KT X.K a xs) (hl : ds.length ≤ line) (hr : ∀ O H, Reps X.K O H ds xs) (hd : (x == ("__debug__" : Str)) = false := by decide) : PV X W cls Wx (.Name x pos) (vCst (.tuple ds)) :=
  peConv (pe_glob hg hm (v := .ref a) rfl hd) (tv_cst fun O H => by
    simp only [Rep]
    exact ⟨a, xs, rfl, .inr hk, hl, hr O H⟩)
theorem ra_nil : PAr X W cls Wx [] aNil := paConv pa_nil tNilv
theorem ra_cons {e : Expr} {es : List Expr} {a : Fe W.S} {r : Fa W.S} (ha : PV X W cls Wx e a) (hr : PAr X W cls Wx es r) (hs : starEach (e :: es) X.env = (false, eval e X.env) :: starEach es X.env := by rfl) : PAr X W cls Wx (e :: es) (aCons a r) :=
  paConv (pa_cons ha hr hs) tConsv
/-! displays -/
theorem tv_tup {K : PySem.W.Frag} {W : Wd K} {a : Fa W.S} : ∀ σ H Q, TEv K W cls Wx (vA dTup a) σ H Q → tTup (TAv K W cls Wx a) σ H Q := by
  rintro σ H Q ⟨B, e, ad, s, G, P⟩
  refine ⟨B, e, ad, s, G, (Post.unbind P).imp (fun x s1 P1 v H1 e1 r1 hr => ?_) fun _ _ _ x => x⟩
  obtain ⟨z, hz, q⟩ := P1.ofO
  unfold dTup at hz
  split at hz
  · rename_i hl
    cases hz
    have F1 := (G.ext e1 r1).fit
    refine ⟨by rw [hr.length]; exact Nat.le_trans hl line_size, fun p hp => q _ _ (e1.trans (Ext.new hp)) (Wd.new r1 hp) (F1.tup hr hl hp)⟩
  · cases hz
theorem tv_lst {K : PySem.W.Frag} {W : Wd K} {a : Fa W.S} : ∀ σ H Q, TEv K W cls Wx (vA dLst a) σ H Q → tLst (TAv K W cls Wx a) σ H Q := by
  rintro σ H Q ⟨B, e, ad, s, G, P⟩
  refine ⟨B, e, ad, s, G, (Post.unbind P).imp (fun x s1 P1 v H1 e1 r1 hr => ?_) fun _ _ _ x => x⟩
  obtain ⟨z, hz, q⟩ := P1.ofO
  unfold dLst at hz
  split at hz
  · rename_i hl
    cases hz
    have F1 := (G.ext e1 r1).fit
    refine ⟨by rw [hr.length]; exact Nat.le_trans hl line_size, fun p hp => q _ _ (e1.trans (Ext.new hp)) (Wd.new r1 hp) (F1.lst hr hl hp)⟩
  · cases hz
theorem rv_tup {es : List Expr} {a : Fa W.S} {x1} (h : PAr X W cls Wx es a) : PV X W cls Wx (.Tuple es x1 pos) (vA dTup a) := peConv (pe_tup h) tv_tup
theorem rv_lst {es : List Expr} {a : Fa W.S} (h : PAr X W cls Wx es a) : PV X W cls Wx (.List es pos) (vA dLst a) := peConv (pe_lst h) tv_lst
theorem rv_dic : PV X W cls Wx (.Dict [] [] pos) (vCst (.dict [])) := by
  refine peConv pe_dnewK fun σ H Q h => ?_
  obtain ⟨B, e, ad, s, G, P⟩ := h
  intro d hd
  refine P _ _ (Ext.new hd) (Wd.new G.R hd) ?_
  simp only [Rep]
  exact .inl ⟨trivial, d, rfl, upd_same, G.fresh hd⟩
/-! operators -/
theorem rv_bin {op : Operator} {f : D → D → Option D} {r : R2} {a b : Expr} {fa fb : Fe W.S} (ho : OpR X (binaryOp op) r) (h2 : Op2 X.K W f r) (ha : PV X W cls Wx a fa) (hb : PV X W cls Wx b fb) : PV X W cls Wx (.BinOp a op b pos) (v2 f fa fb) :=
  peConv (pe_op ho ha hb) (tv2 h2)
theorem rv_cmp {op : CmpOp} {f : D → D → Option D} {r : R2} {a b : Expr} {fa fb : Fe W.S} (ho : OpR X (compareOp op) r) (h2 : Op2 X.K W f r) (ha : PV X W cls Wx a fa) (hb : PV X W cls Wx b fb) (hm : behindInMarks op b = false) :
    PV X W cls Wx (.Compare a [op] [b] pos) (v2 f fa fb) := peConv (pe_cmpR ho ha hb hm) (tv2 h2)
theorem rb_cmp {op : CmpOp} {f : D → D → Option D} {r : R2} {a b : Expr} {fa fb : Fe W.S} (ho : OpR X (compareOp op) r) (h2 : Op2 X.K W f r) (ha : PV X W cls Wx a fa) (hb : PV X W cls Wx b fb) (hm : behindInMarks op b = false) :
    PB X W cls Wx (.Compare a [op] [b] pos) (bVal (v2 f fa fb)) := by
  refine ptConv (pt_cmpR ho ha hb hm) fun σ H Q h => tv2 h2 σ H _ ?_
  obtain ⟨B, e, ad, s, G, P⟩ := h
  refine ⟨B, e, ad, s, G, (Post.unbind P).imp (fun x s1 P1 v H1 e1 r1 hr => ?_) fun _ _ _ x => x⟩
  cases x with
  | bool b => exact ⟨b, hr.bool_inv, P1 H1 e1 r1⟩
  | _ => exact P1.elim
/-- an expression as a test -/
theorem rb_val {e : Expr} {f : Fe W.S} (h : PV X W cls Wx e f) (he : ∀ whole, isTrue e X.env whole = (do let v ← whole; standAt e.pos; holding [v] (truthy v)) := by intro _; rfl) : PB X W cls Wx e (bVal f) := by
  refine ptConv (pt_val h he) fun σ H Q h => ?_
  obtain ⟨B, e, ad, s, G, P⟩ := h
  refine ⟨B, e, ad, s, G, (Post.unbind P).imp (fun x s1 P1 v H1 e1 r1 hr => ?_) fun _ _ _ x => x⟩
  cases x with
  | bool b => exact ⟨b, hr.bool_inv, P1 H1 e1 r1⟩
  | _ => exact P1.elim
theorem rb_not {a : Expr} {f : Fb W.S} (h : PB X W cls Wx a f) : PB X W cls Wx (.UnaryOp .Not a pos) (bNot f) := by
  refine ptConv (pt_not h) fun σ H Q h => ?_
  obtain ⟨B, e, ad, s, G, P⟩ := h
  exact ⟨B, e, ad, s, G, (Post.unbind P).imp (fun x s1 P1 H1 e1 r1 => P1 H1 e1 r1) fun _ _ _ x => x⟩
abbrev PWr (X : Cx) (W : Wd X.K) (cls : Xc) (Wx : WX) (e : Expr) (F : Fb W.S) : Prop := PW X e (TBv X.K W cls Wx F)
theorem rw_and1 {a : Expr} {f : Fb W.S} (h : PB X W cls Wx a f) : PWr X W cls Wx (.BoolOp .And [a] pos) f := pw_and1 h
theorem rw_or1 {a : Expr} {f : Fb W.S} (h : PB X W cls Wx a f) : PWr X W cls Wx (.BoolOp .Or [a] pos) f := pw_or1 h
theorem tb_and {K : PySem.W.Frag} {W : Wd K} {f g : Fb W.S} : ∀ σ H Q, TBv K W cls Wx (bAnd f g) σ H Q → L2.tAnd (TBv K W cls Wx f) (TBv K W cls Wx g) σ H Q := by
  rintro σ H Q ⟨B, e, ad, s, G, P⟩
  refine ⟨B, e, ad, s, G, (Post.unbind P).imp (fun x s1 P1 H1 e1 r1 => ?_) fun _ _ _ x => x⟩
  cases x with
  | true =>
    show TBv K W cls Wx g σ H1 Q
    exact ⟨B, e, ad, s1, G.ext e1 r1, Post.imp (show PostB K W cls Wx (Ow B.O ad) σ H Q (g e s1) from P1) (fun b s2 k H2 e2 r2 => k H2 (e1.trans e2) r2) fun _ _ _ x => x.ext e1⟩
  | false => exact P1 H1 e1 r1
theorem tb_or {K : PySem.W.Frag} {W : Wd K} {f g : Fb W.S} : ∀ σ H Q, TBv K W cls Wx (bOr f g) σ H Q → L2.tOr (TBv K W cls Wx f) (TBv K W cls Wx g) σ H Q := by
  rintro σ H Q ⟨B, e, ad, s, G, P⟩
  refine ⟨B, e, ad, s, G, (Post.unbind P).imp (fun x s1 P1 H1 e1 r1 => ?_) fun _ _ _ x => x⟩
  cases x with
  | false =>
    show TBv K W cls Wx g σ H1 Q
    exact ⟨B, e, ad, s1, G.ext e1 r1, Post.imp (show PostB K W cls Wx (Ow B.O ad) σ H Q (g e s1) from P1) (fun b s2 k H2 e2 r2 => k H2 (e1.trans e2) r2) fun _ _ _ x => x.ext e1⟩
  | true => exact P1 H1 e1 r1
theorem rw_and {a b : Expr} {rest : List Expr} {f g : Fb W.S} (ha : PB X W cls Wx a f) (hb : PWr X W cls Wx (.BoolOp .And (b :: rest) pos) g) : PWr X W cls Wx (.BoolOp .And (a :: b :: rest) pos) (bAnd f g) := pwConv (pw_and ha hb) tb_and
theorem rw_or {a b : Expr} {rest : List Expr} {f g : Fb W.S} (ha : PB X W cls Wx a f) (hb : PWr X W cls Wx (.BoolOp .Or (b :: rest) pos) g) : PWr X W cls Wx (.BoolOp .Or (a :: b :: rest) pos) (bOr f g) := pwConv (pw_or ha hb) tb_or
theorem rb_w {e : Expr} {f : Fb W.S} (h : PWr X W cls Wx e f) : PB X W cls Wx e f := h.pt
/-! and, or, not as values: of truth values -/
theorem rv_one {op} {a : Expr} {f : Fe W.S} (h : PV X W cls Wx a f) : PV X W cls Wx (.BoolOp op [a] pos) f := pe_one h
theorem rv_and {a b : Expr} {rest : List Expr} {f g : Fe W.S} (ha : PV X W cls Wx a f) (hb : PV X W cls Wx (.BoolOp .And (b :: rest) pos) g) : PV X W cls Wx (.BoolOp .And (a :: b :: rest) pos) (vIte (bVal f) g (vCst (.bool false))) := by
  refine peConv (pe_and ha hb) fun σ H Q h => ?_
  obtain ⟨B, e, ad, s, G, P⟩ := h
  refine ⟨B, e, ad, s, G, (Post.unbind (Post.unbind P)).imp (fun x s1 P1 v H1 e1 r1 hr => ?_) fun _ _ _ x => x⟩
  cases x with
  | bool c =>
    refine ⟨c, hr.bool_inv, ?_⟩
    cases c with
    | true =>
      show TEv X.K W cls Wx g σ H1 Q
      exact ⟨B, e, ad, s1, G.ext e1 r1, Post.imp (show PostD X.K W cls Wx (Ow B.O ad) σ H Q (g e s1) from P1) (fun b s2 k v2 H2 e2 r2 => k v2 H2 (e1.trans e2) r2) fun _ _ _ x => x.ext e1⟩
    | false => exact P1 (.bl false) H1 e1 r1 (Rep.bool false)
  | _ => exact P1.elim
theorem rv_or {a b : Expr} {rest : List Expr} {f g : Fe W.S} (ha : PV X W cls Wx a f) (hb : PV X W cls Wx (.BoolOp .Or (b :: rest) pos) g) : PV X W cls Wx (.BoolOp .Or (a :: b :: rest) pos) (vIte (bVal f) (vCst (.bool true)) g) := by
  refine peConv (pe_or ha hb) fun σ H Q h => ?_
  obtain ⟨B, e, ad, s, G, P⟩ := h
  refine ⟨B, e, ad, s, G, (Post.unbind (Post.unbind P)).imp (fun x s1 P1 v H1 e1 r1 hr => ?_) fun _ _ _ x => x⟩
  cases x with
  | bool c =>
    refine ⟨c, hr.bool_inv, ?_⟩
    cases c with
    | false =>
      show TEv X.K W cls Wx g σ H1 Q
      exact ⟨B, e, ad, s1, G.ext e1 r1, Post.imp (show PostD X.K W cls Wx (Ow B.O ad) σ H Q (g e s1) from P1) (fun b s2 k v2 H2 e2 r2 => k v2 H2 (e1.trans e2) r2) fun _ _ _ x => x.ext e1⟩
    | true => exact P1 (.bl true) H1 e1 r1 (Rep.bool true)
  | _ => exact P1.elim
theorem rv_not {a : Expr} {f : Fe W.S} (ha : PV X W cls Wx a f) : PV X W cls Wx (.UnaryOp .Not a pos) (vB (bNot (bVal f))) := by
  refine peConv (pe_not ha) fun σ H Q h => ?_
  obtain ⟨B, e, ad, s, G, P⟩ := h
  refine ⟨B, e, ad, s, G, (Post.unbind (Post.unbind (Post.unbind P))).imp (fun x s1 P1 v H1 e1 r1 hr => ?_) fun _ _ _ x => x⟩
  cases x with
  | bool c => exact ⟨c, hr.bool_inv, P1 (.bl (!c)) H1 e1 r1 (Rep.bool _)⟩
  | _ => exact P1.elim
theorem rv_ite {c a b : Expr} {fc : Fb W.S} {fa fb : Fe W.S} (hc : PB X W cls Wx c fc) (ha : PV X W cls Wx a fa) (hb : PV X W cls Wx b fb) : PV X W cls Wx (.IfExp c a b pos) (vIte fc fa fb) := by
  refine peConv (pe_ifExp hc ha hb) fun σ H Q h => ?_
  obtain ⟨B, e, ad, s, G, P⟩ := h
  refine ⟨B, e, ad, s, G, (Post.unbind P).imp (fun x s1 P1 H1 e1 r1 => ?_) fun _ _ _ x => x⟩
  cases x with
  | true =>
    show TEv X.K W cls Wx fa σ H1 Q
    exact ⟨B, e, ad, s1, G.ext e1 r1, Post.imp (show PostD X.K W cls Wx (Ow B.O ad) σ H Q (fa e s1) from P1) (fun b s2 k v2 H2 e2 r2 => k v2 H2 (e1.trans e2) r2) fun _ _ _ x => x.ext e1⟩
  | false =>
    show TEv X.K W cls Wx fb σ H1 Q
    exact ⟨B, e, ad, s1, G.ext e1 r1, Post.imp (show PostD X.K W cls Wx (Ow B.O ad) σ H Q (fb e s1) from P1) (fun b s2 k v2 H2 e2 r2 => k v2 H2 (e1.trans e2) r2) fun _ _ _ x => x.ext e1⟩
/-- is None, is not None -/
def isNone : D → Bool
  | .none => true
  | _ => false
def dIsN (d : D) : Option D := some (.bool (isNone d))
def dNotN (d : D) : Option D := some (.bool (!isNone d))
theorem isN_of {K : PySem.W.Frag} {O : Addr → Prop} {H : Hp} {d : D} {v : V} (h : Rep K O H d v) : decide (v = .non) = isNone d := by
  cases d with
  | none => obtain rfl := h.none_inv; rfl
  | bool b => obtain rfl := h.bool_inv; rfl
  | int b => obtain rfl := h.int_inv; rfl
  | str b => obtain rfl := h.str_inv; rfl
  | list ds => obtain ⟨a, xs, rfl, _⟩ := h.list_inv; rfl
  | tuple ds => obtain ⟨a, xs, rfl, _⟩ := h.tuple_inv; rfl
  | dict kvs => rcases h.dict_inv with ⟨_, a, rfl, _⟩ | ⟨a, _, rfl⟩ <;> rfl
theorem rv_isN {a : Expr} {f : Fe W.S} {j pos'} (ha : PV X W cls Wx a f) : PV X W cls Wx (.Compare a [.Is] [.Constant .none j pos'] pos) (v1 dIsN f) := by
  refine peConv (pe_cmp (pc_isN ha) (nobehind _ (by decide) (by decide))) fun σ H Q h => ?_
  obtain ⟨B, e, ad, s, G, P⟩ := h
  refine ⟨B, e, ad, s, G, (Post.unbind P).imp (fun x s1 P1 v H1 e1 r1 hr => ?_) fun _ _ _ x => x⟩
  obtain ⟨z, hz, q⟩ := P1.ofO
  rw [isN_of hr]
  cases hz
  exact q _ H1 e1 r1 (Rep.bool _)
theorem rv_notN {a : Expr} {f : Fe W.S} {j pos'} (ha : PV X W cls Wx a f) : PV X W cls Wx (.Compare a [.IsNot] [.Constant .none j pos'] pos) (v1 dNotN f) := by
  refine peConv (pe_cmp (pc_notN ha) (nobehind _ (by decide) (by decide))) fun σ H Q h => ?_
  obtain ⟨B, e, ad, s, G, P⟩ := h
  refine ⟨B, e, ad, s, G, (Post.unbind P).imp (fun x s1 P1 v H1 e1 r1 hr => ?_) fun _ _ _ x => x⟩
  obtain ⟨z, hz, q⟩ := P1.ofO
  rw [isN_of hr]
  cases hz
  exact q _ H1 e1 r1 (Rep.bool _)
theorem tb_of {f : Fe W.S} {e : Expr} {t : TE} (hp : PT X e (tB t)) (h : ∀ σ H Q, TEv X.K W cls Wx f σ H Q → t σ H Q) : PB X W cls Wx e (bVal f) := by
  refine ptConv hp fun σ H Q hh => h σ H _ ?_
  obtain ⟨B, e, ad, s, G, P⟩ := hh
  refine ⟨B, e, ad, s, G, (Post.unbind P).imp (fun x s1 P1 v H1 e1 r1 hr => ?_) fun _ _ _ x => x⟩
  cases x with
  | bool b => exact ⟨b, hr.bool_inv, P1 H1 e1 r1⟩
  | _ => exact P1.elim
theorem tv_isN {K : PySem.W.Frag} {W : Wd K} {f : Fe W.S} : ∀ σ H Q, TEv K W cls Wx (v1 dIsN f) σ H Q → tIsN (TEv K W cls Wx f) σ H Q := by
  rintro σ H Q ⟨B, e, ad, s, G, P⟩
  refine ⟨B, e, ad, s, G, (Post.unbind P).imp (fun x s1 P1 v H1 e1 r1 hr => ?_) fun _ _ _ x => x⟩
  obtain ⟨z, hz, q⟩ := P1.ofO
  rw [isN_of hr]
  cases hz
  exact q _ H1 e1 r1 (Rep.bool _)
theorem tv_notN {K : PySem.W.Frag} {W : Wd K} {f : Fe W.S} : ∀ σ H Q, TEv K W cls Wx (v1 dNotN f) σ H Q → tNotN (TEv K W cls Wx f) σ H Q := by
  rintro σ H Q ⟨B, e, ad, s, G, P⟩
  refine ⟨B, e, ad, s, G, (Post.unbind P).imp (fun x s1 P1 v H1 e1 r1 hr => ?_) fun _ _ _ x => x⟩
  obtain ⟨z, hz, q⟩ := P1.ofO
  rw [isN_of hr]
  cases hz
  exact q _ H1 e1 r1 (Rep.bool _)
theorem rb_isN {a : Expr} {f : Fe W.S} {j pos'} (ha : PV X W cls Wx a f) : PB X W cls Wx (.Compare a [.Is] [.Constant .none j pos'] pos) (bVal (v1 dIsN f)) := tb_of (pt_cmp (pc_isN ha) (nobehind _ (by decide) (by decide))) tv_isN
theorem rb_notN {a : Expr} {f : Fe W.S} {j pos'} (ha : PV X W cls Wx a f) : PB X W cls Wx (.Compare a [.IsNot] [.Constant .none j pos'] pos) (bVal (v1 dNotN f)) := tb_of (pt_cmp (pc_notN ha) (nobehind _ (by decide) (by decide))) tv_notN
end
end Rf
end

section
set_option Elab.async false
set_option linter.all false
set_option maxRecDepth 100000
set_option maxHeartbeats 4000000
/-! RfOp: the operators on data trees (own work). -/
namespace Rf
open PySem PySem.Spec PyProof.Rows L2

section
variable {K : PySem.W.Frag} {W : Wd K} {O : Addr → Prop} {H : Hp}
theorem Rep.sq {d : D} {v : V} (h : Rep K O H d v) : ∀ ds, d = .tuple ds → ∃ a xs, v = .ref a ∧ SqT K H a xs ∧ ds.length ≤ line ∧ Reps K O H ds xs := fun ds e => by
  subst e
  exact h.tuple_sq
/-! ### + and - -/
def rAddA (K : PySem.W.Frag) : R2 := fun x y H Q => (∃ i j, x = .int i ∧ y = .int j ∧ Q (.int (i + j)) H) ∨ rCatA K x y H Q ∨ rCat x y H Q
theorem op_addA {X : Cx} : OpR X (binaryOp .Add) (rAddA X.K) := op_add.or (op_catA.or op_cat)
theorem o2_add : Op2 K W dAdd (rAddA K) := by
  intro O H s x y z v u Q F hx hy e q
  cases x with
  | int i =>
    cases y with
    | int j =>
      cases e
      obtain rfl := hx.int_inv
      obtain rfl := hy.int_inv
      exact .inl ⟨i, j, rfl, rfl, q _ H (Ext.refl H) F.R (Rep.int _)⟩
    | _ => cases e
  | tuple ds =>
    cases y with
    | tuple es =>
      obtain ⟨a, xs, rfl, h1, l1, r1⟩ := hx.tuple_sq
      obtain ⟨b, ys, rfl, h2, l2, r2⟩ := hy.tuple_sq
      have e' : (if ds.length + es.length ≤ line then some (PyData.tuple (ds ++ es)) else none) = some z := e
      split at e'
      · rename_i hl
        cases e'
        refine .inr (.inl ⟨a, b, xs, ys, rfl, rfl, h1, h2, by rw [r1.length, r2.length]; exact Nat.le_trans hl line_size, fun ex => ?_, fun _ ey => ?_, fun _ _ p hp => ?_⟩)
        · subst ex
          have : ds = [] := by
            cases ds with
            | nil => rfl
            | cons d r => obtain ⟨_, _, z, _⟩ := r1.cons_inv; cases z
          subst this
          exact q _ H (Ext.refl H) F.R (by simpa using hy)
        · subst ey
          have : es = [] := by
            cases es with
            | nil => rfl
            | cons d r => obtain ⟨_, _, z, _⟩ := r2.cons_inv; cases z
          subst this
          exact q _ H (Ext.refl H) F.R (by simpa using hx)
        · exact q _ _ (Ext.new hp) (Wd.new F.R hp) (F.tup (r1.append r2) (by rw [List.length_append]; exact hl) hp)
      · cases e'
    | _ => cases e
  | list ds =>
    cases y with
    | list es =>
      obtain ⟨a, xs, rfl, h1, l1, r1⟩ := hx.list_inv
      obtain ⟨b, ys, rfl, h2, l2, r2⟩ := hy.list_inv
      have e' : (if ds.length + es.length ≤ line then some (PyData.list (ds ++ es)) else none) = some z := e
      split at e'
      · rename_i hl
        cases e'
        exact .inr (.inr ⟨a, b, xs, ys, rfl, rfl, h1.1, h2.1, by rw [r1.length, r2.length]; exact Nat.le_trans hl line_size, fun p hp => q _ _ (Ext.new hp) (Wd.new F.R hp) (F.lst (r1.append r2) (by rw [List.length_append]; exact hl) hp)⟩)
      · cases e'
    | _ => cases e
  | _ => cases y <;> cases e
theorem o2_sub : Op2 K W dSub (rI0 fun i j => .int (i - j)) := by
  intro O H s x y z v u Q F hx hy e q
  cases x with
  | int i =>
    cases y with
    | int j =>
      cases e
      obtain rfl := hx.int_inv
      obtain rfl := hy.int_inv
      exact ⟨i, j, rfl, rfl, q _ H (Ext.refl H) F.R (Rep.int _)⟩
    | _ => cases e
  | _ => cases y <;> cases e
theorem o2_cmp {p : Int → Int → Bool} : Op2 K W (dCmp p) (rI0 fun i j => .bl (p i j)) := by
  intro O H s x y z v u Q F hx hy e q
  cases x with
  | int i =>
    cases y with
    | int j =>
      cases e
      obtain rfl := hx.int_inv
      obtain rfl := hy.int_inv
      exact ⟨i, j, rfl, rfl, q _ H (Ext.refl H) F.R (Rep.bool _)⟩
    | _ => cases e
  | _ => cases y <;> cases e
abbrev dLt : D → D → Option D := dCmp fun i j => decide (i < j)
abbrev dLe : D → D → Option D := dCmp fun i j => decide (i ≤ j)
abbrev dGt : D → D → Option D := dCmp fun i j => decide (j < i)
abbrev dGe : D → D → Option D := dCmp fun i j => decide (j ≤ i)
/-- i % j, j above 0 -/
def dMod : D → D → Option D
  | .int i, .int j => if 0 < j then some (.int (i % j)) else none
  | _, _ => none
theorem o2_mod : Op2 K W dMod (rI (fun _ j => 0 < j) fun i j => .int (i % j)) := by
  intro O H s x y z v u Q F hx hy e q
  cases x with
  | int i =>
    cases y with
    | int j =>
      have e' : (if 0 < j then some (PyData.int (i % j)) else none) = some z := e
      split at e'
      · rename_i hj
        cases e'
        obtain rfl := hx.int_inv
        obtain rfl := hy.int_inv
        exact ⟨i, j, rfl, rfl, hj, q _ H (Ext.refl H) F.R (Rep.int _)⟩
      · cases e'
    | _ => cases e
  | _ => cases y <;> cases e
/-- i * j, one of both below 2 ^ 64; a tuple some times -/
def dMul : D → D → Option D
  | .int i, .int j => if (-(2 ^ 64) < i ∧ i < 2 ^ 64) ∨ (-(2 ^ 64) < j ∧ j < 2 ^ 64) then some (.int (i * j)) else none
  | .tuple ds, .int k => if ds ≠ [] ∧ 2 ≤ k ∧ k ≤ 1000 ∧ ds.length ≤ 1000 then some (.tuple (List.replicate k.toNat ds).flatten) else none
  | _, _ => none
def rMulA (K : PySem.W.Frag) : R2 := fun x y H Q => rI CMul (fun i j => .int (i * j)) x y H Q ∨ rRepT K x y H Q
theorem op_mulA {X : Cx} : OpR X (binaryOp .Mult) (rMulA X.K) := op_mul.or op_repT
theorem Reps.rep {ds : List D} {xs : List V} (h : Reps K O H ds xs) : ∀ n : Nat, Reps K O H (List.replicate n ds).flatten (List.replicate n xs).flatten
  | 0 => Reps.nil
  | n + 1 => by
    rw [List.replicate_succ, List.replicate_succ, List.flatten_cons, List.flatten_cons]
    exact h.append (h.rep n)
theorem len_rep {α : Type} {ds : List α} : ∀ n : Nat, (List.replicate n ds).flatten.length = n * ds.length
  | 0 => by simp
  | n + 1 => by
    rw [List.replicate_succ, List.flatten_cons, List.length_append, len_rep n, Nat.succ_mul, Nat.add_comm]
theorem o2_mul : Op2 K W dMul (rMulA K) := by
  intro O H s x y z v u Q F hx hy e q
  cases x with
  | int i =>
    cases y with
    | int j =>
      have e' : (if (-(2 ^ 64) < i ∧ i < 2 ^ 64) ∨ (-(2 ^ 64) < j ∧ j < 2 ^ 64) then some (PyData.int (i * j)) else none) = some z := e
      split at e'
      · rename_i hj
        cases e'
        obtain rfl := hx.int_inv
        obtain rfl := hy.int_inv
        exact .inl ⟨i, j, rfl, rfl, hj, q _ H (Ext.refl H) F.R (Rep.int _)⟩
      · cases e'
    | _ => cases e
  | tuple ds =>
    cases y with
    | int k =>
      have e' : (if ds ≠ [] ∧ 2 ≤ k ∧ k ≤ 1000 ∧ ds.length ≤ 1000 then some (PyData.tuple (List.replicate k.toNat ds).flatten) else none) = some z := e
      split at e'
      · rename_i hj
        cases e'
        obtain ⟨h0, h1, h2, h3⟩ := hj
        obtain ⟨a, xs, rfl, hs, l1, r1⟩ := hx.tuple_sq
        obtain rfl := hy.int_inv
        refine .inr ⟨a, k, xs, rfl, rfl, hs, fun z => ?_, h1, h2, by rw [r1.length]; exact h3, fun p hp => q _ _ (Ext.new hp) (Wd.new F.R hp) (F.tup (r1.rep _) ?_ hp)⟩
        · subst z
          cases ds with
          | nil => exact h0 rfl
          | cons d r => obtain ⟨_, _, z, _⟩ := r1.cons_inv; cases z
        · rw [len_rep]
          have hk : k.toNat ≤ 1000 := by omega
          exact Nat.le_trans (Nat.mul_le_mul hk h3) (by unfold line; decide)
      · cases e'
    | _ => cases e
  | _ => cases y <;> cases e
/-! ### items -/
theorem dIx_atI {xs : List D} {i : Int} : dIx i xs = atI xs i := by
  unfold dIx atI ixN
  by_cases h : 0 ≤ i
  · rw [if_pos h, if_pos h]
    by_cases h1 : i < xs.length
    · rw [if_pos h1]; rfl
    · rw [if_neg h1]
      exact List.getElem?_eq_none (by omega)
  · rw [if_neg h, if_neg h]
    split <;> rfl
theorem Reps.atI {ds : List D} {xs : List V} (r : Reps K O H ds xs) {i : Int} {d : D} (h : L2.atI ds i = some d) : ∃ v, L2.atI xs i = some v ∧ Rep K O H d v := by
  unfold L2.atI at h ⊢
  rw [r.length]
  cases e : ixN ds.length i with
  | none => rw [e] at h; cases h
  | some j =>
    rw [e] at h
    exact r.get' h
def rItem (K : PySem.W.Frag) : R2 := fun x y H Q => rIxL K x y H Q ∨ rIxT K x y H Q
theorem ix_item {X : Cx} : IxR X (rItem X.K) := ix_list.or ix_tup
theorem o2_item : Op2 K W dItem (rItem K) := by
  intro O H s x y z v u Q F hx hy e q
  cases x with
  | tuple ds =>
    cases y with
    | int i =>
      obtain rfl := hy.int_inv
      obtain ⟨a, xs, rfl, h1, l1, r1⟩ := hx.tuple_sq
      have e' : dIx i ds = some z := e
      rw [dIx_atI] at e'
      obtain ⟨w, e2, r⟩ := r1.atI e'
      exact .inr ⟨a, xs, i, w, rfl, rfl, h1, e2, q _ H (Ext.refl H) F.R r⟩
    | _ => cases e
  | list ds =>
    cases y with
    | int i =>
      obtain rfl := hy.int_inv
      obtain ⟨a, xs, rfl, h1, l1, r1⟩ := hx.list_inv
      have e' : dIx i ds = some z := e
      rw [dIx_atI] at e'
      obtain ⟨w, e2, r⟩ := r1.atI e'
      exact .inl ⟨a, xs, i, w, rfl, rfl, SqL.of h1.1, e2, q _ H (Ext.refl H) F.R r⟩
    | _ => cases e
  | _ => cases y <;> cases e
/-! ### == -/
mutual
theorem Rep.dp : ∀ (d : D) (v : V), d.canLay0 = true → Rep K O H d v → Dp K H v d
  | .none, v, _, h => by obtain rfl := h.none_inv; exact .non
  | .bool b, v, _, h => by obtain rfl := h.bool_inv; exact .bl b
  | .int i, v, _, h => by obtain rfl := h.int_inv; exact .int i
  | .str x, v, _, h => by obtain rfl := h.str_inv; exact .str x
  | .list ds, v, c, h => by
    obtain ⟨a, xs, rfl, h1, _, h2⟩ := h.list_inv
    exact .lst (SqL.of h1.1) (Reps.dp ds xs (by simpa [PyData.canLay0] using c) h2)
  | .tuple ds, v, c, h => by
    obtain ⟨a, xs, rfl, h1, _, h2⟩ := h.tuple_sq
    exact .tup h1 (Reps.dp ds xs (by simpa [PyData.canLay0] using c) h2)
  | .dict _, _, c, _ => by simp [PyData.canLay0] at c
theorem Reps.dp : ∀ (ds : List D) (xs : List V), PyData.canLayAll0 ds = true → Reps K O H ds xs → DpAll K H xs ds
  | [], xs, _, h => by rw [h.nil_inv]; exact .nil
  | d :: ds, xs, c, h => by
    have c' : d.canLay0 = true ∧ PyData.canLayAll0 ds = true := by simpa [PyData.canLayAll0] using c
    obtain ⟨x, r, rfl, h1, h2⟩ := h.cons_inv
    exact .cons (Rep.dp d x c'.1 h1) (Reps.dp ds r c'.2 h2)
end
def dEq (x y : D) : Option D := if SeqAt.shaped x = true ∧ SeqAt.shaped y = true then some (.bool (PyData.eqv x y)) else none
def dNe (x y : D) : Option D := if SeqAt.shaped x = true ∧ SeqAt.shaped y = true then some (.bool (!PyData.eqv x y)) else none
theorem o2_eq : Op2 K W dEq (rEqD K) := by
  intro O H s x y z v u Q F hx hy e q
  unfold dEq at e
  split at e
  · rename_i h
    cases e
    exact ⟨x, y, hx.dp _ _ (SeqAt.canLay_of_shaped h.1), hy.dp _ _ (SeqAt.canLay_of_shaped h.2), h.1, h.2, q _ H (Ext.refl H) F.R (Rep.bool _)⟩
  · cases e
theorem o2_ne : Op2 K W dNe (rNeD K) := by
  intro O H s x y z v u Q F hx hy e q
  unfold dNe at e
  split at e
  · rename_i h
    cases e
    exact ⟨x, y, hx.dp _ _ (SeqAt.canLay_of_shaped h.1), hy.dp _ _ (SeqAt.canLay_of_shaped h.2), h.1, h.2, q _ H (Ext.refl H) F.R (Rep.bool _)⟩
  · cases e
/-! ### in, of flat things -/
def flatD : D → Bool
  | .none => true
  | .bool _ => true
  | .int _ => true
  | .str _ => true
  | _ => false
def eqF : D → D → Bool
  | .none, .none => true
  | .bool a, .bool b => a == b
  | .bool a, .int b => (if a then 1 else 0) == b
  | .int a, .bool b => a == (if b then 1 else 0)
  | .int a, .int b => a == b
  | .str a, .str b => a == b
  | _, _ => false
theorem flat_of {d : D} {v : V} (h : Rep K O H d v) (f : flatD d = true) : flatV v = true := by
  cases d with
  | none => obtain rfl := h.none_inv; rfl
  | bool b => obtain rfl := h.bool_inv; rfl
  | int b => obtain rfl := h.int_inv; rfl
  | str b => obtain rfl := h.str_inv; rfl
  | _ => cases f
theorem eqF_of {d e : D} {v u : V} (h : Rep K O H d v) (h' : Rep K O H e u) (f : flatD d = true) (f' : flatD e = true) : eqV v u = eqF d e := by
  cases d with
  | none => obtain rfl := h.none_inv; cases e with
    | none => obtain rfl := h'.none_inv; rfl
    | bool b => obtain rfl := h'.bool_inv; rfl
    | int b => obtain rfl := h'.int_inv; rfl
    | str b => obtain rfl := h'.str_inv; rfl
    | _ => cases f'
  | bool b => obtain rfl := h.bool_inv; cases e with
    | none => obtain rfl := h'.none_inv; rfl
    | bool b => obtain rfl := h'.bool_inv; rfl
    | int b => obtain rfl := h'.int_inv; rfl
    | str b => obtain rfl := h'.str_inv; rfl
    | _ => cases f'
  | int b => obtain rfl := h.int_inv; cases e with
    | none => obtain rfl := h'.none_inv; rfl
    | bool b => obtain rfl := h'.bool_inv; rfl
    | int b => obtain rfl := h'.int_inv; rfl
    | str b => obtain rfl := h'.str_inv; rfl
    | _ => cases f'
  | str b => obtain rfl := h.str_inv; cases e with
    | none => obtain rfl := h'.none_inv; rfl
    | bool b => obtain rfl := h'.bool_inv; rfl
    | int b => obtain rfl := h'.int_inv; rfl
    | str b => obtain rfl := h'.str_inv; rfl
    | _ => cases f'
  | _ => cases f
theorem flats_of : ∀ {ds : List D} {vs : List V}, Reps K O H ds vs → ds.all flatD = true → vs.all flatV = true
  | [], vs, h, _ => by rw [h.nil_inv]; rfl
  | d :: ds, vs, h, f => by
    obtain ⟨x, r, rfl, h1, h2⟩ := h.cons_inv
    rw [List.all_cons, Bool.and_eq_true] at f
    rw [List.all_cons, flat_of h1 f.1, flats_of h2 f.2]
    rfl
theorem inF_of {e : D} {u : V} (h' : Rep K O H e u) (f' : flatD e = true) : ∀ {ds : List D} {vs : List V}, Reps K O H ds vs → ds.all flatD = true → inV u vs = ds.any fun y => eqF y e
  | [], vs, h, _ => by rw [h.nil_inv]; rfl
  | d :: ds, vs, h, f => by
    obtain ⟨x, r, rfl, h1, h2⟩ := h.cons_inv
    rw [List.all_cons, Bool.and_eq_true] at f
    have ih := inF_of h' f' h2 f.2
    unfold inV at ih ⊢
    rw [List.any_cons, List.any_cons, eqF_of h1 h' f.1 f', ih]
def dIn (neg : Bool) : D → D → Option D
  | x, .tuple ds => if flatD x = true ∧ ds.all flatD = true then some (.bool (if neg then !(ds.any fun y => eqF y x) else ds.any fun y => eqF y x)) else none
  | x, .list ds => if flatD x = true ∧ ds.all flatD = true then some (.bool (if neg then !(ds.any fun y => eqF y x) else ds.any fun y => eqF y x)) else none
  | _, _ => none
theorem o2_in (neg : Bool) : Op2 K W (dIn neg) (rIn K neg) := by
  intro O H s x y z v u Q F hx hy e q
  cases y with
  | tuple ds =>
    have e' : (if flatD x = true ∧ ds.all flatD = true then some (PyData.bool (if neg then !(ds.any fun y => eqF y x) else ds.any fun y => eqF y x)) else none) = some z := e
    split at e'
    · rename_i h
      cases e'
      obtain ⟨a, xs, rfl, h1, l1, r1⟩ := hy.tuple_sq
      refine ⟨a, xs, rfl, .inr h1, flat_of hx h.1, flats_of r1 h.2, ?_⟩
      rw [inF_of hx h.1 r1 h.2]
      exact q _ H (Ext.refl H) F.R (Rep.bool _)
    · cases e'
  | list ds =>
    have e' : (if flatD x = true ∧ ds.all flatD = true then some (PyData.bool (if neg then !(ds.any fun y => eqF y x) else ds.any fun y => eqF y x)) else none) = some z := e
    split at e'
    · rename_i h
      cases e'
      obtain ⟨a, xs, rfl, h1, l1, r1⟩ := hy.list_inv
      refine ⟨a, xs, rfl, .inl (SqL.of h1.1), flat_of hx h.1, flats_of r1 h.2, ?_⟩
      rw [inF_of hx h.1 r1 h.2]
      exact q _ H (Ext.refl H) F.R (Rep.bool _)
    · cases e'
  | _ => cases x <;> cases e
/-! ### calls of built-ins -/
theorem Reps.one {d : D} {vs : List V} (h : Reps K O H [d] vs) : ∃ v, vs = [v] ∧ Rep K O H d v := by
  obtain ⟨x, r, rfl, h1, h2⟩ := h.cons_inv
  obtain rfl := h2.nil_inv
  exact ⟨x, rfl, h1⟩
theorem Reps.two {d e : D} {vs : List V} (h : Reps K O H [d, e] vs) : ∃ v u, vs = [v, u] ∧ Rep K O H d v ∧ Rep K O H e u := by
  obtain ⟨x, r, rfl, h1, h2⟩ := h.cons_inv
  obtain ⟨y, rfl, h3⟩ := h2.one
  exact ⟨x, y, rfl, h1, h3⟩
theorem oA_len : OpA K W dLen (fun xs H Q => ∃ p ys, xs = [.ref p] ∧ (SqL K H p ys ∨ SqT K H p ys) ∧ Q (.int ys.length) H) := by
  intro O H s xs z vs Q F hr e q
  unfold dLen at e
  split at e
  · obtain ⟨v, rfl, h1⟩ := hr.one
    obtain ⟨a, ys, rfl, h3, _, r1⟩ := h1.tuple_sq
    refine ⟨a, ys, rfl, .inr h3, ?_⟩
    cases e
    exact q _ H (Ext.refl H) F.R (by rw [r1.length]; exact Rep.int _)
  · obtain ⟨v, rfl, h1⟩ := hr.one
    obtain ⟨a, ys, rfl, h3, _, r1⟩ := h1.list_inv
    refine ⟨a, ys, rfl, .inl (SqL.of h3.1), ?_⟩
    cases e
    exact q _ H (Ext.refl H) F.R (by rw [r1.length]; exact Rep.int _)
  · cases e
/-- tuple(x) -/
def dTuple (xs : List D) : Option D := match xs with
  | [.tuple ds] => some (.tuple ds)
  | [.list ds] => some (.tuple ds)
  | _ => none
theorem oA_tuple : OpA K W dTuple (fun xs H Q => ∃ p ys, xs = [.ref p] ∧ ((SqL K H p ys ∧ ∀ l, H l = none → Q (.ref l) (upd H l (.tup ys))) ∨ (SqT K H p ys ∧ Q (.ref p) H))) := by
  intro O H s xs z vs Q F hr e q
  unfold dTuple at e
  split at e
  · obtain ⟨v, rfl, h1⟩ := hr.one
    cases e
    obtain ⟨a, ys, rfl, h3, _, r1⟩ := h1.tuple_sq
    exact ⟨a, ys, rfl, .inr ⟨h3, q _ H (Ext.refl H) F.R h1⟩⟩
  · obtain ⟨v, rfl, h1⟩ := hr.one
    cases e
    obtain ⟨a, ys, rfl, h3, hl, r1⟩ := h1.list_inv
    exact ⟨a, ys, rfl, .inl ⟨SqL.of h3.1, fun l hl' => q _ _ (Ext.new hl') (Wd.new F.R hl') (F.tup r1 hl hl')⟩⟩
  · cases e
def dList (xs : List D) : Option D := match xs with
  | [.tuple ds] => some (.list ds)
  | [.list ds] => some (.list ds)
  | _ => none
theorem oA_list : OpA K W dList (fun xs H Q => ∃ p ys, xs = [.ref p] ∧ (SqL K H p ys ∨ SqT K H p ys) ∧ ∀ l, H l = none → Q (.ref l) (upd H l (.lst ys))) := by
  intro O H s xs z vs Q F hr e q
  unfold dList at e
  split at e
  · obtain ⟨v, rfl, h1⟩ := hr.one
    cases e
    obtain ⟨a, ys, rfl, h3, hl, r1⟩ := h1.tuple_sq
    exact ⟨a, ys, rfl, .inr h3, fun l hl' => q _ _ (Ext.new hl') (Wd.new F.R hl') (F.lst r1 hl hl')⟩
  · obtain ⟨v, rfl, h1⟩ := hr.one
    cases e
    obtain ⟨a, ys, rfl, h3, hl, r1⟩ := h1.list_inv
    exact ⟨a, ys, rfl, .inl (SqL.of h3.1), fun l hl' => q _ _ (Ext.new hl') (Wd.new F.R hl') (F.lst r1 hl hl')⟩
  · cases e
def dAbs (xs : List D) : Option D := match xs with
  | [.int i] => some (.int (if i < 0 then -i else i))
  | _ => none
theorem oA_abs : OpA K W dAbs (fun xs H Q => ∃ i, xs = [.int i] ∧ Q (.int (if i < 0 then -i else i)) H) := by
  intro O H s xs z vs Q F hr e q
  unfold dAbs at e
  split at e
  · obtain ⟨v, rfl, h1⟩ := hr.one
    cases e
    obtain rfl := h1.int_inv
    exact ⟨_, rfl, q _ H (Ext.refl H) F.R (Rep.int _)⟩
  · cases e
def dInt (xs : List D) : Option D := match xs with
  | [.int i] => some (.int i)
  | [.bool b] => some (.int (if b then 1 else 0))
  | _ => none
theorem oA_int : OpA K W dInt (fun xs H Q => (∃ i, xs = [.int i] ∧ Q (.int i) H) ∨ ∃ k, xs = [.bl k] ∧ Q (.int (if k then 1 else 0)) H) := by
  intro O H s xs z vs Q F hr e q
  unfold dInt at e
  split at e
  · obtain ⟨v, rfl, h1⟩ := hr.one
    cases e
    obtain rfl := h1.int_inv
    exact .inl ⟨_, rfl, q _ H (Ext.refl H) F.R (Rep.int _)⟩
  · obtain ⟨v, rfl, h1⟩ := hr.one
    cases e
    obtain rfl := h1.bool_inv
    exact .inr ⟨_, rfl, q _ H (Ext.refl H) F.R (Rep.int _)⟩
  · cases e
def dMin2 (xs : List D) : Option D := match xs with
  | [.int i, .int j] => some (.int (if j < i then j else i))
  | _ => none
def dMax2 (xs : List D) : Option D := match xs with
  | [.int i, .int j] => some (.int (if j > i then j else i))
  | _ => none
theorem oA_min2 : OpA K W dMin2 (fun xs H Q => ∃ i j, xs = [.int i, .int j] ∧ Q (.int (if j < i then j else i)) H) := by
  intro O H s xs z vs Q F hr e q
  unfold dMin2 at e
  split at e
  · obtain ⟨v, u, rfl, h1, h3⟩ := hr.two
    cases e
    obtain rfl := h1.int_inv
    obtain rfl := h3.int_inv
    exact ⟨_, _, rfl, q _ H (Ext.refl H) F.R (Rep.int _)⟩
  · cases e
theorem oA_max2 : OpA K W dMax2 (fun xs H Q => ∃ i j, xs = [.int i, .int j] ∧ Q (.int (if j > i then j else i)) H) := by
  intro O H s xs z vs Q F hr e q
  unfold dMax2 at e
  split at e
  · obtain ⟨v, u, rfl, h1, h3⟩ := hr.two
    cases e
    obtain rfl := h1.int_inv
    obtain rfl := h3.int_inv
    exact ⟨_, _, rfl, q _ H (Ext.refl H) F.R (Rep.int _)⟩
  · cases e
/-! ### isinstance -/
inductive Ty where
  | int | bool | str | tuple | list | dict
  deriving DecidableEq
def Ty.nm : Ty → String
  | .int => "int"
  | .bool => "bool"
  | .str => "str"
  | .tuple => "tuple"
  | .list => "list"
  | .dict => "dict"
/-- whether it is one of these; nothing is said of a handle -/
def dIsi (T : Ty) : D → Option D
  | .none => some (.bool false)
  | .bool _ => some (.bool (T == .bool || T == .int))
  | .int _ => some (.bool (T == .int))
  | .str _ => some (.bool (T == .str))
  | .list _ => some (.bool (T == .list))
  | .tuple _ => some (.bool (T == .tuple))
  | .dict [] => some (.bool (T == .dict))
  | .dict _ => none
theorem kits0 : kitB "NoneType" "int" = some false ∧ kitB "NoneType" "bool" = some false ∧ kitB "NoneType" "str" = some false ∧ kitB "NoneType" "tuple" = some false ∧ kitB "NoneType" "list" = some false ∧ kitB "NoneType" "dict" = some false := by decide +kernel
theorem kits1 : kitB "bool" "int" = some true ∧ kitB "bool" "bool" = some true ∧ kitB "bool" "str" = some false ∧ kitB "bool" "tuple" = some false ∧ kitB "bool" "list" = some false ∧ kitB "bool" "dict" = some false := by decide +kernel
theorem kits2 : kitB "int" "int" = some true ∧ kitB "int" "bool" = some false ∧ kitB "int" "str" = some false ∧ kitB "int" "tuple" = some false ∧ kitB "int" "list" = some false ∧ kitB "int" "dict" = some false := by decide +kernel
theorem kits3 : kitB "str" "int" = some false ∧ kitB "str" "bool" = some false ∧ kitB "str" "str" = some true ∧ kitB "str" "tuple" = some false ∧ kitB "str" "list" = some false ∧ kitB "str" "dict" = some false := by decide +kernel
theorem kits4 : kitB "list" "int" = some false ∧ kitB "list" "bool" = some false ∧ kitB "list" "str" = some false ∧ kitB "list" "tuple" = some false ∧ kitB "list" "list" = some true ∧ kitB "list" "dict" = some false := by decide +kernel
theorem kits5 : kitB "tuple" "int" = some false ∧ kitB "tuple" "bool" = some false ∧ kitB "tuple" "str" = some false ∧ kitB "tuple" "tuple" = some true ∧ kitB "tuple" "list" = some false ∧ kitB "tuple" "dict" = some false := by decide +kernel
theorem kits6 : kitB "dict" "int" = some false ∧ kitB "dict" "bool" = some false ∧ kitB "dict" "str" = some false ∧ kitB "dict" "tuple" = some false ∧ kitB "dict" "list" = some false ∧ kitB "dict" "dict" = some true := by decide +kernel
def tyD : D → String
  | .none => "NoneType"
  | .bool _ => "bool"
  | .int _ => "int"
  | .str _ => "str"
  | .list _ => "list"
  | .tuple _ => "tuple"
  | .dict _ => "dict"
theorem isi_kit {T : Ty} {d : D} {b : Bool} (h : dIsi T d = some (.bool b)) : kitB (tyD d) T.nm = some b := by
  obtain ⟨a1, a2, a3, a4, a5, a6⟩ := kits0
  obtain ⟨b1, b2, b3, b4, b5, b6⟩ := kits1
  obtain ⟨c1, c2, c3, c4, c5, c6⟩ := kits2
  obtain ⟨d1, d2, d3, d4, d5, d6⟩ := kits3
  obtain ⟨e1, e2, e3, e4, e5, e6⟩ := kits4
  obtain ⟨f1, f2, f3, f4, f5, f6⟩ := kits5
  obtain ⟨g1, g2, g3, g4, g5, g6⟩ := kits6
  cases d with
  | dict kvs =>
    cases kvs with
    | nil => cases T <;> (cases h; assumption)
    | cons p r => cases h
  | _ => cases T <;> (cases h; assumption)
theorem tyx_of {d : D} {v : V} (h : Rep K O H d v) (hd : ∀ kvs, d = .dict kvs → kvs = []) : TyX K H v (.type (tyD d)) := by
  cases d with
  | none => obtain rfl := h.none_inv; exact .base .non
  | bool b => obtain rfl := h.bool_inv; exact .base (.bl b)
  | int b => obtain rfl := h.int_inv; exact .base (.int b)
  | str b => obtain rfl := h.str_inv; exact .base (.str b)
  | list ds =>
    obtain ⟨a, xs, rfl, h1, _⟩ := h.list_inv
    exact .base (.lst h1.1)
  | tuple ds =>
    obtain ⟨a, xs, rfl, h1, _⟩ := h.tuple_inv
    rcases h1 with ⟨h1, _⟩ | ⟨o, its, n, e1, e2, _⟩
    · exact .base (.tup h1)
    · exact .kTuple e1 e2
  | dict kvs =>
    have := hd kvs rfl
    subst this
    rcases h.dict_inv with ⟨_, a, rfl, h1, _⟩ | ⟨a, z, _⟩
    · exact .base (.dK h1)
    · cases z
end
section
variable {X : Cx} {W : Wd X.K} {cls : Xc} {Wx : WX} {pos p : Pos}
/-- isinstance(e, T), T a built-in class by its name -/
theorem rv_isi {T : Ty} {a : Expr} {f : Fe W.S} {p1 p2 : Pos} {x : Str} (hx : x = Str.ofString T.nm) (hg : Gl X "isinstance") (hm : X.mg "isinstance" = none) (hgT : Gl X x) (hmT : X.mg x = none) (hvT : bootBuiltins x = some (.type T.nm)) (ha : PV X W cls Wx a f)
    (hs : starEach [a, .Name x p1] X.env = (false, eval a X.env) :: starEach [.Name x p1] X.env := by rfl)
    (hn : x ≠ "__name__" := by decide) (hdb : (x == ("__debug__" : Str)) = false := by decide) (hpl : (backTo pos (starEach [.Name x p1] X.env)).any (·.1) = false := by rfl) :
    PV X W cls Wx (.Call (.Name "isinstance" p2) [a, .Name x p1] [] pos) (v1 (dIsi T) f) := by
  have hb : PE X (.Name x p1) (tC (.ty T.nm)) := pe_bltn hgT hmT hvT rfl hn hdb
  refine peConv (pe_callB call_isi hg hm (by decide +kernel) (pa_cons ha (pa_cons hb pa_nil) hs) (by decide) (by decide) hs hpl) fun σ H Q h => ?_
  obtain ⟨B, e, ad, s, G, P⟩ := h
  refine ⟨B, e, ad, s, G, (Post.unbind P).imp (fun x s1 P1 v H1 e1 r1 hr => ?_) fun _ _ _ x => x⟩
  obtain ⟨z, hz, q⟩ := P1.ofO
  obtain ⟨b, rfl⟩ : ∃ b, z = .bool b := by
    cases x with
    | dict kvs =>
      cases kvs with
      | nil => cases hz; exact ⟨_, rfl⟩
      | cons _ _ => cases hz
    | _ => cases hz; exact ⟨_, rfl⟩
  refine ⟨v, .ty T.nm, .type (tyD x), .type T.nm, b, rfl, .ty _, tyx_of hr (fun kvs ek => ?_), kit_ty (isi_kit hz), q _ H1 e1 r1 (Rep.bool b)⟩
  subst ek
  cases kvs with
  | nil => rfl
  | cons _ _ => cases hz
theorem rv_item {a b : Expr} {fa fb : Fe W.S} (ha : PV X W cls Wx a fa) (hb : PV X W cls Wx b fb) (hs : PlainIx b := by exact fun _ _ => rfl) : PV X W cls Wx (.Subscript a b pos) (v2 dItem fa fb) :=
  peConv (pe_ix ix_item ha hb hs) (tv2 o2_item)
theorem rv_add {a b : Expr} {fa fb : Fe W.S} (ha : PV X W cls Wx a fa) (hb : PV X W cls Wx b fb) : PV X W cls Wx (.BinOp a .Add b pos) (v2 dAdd fa fb) := rv_bin op_addA o2_add ha hb
theorem rv_sub {a b : Expr} {fa fb : Fe W.S} (ha : PV X W cls Wx a fa) (hb : PV X W cls Wx b fb) : PV X W cls Wx (.BinOp a .Sub b pos) (v2 dSub fa fb) := rv_bin op_sub o2_sub ha hb
theorem rv_mul {a b : Expr} {fa fb : Fe W.S} (ha : PV X W cls Wx a fa) (hb : PV X W cls Wx b fb) : PV X W cls Wx (.BinOp a .Mult b pos) (v2 dMul fa fb) := rv_bin op_mulA o2_mul ha hb
theorem rv_mod {a b : Expr} {fa fb : Fe W.S} (ha : PV X W cls Wx a fa) (hb : PV X W cls Wx b fb) : PV X W cls Wx (.BinOp a .Mod b pos) (v2 dMod fa fb) := rv_bin op_mod o2_mod ha hb
theorem rv_lt {a b : Expr} {fa fb : Fe W.S} (ha : PV X W cls Wx a fa) (hb : PV X W cls Wx b fb) : PV X W cls Wx (.Compare a [.Lt] [b] pos) (v2 dLt fa fb) := rv_cmp op_lt o2_cmp ha hb (nomark _)
theorem rv_le {a b : Expr} {fa fb : Fe W.S} (ha : PV X W cls Wx a fa) (hb : PV X W cls Wx b fb) : PV X W cls Wx (.Compare a [.LtE] [b] pos) (v2 dLe fa fb) := rv_cmp op_le o2_cmp ha hb (nomark _)
theorem rv_gt {a b : Expr} {fa fb : Fe W.S} (ha : PV X W cls Wx a fa) (hb : PV X W cls Wx b fb) : PV X W cls Wx (.Compare a [.Gt] [b] pos) (v2 dGt fa fb) := rv_cmp op_gt o2_cmp ha hb (nomark _)
theorem rv_ge {a b : Expr} {fa fb : Fe W.S} (ha : PV X W cls Wx a fa) (hb : PV X W cls Wx b fb) : PV X W cls Wx (.Compare a [.GtE] [b] pos) (v2 dGe fa fb) := rv_cmp op_ge o2_cmp ha hb (nomark _)
theorem rv_eq {k : Nat} (hr : Room k X.A) {a b : Expr} {fa fb : Fe W.S} (ha : PV X W cls Wx a fa) (hb : PV X W cls Wx b fb) : PV X W cls Wx (.Compare a [.Eq] [b] pos) (v2 dEq fa fb) := rv_cmp (op_eqD hr.units) o2_eq ha hb (nomark _)
theorem rv_ne {k : Nat} (hr : Room k X.A) {a b : Expr} {fa fb : Fe W.S} (ha : PV X W cls Wx a fa) (hb : PV X W cls Wx b fb) : PV X W cls Wx (.Compare a [.NotEq] [b] pos) (v2 dNe fa fb) := rv_cmp (op_neD hr.units) o2_ne ha hb (nomark _)
theorem rb_lt {a b : Expr} {fa fb : Fe W.S} (ha : PV X W cls Wx a fa) (hb : PV X W cls Wx b fb) : PB X W cls Wx (.Compare a [.Lt] [b] pos) (bVal (v2 dLt fa fb)) := rb_cmp op_lt o2_cmp ha hb (nomark _)
theorem rb_le {a b : Expr} {fa fb : Fe W.S} (ha : PV X W cls Wx a fa) (hb : PV X W cls Wx b fb) : PB X W cls Wx (.Compare a [.LtE] [b] pos) (bVal (v2 dLe fa fb)) := rb_cmp op_le o2_cmp ha hb (nomark _)
theorem rb_gt {a b : Expr} {fa fb : Fe W.S} (ha : PV X W cls Wx a fa) (hb : PV X W cls Wx b fb) : PB X W cls Wx (.Compare a [.Gt] [b] pos) (bVal (v2 dGt fa fb)) := rb_cmp op_gt o2_cmp ha hb (nomark _)
theorem rb_ge {a b : Expr} {fa fb : Fe W.S} (ha : PV X W cls Wx a fa) (hb : PV X W cls Wx b fb) : PB X W cls Wx (.Compare a [.GtE] [b] pos) (bVal (v2 dGe fa fb)) := rb_cmp op_ge o2_cmp ha hb (nomark _)
theorem rb_eq {k : Nat} (hr : Room k X.A) {a b : Expr} {fa fb : Fe W.S} (ha : PV X W cls Wx a fa) (hb : PV X W cls Wx b fb) : PB X W cls Wx (.Compare a [.Eq] [b] pos) (bVal (v2 dEq fa fb)) := rb_cmp (op_eqD hr.units) o2_eq ha hb (nomark _)
theorem rb_ne {k : Nat} (hr : Room k X.A) {a b : Expr} {fa fb : Fe W.S} (ha : PV X W cls Wx a fa) (hb : PV X W cls Wx b fb) : PB X W cls Wx (.Compare a [.NotEq] [b] pos) (bVal (v2 dNe fa fb)) := rb_cmp (op_neD hr.units) o2_ne ha hb (nomark _)
theorem rv_in {a b : Expr} {fa fb : Fe W.S} (ha : PV X W cls Wx a fa) (hb : PV X W cls Wx b fb) (hm : behindInMarks .In b = false := by rfl) : PV X W cls Wx (.Compare a [.In] [b] pos) (v2 (dIn false) fa fb) := rv_cmp op_in_seq (o2_in false) ha hb hm
theorem rv_nin {a b : Expr} {fa fb : Fe W.S} (ha : PV X W cls Wx a fa) (hb : PV X W cls Wx b fb) (hm : behindInMarks .NotIn b = false := by rfl) : PV X W cls Wx (.Compare a [.NotIn] [b] pos) (v2 (dIn true) fa fb) := rv_cmp op_notIn_seq (o2_in true) ha hb hm
theorem rb_in {a b : Expr} {fa fb : Fe W.S} (ha : PV X W cls Wx a fa) (hb : PV X W cls Wx b fb) (hm : behindInMarks .In b = false := by rfl) : PB X W cls Wx (.Compare a [.In] [b] pos) (bVal (v2 (dIn false) fa fb)) := rb_cmp op_in_seq (o2_in false) ha hb hm
theorem rb_nin {a b : Expr} {fa fb : Fe W.S} (ha : PV X W cls Wx a fa) (hb : PV X W cls Wx b fb) (hm : behindInMarks .NotIn b = false := by rfl) : PB X W cls Wx (.Compare a [.NotIn] [b] pos) (bVal (v2 (dIn true) fa fb)) := rb_cmp op_notIn_seq (o2_in true) ha hb hm
/-- a built-in by its name, a built-in class by its name -/
theorem rv_blt {id : String} {x : Str} {f : List D → Option D} {r : List V → Hp → VK → Prop} {e : Expr} {es : List Expr} {fa : Fa W.S} (hc : CallR X (.builtin id) r) (hA : OpA X.K W f r) (hg : Gl X x) (hm : X.mg x = none) (hv : bootBuiltins x = some (.builtin id)) (ha : PAr X W cls Wx (e :: es) fa)
    (hn : x ≠ "__name__" := by decide) (hdb : (x == ("__debug__" : Str)) = false := by decide) (he : starEach (e :: es) X.env = (false, eval e X.env) :: starEach es X.env := by rfl) (hpl : (backTo pos (starEach es X.env)).any (·.1) = false := by rfl) :
    PV X W cls Wx (.Call (.Name x p) (e :: es) [] pos) (vA f fa) := peConv (pe_callB hc hg hm hv ha hn hdb he hpl) (tvA hA)
theorem rv_bty {T : String} {x : Str} {f : List D → Option D} {r : List V → Hp → VK → Prop} {e : Expr} {es : List Expr} {fa : Fa W.S} (hc : CallR X (.type T) r) (hA : OpA X.K W f r) (hg : Gl X x) (hm : X.mg x = none) (hv : bootBuiltins x = some (.type T)) (ha : PAr X W cls Wx (e :: es) fa)
    (hn : x ≠ "__name__" := by decide) (hdb : (x == ("__debug__" : Str)) = false := by decide) (he : starEach (e :: es) X.env = (false, eval e X.env) :: starEach es X.env := by rfl) (hpl : (backTo pos (starEach es X.env)).any (·.1) = false := by rfl) :
    PV X W cls Wx (.Call (.Name x p) (e :: es) [] pos) (vA f fa) := peConv (pe_callTy hc hg hm hv ha hn hdb he hpl) (tvA hA)
end
end Rf
end

section
set_option Elab.async false
set_option linter.all false
set_option maxRecDepth 100000
set_option maxHeartbeats 4000000
/-! RfStm: statements, calls, defs by their readings (own work). -/
namespace Rf
open PySem PySem.Spec PyProof.Rows L2

/-! ### calls -/
/-- the promise of a def whose meaning is φ -/
def spD (K : PySem.W.Frag) (W : Wd K) (cls : Xc) (φ : List D → W.S → Rs W.S D) : Sp := fun vs H Q E => ∃ O ds s, Fit K W O H s ∧ Reps K O H ds vs ∧
  Post (fun d s' => ∀ v H', Ext W.M H H' → W.R s' H' → Rep K O H' d v → Q v H') (ExcP K W cls O H E) (φ ds s)
section
variable {X : Cx} {W : Wd X.K} {cls : Xc} {Wx : WX} {k : Nat} {f : Addr} {fd : FuncData} {ps : List Str} {φ : List D → W.S → Rs W.S D} {x : Str} {p pos : Pos} {e : Expr} {es : List Expr} {fa : Fa W.S}
theorem rv_call (F : FnOk X.prog X.w X.K X.mg X.base (L2.CX X.prog X.w) k f fd ps (spD X.K W cls φ)) (hr : Room k X.A) (tk : Takes X Wx) (hg : Gl X x) (hm : X.mg x = some (.ref f)) (hk : PySem.W.keepIn X.K (.ref f) = true) (hb : Binds X.K fd ps [])
    (ha : PAr X W cls Wx (e :: es) fa) (hdb : (x == ("__debug__" : Str)) = false := by decide) (he : starEach (e :: es) X.env = (false, eval e X.env) :: starEach es X.env := by rfl) (hpl : (backTo pos (starEach es X.env)).any (·.1) = false := by rfl) :
    PV X W cls Wx (.Call (.Name x p) (e :: es) [] pos) (vCall φ fa) := by
  refine peConv (pe_callS F hr hg hm hk hb (E := WE Wx) (fun σ => passAt tk σ) ha hdb he hpl) fun σ H Q h => ?_
  obtain ⟨B, e, ad, s, G, P⟩ := h
  refine ⟨B, e, ad, s, G, (Post.unbind P).imp (fun ds s1 P1 vs H1 e1 r1 hr => ?_) fun _ _ _ x => x⟩
  refine ⟨Ow B.O ad, ds, s1, (G.ext e1 r1).fit, hr, P1.imp (fun d s2 q v H2 e2 r2 hv => q v H2 (e1.trans e2) r2 hv) fun c d s2 q => q.ext e1⟩
end
section
variable {X : Cx} {W : Wd X.K} {cls : Xc} {Wx : WX} {k : Nat} {f : Addr} {fd : FuncData} {ps : List Str} {x : Str} {p pos : Pos} {e : Expr} {es : List Expr}
/-- f(e, .., k=e', ..) -/
theorem rv_callK {ks : List Str} {kws : List Keyword} {g : List Value → List Value → List Value} {gV : List V → List V → List V} {gD : List D → List D → List D} {φ : List D → W.S → Rs W.S D} {fa fk : Fa W.S}
    (F : FnOk X.prog X.w X.K X.mg X.base (L2.CX X.prog X.w) k f fd ps (spD X.K W cls φ)) (hr : Room k X.A) (tk : Takes X Wx)
    (hpe : ∀ (E : L2.St → XK) , (∀ σ, PassesAt (L2.CX X.prog X.w) X σ (E σ)) → ∀ {ta tk : TA}, PA X es ta → PK X kws tk → PE X (.Call (.Name x p) es kws pos) (fun σ H Q => ta σ H fun vs H1 => tk σ H1 fun zs H2 => spD X.K W cls φ (gV vs zs) H2 Q (E σ)))
    (hgD : ∀ (O : Addr → Prop) (H : Hp) (ds es : List D) (vs us : List V), Reps X.K O H ds vs → Reps X.K O H es us → Reps X.K O H (gD ds es) (gV vs us))
    (ha : PAr X W cls Wx es fa) (hk : PK X kws (TAv X.K W cls Wx fk)) : PV X W cls Wx (.Call (.Name x p) es kws pos) (vCallK φ gD fa fk) := by
  refine peConv (hpe (WE Wx) (fun σ => passAt tk σ) ha hk) fun σ H Q h => ?_
  obtain ⟨B, e, ad, s, G, P⟩ := h
  refine ⟨B, e, ad, s, G, (Post.unbind P).imp (fun ds s1 P1 vs H1 e1 r1 hr => ?_) fun _ _ _ x => x⟩
  have G1 := G.ext e1 r1
  refine ⟨B, e, ad, s1, G1, (Post.unbind P1).imp (fun es s2 P2 us H2 e2 r2 hu => ?_) fun _ _ _ x => x.ext e1⟩
  have G2 := G1.ext e2 r2
  exact ⟨Ow B.O ad, gD ds es, s2, G2.fit, hgD _ _ _ _ _ _ (G1.reps e2 hr) hu, P2.imp (fun d s3 q v H3 e3 r3 hv => q v H3 ((e1.trans e2).trans e3) r3 hv) fun c d s3 q => q.ext (e1.trans e2)⟩
end

/-! ### statements -/
/-- what a statement may let out -/
def ExcS (K : PySem.W.Frag) (W : Wd K) (cls : Xc) (B : Bs) (Wx : WX) (c : Str) (d : D) (s' : W.S) : Prop :=
  ∃ C f, cls c = some (C, f) ∧ ∀ dct v σ' H', (∀ a o, B.P a o → H' a = some o) → W.R s' H' → H' dct = some (.xd [(f, v)]) → Rep K B.O H' d v → Wx (.ref C) (some dct) σ' H'
def OutS (K : PySem.W.Frag) (W : Wd K) (B : Bs) (D : Ends) : Out → W.S → Prop
  | .nx e', s' => ∀ ad' σ' H', Good K W B e' ad' σ' H' s' → D.nx σ' H'
  | .bk e', s' => ∀ ad' σ' H', Good K W B e' ad' σ' H' s' → D.bk σ' H'
  | .ct e', s' => ∀ ad' σ' H', Good K W B e' ad' σ' H' s' → D.ct σ' H'
  | .rt d, s' => ∀ v H', (∀ a o, B.P a o → H' a = some o) → W.R s' H' → Rep K B.O H' d v → D.rt v H'
def PostS (K : PySem.W.Frag) (W : Wd K) (cls : Xc) (B : Bs) (Wx : WX) (D : Ends) : Rs W.S Out → Prop := Post (OutS K W B D) (ExcS K W cls B Wx)
def TSv (K : PySem.W.Frag) (W : Wd K) (cls : Xc) (Wx : WX) (F : Fs W.S) : TS := fun D σ H => ∃ B e ad s, Good K W B e ad σ H s ∧ PostS K W cls B Wx D (F e s)
theorem psConv {X : Cx} {st : Stmt} {t t' : TS} (h : PS X st t) (c : ∀ D σ H, t' D σ H → t D σ H) : PS X st t' := ⟨fun pins s σ H D I q => h.run pins s σ H D I (c D σ H q)⟩
theorem pssConv {X : Cx} {st : List Stmt} {t t' : TS} (h : PSs X st t) (c : ∀ D σ H, t' D σ H → t D σ H) : PSs X st t' := ⟨fun pins s σ H D I q => h.run pins s σ H D I (c D σ H q)⟩
section
variable {K : PySem.W.Frag} {W : Wd K} {cls : Xc} {Wx : WX} {B : Bs} {e : En} {ad : List (Option Addr)} {σ : L2.St} {H H1 : Hp} {s s1 : W.S} {D : Ends}
/-- an expression's exception, by its statement's word -/
theorem ExcS.toP (h : ExcS K W cls B Wx c d s') (G : Good K W B e ad σ H s) : ExcP K W cls (Ow B.O ad) H (fun c dd H' => Wx c dd σ H') c d s' := by
  obtain ⟨C, f, e1, g⟩ := h
  refine ⟨C, f, e1, fun dct v H' x r hd hr => g dct v σ H' (fun a o p => x a o (G.mp a o p) (G.keep a o p)) r hd ?_⟩
  exact hr.move (fun a o h e => ⟨e, fun z => h (.inl z)⟩) _ _
theorem Good.set_val (G : Good K W B e ad σ H s) {d : Rf.D} {v : V} (r : Rep K (Ow B.O ad) H d v) (i : Nat) : Good K W B (e.set i (.val d)) (ad.set i none) (σ.set i (some v)) H s where
  env := by
    have m : ∀ a, ¬ Ow B.O ad a → ¬ Ow B.O (ad.set i none) a := fun a h z => h (z.imp id mem_set_none)
    exact (G.env.set_val r).move (fun a o h e => ⟨e, m a h⟩) fun a o _ e => e
  once := G.once.set_none i
  keep := G.keep
  out := fun a h => G.out a (mem_set_none h)
  trk := G.trk
  mo := G.mo
  mp := G.mp
  R := G.R
theorem Good.set_no (G : Good K W B e ad σ H s) {x : Option V} (i : Nat) : Good K W B (e.set i .no) (ad.set i none) (σ.set i x) H s where
  env := by
    have m : ∀ a, ¬ Ow B.O ad a → ¬ Ow B.O (ad.set i none) a := fun a h z => h (z.imp id mem_set_none)
    exact G.env.set_no.move (fun a o h e => ⟨e, m a h⟩) fun a o _ e => e
  once := G.once.set_none i
  keep := G.keep
  out := fun a h => G.out a (mem_set_none h)
  trk := G.trk
  mo := G.mo
  mp := G.mp
  R := G.R
/-- a new list is kept to itself -/
theorem Good.set_own (G : Good K W B e ad σ H s) {ds : List Rf.D} {a : Addr} {xs : List V} (hn : ∀ o, ¬ B.P a o) (ho : ¬ Ow B.O ad a) (h : H a = some (.lst xs)) (hl : ds.length ≤ line) (r : Reps K (fun b => Ow B.O ad b ∨ b = a) H ds xs) (i : Nat)
    (hE : EnvR K (fun b => Ow B.O ad b ∨ b = a) H e ad σ) : Good K W B (e.set i (.own ds)) (ad.set i (some a)) (σ.set i (some (.ref a))) H s where
  env := by
    have m : ∀ b, ¬ (Ow B.O ad b ∨ b = a) → ¬ Ow B.O (ad.set i (some a)) b := fun b h z => h (by
      rcases z with z | z
      · exact .inl (.inl z)
      · rcases mem_set_some z with z | z
        · exact .inl (.inr z)
        · exact .inr z)
    exact (hE.set_own h hl r).move (fun b o h e => ⟨e, m b h⟩) fun b o _ e => e
  once := G.once.set_some i fun z => ho (.inr z)
  keep := G.keep
  out := fun b h => by
    rcases mem_set_some h with z | z
    · exact G.out b z
    · subst z
      exact ⟨fun z => ho (.inl z), hn⟩
  trk := G.trk
  mo := G.mo
  mp := G.mp
  R := G.R
/-- .. a list that was laid behind H -/
theorem Good.new_own (G : Good K W B e ad σ H s) (x : Ext W.M H H1) (r1 : W.R s1 H1) {ds : List Rf.D} {a : Addr} {xs : List V} (hn : H a = none) (h : H1 a = some (.lst xs)) (hl : ds.length ≤ line) (r : Reps K (fun b => Ow B.O ad b ∨ b = a) H1 ds xs) (i : Nat) :
    Good K W B (e.set i (.own ds)) (ad.set i (some a)) (σ.set i (some (.ref a))) H1 s1 := by
  refine (G.ext x r1).set_own (fun o p => ?_) (G.fresh hn) h hl r i ?_
  · have := G.keep a o p
    rw [hn] at this
    cases this
  · refine G.env.move (fun b o h e => ⟨x b o (G.nm h) e, ?_⟩) fun b o h e => x b o (fun z => (G.out b h).1 (G.mo b z)) e
    rintro (z | z)
    · exact h z
    · subst z
      rw [hn] at e
      cases e
/-- from now on read as data -/
theorem Good.frz (G : Good K W B e ad σ H s) {i : Nat} {ds : List Rf.D} (h : e[i]? = some (.own ds)) : Good K W B (e.set i (.val (.list ds))) (ad.set i none) σ H s := by
  obtain ⟨a, xs, h1, h2, h3, h4, h5⟩ := G.env.own_at h
  have hm : some a ∈ ad := List.mem_of_getElem? h2
  have hnot : ¬ Ow B.O (ad.set i none) a := by
    rintro (z | z)
    · exact (G.out a hm).1 z
    · obtain ⟨j, hj⟩ := List.mem_iff_getElem?.mp z
      by_cases e : j = i
      · subst e
        rw [List.getElem?_set] at hj
        split at hj
        · split at hj <;> cases hj
        · rename_i q; exact absurd rfl q
      · rw [List.getElem?_set_ne (Ne.symm e)] at hj
        exact e (G.once j i a hj h2)
  have m : ∀ b, ¬ Ow B.O ad b → ¬ Ow B.O (ad.set i none) b := fun b h z => h (z.imp id mem_set_none)
  have hE : EnvR K (Ow B.O (ad.set i none)) H e ad σ := G.env.move (fun b o h e => ⟨e, m b h⟩) fun b o _ e => e
  have hR : Rep K (Ow B.O (ad.set i none)) H (.list ds) (.ref a) := .list h3 hnot h4 (h5.move (fun b o h e => ⟨e, m b h⟩) _ _)
  have hσ : σ.set i (some (V.ref a)) = σ := by
    apply List.ext_getElem?
    intro j
    by_cases e : i = j
    · subst e
      rw [List.getElem?_set]
      rw [if_pos rfl, if_pos (List.getElem?_eq_some_iff.mp h1).1, h1]
    · rw [List.getElem?_set_ne e]
  refine ⟨?_, G.once.set_none i, G.keep, fun b h => G.out b (mem_set_none h), G.trk, G.mo, G.mp, G.R⟩
  rw [← hσ]
  exact hE.set_val hR
/-- the list in a slot is changed -/
theorem Good.upd_own (G : Good K W B e ad σ H s) {i : Nat} {ds ds' : List Rf.D} {a : Addr} {xs ys : List V} (h : e[i]? = some (.own ds)) (ha : ad[i]? = some (some a)) (hσ : σ[i]? = some (some (.ref a))) (hH : H a = some (.lst xs)) (hl : ds'.length ≤ line) (r : Reps K (Ow B.O ad) H ds' ys) :
    Good K W B (e.set i (.own ds')) ad σ (upd H a (.lst ys)) s := by
  have hm : some a ∈ ad := List.mem_of_getElem? ha
  have hOw : Ow B.O ad a := .inr hm
  have hk : ∀ b o, ¬ Ow B.O ad b → H b = some o → upd H a (.lst ys) b = some o ∧ ¬ Ow B.O ad b := fun b o h e => ⟨by
    rw [upd_ne (fun z => h (by rw [z]; exact hOw))]
    exact e, h⟩
  have eσ : σ.set i (some (V.ref a)) = σ := by
    apply List.ext_getElem?
    intro j
    by_cases e : i = j
    · subst e
      rw [List.getElem?_set, if_pos rfl, if_pos (List.getElem?_eq_some_iff.mp hσ).1, hσ]
    · rw [List.getElem?_set_ne e]
  have ea : ad.set i (some a) = ad := by
    apply List.ext_getElem?
    intro j
    by_cases e : i = j
    · subst e
      rw [List.getElem?_set, if_pos rfl, if_pos (List.getElem?_eq_some_iff.mp ha).1, ha]
    · rw [List.getElem?_set_ne e]
  have hE : EnvR K (Ow B.O ad) (upd H a (.lst ys)) (e.set i .no) (ad.set i none) σ := by
    have h0 : EnvR K (Ow B.O ad) H (e.set i .no) (ad.set i none) σ := by
      have := G.env.set_no (i := i) (x := some (V.ref a))
      rw [eσ] at this
      exact this
    refine h0.move hk fun b o hb e => ?_
    rw [upd_ne (fun z => ?_)]
    · exact e
    · subst z
      obtain ⟨j, hj⟩ := List.mem_iff_getElem?.mp hb
      by_cases q : j = i
      · subst q
        rw [List.getElem?_set, if_pos rfl] at hj
        split at hj <;> cases hj
      · rw [List.getElem?_set_ne (Ne.symm q)] at hj
        exact q (G.once j i _ hj ha)
  have hE2 : EnvR K (Ow B.O ad) (upd H a (.lst ys)) ((e.set i .no).set i (.own ds')) ((ad.set i none).set i (some a)) (σ.set i (some (.ref a))) := hE.set_own upd_same hl (r.move hk _ _)
  rw [List.set_set, List.set_set, eσ, ea] at hE2
  have nP : ∀ b o, B.P b o → b ≠ a := fun b o p z => (G.out a hm).2 o (by rw [← z]; exact p)
  have nO : ∀ b, B.O b → b ≠ a := fun b p z => (G.out a hm).1 (by rw [← z]; exact p)
  refine ⟨hE2, G.once, fun b o p => ?_, G.out, fun b h => ?_, G.mo, G.mp, W.stable s H _ G.R fun b o m e => ?_⟩
  · rw [upd_ne (nP b o p)]
    exact G.keep b o p
  · rw [upd_ne (nO b h)]
    exact G.trk b h
  · rw [upd_ne (m.elim (fun m => nO b (G.mo b m)) fun n z => by rw [z, hH] at e; exact n xs (Option.some.inj e).symm)]
    exact e
/-- fewer facts to stand -/
theorem Good.weak {B' : Bs} (G : Good K W B' e ad σ H s) (hO : B'.O = B.O) (hP : ∀ a o, B.P a o → B'.P a o) : Good K W B e ad σ H s := by
  obtain ⟨O, P⟩ := B
  obtain ⟨O', P'⟩ := B'
  have hO' : O' = O := hO
  subst hO'
  exact ⟨G.env, G.once, fun a o p => G.keep a o (hP a o p), fun a h => ⟨(G.out a h).1, fun o p => (G.out a h).2 o (hP a o p)⟩, G.trk, G.mo, fun a o p => G.mp a o (hP a o p), G.R⟩
/-- all that stands now is to stand -/
def Bs.pin (B : Bs) (ad : List (Option Addr)) (H : Hp) : Bs := ⟨B.O, fun a o => B.P a o ∨ (¬ Ow B.O ad a ∧ H a = some o)⟩
theorem Good.pin (G : Good K W B e ad σ H s) : Good K W (B.pin ad H) e ad σ H s :=
  ⟨G.env, G.once, fun a o p => p.elim (G.keep a o) fun z => z.2, fun a h => ⟨(G.out a h).1, fun o p => p.elim ((G.out a h).2 o) fun z => z.1 (.inr h)⟩, G.trk, G.mo, fun a o p => p.elim (G.mp a o) fun z => G.nm z.1, G.R⟩
/-! targets -/
/-- the names in the slots js are set -/
def TGv (K : PySem.W.Frag) (W : Wd K) (js : List Nat) (t : Ft) : TG := fun v σ H Q => ∃ B e ad s d e', Good K W B e ad σ H s ∧ Rep K (Ow B.O ad) H d v ∧ t d e = some e' ∧
  ∀ ad' σ', Good K W B e' ad' σ' H s → (∀ a, some a ∈ ad' → some a ∈ ad) → (∀ j, j ∉ js → σ'[j]? = σ[j]?) → σ'.length = σ.length → Q σ' H
def TGsv (K : PySem.W.Frag) (W : Wd K) (js : List Nat) (ts : List Ft) : TGs := fun vs σ H Q => ∃ B e ad s ds e', Good K W B e ad σ H s ∧ Reps K (Ow B.O ad) H ds vs ∧ gTps ts ds e = some e' ∧
  ∀ ad' σ', Good K W B e' ad' σ' H s → (∀ a, some a ∈ ad' → some a ∈ ad) → (∀ j, j ∉ js → σ'[j]? = σ[j]?) → σ'.length = σ.length → Q σ' H
end
theorem pgConv {X : Cx} {tg : Expr} {t t' : TG} (h : PG X tg t) (c : ∀ v σ H Q, t' v σ H Q → t v σ H Q) : PG X tg t' := ⟨fun pins s σ H v u Q I r q => h.run pins s σ H v u Q I r (c v σ H Q q)⟩
theorem pgsConv {X : Cx} {tg : List Expr} {t t' : TGs} (h : PGs X tg t) (c : ∀ v σ H Q, t' v σ H Q → t v σ H Q) : PGs X tg t' := ⟨fun pins s σ H v u Q I r q => h.run pins s σ H v u Q I r (c v σ H Q q)⟩
section
variable {X : Cx} {W : Wd X.K} {cls : Xc} {Wx : WX} {pos p : Pos}
theorem rg_name {i : Nat} {x : Str} (hN : X.N.Nodup) (hi : X.N[i]? = some x) (hx : Loc X.env.scope x) (hf : X.fn x = true ∨ X.env.scope.names.lookup x = some .local := by first | exact .inl rfl | exact .inr rfl | assumption) : PG X (.Name x pos) (TGv X.K W [i] (gNm i)) := by
  refine pgConv (pg_name hN hi hx hf) fun v σ H Q h => ?_
  obtain ⟨B, e, ad, s, d, e', G, r, ht, q⟩ := h
  cases ht
  exact q _ _ (G.set_val r i) (fun a h => mem_set_none h) (fun j hj => List.getElem?_set_ne (fun z => hj (by simp [z]))) (List.length_set ..)
theorem rgs_nil : PGs X [] (TGsv X.K W [] []) := by
  refine pgsConv pgs_nil fun vs σ H Q h => ?_
  obtain ⟨B, e, ad, s, ds, e', G, r, ht, q⟩ := h
  cases ds with
  | nil =>
    cases ht
    exact ⟨r.nil_inv, q _ _ G (fun a h => h) (fun _ _ => rfl) rfl⟩
  | cons d ds => cases ht
theorem rgs_cons {e : Expr} {es : List Expr} {js ks : List Nat} {t : Ft} {ts : List Ft} (h1 : PG X e (TGv X.K W js t)) (h2 : PGs X es (TGsv X.K W ks ts)) (hs : (assignEach (e :: es) X.env).map (·.2) = assign e X.env :: (assignEach es X.env).map (·.2) := by rfl) :
    PGs X (e :: es) (TGsv X.K W (js ++ ks) (t :: ts)) := by
  refine pgsConv (pgs_cons h1 h2 hs) fun vs σ H Q h => ?_
  obtain ⟨B, e, ad, s, ds, e', G, r, ht, q⟩ := h
  cases ds with
  | nil => cases ht
  | cons d ds =>
    obtain ⟨v, us, rfl, r1, r2⟩ := r.cons_inv
    have ht' : (t d e).bind (fun e1 => gTps ts ds e1) = some e' := ht
    cases z : t d e with
    | none => rw [z] at ht'; cases ht'
    | some e1 =>
      rw [z] at ht'
      refine ⟨v, us, rfl, B, e, ad, s, d, e1, G, r1, z, fun ad1 σ1 G1 m1 k1 l1 => ⟨B, e1, ad1, s, ds, e', G1, ?_, ht', fun ad2 σ2 G2 m2 k2 l2 => q ad2 σ2 G2 (fun a h => m1 a (m2 a h)) (fun j hj => ?_) (l2.trans l1)⟩⟩
      · exact r2.move (fun a o h e => ⟨e, fun z => h (z.imp id (m1 a))⟩) _ _
      · rw [List.mem_append, not_or] at hj
        exact (k2 j hj.2).trans (k1 j hj.1)
theorem rg_tup {es : List Expr} {k : Nat} {ts : List Ft} {js : List Nat} (hc : X.calm = true) (h : PGs X es (TGsv X.K W js ts)) (hl : es.length = ts.length := by rfl)
    (hn : (assignEach es X.env).length = es.length := by rfl) (hst : (assignEach es X.env).findIdx? (·.1) = none := by rfl) : PG X (.Tuple es k pos) (TGv X.K W js (gTp ts)) := by
  refine pgConv (pg_tup hc h hn hst) fun v σ H Q hh => ?_
  obtain ⟨B, e, ad, s, d, e', G, r, ht, q⟩ := hh
  cases d with
  | tuple ds =>
    obtain ⟨a, xs, rfl, hs, _, rs⟩ := r.tuple_sq
    have ht' : gTps ts ds e = some e' := ht
    have len : ∀ (ts : List Ft) (ds : List Rf.D) (e : En) (e' : En), gTps ts ds e = some e' → ts.length = ds.length := by
      intro ts
      induction ts with
      | nil =>
        intro ds e e' h
        cases ds with
        | nil => rfl
        | cons d ds => cases h
      | cons t ts ih =>
        intro ds e e' h
        cases ds with
        | nil => cases h
        | cons d ds =>
          have h' : (t d e).bind (fun e1 => gTps ts ds e1) = some e' := h
          cases z : t d e with
          | none => rw [z] at h'; cases h'
          | some e1 =>
            rw [z] at h'
            rw [List.length_cons, List.length_cons, ih ds e1 e' h']
    exact ⟨a, xs, rfl, hs, by rw [rs.length, hl, len ts ds e e' ht'], B, e, ad, s, ds, e', G, rs, ht', q⟩
  | _ => cases ht
/-! plain statements -/
theorem rs_set {i : Nat} {x : Str} {e : Expr} {fe : Fe W.S} {pos' : Pos} (hN : X.N.Nodup) (hi : X.N[i]? = some x) (hx : Loc X.env.scope x) (he : PV X W cls Wx e fe) (hs : swapsWith e (some (.Name x pos')) pos.line X.env = pure false := by rfl)
    (hf : X.fn x = true ∨ X.env.scope.names.lookup x = some .local := by first | exact .inl rfl | exact .inr rfl | assumption) : PS X (.Assign [.Name x pos'] e pos) (TSv X.K W cls Wx (sSet i fe)) := by
  refine psConv (ps_set hN hi hx he hs hf) fun D σ H h => ?_
  obtain ⟨B, e, ad, s, G, P⟩ := h
  refine ⟨B, e, ad, s, G, (Post.unbind P).imp (fun d s1 P1 v H1 e1 r1 hr => ?_) fun _ _ _ x => x.toP G⟩
  exact P1 _ _ _ ((G.ext e1 r1).set_val hr i)
theorem rs_unp {tg e : Expr} {fe : Fe W.S} {js : List Nat} {t : Ft} (he : PV X W cls Wx e fe) (hg : PG X tg (TGv X.K W js t)) (hs : swapsWithSole [tg] e pos.line X.env = pure false := by rfl) (hw : swappedStores [tg] e X.env = pure none := by rfl)
    (h1 : (assignEach [tg] X.env).map (·.2) = [assign tg X.env] := by rfl) : PS X (.Assign [tg] e pos) (TSv X.K W cls Wx (sUnp t fe)) := by
  refine psConv (ps_asg he hg hs hw h1) fun D σ H h => ?_
  obtain ⟨B, e, ad, s, G, P⟩ := h
  refine ⟨B, e, ad, s, G, (Post.unbind P).imp (fun d s1 P1 v H1 e1 r1 hr => ?_) fun _ _ _ x => x.toP G⟩
  have P1' : PostS X.K W cls B Wx D (match t d e with | some e1 => .ok (.nx e1) s1 | none => .stuck) := P1
  cases z : t d e with
  | none => rw [z] at P1'; exact P1'.elim
  | some e' =>
    rw [z] at P1'
    exact ⟨B, e, ad, s1, d, e', G.ext e1 r1, hr, z, fun ad' σ' G' _ _ _ => P1' _ _ _ G'⟩
theorem rs_ret {e : Expr} {fe : Fe W.S} (he : PV X W cls Wx e fe) : PS X (.Return (some e) pos) (TSv X.K W cls Wx (sRet fe)) := by
  refine psConv (ps_ret he) fun D σ H h => ?_
  obtain ⟨B, e, ad, s, G, P⟩ := h
  refine ⟨B, e, ad, s, G, (Post.unbind P).imp (fun d s1 P1 v H1 e1 r1 hr => ?_) fun _ _ _ x => x.toP G⟩
  exact P1 v H1 (G.ext e1 r1).keep r1 ((G.ext e1 r1).back hr)
theorem rs_retN : PS X (.Return none pos) (TSv X.K W cls Wx (sRet (vCst .none))) := by
  refine psConv ps_retN fun D σ H h => ?_
  obtain ⟨B, e, ad, s, G, P⟩ := h
  exact (show OutS X.K W B D (.rt .none) s from P) .non H G.keep G.R Rep.none
theorem rs_drop {e : Expr} {fe : Fe W.S} (he : PV X W cls Wx e fe) (hs : swapsWith e none pos.line X.env = pure false := by rfl) : PS X (.Expr e pos) (TSv X.K W cls Wx (sDrop fe)) := by
  refine psConv (ps_expr he hs) fun D σ H h => ?_
  obtain ⟨B, e, ad, s, G, P⟩ := h
  refine ⟨B, e, ad, s, G, (Post.unbind P).imp (fun d s1 P1 v H1 e1 r1 hr => ?_) fun _ _ _ x => x.toP G⟩
  exact P1 _ _ _ (G.ext e1 r1)
theorem rs_nil : PSs X [] (TSv X.K W cls Wx sNil) := by
  refine pssConv pss_nil fun D σ H h => ?_
  obtain ⟨B, e, ad, s, G, P⟩ := h
  exact (show OutS X.K W B D (.nx e) s from P) _ _ _ G
theorem ts_seq {K : PySem.W.Frag} {W : Wd K} {a b : Fs W.S} : ∀ D σ H, TSv K W cls Wx (sSeq a b) D σ H → tSeq (TSv K W cls Wx a) (TSv K W cls Wx b) D σ H := by
  rintro D σ H ⟨B, e, ad, s, G, P⟩
  refine ⟨B, e, ad, s, G, (Post.unbind P).imp (fun o s1 P1 => ?_) fun _ _ _ x => x⟩
  cases o with
  | nx e1 => exact fun ad' σ' H' G' => ⟨B, e1, ad', s1, G', P1⟩
  | bk e1 => exact P1
  | ct e1 => exact P1
  | rt d => exact P1
theorem rs_cons {st : Stmt} {rest : List Stmt} {a b : Fs W.S} (h1 : PS X st (TSv X.K W cls Wx a)) (h2 : PSs X rest (TSv X.K W cls Wx b)) : PSs X (st :: rest) (TSv X.K W cls Wx (sSeq a b)) := pssConv (pss_cons h1 h2) ts_seq
theorem rs_one {st : Stmt} {a : Fs W.S} (h1 : PS X st (TSv X.K W cls Wx a)) : PSs X [st] (TSv X.K W cls Wx a) := pss_one h1
theorem rs_if {c : Expr} {a b : List Stmt} {fc : Fb W.S} {fa fb : Fs W.S} (hc : PB X W cls Wx c fc) (ha : PSs X a (TSv X.K W cls Wx fa)) (hb : PSs X b (TSv X.K W cls Wx fb)) : PS X (.If c a b pos) (TSv X.K W cls Wx (sIf fc fa fb)) := by
  refine psConv (ps_if hc ha hb) fun D σ H h => ?_
  obtain ⟨B, e, ad, s, G, P⟩ := h
  refine ⟨B, e, ad, s, G, (Post.unbind P).imp (fun b s1 P1 H1 e1 r1 => ?_) fun _ _ _ x => x.toP G⟩
  cases b with
  | true =>
    show TSv X.K W cls Wx fa D σ H1
    exact ⟨B, e, ad, s1, G.ext e1 r1, P1⟩
  | false =>
    show TSv X.K W cls Wx fb D σ H1
    exact ⟨B, e, ad, s1, G.ext e1 r1, P1⟩
theorem rs_break : PS X (.Break pos) (TSv X.K W cls Wx sBrk) := by
  refine psConv ps_break fun D σ H h => ?_
  obtain ⟨B, e, ad, s, G, P⟩ := h
  exact (show OutS X.K W B D (.bk e) s from P) _ _ _ G
theorem rs_continue : PS X (.Continue pos) (TSv X.K W cls Wx sCnt) := by
  refine psConv ps_continue fun D σ H h => ?_
  obtain ⟨B, e, ad, s, G, P⟩ := h
  exact (show OutS X.K W B D (.ct e) s from P) _ _ _ G
/-- no row of the text: a list is read as data from here on -/
theorem rs_frz {i : Nat} {rest : List Stmt} {b : Fs W.S} (h : PSs X rest (TSv X.K W cls Wx b)) : PSs X rest (TSv X.K W cls Wx (sSeq (sFrz i) b)) := by
  refine pssConv h fun D σ H h => ?_
  obtain ⟨B, e, ad, s, G, P⟩ := h
  have P' : PostS X.K W cls B Wx D ((match e[i]? with | some x => Rs.ok (Out.nx (e.set i (frzS x))) s | none => .stuck).bind fun o s1 => match o with | .nx e1 => b e1 s1 | o => .ok o s1) := P
  cases z : e[i]? with
  | none => rw [z] at P'; exact P'.elim
  | some sl =>
    rw [z] at P'
    cases sl with
    | own ds => exact ⟨B, _, _, s, G.frz z, P'⟩
    | no =>
      have e1 : e.set i (frzS .no) = e := by
        apply List.ext_getElem?
        intro j
        by_cases q : i = j
        · subst q
          rw [List.getElem?_set, if_pos rfl, if_pos (List.getElem?_eq_some_iff.mp z).1, z]; rfl
        · rw [List.getElem?_set_ne q]
      refine ⟨B, e, ad, s, G, ?_⟩
      have P2 : PostS X.K W cls B Wx D (b (e.set i (frzS .no)) s) := P'
      rw [e1] at P2
      exact P2
    | val d =>
      have e1 : e.set i (frzS (.val d)) = e := by
        apply List.ext_getElem?
        intro j
        by_cases q : i = j
        · subst q
          rw [List.getElem?_set, if_pos rfl, if_pos (List.getElem?_eq_some_iff.mp z).1, z]; rfl
        · rw [List.getElem?_set_ne q]
      refine ⟨B, e, ad, s, G, ?_⟩
      have P2 : PostS X.K W cls B Wx D (b (e.set i (frzS (.val d))) s) := P'
      rw [e1] at P2
      exact P2
/-! while -/
theorem rs_while {n : Nat} {c : Expr} {body : List Stmt} {fc : Fb W.S} {fb : Fs W.S} (hp : PassesOwn (model X.prog X.w) X.A X.env X.xe) (hc : PB X W cls Wx c fc) (hb : PSs X body (TSv X.K W cls Wx fb)) : PS X (.While c body [] pos) (TSv X.K W cls Wx (sWhile n fc fb)) := by
  refine psConv (ps_while hp hc hb) fun D σ H h => ?_
  obtain ⟨B, e, ad, s, G, P⟩ := h
  refine ⟨fun m σ H => ∃ e ad s, Good X.K W B e ad σ H s ∧ PostS X.K W cls B Wx D (whGo fc fb m e s), ⟨n, e, ad, s, G, P⟩, ?_⟩
  rintro m σ H ⟨e, ad, s, G, P⟩
  cases m with
  | zero => exact P.elim
  | succ m =>
    refine ⟨B, e, ad, s, G, (Post.unbind P).imp (fun b s1 P1 H1 e1 r1 => ?_) fun _ _ _ x => x.toP G⟩
    cases b with
    | false =>
      rw [if_neg Bool.false_ne_true]
      exact P1 _ _ _ (G.ext e1 r1)
    | true =>
      rw [if_pos rfl]
      refine ⟨fun σ' H' => ∃ e ad s, Good X.K W B e ad σ' H' s ∧ PostS X.K W cls B Wx D (whGo fc fb m e s), fun σ' H' q => ⟨m, Nat.lt_succ_self m, q⟩, B, e, ad, s1, G.ext e1 r1, (Post.unbind P1).imp (fun o s2 P2 => ?_) fun _ _ _ x => x⟩
      cases o with
      | nx e2 => exact fun ad' σ' H' G' => ⟨e2, ad', s2, G', P2⟩
      | ct e2 => exact fun ad' σ' H' G' => ⟨e2, ad', s2, G', P2⟩
      | bk e2 => exact P2
      | rt d => exact P2
end
end Rf
end

section
set_option Elab.async false
set_option linter.all false
set_option maxRecDepth 100000
set_option maxHeartbeats 4000000
/-! RfLoop: for, comprehensions, lists kept to themselves, defs (own work). -/
namespace Rf
open PySem PySem.Spec PyProof.Rows L2

/-- the iterator J gives the data ds, while what stands at H' (but O) stands -/
structure ItOk (K : PySem.W.Frag) (Wr : Hp → Prop) (O : Addr → Prop) (H' : Hp) (ds : List D) (J : It) : Prop where
  ex : ∃ (G : Hp → Prop) (Y : Nat → Hp → V → Hp → Prop), Walk J ds.length G Y ∧ (∀ H'', Wr H'' → (∀ a o, ¬ O a → H' a = some o → H'' a = some o) → G H'') ∧
    ∀ i Hx x Hy, i < ds.length → (∀ a o, ¬ O a → H' a = some o → Hx a = some o) → Y i Hx x Hy → ∃ d, ds[i]? = some d ∧ (∀ a o, Hx a = some o → Hy a = some o) ∧
      ∀ O' : Addr → Prop, (∀ a o, ¬ O a → H' a = some o → ¬ O' a) → (∀ a, O' a → ∃ o, Hx a = some o) → Rep K O' Hy d x
def TIv (K : PySem.W.Frag) (W : Wd K) (cls : Xc) (Wx : WX) (F : Fa W.S) : TI := fun σ H R => ∃ B e ad s, Good K W B e ad σ H s ∧
  Post (fun ds s' => ∀ J H', Ext W.M H H' → W.R s' H' → ItOk K (fun H => ∃ s, W.R s H) (Ow B.O ad) H' ds J → R J H') (ExcP K W cls (Ow B.O ad) H fun c dd H' => Wx c dd σ H') (F e s)
theorem piConv {X : Cx} {tg iter : Expr} {t t' : TI} (h : PI X tg iter t) (c : ∀ σ H R, t' σ H R → t σ H R) : PI X tg iter t' := ⟨fun pins s σ H R I q => h.run pins s σ H R I (c σ H R q)⟩
section
variable {K : PySem.W.Frag} {Wr : Hp → Prop} {O : Addr → Prop} {H : Hp}
theorem ItOk.seq {J : It} {ds : List D} {xs : List V} {G : Hp → Prop} (w : Walk J xs.length G (YAt xs)) (hl : xs.length = ds.length) (hG : ∀ H'', (∀ a o, ¬ O a → H a = some o → H'' a = some o) → G H'') (r : Reps K O H ds xs) : ItOk K Wr O H ds J := by
  refine ⟨G, YAt xs, by rw [← hl]; exact w, fun H'' _ => hG H'', fun i Hx x Hy hi k y => ?_⟩
  obtain ⟨rfl, hx⟩ := y
  obtain ⟨d, e, rd⟩ := r.get hx
  exact ⟨d, e, fun a o h => h, fun O' ho _ => rd.move (fun a o h e => ⟨k a o h e, ho a o h e⟩) _ _⟩
theorem ItOk.rng {lo : Int} {n : Nat} : ItOk K Wr O H (rng lo n) (Itr lo n) := by
  have hl : (Rf.rng lo n).length = n := by unfold Rf.rng; simp
  refine ⟨fun _ => True, YFn fun i => .int (lo + (i : Nat)), by rw [hl]; exact walk_range, fun _ _ _ => trivial, fun i Hx x Hy hi k y => ?_⟩
  obtain ⟨rfl, rfl⟩ := y
  refine ⟨.int (lo + (i : Nat)), ?_, fun a o h => h, fun O' _ _ => Rep.int _⟩
  rw [hl] at hi
  unfold Rf.rng
  simp [hi]
theorem ItOk.pair {J : It} {n : Nat} {ds : List D} {G : Hp → Prop} {fx fy : Nat → Option V} (w : Walk J n G (YPair fx fy)) (hl : n = ds.length) (hG : ∀ H'', (∀ a o, ¬ O a → H a = some o → H'' a = some o) → G H'')
    (r : ∀ i x y, i < n → fx i = some x → fy i = some y → ∃ d e, ds[i]? = some (pairD d e) ∧ Rep K O H d x ∧ Rep K O H e y) : ItOk K Wr O H ds J := by
  refine ⟨G, YPair fx fy, by rw [← hl]; exact w, fun H'' _ => hG H'', fun i Hx v Hy hi k y => ?_⟩
  obtain ⟨T, x, z, rfl, hT, rfl, h1, h2⟩ := y
  obtain ⟨d, e, hd, rd, re⟩ := r i x z (by omega) h1 h2
  refine ⟨pairD d e, hd, fun a o h => ?_, fun O' ho ht => ?_⟩
  · rw [upd_ne (ne_of_none h hT)]
    exact h
  · have hT' : ¬ O' T := fun z => by
      obtain ⟨o, q⟩ := ht T z
      rw [hT] at q
      cases q
    have mv : ∀ a o, ¬ O a → H a = some o → upd Hx T (.tup [x, z]) a = some o ∧ ¬ O' a := fun a o h e => ⟨by
      have q := k a o h e
      rw [upd_ne (ne_of_none q hT)]
      exact q, ho a o h e⟩
    exact .tuple upd_same hT' (by show 2 ≤ line; decide) (Reps.cons (rd.move mv _ _) (Reps.cons (re.move mv _ _) Reps.nil))
end
section
variable {X : Cx} {W : Wd X.K} {cls : Xc} {Wx : WX} {pos p : Pos} {tg : Expr}
/-! ### what is walked -/
theorem ri_tup {e : Expr} {fe : Fe W.S} (he : PV X W cls Wx e fe) : PI X tg e (TIv X.K W cls Wx (iTp fe)) := by
  refine piConv (pi_tup he) fun σ H R h => ?_
  obtain ⟨B, e, ad, s, G, P⟩ := h
  refine ⟨B, e, ad, s, G, (Post.unbind P).imp (fun d s1 P1 v H1 e1 r1 hr => ?_) fun _ _ _ x => x⟩
  cases d with
  | tuple ds =>
    obtain ⟨a, xs, rfl, h1, _, rs⟩ := hr.tuple_inv
    have hs : ∀ H'', (∀ b o, ¬ Ow B.O ad b → H1 b = some o → H'' b = some o) → SqT X.K H'' a xs := fun H'' k => by
      rcases h1 with ⟨h1, h2⟩ | h1
      · exact SqT.of (k a _ h2 h1)
      · exact h1.sq H''
    exact ⟨a, rfl, ⟨xs, hs H1 fun _ _ _ q => q⟩, P1 _ H1 e1 r1 (ItOk.seq walk_tup rs.length hs rs)⟩
  | _ => exact P1.elim
theorem ri_lst {e : Expr} {fe : Fe W.S} (he : PV X W cls Wx e fe) : PI X tg e (TIv X.K W cls Wx (iLs fe)) := by
  refine piConv (pi_list he) fun σ H R h => ?_
  obtain ⟨B, e, ad, s, G, P⟩ := h
  refine ⟨B, e, ad, s, G, (Post.unbind P).imp (fun d s1 P1 v H1 e1 r1 hr => ?_) fun _ _ _ x => x⟩
  cases d with
  | list ds =>
    obtain ⟨a, xs, rfl, ⟨h1, h2⟩, _, rs⟩ := hr.list_inv
    have hs : ∀ H'', (∀ b o, ¬ Ow B.O ad b → H1 b = some o → H'' b = some o) → SqL X.K H'' a xs := fun H'' k => SqL.of (k a _ h2 h1)
    exact ⟨a, rfl, ⟨xs, hs H1 fun _ _ _ q => q⟩, P1 _ H1 e1 r1 (ItOk.seq walk_list rs.length hs rs)⟩
  | _ => exact P1.elim
theorem ri_range {a : Expr} {fe : Fe W.S} (hg : Gl X "range") (hm : X.mg "range" = none) (ha : PV X W cls Wx a fe) (hs : starEach [a] X.env = [(false, eval a X.env)] := by rfl) : PI X tg (.Call (.Name "range" p) [a] [] pos) (TIv X.K W cls Wx (iRng fe)) := by
  refine piConv (pi_range1 hg hm (ra_cons ha ra_nil hs) hs) fun σ H R h => ?_
  obtain ⟨B, e, ad, s, G, P⟩ := h
  refine ⟨B, e, ad, s, G, ?_⟩
  refine Post.imp (k := fun ds s' => ∃ d, ds = [d] ∧ Post (fun ds s' => ∀ J H', Ext W.M H H' → W.R s' H' → ItOk X.K (fun H => ∃ s, W.R s H) (Ow B.O ad) H' ds J → R J H') (ExcP X.K W cls (Ow B.O ad) H fun c dd H' => Wx c dd σ H') (match d with
    | .int j => if -(line : Int) ≤ j ∧ j ≤ line then .ok (rng 0 j.toNat) s' else .stuck
    | _ => .stuck)) ?_ (fun ds s1 q vs H1 e1 r1 hr => ?_) fun _ _ _ x => x
  · have P' := Post.unbind P
    show Post _ _ ((fe e s).bind fun x s1 => (aNil e s1).bind fun xs s2 => .ok (x :: xs) s2)
    cases q : fe e s with
    | ok d s1 => rw [q] at P'; exact ⟨d, rfl, P'⟩
    | exc c d s1 => rw [q] at P'; exact P'
    | stuck => rw [q] at P'; exact P'
  · obtain ⟨d, rfl, P1⟩ := q
    obtain ⟨v, us, rfl, h1, h2⟩ := hr.cons_inv
    obtain rfl := h2.nil_inv
    cases d with
    | int j =>
      have P1' : Post (fun ds s' => ∀ J H', Ext W.M H H' → W.R s' H' → ItOk X.K (fun H => ∃ s, W.R s H) (Ow B.O ad) H' ds J → R J H') (ExcP X.K W cls (Ow B.O ad) H fun c dd H' => Wx c dd σ H') (if -(line : Int) ≤ j ∧ j ≤ line then Rs.ok (rng 0 j.toNat) s1 else .stuck) := P1
      by_cases hj : -(line : Int) ≤ j ∧ j ≤ line
      · rw [if_pos hj] at P1'
        obtain rfl := h1.int_inv
        have : (line : Int) < 2 ^ 62 := by decide
        exact ⟨j, rfl, by omega, by omega, P1' _ H1 e1 r1 ItOk.rng⟩
      · rw [if_neg hj] at P1'
        exact P1'.elim
    | _ => exact P1.elim
theorem walk_zipT {K : PySem.W.Frag} {a b : Addr} {xs ys : List V} {n : Nat} (hn : n = min xs.length ys.length) : Walk (RZ.ItzT K a b) n (fun H => SqT K H a xs ∧ SqT K H b ys) (YPair (fun i => xs[i]?) (fun i => ys[i]?)) := by
  subst hn
  refine ⟨fun i _ hi q => ?_, fun _ q => ⟨xs, ys, q.1, q.2, by omega⟩, fun i H v H' _ q y => ?_⟩
  · have h1 : i < xs.length := by omega
    have h2 : i < ys.length := by omega
    exact ⟨xs, ys, xs[i], ys[i], q.1, q.2, by simp [h1], by simp [h2]⟩
  · obtain ⟨T, x, z, h1, h2, h3, h4, h5⟩ := y
    exact ⟨T, x, z, h1, h2, h3, h4 xs q.1, h5 ys q.2⟩
theorem zw_get {xs ys : List D} : ∀ {i : Nat} {d e : D}, xs[i]? = some d → ys[i]? = some e → (List.zipWith pairD xs ys)[i]? = some (pairD d e) := fun {i d e} h1 h2 => by
  rw [List.getElem?_zipWith, h1, h2]
theorem ri_zip {a b : Expr} {fa fb : Fe W.S} {elts : List Expr} {kk : Nat} {tpos : Pos} (hg : Gl X "zip") (hm : X.mg "zip" = none) (ha : PV X W cls Wx a fa) (hb : PV X W cls Wx b fb)
    (hs : starEach [a, b] X.env = (false, eval a X.env) :: starEach [b] X.env := by rfl) (hs2 : starEach [b] X.env = (false, eval b X.env) :: starEach [] X.env := by rfl) (hpl : (backTo pos (starEach [b] X.env)).any (·.1) = false := by rfl) :
    PI X (.Tuple elts kk tpos) (.Call (.Name "zip" p) [a, b] [] pos) (TIv X.K W cls Wx (iZip fa fb)) := by
  refine piConv (RZ.pi_zipA hg hm (pa_cons ha (pa_cons hb pa_nil hs2) hs) hs hpl) fun σ H R h => ?_
  obtain ⟨B, e, ad, s, G, P⟩ := h
  refine ⟨B, e, ad, s, G, (Post.unbind P).imp (fun d s1 P1 v H1 e1 r1 hr => ?_) fun _ _ _ x => x⟩
  have G1 := G.ext e1 r1
  refine ⟨B, e, ad, s1, G1, (Post.unbind P1).imp (fun d2 s2 P2 v2 H2 e2 r2 hr2 => ?_) fun _ _ _ x => x.ext e1⟩
  have hrr := G1.rep e2 hr
  cases d with
  | tuple ds =>
    cases d2 with
    | tuple es =>
      obtain ⟨q1, xs, rfl, h1, _, rs⟩ := hrr.tuple_inv
      obtain ⟨q2, ys, rfl, h2, _, rt⟩ := hr2.tuple_inv
      have k1 : ∀ H'', (∀ b o, ¬ Ow B.O ad b → H2 b = some o → H'' b = some o) → SqT X.K H'' q1 xs := fun H'' k => by
        rcases h1 with ⟨z1, z2⟩ | z1
        · exact SqT.of (k q1 _ z2 z1)
        · exact KT.sq z1 H''
      have k2 : ∀ H'', (∀ b o, ¬ Ow B.O ad b → H2 b = some o → H'' b = some o) → SqT X.K H'' q2 ys := fun H'' k => by
        rcases h2 with ⟨z1, z2⟩ | z1
        · exact SqT.of (k q2 _ z2 z1)
        · exact KT.sq z1 H''
      refine ⟨q1, q2, xs, ys, rfl, .inr ⟨k1 H2 fun _ _ _ q => q, k2 H2 fun _ _ _ q => q, P2 _ H2 (e1.trans e2) r2 (ItOk.pair (walk_zipT rfl) ?_ (fun H'' k => ⟨k1 H'' k, k2 H'' k⟩) fun i x y hi hx hy => ?_)⟩⟩
      · rw [List.length_zipWith, rs.length, rt.length]
      · obtain ⟨d1, e1', z1⟩ := rs.get hx
        obtain ⟨d2, e2', z2⟩ := rt.get hy
        exact ⟨d1, d2, zw_get e1' e2', z1, z2⟩
    | _ => exact P2.elim
  | list ds =>
    cases d2 with
    | list es =>
      obtain ⟨q1, xs, rfl, ⟨h1, n1⟩, _, rs⟩ := hrr.list_inv
      obtain ⟨q2, ys, rfl, ⟨h2, n2⟩, _, rt⟩ := hr2.list_inv
      have k1 : ∀ H'', (∀ b o, ¬ Ow B.O ad b → H2 b = some o → H'' b = some o) → SqL X.K H'' q1 xs := fun H'' k => SqL.of (k q1 _ n1 h1)
      have k2 : ∀ H'', (∀ b o, ¬ Ow B.O ad b → H2 b = some o → H'' b = some o) → SqL X.K H'' q2 ys := fun H'' k => SqL.of (k q2 _ n2 h2)
      refine ⟨q1, q2, xs, ys, rfl, .inl ⟨k1 H2 fun _ _ _ q => q, k2 H2 fun _ _ _ q => q, P2 _ H2 (e1.trans e2) r2 (ItOk.pair (walk_zip rfl) ?_ (fun H'' k => ⟨k1 H'' k, k2 H'' k⟩) fun i x y hi hx hy => ?_)⟩⟩
      · rw [List.length_zipWith, rs.length, rt.length]
      · obtain ⟨d1, e1', z1⟩ := rs.get hx
        obtain ⟨d2, e2', z2⟩ := rt.get hy
        exact ⟨d1, d2, zw_get e1' e2', z1, z2⟩
    | _ => exact P2.elim
  | _ => exact P2.elim
/-! ### for -/
theorem rs_for {iter : Expr} {body : List Stmt} {fi : Fa W.S} {fb : Fs W.S} {t : Ft} {js : List Nat} (hp : PassesOwn (model X.prog X.w) X.A X.env X.xe) (hc : X.calm = true) (hi : PI X tg iter (TIv X.K W cls Wx fi)) (hg : PG X tg (TGv X.K W js t)) (hb : PSs X body (TSv X.K W cls Wx fb))
    (hs : ∀ x, foldedSetIterable iter X.env x = pure x := by intro _; rfl) : PS X (.For tg iter body [] pos) (TSv X.K W cls Wx (sFor t fi fb)) := by
  refine psConv (ps_for hp hc hi hg hb hs) fun D σ H h => ?_
  obtain ⟨B, e, ad, s, G, P⟩ := h
  refine ⟨B, e, ad, s, G, (Post.unbind P).imp (fun ds s1 P1 J H1 e1 r1 it => ?_) fun _ _ _ x => x.toP G⟩
  have G1 := (G.ext e1 r1).pin
  obtain ⟨Gh, Y, w, st, yl⟩ := it.ex
  have stp : ∀ {e2 : En} {ad2 : List (Option Addr)} {σ2 : L2.St} {H2 : Hp} {s2 : W.S}, Good X.K W (B.pin ad H1) e2 ad2 σ2 H2 s2 → ∀ a o, ¬ Ow B.O ad a → H1 a = some o → H2 a = some o := fun G2 a o h q => G2.keep a o (.inr ⟨h, q⟩)
  have wk : ∀ {e2 : En} {ad2 : List (Option Addr)} {σ2 : L2.St} {H2 : Hp} {s2 : W.S}, Good X.K W (B.pin ad H1) e2 ad2 σ2 H2 s2 → Good X.K W B e2 ad2 σ2 H2 s2 := fun G2 => G2.weak rfl fun _ _ p => .inl p
  refine for_it w (fun i σ2 H2 => ∃ e2 ad2 s2, Good X.K W (B.pin ad H1) e2 ad2 σ2 H2 s2 ∧ PostS X.K W cls B Wx D (forGo t fb (ds.drop i) e2 s2)) ⟨e, ad, s1, G1, P1⟩ (fun i σ2 H2 _ ⟨e2, ad2, s2, G2, _⟩ => st H2 ⟨_, G2.R⟩ (stp G2)) ?_ ?_
  · rintro i x σ2 H2 H3 hlt ⟨e2, ad2, s2, G2, P2⟩ hy
    obtain ⟨d, hd, mono, rp⟩ := yl i H2 x H3 hlt (stp G2) hy
    have hdrop : ds.drop i = d :: ds.drop (i + 1) := by
      rw [List.drop_eq_getElem_cons hlt]
      congr 1
      rw [List.getElem?_eq_getElem hlt] at hd
      exact Option.some.inj hd
    rw [hdrop] at P2
    have P2' : PostS X.K W cls B Wx D (match t d e2 with
      | none => .stuck
      | some e1 => (fb e1 s2).bind fun o s1 => match o with
        | .nx e2 => forGo t fb (ds.drop (i + 1)) e2 s1
        | .ct e2 => forGo t fb (ds.drop (i + 1)) e2 s1
        | .bk e2 => .ok (.nx e2) s1
        | .rt d => .ok (.rt d) s1) := P2
    have x23 : Ext W.M H2 H3 := fun a o _ q => mono a o q
    have G3 : Good X.K W (B.pin ad H1) e2 ad2 σ2 H3 s2 := G2.ext x23 (W.stable _ _ _ G2.R fun a o _ q => mono a o q)
    have rd : Rep X.K (Ow (B.pin ad H1).O ad2) H3 d x := rp _ (fun a o h q z => by
      rcases z with z | z
      · exact h (.inl z)
      · exact (G2.out a z).2 o (.inr ⟨h, q⟩)) G2.fit.trk
    cases z : t d e2 with
    | none => rw [z] at P2'; exact P2'.elim
    | some e3 =>
      rw [z] at P2'
      refine ⟨B.pin ad H1, e2, ad2, s2, d, e3, G3, rd, z, fun ad4 σ4 G4 _ _ _ => ⟨B.pin ad H1, e3, ad4, s2, G4, ?_⟩⟩
      refine (Post.unbind P2').imp (fun o s5 P5 => ?_) fun c dd s5 x => ?_
      · cases o with
        | nx e5 => exact fun ad' σ' H' G' => ⟨e5, ad', s5, G', P5⟩
        | ct e5 => exact fun ad' σ' H' G' => ⟨e5, ad', s5, G', P5⟩
        | bk e5 => exact fun ad' σ' H' G' => P5 ad' σ' H' (wk G')
        | rt d5 => exact fun v H' k r rd => P5 v H' (fun a o p => k a o (.inl p)) r rd
      · obtain ⟨C, f, q1, q2⟩ := x
        exact ⟨C, f, q1, fun dct v σ' H' k r hd hr => q2 dct v σ' H' (fun a o p => k a o (.inl p)) r hd hr⟩
  · rintro σ2 H2 ⟨e2, ad2, s2, G2, P2⟩
    rw [List.drop_length] at P2
    exact P2 ad2 σ2 H2 (wk G2)
end
end Rf
end

section
set_option Elab.async false
set_option linter.all false
set_option maxRecDepth 100000
set_option maxHeartbeats 4000000
/-! RfDef: comprehensions, lists kept to themselves, defs (own work). -/
namespace Rf
open PySem PySem.Spec PyProof.Rows L2

/-! ### the frame within a comprehension -/
section
variable {K : PySem.W.Frag} {O O' : Addr → Prop} {H H' : Hp}
theorem EnvR.hide {e : En} {ad : List (Option Addr)} {σ : L2.St} (h : EnvR K O H e ad σ) : EnvR K O H (e.map hideS) (ad.map fun _ => none) σ := by
  induction h with
  | nil => exact .nil
  | no _ ih => exact .no ih
  | val r _ ih => exact .val r ih
  | own _ _ _ _ ih => exact .no ih
theorem wipeE_length (e : En) : ∀ vs : List Nat, (wipeE e vs).length = e.length
  | [] => rfl
  | v :: vs => by unfold wipeE; rw [List.length_set, wipeE_length e vs]
theorem EnvR.wipe {e : En} {ad : List (Option Addr)} {σ : L2.St} (h : EnvR K O H e ad σ) (hn : ∀ a, some a ∉ ad) : ∀ vs : List Nat, ∃ ad', (∀ a, some a ∉ ad') ∧ EnvR K O H (wipeE e vs) ad' (wipe σ vs)
  | [] => ⟨ad, hn, h⟩
  | v :: vs => by
    obtain ⟨ad', h1, h2⟩ := h.wipe hn vs
    exact ⟨ad'.set v none, fun a z => h1 a (mem_set_none z), h2.set_no⟩
theorem wipe_at {σ : L2.St} {i : Nat} : ∀ {vs : List Nat}, (wipe σ vs)[i]? = if i ∈ vs ∧ i < σ.length then some none else σ[i]?
  | [] => by simp [wipe]
  | v :: vs => by
    show ((wipe σ vs).set v none)[i]? = _
    rw [List.getElem?_set, wipe_length, wipe_at]
    by_cases h : v = i
    · subst h
      by_cases h2 : v < σ.length
      · simp [h2]
      · simp [h2]
    · have : i ≠ v := fun z => h z.symm
      simp [h, this]
theorem wipe_agree {σ τ : L2.St} {vs : List Nat} (hl : τ.length = σ.length) (h : ∀ j, j ∉ vs → τ[j]? = σ[j]?) : wipe τ vs = wipe σ vs := by
  apply List.ext_getElem?
  intro i
  rw [wipe_at, wipe_at, hl]
  by_cases hi : i ∈ vs
  · by_cases h2 : i < σ.length
    · simp [hi, h2]
    · simp only [h2, and_false, if_false]
      rw [List.getElem?_eq_none (by omega), List.getElem?_eq_none (by omega)]
  · simp only [hi, false_and, if_false]
    exact h i hi
theorem wipe_wipe {σ : L2.St} {vs : List Nat} : wipe (wipe σ vs) vs = wipe σ vs := by
  apply List.ext_getElem?
  intro i
  rw [wipe_at, wipe_at, wipe_length]
  by_cases h : i ∈ vs ∧ i < σ.length
  · rw [if_pos h, if_pos h]
  · rw [if_neg h, if_neg h]
end
abbrev W0 : WX := fun _ _ _ _ => False
theorem none_back {K : PySem.W.Frag} {W : Wd K} {H H1 : Hp} {s1 : W.S} {p : Addr} (e1 : Ext W.M H H1) (r1 : W.R s1 H1) (hp : H1 p = none) : H p = none := by
  cases z : H p with
  | none => rfl
  | some o =>
    by_cases m : W.M p
    · obtain ⟨o', z'⟩ := W.there s1 H1 p r1 m
      rw [hp] at z'; cases z'
    · rw [e1 p o m z] at hp; cases hp
/-- a comprehension's reading -/
theorem lc_tree {K : PySem.W.Frag} {W : Wd K} {cls : Xc} {Wx : WX} {fi : Fa W.S} {t : Ft} {js vs : List Nat} {fc : Fb W.S} {fa : Fe W.S} (hj : ∀ j ∈ js, j ∈ vs) :
    ∀ σ H Q, TOv K W cls Wx (vLc vs t fi fc fa) σ H Q → tLc (TIv K W cls Wx fi) (TGv K W js t) (TBv K W cls W0 fc) (TEv K W cls W0 fa) vs σ H Q := by
  rintro σ H Q ⟨B, e, ad, s, G, P⟩
  refine ⟨B, e, ad, s, G, (Post.unbind P).imp (fun ds s1 P1 J H1 e1 r1 it => ?_) fun _ _ _ x => x⟩
  intro L hL
  have G1 := G.ext e1 r1
  have nL : H L = none := none_back e1 r1 hL
  have mL : ¬ W.M L := fun z => by
    obtain ⟨o, q⟩ := W.there s1 H1 L r1 z
    rw [hL] at q; cases q
  have P1' : PostO K W cls Wx (Ow B.O ad) σ H Q (if ds.length ≤ line then (lcGo t fc fa (wipeE (e.map hideS) vs) ds s1).bind (fun ys s2 => .ok ys s2) else .stuck) := P1
  by_cases hlen : ds.length ≤ line
  · rw [if_pos hlen] at P1'
    have P2 : PostO K W cls Wx (Ow B.O ad) σ H Q (lcGo t fc fa (wipeE (e.map hideS) vs) ds s1) := by
      have z : ∀ r : Rs W.S (List Rf.D), (r.bind fun ys s2 => Rs.ok ys s2) = r := fun r => by cases r <;> rfl
      rw [z] at P1'
      exact P1'
    obtain ⟨Gh, Y, w, st, yl⟩ := it.ex
    obtain ⟨ad', hn', hE'⟩ := (G1.env.hide).wipe (fun a z => by simp at z) vs
    have keepS : ∀ {H2 : Hp}, Ext W.M H1 H2 → ∀ a o, ¬ Ow B.O ad a → H1 a = some o → H2 a = some o := fun x a o h q => x a o (G1.nm h) q
    -- the frame within, at a heap behind H1 in which the new list lies
    have inn : ∀ {H2 : Hp} {s2 : W.S} {acc : List V}, Ext W.M H1 H2 → W.R s2 H2 → H2 L = some (.lst acc) → Good K W ⟨fun a => Ow B.O ad a ∨ a = L, fun _ _ => False⟩ (wipeE (e.map hideS) vs) ad' (wipe σ vs) H2 s2 := fun {H2 s2 acc} x r hl => by
      have F2 := G1.fit.next x r
      refine ⟨hE'.move (fun a o h q => ⟨keepS x a o h q, ?_⟩) (fun a o h => (hn' a h).elim), fun i j a h => (hn' a (List.mem_of_getElem? h)).elim, fun _ _ z => z.elim, fun a h => (hn' a h).elim, fun a h => ?_, fun a m => .inl (.inl (G.mo a m)), fun _ _ z => z.elim, r⟩
      · rintro (z | z)
        · rcases z with z | z
          · exact h z
          · rw [z, hL] at q; cases q
        · exact hn' a z
      · rcases h with h | h
        · exact F2.trk a h
        · exact ⟨_, by rw [h]; exact hl⟩
    refine lc_it w (fun i H2 => ∃ (s2 : W.S) (acc : List V) (ys : List Rf.D), Ext W.M H1 H2 ∧ W.R s2 H2 ∧ H2 L = some (.lst acc) ∧ Reps K (fun a => Ow B.O ad a ∨ a = L) H2 ys acc ∧ ys.length ≤ i ∧
      PostO K W cls Wx (Ow B.O ad) σ H Q ((lcGo t fc fa (wipeE (e.map hideS) vs) (ds.drop i) s2).bind fun zs s3 => .ok (ys ++ zs) s3)) ?_ ?_ ?_ ?_
    · refine ⟨s1, [], [], Ext.new hL, Wd.new r1 hL, upd_same, Reps.nil, Nat.zero_le _, ?_⟩
      have z : ∀ r : Rs W.S (List Rf.D), (r.bind fun ys s2 => Rs.ok ([] ++ ys) s2) = r := fun r => by cases r <;> rfl
      rw [List.drop_zero, z]
      exact P2
    · rintro i H2 _ ⟨s2, acc, ys, x, r, _⟩
      exact st H2 ⟨_, r⟩ (keepS x)
    · rintro i x H2 H3 hlt ⟨s2, acc, ys, x2, r2, hl2, rep2, len2, P3⟩ hy
      obtain ⟨d, hd, mono, rp⟩ := yl i H2 x H3 hlt (keepS x2) hy
      have hdrop : ds.drop i = d :: ds.drop (i + 1) := by
        rw [List.drop_eq_getElem_cons hlt]
        congr 1
        rw [List.getElem?_eq_getElem hlt] at hd
        exact Option.some.inj hd
      rw [hdrop] at P3
      have x23 : Ext W.M H2 H3 := fun a o _ q => mono a o q
      have r3 : W.R s2 H3 := W.stable _ _ _ r2 fun a o _ q => mono a o q
      have hl3 := mono L _ hl2
      have x3 := x2.trans x23
      have G3 := inn x3 r3 hl3
      have rd : Rep K (Ow (fun a => Ow B.O ad a ∨ a = L) ad') H3 d x := rp _ (fun a o h q z => by
        rcases z with (z | z) | z
        · exact h z
        · rw [z, hL] at q; cases q
        · exact hn' a z) fun a h => by
        rcases h with (h | h) | h
        · exact (G1.fit.next x2 r2).trk a h
        · exact ⟨_, by rw [h]; exact hl2⟩
        · exact (hn' a h).elim
      have P4 : PostO K W cls Wx (Ow B.O ad) σ H Q ((match t d (wipeE (e.map hideS) vs) with
        | none => Rs.stuck
        | some e1 => (fc e1 s2).nox.bind fun b s1 => match b with
          | true => (fa e1 s1).nox.bind fun y s2 => (lcGo t fc fa (wipeE (e.map hideS) vs) (ds.drop (i + 1)) s2).bind fun ys s3 => .ok (y :: ys) s3
          | false => lcGo t fc fa (wipeE (e.map hideS) vs) (ds.drop (i + 1)) s1).bind fun zs s3 => .ok (ys ++ zs) s3) := P3
      cases z : t d (wipeE (e.map hideS) vs) with
      | none => rw [z] at P4; exact P4.elim
      | some e4 =>
        rw [z] at P4
        dsimp only at P4
        refine ⟨_, _, ad', s2, d, e4, G3, rd, z, fun ad5 σ5 G5 m5 k5 l5 => ⟨?_, _, e4, ad5, s2, G5, ?_⟩⟩
        · have := wipe_agree (vs := vs) (σ := wipe σ vs) (τ := σ5) l5 (fun j hjn => k5 j fun q => hjn (hj j q))
          rw [this, wipe_wipe]
        · cases q : fc e4 s2 with
          | stuck => rw [q] at P4; exact P4.elim
          | exc c dd s' => rw [q] at P4; exact P4.elim
          | ok b s3 =>
            rw [q] at P4
            show ∀ H5, Ext W.M H3 H5 → W.R s3 H5 → _
            intro H5 e5 r5
            cases b with
            | false =>
              rw [if_neg Bool.false_ne_true]
              have x5 := x3.trans e5
              refine ⟨s3, acc, ys, x5, r5, e5 L _ mL hl3, ?_, Nat.le_succ_of_le len2, P4⟩
              refine rep2.move (fun a o h q => ⟨e5 a o (fun z => h (.inl (.inl (G.mo a z)))) (mono a o q), h⟩) _ _
            | true =>
              rw [if_pos rfl]
              have G6 := G5.ext e5 r5
              refine ⟨_, e4, ad5, s3, G6, ?_⟩
              have P5 : PostO K W cls Wx (Ow B.O ad) σ H Q (((fa e4 s3).nox.bind fun y s2 => (lcGo t fc fa (wipeE (e.map hideS) vs) (ds.drop (i + 1)) s2).bind fun ys s3 => .ok (y :: ys) s3).bind fun zs s3 => .ok (ys ++ zs) s3) := P4
              cases q2 : fa e4 s3 with
              | stuck => rw [q2] at P5; exact P5.elim
              | exc c dd s' => rw [q2] at P5; exact P5.elim
              | ok y s6 =>
                rw [q2] at P5
                show ∀ v H6, Ext W.M H5 H6 → W.R s6 H6 → Rep K (Ow (fun a => Ow B.O ad a ∨ a = L) ad5) H6 y v → _
                intro v H6 e6 r6 hv
                have x6 := (x3.trans e5).trans e6
                have hl6 : H6 L = some (.lst acc) := e6 L _ mL (e5 L _ mL hl3)
                have al := rep2.length
                refine ⟨acc, hl6, by rw [al]; exact Nat.lt_of_le_of_lt len2 (Nat.lt_of_lt_of_le hlt (Nat.le_trans hlen line_size)), s6, acc ++ [v], ys ++ [y], ?_, ?_, upd_same, ?_, ?_, ?_⟩
                · intro a o m q
                  rw [upd_ne (fun z => by rw [z, hL] at q; cases q)]
                  exact x6 a o m q
                · exact W.stable _ _ _ r6 fun a o m q => by
                    rw [upd_ne (m.elim (fun m z => mL (by rw [← z]; exact m)) fun n z => by rw [z, hl6] at q; exact n acc (Option.some.inj q).symm)]
                    exact q
                · have mv : ∀ {O2 : Addr → Prop} {H2 : Hp}, (∀ a o, ¬ (Ow B.O ad a ∨ a = L) → H2 a = some o → H6 a = some o) → ∀ a o, ¬ (Ow B.O ad a ∨ a = L) → H2 a = some o → upd H6 L (.lst (acc ++ [v])) a = some o ∧ ¬ (Ow B.O ad a ∨ a = L) := fun k a o h q => ⟨by
                    rw [upd_ne (fun z => h (.inr z))]
                    exact k a o h q, h⟩
                  refine Reps.append ?_ (Reps.cons ?_ Reps.nil)
                  · exact rep2.move (mv (O2 := fun _ => False) fun a o h q => e6 a o (fun z => h (.inl (.inl (G.mo a z)))) (e5 a o (fun z => h (.inl (.inl (G.mo a z)))) (mono a o q))) _ _
                  · refine hv.move (fun a o h q => ?_) _ _
                    have h' : ¬ (Ow B.O ad a ∨ a = L) := fun z => h (.inl z)
                    exact mv (O2 := fun _ => False) (H2 := H6) (fun a o h q => q) a o h' q
                · rw [List.length_append]
                  show ys.length + 1 ≤ i + 1
                  omega
                · have P6 : PostO K W cls Wx (Ow B.O ad) σ H Q (((lcGo t fc fa (wipeE (e.map hideS) vs) (ds.drop (i + 1)) s6).bind fun ys s3 => Rs.ok (y :: ys) s3).bind fun zs s3 => .ok (ys ++ zs) s3) := P5
                  have zz : ∀ r : Rs W.S (List Rf.D), ((r.bind fun ys s3 => Rs.ok (y :: ys) s3).bind fun zs s3 => Rs.ok (ys ++ zs) s3) = (r.bind fun zs s3 => Rs.ok ((ys ++ [y]) ++ zs) s3) := fun r => by
                    cases r with
                    | ok zs s3 =>
                      show Rs.ok (ys ++ y :: zs) s3 = Rs.ok ((ys ++ [y]) ++ zs) s3
                      rw [List.append_assoc] <;> rfl
                    | _ => rfl
                  rw [zz] at P6
                  exact P6
    · rintro H2 ⟨s2, acc, ys, x2, r2, hl2, rep2, len2, P3⟩
      rw [List.drop_length] at P3
      have P4 : PostO K W cls Wx (Ow B.O ad) σ H Q (Rs.ok (ys ++ []) s2) := P3
      rw [List.append_nil] at P4
      exact P4.2 L acc H2 nL (e1.trans x2) r2 hl2 rep2
  · rw [if_neg hlen] at P1'
    exact P1'.elim
section
variable {X : Cx} {W : Wd X.K} {cls : Xc} {Wx : WX} {pos p : Pos} {tg : Expr}
theorem rt_nil : PTs X [] (TBv X.K W cls Wx cYes) := by
  refine ⟨fun pins s σ H Q I h => ?_⟩
  obtain ⟨B, e, ad, s', G, P⟩ := h
  exact pts_nil.run pins s σ H Q I ((show ∀ H', Ext W.M H H' → W.R s' H' → Q true H' from P) H (Ext.refl H) G.R)
theorem rt_one {c : Expr} {f : Fb W.S} (h : PB X W cls Wx c f) : PTs X [c] (TBv X.K W cls Wx f) := pts_one h
/-- a list that is new, as data -/
theorem to_val {K : PySem.W.Frag} {W : Wd K} {f : Fa W.S} : ∀ σ H Q, TEv K W cls Wx (vNew f) σ H Q → TOv K W cls Wx f σ H Q := by
  rintro σ H Q ⟨B, e, ad, s, G, P⟩
  refine ⟨B, e, ad, s, G, (Post.unbind P).imp (fun ds s1 P1 => ?_) fun _ _ _ x => x⟩
  have P1' : PostD K W cls Wx (Ow B.O ad) σ H Q (if ds.length ≤ line then Rs.ok (.list ds) s1 else .stuck) := P1
  by_cases hl : ds.length ≤ line
  · rw [if_pos hl] at P1'
    exact ⟨hl, fun a xs H1 hn e1 r1 h1 hr => P1' (.ref a) H1 e1 r1 (.list h1 (G.fresh hn) hl (hr.move (fun a o h q => ⟨q, fun z => h (.inl z)⟩) _ _))⟩
  · rw [if_neg hl] at P1'
    exact P1'.elim
theorem rv_new {e : Expr} {f : Fa W.S} (h : PE X e (TOv X.K W cls Wx f)) : PV X W cls Wx e (vNew f) := peConv h to_val
theorem reps_new {K : PySem.W.Frag} {W : Wd K} {B : Bs} {e : En} {ad : List (Option Addr)} {σ : L2.St} {H : Hp} {s : W.S} (G : Good K W B e ad σ H s) {p : Addr} {o : HO} (hp : H p = none) {ds : List Rf.D} {vs : List V} (r : Reps K (Ow B.O ad) H ds vs) :
    Reps K (fun b => Ow B.O ad b ∨ b = p) (upd H p o) ds vs := r.move (fun a u h q => ⟨by
      rw [upd_ne (ne_of_none q hp)]
      exact q, fun z => z.elim h fun z => by rw [z, hp] at q; cases q⟩) _ _
/-- [a, b, ..] -/
theorem ro_lst {es : List Expr} {a : Fa W.S} (h : PAr X W cls Wx es a) : PE X (.List es pos) (TOv X.K W cls Wx a) := by
  refine peConv (pe_lst h) fun σ H Q hh => ?_
  obtain ⟨B, e, ad, s', G, P⟩ := hh
  refine ⟨B, e, ad, s', G, P.imp (fun ds s1 q vs H1 e1 r1 hr => ?_) fun _ _ _ x => x⟩
  exact ⟨by rw [hr.length]; exact Nat.le_trans q.1 line_size, fun p hp => q.2 p vs _ (none_back e1 r1 hp) (e1.trans (Ext.new hp)) (Wd.new r1 hp) upd_same (reps_new (G.ext e1 r1) hp hr)⟩
/-- list(e) -/
def oList {S : Type} (a : Fe S) : Fa S := fun e s => (a e s).bind fun d s1 => match d with
  | .tuple ds => .ok ds s1
  | .list ds => .ok ds s1
  | _ => .stuck
theorem ro_list {a : Expr} {f : Fe W.S} (hg : Gl X "list") (hm : X.mg "list" = none) (ha : PV X W cls Wx a f) (hs : starEach [a] X.env = (false, eval a X.env) :: starEach [] X.env := by rfl) :
    PE X (.Call (.Name "list" p) [a] [] pos) (TOv X.K W cls Wx (oList f)) := by
  refine peConv (pe_callTy call_list_of hg hm (by decide +kernel) (pa_cons ha pa_nil hs) (by decide) (by decide) hs) fun σ H Q hh => ?_
  obtain ⟨B, e, ad, s', G, P⟩ := hh
  refine ⟨B, e, ad, s', G, (Post.unbind P).imp (fun d s1 P1 v H1 e1 r1 hr => ?_) fun _ _ _ x => x⟩
  have G1 := G.ext e1 r1
  cases d with
  | tuple ds =>
    obtain ⟨a, ys, rfl, h3, _, r⟩ := hr.tuple_sq
    exact ⟨a, ys, rfl, .inr h3, fun l hl => P1.2 l ys _ (none_back e1 r1 hl) (e1.trans (Ext.new hl)) (Wd.new r1 hl) upd_same (reps_new G1 hl r)⟩
  | list ds =>
    obtain ⟨a, ys, rfl, h3, _, r⟩ := hr.list_inv
    exact ⟨a, ys, rfl, .inl (SqL.of h3.1), fun l hl => P1.2 l ys _ (none_back e1 r1 hl) (e1.trans (Ext.new hl)) (Wd.new r1 hl) upd_same (reps_new G1 hl r)⟩
  | _ => exact P1.elim
/-! ### [a for t in it if c] -/
theorem ro_lc {elt iter : Expr} {ifs : List Expr} {scope : Scope} {own : List (Str × Nat)} {fi : Fa W.S} {t : Ft} {js : List Nat} {fc : Fb W.S} {fa : Fe W.S} (hc : X.calm = true) (hN : X.N.Nodup) (hi : PI X tg iter (TIv X.K W cls Wx fi)) (ok : BlkOk X.N X.env.scope scope own)
    (hg : ∀ (s : Shared) (H : Hp) (C : Addr) (cl : List (Str × Addr)) (fp : List Addr), PG (X.blk s H scope (compEnvC scope cl C X.env) fp) tg (TGv X.K W js t)) (hj : ∀ j ∈ js, j ∈ own.map (·.2))
    (ht : ∀ (s : Shared) (H : Hp) (C : Addr) (cl : List (Str × Addr)) (fp : List Addr), PTs (X.blk s H scope (compEnvC scope cl C X.env) fp) ifs (TBv X.K W cls W0 fc))
    (he : ∀ (s : Shared) (H : Hp) (C : Addr) (cl : List (Str × Addr)) (fp : List Addr), PE (X.blk s H scope (compEnvC scope cl C X.env) fp) elt (TEv X.K W cls W0 fa)) (hs : ∀ x, foldedSetIterable iter X.env x = pure x := by intro _; rfl) :
    PE X (.ListComp elt [⟨tg, iter, ifs, 0⟩] scope pos) (TOv X.K W cls Wx (vLc (own.map (·.2)) t fi fc fa)) := by
  refine peConv (pe_lc hc hN hi ok hg ht he hs) fun σ H Q hh => lc_tree hj σ H Q hh
end
end Rf
end

section
set_option Elab.async false
set_option linter.all false
set_option maxRecDepth 100000
set_option maxHeartbeats 4000000
/-! RfOwn: lists kept to themselves; defs (own work). -/
namespace Rf
open PySem PySem.Spec PyProof.Rows L2

/-- a slot's value: data, or a list that was not there at H -/
def SlV (K : PySem.W.Frag) (O : Addr → Prop) (H H' : Hp) : Slot → V → Prop
  | .no, _ => False
  | .val d, v => Rep K O H' d v
  | .own ds, v => ∃ a xs, v = .ref a ∧ H a = none ∧ H' a = some (.lst xs) ∧ ds.length ≤ line ∧ Reps K (fun b => O b ∨ b = a) H' ds xs
def TCv (K : PySem.W.Frag) (W : Wd K) (cls : Xc) (Wx : WX) (F : Fc W.S) : TE := fun σ H Q => ∃ B e ad s, Good K W B e ad σ H s ∧
  Post (fun sl s' => ∀ v H', Ext W.M H H' → W.R s' H' → SlV K (Ow B.O ad) H H' sl v → Q v H') (ExcP K W cls (Ow B.O ad) H fun c dd H' => Wx c dd σ H') (F e s)
section
variable {K : PySem.W.Frag} {W : Wd K} {cls : Xc} {Wx : WX}
theorem tc_val {f : Fe W.S} : ∀ σ H Q, TCv K W cls Wx (cVal f) σ H Q → TEv K W cls Wx f σ H Q := by
  rintro σ H Q ⟨B, e, ad, s, G, P⟩
  exact ⟨B, e, ad, s, G, (Post.unbind P).imp (fun d s1 P1 v H1 e1 r1 hr => P1 v H1 e1 r1 hr) fun _ _ _ x => x⟩
theorem tc_new {f : Fa W.S} : ∀ σ H Q, TCv K W cls Wx (cNew f) σ H Q → TOv K W cls Wx f σ H Q := by
  rintro σ H Q ⟨B, e, ad, s, G, P⟩
  refine ⟨B, e, ad, s, G, (Post.unbind P).imp (fun ds s1 P1 => ?_) fun _ _ _ x => x⟩
  by_cases hl : ds.length ≤ line
  · rw [if_pos hl] at P1
    exact ⟨hl, fun a xs H1 hn e1 r1 h1 hr => P1 (.ref a) H1 e1 r1 ⟨a, xs, rfl, hn, h1, hl, hr⟩⟩
  · rw [if_neg hl] at P1
    exact P1.elim
end
section
variable {K : PySem.W.Frag} {W : Wd K} {cls : Xc} {Wx : WX} {B : Bs} {e : En} {ad : List (Option Addr)} {σ : L2.St} {H H1 H2 : Hp} {s s1 s2 : W.S} {D : Ends}
/-- a slot stored -/
theorem Good.set_slv (G : Good K W B e ad σ H s) (x : Ext W.M H H1) (r : W.R s1 H1) {sl : Slot} {v : V} (h : SlV K (Ow B.O ad) H H1 sl v) (i : Nat) : ∃ ad', Good K W B (e.set i sl) ad' (σ.set i (some v)) H1 s1 := by
  cases sl with
  | no => exact h.elim
  | val d => exact ⟨_, (G.ext x r).set_val h i⟩
  | own ds =>
    obtain ⟨a, xs, rfl, hn, h1, hl, hr⟩ := h
    exact ⟨_, G.new_own x r hn h1 hl hr i⟩
theorem slv_later {O : Addr → Prop} (G : Fit K W O H1 s1) (x : Ext W.M H1 H2) (r2 : W.R s2 H2) {sl : Slot} {v : V} (h : SlV K O H H1 sl v) (mo : ∀ a, H a = none → ¬ W.M a) : SlV K O H H2 sl v := by
  cases sl with
  | no => exact h.elim
  | val d => exact G.rep x h
  | own ds =>
    obtain ⟨a, xs, rfl, hn, h1, hl, hr⟩ := h
    exact ⟨a, xs, rfl, hn, x a _ (mo a hn) h1, hl, hr.move (fun b o h e => ⟨x b o (fun z => h (.inl (G.mo b z))) e, h⟩) _ _⟩
theorem Good.nm_none (G : Good K W B e ad σ H s) {a : Addr} (h : H a = none) : ¬ W.M a := fun z => by
  obtain ⟨o, q⟩ := W.there s H a G.R z
  rw [h] at q
  cases q
end
section
variable {X : Cx} {W : Wd X.K} {cls : Xc} {Wx : WX} {pos p : Pos}
theorem rc_val {e : Expr} {f : Fe W.S} (h : PV X W cls Wx e f) : PE X e (TCv X.K W cls Wx (cVal f)) := peConv h tc_val
theorem rc_new {e : Expr} {f : Fa W.S} (h : PE X e (TOv X.K W cls Wx f)) : PE X e (TCv X.K W cls Wx (cNew f)) := peConv h tc_new
theorem rs_setC {i : Nat} {x : Str} {e : Expr} {fe : Fc W.S} {pos' : Pos} (hN : X.N.Nodup) (hi : X.N[i]? = some x) (hx : Loc X.env.scope x) (he : PE X e (TCv X.K W cls Wx fe)) (hs : swapsWith e (some (.Name x pos')) pos.line X.env = pure false := by rfl)
    (hf : X.fn x = true ∨ X.env.scope.names.lookup x = some .local := by first | exact .inl rfl | exact .inr rfl | assumption) : PS X (.Assign [.Name x pos'] e pos) (TSv X.K W cls Wx (sSetC i fe)) := by
  refine psConv (ps_set hN hi hx he hs hf) fun D σ H h => ?_
  obtain ⟨B, e, ad, s, G, P⟩ := h
  refine ⟨B, e, ad, s, G, (Post.unbind P).imp (fun d s1 P1 v H1 e1 r1 hr => ?_) fun _ _ _ x => x.toP G⟩
  obtain ⟨ad', G'⟩ := G.set_slv e1 r1 hr i
  exact P1 _ _ _ G'
/-- a, b = x, y, plain local names -/
theorem rs_par {i j : Nat} {x y : Str} {a b : Expr} {fa fb : Fc W.S} {px py pt : Pos} {kt k2 pt2} (hc : X.calm = true) (hN : X.N.Nodup) (hi : X.N[i]? = some x) (hj : X.N[j]? = some y) (hij : i ≠ j)
    (hx : X.env.scope.names.lookup x = some .local) (hy : X.env.scope.names.lookup y = some .local) (ha : PE X a (TCv X.K W cls Wx fa)) (hb : PE X b (TCv X.K W cls Wx fb))
    (hw : swappedStores [.Tuple [.Name x px, .Name y py] kt pt] (.Tuple [a, b] k2 pt2) X.env = pure (some [x, y]) := by rfl)
    (hs : swapsWithSole [.Tuple [.Name x px, .Name y py] kt pt] (.Tuple [a, b] k2 pt2) pos.line X.env = pure false := by rfl)
    (h1 : starEach [a, b] X.env = (false, eval a X.env) :: starEach [b] X.env := by rfl) (h2 : starEach [b] X.env = (false, eval b X.env) :: starEach [] X.env := by rfl) :
    PS X (.Assign [.Tuple [.Name x px, .Name y py] kt pt] (.Tuple [a, b] k2 pt2) pos) (TSv X.K W cls Wx (sPar i j fa fb)) := by
  refine psConv (ps_par hc hN hi hj hij hx hy (pa_cons ha (pa_cons hb pa_nil h2) h1) hw hs) fun D σ H h => ?_
  obtain ⟨B, e, ad, s, G, P⟩ := h
  refine ⟨B, e, ad, s, G, (Post.unbind P).imp (fun sl s1 P1 v H1 e1 r1 hr => ?_) fun _ _ _ x => x.toP G⟩
  have G1 := G.ext e1 r1
  -- while the second one is made, a list that the first one made is not to be touched
  obtain ⟨B1, GB, hB1⟩ : ∃ B1 : Bs, Good X.K W B1 e ad σ H1 s1 ∧ (∀ (sl2 : Slot) (v2 : V) (s2 : W.S) (H2 : Hp), Ext W.M H1 H2 → W.R s2 H2 → SlV X.K (Ow B1.O ad) H1 H2 sl2 v2 → PostS X.K W cls B Wx D (Rs.ok (.nx ((e.set i sl).set j sl2)) s2) → D.nx ((σ.set i (some v)).set j (some v2)) H2) ∧
      ∀ b, Ow B.O ad b → Ow B1.O ad b := by
    cases sl with
    | no => exact hr.elim
    | val d =>
      refine ⟨B, G1, fun sl2 v2 s2 H2 e2 r2 h2 q => ?_, fun b h => h⟩
      have Gi : Good X.K W B (e.set i (.val d)) (ad.set i none) (σ.set i (some v)) H1 s1 := G1.set_val hr i
      have h2' : SlV X.K (Ow B.O (ad.set i none)) H1 H2 sl2 v2 := by
        have m : ∀ a, ¬ Ow B.O ad a → ¬ Ow B.O (ad.set i none) a := fun a h z => h (z.imp id mem_set_none)
        cases sl2 with
        | no => exact h2
        | val d2 => exact Rep.move (fun a o h e => ⟨e, m a h⟩) _ _ h2
        | own ds =>
          obtain ⟨a, xs, q1, q2, q3, q4, q5⟩ := h2
          exact ⟨a, xs, q1, q2, q3, q4, q5.move (fun a o h e => ⟨e, fun z => h (z.imp (fun z => Classical.byContradiction fun q => m a q z) id)⟩) _ _⟩
      obtain ⟨ad', G'⟩ := Gi.set_slv e2 r2 h2' j
      exact q _ _ _ G'
    | own ds =>
      obtain ⟨a, xs, rfl, hn, h1, hl, hr⟩ := hr
      have nP : ∀ o, ¬ B.P a o := fun o p => by
        have := G.keep a o p
        rw [hn] at this
        cases this
      have nO : ¬ Ow B.O ad a := G.fresh hn
      have hE : EnvR X.K (fun b => Ow B.O ad b ∨ b = a) H1 e ad σ := G.env.move (fun b o h q => ⟨e1 b o (G.nm h) q, fun z => z.elim h fun z => by rw [z, hn] at q; cases q⟩) fun b o h q => e1 b o (fun z => (G.out b h).1 (G.mo b z)) q
      have hOO : ∀ b, Ow (fun b => B.O b ∨ b = a) ad b → Ow B.O ad b ∨ b = a := fun b z => by
        rcases z with (z | z) | z
        · exact .inl (.inl z)
        · exact .inr z
        · exact .inl (.inr z)
      refine ⟨⟨fun b => B.O b ∨ b = a, B.P⟩, ⟨hE.move (fun b o h q => ⟨q, fun z => h (hOO b z)⟩) fun b o _ q => q, G1.once, G1.keep, fun b h => ⟨fun z => z.elim (G1.out b h).1 fun z => nO (.inr (by rw [← z]; exact h)), (G1.out b h).2⟩, fun b h => h.elim (G1.trk b) fun z => ⟨.lst xs, by rw [z]; exact h1⟩, fun b m => .inl (G1.mo b m), G1.mp, G1.R⟩,
        fun sl2 v2 s2 H2 e2 r2 h2 q => ?_, fun b h => h.elim (fun z => .inl (.inl z)) .inr⟩
      have hm : ¬ W.M a := G.nm_none hn
      have Gi : Good X.K W B (e.set i (.own ds)) (ad.set i (some a)) (σ.set i (some (.ref a))) H1 s1 := G.new_own e1 r1 hn h1 hl hr i
      have mm : ∀ b, ¬ Ow (fun b => B.O b ∨ b = a) ad b → ¬ Ow B.O (ad.set i (some a)) b := fun b h z => h (by
        rcases z with z | z
        · exact .inl (.inl z)
        · rcases mem_set_some z with z | z
          · exact .inr z
          · exact .inl (.inr z))
      have h2' : SlV X.K (Ow B.O (ad.set i (some a))) H1 H2 sl2 v2 := by
        cases sl2 with
        | no => exact h2
        | val d2 => exact Rep.move (fun a o h e => ⟨e, mm a h⟩) _ _ h2
        | own es =>
          obtain ⟨a2, ys, q1, q2, q3, q4, q5⟩ := h2
          exact ⟨a2, ys, q1, q2, q3, q4, q5.move (fun b o h e => ⟨e, fun z => h (z.imp (fun z => Classical.byContradiction fun q => mm b q z) id)⟩) _ _⟩
      obtain ⟨ad', G'⟩ := Gi.set_slv e2 r2 h2' j
      exact q _ _ _ G'
  show TCv X.K W cls Wx fb σ H1 (fun v2 H2 => ∃ a b, [v, v2] = [a, b] ∧ D.nx ((σ.set i (some a)).set j (some b)) H2)
  refine ⟨B1, e, ad, s1, GB, (Post.unbind P1).imp (fun sl2 s2 P2 v2 H2 e2 r2 hr2 => ⟨v, v2, rfl, hB1.1 sl2 v2 s2 H2 e2 r2 hr2 P2⟩) fun c d s2 q => ?_⟩
  obtain ⟨C, f, q1, q2⟩ := q
  exact ⟨C, f, q1, fun dct v' H' e' r' hd hr' => q2 dct v' σ H' (fun a o p => e' a o (G1.mp a o p) (G1.keep a o p)) r' hd (hr'.move (fun a o h e => ⟨e, fun z => h (hB1.2 a (.inl z))⟩) _ _)⟩
/-! a list that a slot keeps to itself -/
theorem ownAt_some {e : En} {i : Nat} {ds : List Rf.D} (h : ownAt e i = some ds) : e[i]? = some (.own ds) := by
  unfold ownAt at h
  split at h
  · rename_i q
    rw [q]
    cases h
    rfl
  · cases h
/-- x.append(e) -/
theorem rs_app {i : Nat} {x : Str} {e : Expr} {fe : Fe W.S} {p1 p2 p3 : Pos} (hN : X.N[i]? = some x) (hv : Vis X.env.scope x) (he : PV X W cls Wx e fe) (hd : (x == ("__debug__" : Str)) = false := by decide) (hcd : (x == ("__classdict__" : Str)) = false := by decide)
    (hbase : attributeBase (.Name x p1) "append" X.env (eval (.Name x p1) X.env) = eval (.Name x p1) X.env := by rfl)
    (hfew : ((backTo p3 (starEach [e] X.env)).all (fun x => !x.1) && (backToKw p3 (keywordEach [] X.env)).all (fun x => x.1.isSome) && decide (([e] : List Expr).length + ([] : List Keyword).length + (if ([] : List Keyword).isEmpty then 0 else 1) < 30)) = true := by rfl)
    (hline : (p2.endLine == p3.line) = true := by rfl) (hs1 : starEach [e] X.env = (false, eval e X.env) :: starEach [] X.env := by rfl) (hpl : (backTo p3 (starEach [] X.env)).any (·.1) = false := by rfl)
    (hs : swapsWith (.Call (.Attribute (.Name x p1) "append" p2) [e] [] p3) none pos.line X.env = pure false := by rfl) :
    PS X (.Expr (.Call (.Attribute (.Name x p1) "append" p2) [e] [] p3) pos) (TSv X.K W cls Wx (sApp i fe)) := by
  refine psConv (ps_expr (pe_bm PySem.F.plainAttrs_list PySem.F.slot_list_append PySem.F.type_list_append mt_append (pe_var hN hv hd hcd) (pa_cons he pa_nil hs1) hbase hfew hline hs1 hpl) hs) fun D σ H h => ?_
  obtain ⟨B, e, ad, s, G, P⟩ := h
  have P' : PostS X.K W cls B Wx D (match ownAt e i with
    | some ds => (fe e s).bind fun d s1 => if ds.length < line then .ok (.nx (e.set i (.own (ds ++ [d])))) s1 else .stuck
    | none => .stuck) := P
  cases z : ownAt e i with
  | none => rw [z] at P'; exact P'.elim
  | some ds =>
    rw [z] at P'
    have hz := ownAt_some z
    obtain ⟨a, xs, h1, h2, h3, h4, h5⟩ := G.env.own_at hz
    refine ⟨.ref a, h1, .inl ⟨rfl, xs, SqL.of h3⟩, ?_⟩
    refine ⟨B, e, ad, s, G, (Post.unbind P').imp (fun d s1 P1 v H1 e1 r1 hr => ?_) fun _ _ _ x => x.toP G⟩
    have G1 := G.ext e1 r1
    have h3' : H1 a = some (.lst xs) := e1 a _ (fun m => (G.out a (List.mem_of_getElem? h2)).1 (G.mo a m)) h3
    by_cases hl : ds.length < line
    · rw [if_pos hl] at P1
      refine ⟨a, xs, v, rfl, rfl, h3', by rw [h5.length]; exact Nat.lt_trans hl line_lt, ?_⟩
      exact P1 _ _ _ (G1.upd_own hz h2 h1 h3' (by rw [List.length_append]; exact hl) ((G.reps e1 h5).append (Reps.cons hr Reps.nil)))
    · rw [if_neg hl] at P1
      exact P1.elim
/-- t = x.pop() -/
theorem rs_pop {i : Nat} {x : Str} {tg : Expr} {js : List Nat} {t : Ft} {p1 p2 p3 : Pos} (hN : X.N[i]? = some x) (hv : Vis X.env.scope x) (hg : PG X tg (TGv X.K W js t)) (hd : (x == ("__debug__" : Str)) = false := by decide) (hcd : (x == ("__classdict__" : Str)) = false := by decide)
    (hbase : attributeBase (.Name x p1) "pop" X.env (eval (.Name x p1) X.env) = eval (.Name x p1) X.env := by rfl) (hline : (p2.endLine == p3.line) = true := by rfl)
    (hs : swapsWithSole [tg] (.Call (.Attribute (.Name x p1) "pop" p2) [] [] p3) pos.line X.env = pure false := by rfl) (hw : swappedStores [tg] (.Call (.Attribute (.Name x p1) "pop" p2) [] [] p3) X.env = pure none := by rfl)
    (h1 : (assignEach [tg] X.env).map (·.2) = [assign tg X.env] := by rfl) : PS X (.Assign [tg] (.Call (.Attribute (.Name x p1) "pop" p2) [] [] p3) pos) (TSv X.K W cls Wx (sPop i t)) := by
  refine psConv (ps_asg (pe_bm0 PySem.F.plainAttrs_list PySem.F.slot_list_pop PySem.F.type_list_pop mt_pop (pe_var hN hv hd hcd) hbase hline) hg hs hw h1) fun D σ H h => ?_
  obtain ⟨B, e, ad, s, G, P⟩ := h
  have P' : PostS X.K W cls B Wx D (match ownAt e i with
    | some ds => (match ds.getLast? with
      | some d => (match t d (e.set i (.own ds.dropLast)) with
        | some e1 => .ok (.nx e1) s
        | none => .stuck)
      | none => .stuck)
    | none => .stuck) := P
  cases z : ownAt e i with
  | none => rw [z] at P'; exact P'.elim
  | some ds =>
    rw [z] at P'
    dsimp only at P'
    have hz := ownAt_some z
    obtain ⟨a, xs, h1, h2, h3, h4, h5⟩ := G.env.own_at hz
    cases z2 : ds.getLast? with
    | none => rw [z2] at P'; exact P'.elim
    | some d =>
      rw [z2] at P'
      dsimp only at P'
      cases z3 : t d (e.set i (.own ds.dropLast)) with
      | none => rw [z3] at P'; exact P'.elim
      | some e1 =>
        rw [z3] at P'
        have hlen := h5.length
        have hd2 : ds[ds.length - 1]? = some d := by rw [← List.getLast?_eq_getElem?]; exact z2
        obtain ⟨v, hv2, rv⟩ := h5.get' hd2
        refine ⟨.ref a, h1, .inl ⟨rfl, xs, SqL.of h3⟩, a, xs, v, rfl, rfl, h3, by rw [hlen]; exact hv2, ?_⟩
        have hdrop : Reps X.K (Ow B.O ad) H ds.dropLast xs.dropLast := by
          rw [List.dropLast_eq_take, List.dropLast_eq_take, hlen]
          exact h5.take _
        have G1 := G.upd_own hz h2 h1 h3 (ds' := ds.dropLast) (ys := xs.dropLast) (by rw [List.length_dropLast]; omega) hdrop
        refine ⟨B, _, ad, s, d, e1, G1, ?_, z3, fun ad' σ' G' _ _ _ => P' _ _ _ G'⟩
        exact rv.move (fun b o h q => ⟨by
          rw [upd_ne (fun z => h (by rw [z]; exact .inr (List.mem_of_getElem? h2)))]
          exact q, h⟩) _ _
/-- x[k] = e -/
theorem rs_setix {i : Nat} {x : Str} {k e : Expr} {fk fe : Fe W.S} {p1 p2 : Pos} (hN : X.N[i]? = some x) (hv : Vis X.env.scope x) (hk : PV X W cls Wx k fk) (he : PV X W cls Wx e fe) (hd : (x == ("__debug__" : Str)) = false := by decide) (hcd : (x == ("__classdict__" : Str)) = false := by decide)
    (ha : ∀ v, assign (.Subscript (.Name x p1) k p2) X.env v = (do
      let ov ← holding [v] (eval (.Name x p1) X.env)
      let iv ← holding [v, ov] (eval k X.env)
      standAt p2
      holding [v, ov, iv] (setItem ov iv v)
      release [v, ov, iv] []) := by intro _; rfl)
    (hs : swapsWithSole [.Subscript (.Name x p1) k p2] e pos.line X.env = pure false := by rfl) (hw : swappedStores [.Subscript (.Name x p1) k p2] e X.env = pure none := by rfl)
    (h1 : (assignEach [.Subscript (.Name x p1) k p2] X.env).map (·.2) = [assign (.Subscript (.Name x p1) k p2) X.env] := by rfl) : PS X (.Assign [.Subscript (.Name x p1) k p2] e pos) (TSv X.K W cls Wx (sSetIx i fk fe)) := by
  refine psConv (ps_asg he (pg_sub (pe_var hN hv hd hcd) hk set_list ha) hs hw h1) fun D σ H h => ?_
  obtain ⟨B, e, ad, s, G, P⟩ := h
  have P' : PostS X.K W cls B Wx D (match ownAt e i with
    | some ds => (fe e s).bind fun d s1 => (fk e s1).bind fun j s2 => match j with
      | .int z => if 0 ≤ z ∧ z < ds.length then .ok (.nx (e.set i (.own (ds.set z.toNat d)))) s2 else .stuck
      | _ => .stuck
    | none => .stuck) := P
  cases z : ownAt e i with
  | none => rw [z] at P'; exact P'.elim
  | some ds =>
    rw [z] at P'
    dsimp only at P'
    have hz := ownAt_some z
    obtain ⟨a, xs, h1, h2, h3, h4, h5⟩ := G.env.own_at hz
    have nM : ¬ W.M a := fun m => (G.out a (List.mem_of_getElem? h2)).1 (G.mo a m)
    refine ⟨B, e, ad, s, G, (Post.unbind P').imp (fun d s1 P1 v H1 e1 r1 hr => ?_) fun _ _ _ x => x.toP G⟩
    have G1 := G.ext e1 r1
    refine ⟨.ref a, h1, B, e, ad, s1, G1, (Post.unbind P1).imp (fun j s2 P2 u H2 e2 r2 hu => ?_) fun _ _ _ x => x.toP G1⟩
    have G2 := G1.ext e2 r2
    cases j with
    | int z =>
      dsimp only at P2
      by_cases hc : 0 ≤ z ∧ z < ds.length
      · rw [if_pos hc] at P2
        obtain rfl := hu.int_inv
        have h3' := e2 a _ nM (e1 a _ nM h3)
        have h5' := G1.reps e2 (G.reps e1 h5)
        refine ⟨a, xs, z, z.toNat, rfl, rfl, h3', ?_, ?_⟩
        · unfold ixN
          rw [if_pos hc.1, h5.length, if_pos hc.2]
        · exact P2 _ _ _ (G2.upd_own hz h2 h1 h3' (by rw [List.length_set]; exact h4) (h5'.set _ (G1.rep e2 hr)))
      · rw [if_neg hc] at P2
        exact P2.elim
    | _ => exact P2.elim
/-! looks at such a list -/
theorem rv_lenO {i : Nat} {x : Str} {p1 : Pos} (hN : X.N[i]? = some x) (hv : Vis X.env.scope x) (hg : Gl X "len") (hm : X.mg "len" = none) (hd : (x == ("__debug__" : Str)) = false := by decide) (hcd : (x == ("__classdict__" : Str)) = false := by decide) :
    PV X W cls Wx (.Call (.Name "len" p) [.Name x p1] [] pos) (vLenO i) := by
  refine peConv (pe_callB call_len_seq hg hm PySem.boot_len (pa_cons (pe_var hN hv hd hcd) pa_nil)) fun σ H Q h => ?_
  obtain ⟨B, e, ad, s, G, P⟩ := h
  have P' : PostD X.K W cls Wx (Ow B.O ad) σ H Q (match ownAt e i with | some ds => .ok (.int ds.length) s | none => .stuck) := P
  cases z : ownAt e i with
  | none => rw [z] at P'; exact P'.elim
  | some ds =>
    rw [z] at P'
    obtain ⟨a, xs, h1, h2, h3, h4, h5⟩ := G.env.own_at (ownAt_some z)
    exact ⟨.ref a, h1, a, xs, rfl, .inl (SqL.of h3), P' _ H (Ext.refl H) G.R (by rw [h5.length]; exact Rep.int _)⟩
theorem rv_ixO {i : Nat} {x : Str} {p1 : Pos} {k : Expr} {fk : Fe W.S} (hN : X.N[i]? = some x) (hv : Vis X.env.scope x) (hk : PV X W cls Wx k fk) (hs : PlainIx k := by exact fun _ _ => rfl) (hd : (x == ("__debug__" : Str)) = false := by decide) (hcd : (x == ("__classdict__" : Str)) = false := by decide) :
    PV X W cls Wx (.Subscript (.Name x p1) k pos) (vIxO i fk) := by
  refine peConv (pe_ix ix_list (pe_var hN hv hd hcd) hk hs) fun σ H Q h => ?_
  obtain ⟨B, e, ad, s, G, P⟩ := h
  have P' : PostD X.K W cls Wx (Ow B.O ad) σ H Q (match ownAt e i with | some ds => (fk e s).bind fun k s1 => .ofO (dItem (.list ds) k) s1 | none => .stuck) := P
  cases z : ownAt e i with
  | none => rw [z] at P'; exact P'.elim
  | some ds =>
    rw [z] at P'
    obtain ⟨a, xs, h1, h2, h3, h4, h5⟩ := G.env.own_at (ownAt_some z)
    refine ⟨.ref a, h1, B, e, ad, s, G, (Post.unbind P').imp (fun d s1 P1 v H1 e1 r1 hr => ?_) fun _ _ _ x => x⟩
    obtain ⟨y, hy, q⟩ := P1.ofO
    cases d with
    | int j =>
      obtain rfl := hr.int_inv
      have e' : dIx j ds = some y := hy
      have e2 : L2.atI ds j = some y := by
        rw [← e']
        unfold dIx L2.atI ixN
        by_cases h : 0 ≤ j
        · rw [if_pos h, if_pos h]
          by_cases h1 : j < ds.length
          · rw [if_pos h1]; rfl
          · rw [if_neg h1]
            exact (List.getElem?_eq_none (by omega)).symm
        · rw [if_neg h, if_neg h]
          split <;> rfl
      have h5' := G.reps e1 h5
      obtain ⟨w, hw, rw'⟩ : ∃ v, L2.atI xs j = some v ∧ Rep X.K (Ow B.O ad) H1 y v := by
        unfold L2.atI at e2 ⊢
        rw [h5'.length]
        cases q : ixN ds.length j with
        | none => rw [q] at e2; cases e2
        | some k => rw [q] at e2; exact h5'.get' e2
      exact ⟨a, xs, j, w, rfl, rfl, SqL.of (e1 a _ (fun m => (G.out a (List.mem_of_getElem? h2)).1 (G.mo a m)) h3), hw, q w H1 e1 r1 rw'⟩
    | _ => cases hy
theorem rv_tupO {i : Nat} {x : Str} {p1 : Pos} (hN : X.N[i]? = some x) (hv : Vis X.env.scope x) (hg : Gl X "tuple") (hm : X.mg "tuple" = none) (hd : (x == ("__debug__" : Str)) = false := by decide) (hcd : (x == ("__classdict__" : Str)) = false := by decide) :
    PV X W cls Wx (.Call (.Name "tuple" p) [.Name x p1] [] pos) (vTupO i) := by
  refine peConv (pe_callTy call_tuple_of hg hm (by decide +kernel) (pa_cons (pe_var hN hv hd hcd) pa_nil)) fun σ H Q h => ?_
  obtain ⟨B, e, ad, s, G, P⟩ := h
  have P' : PostD X.K W cls Wx (Ow B.O ad) σ H Q (match ownAt e i with | some ds => .ok (.tuple ds) s | none => .stuck) := P
  cases z : ownAt e i with
  | none => rw [z] at P'; exact P'.elim
  | some ds =>
    rw [z] at P'
    obtain ⟨a, xs, h1, h2, h3, h4, h5⟩ := G.env.own_at (ownAt_some z)
    exact ⟨.ref a, h1, a, xs, rfl, .inl ⟨SqL.of h3, fun l hl => P' _ _ (Ext.new hl) (Wd.new G.R hl) (G.fit.tup h5 h4 hl)⟩⟩
/-- two lists, the other one empty -/
def rNilE (K : PySem.W.Frag) (neg : Bool) : R2 := fun x y H Q => ∃ a b xs, x = .ref a ∧ y = .ref b ∧ SqL K H a xs ∧ SqL K H b [] ∧ Q (.bl (if neg then !xs.isEmpty else xs.isEmpty)) H
theorem op_nilEq (hu : X.A.units < cLine) : OpR X (compareOp .Eq) (rNilE X.K false) := by
  intro pins s σ H x y v u Q I rx ry h
  obtain ⟨a, b, xs, rfl, rfl, h1, h2, q⟩ := h
  cases rx
  cases ry
  obtain ⟨its, r1, p1, _⟩ := I.list h1
  obtain ⟨its2, r2, p2, _⟩ := I.list h2
  cases r2
  cases xs with
  | nil =>
    cases r1
    exact SeqAt.eq_listAt (e := fun _ => true) p1.isList p2.isList rfl hu (fun j h1 _ => absurd h1 (by simp)) ⟨.bl true, H, I, rfl, q⟩
  | cons w r =>
    cases r1 with
    | cons _ _ => exact SeqAt.eq_list_lengthsAt p1.isList p2.isList (by simp) hu ⟨.bl false, H, I, rfl, q⟩
theorem op_nilNe (hu : X.A.units < cLine) : OpR X (compareOp .NotEq) (rNilE X.K true) := by
  intro pins s σ H x y v u Q I rx ry h
  obtain ⟨a, b, xs, rfl, rfl, h1, h2, q⟩ := h
  cases rx
  cases ry
  obtain ⟨its, r1, p1, _⟩ := I.list h1
  obtain ⟨its2, r2, p2, _⟩ := I.list h2
  cases r2
  cases xs with
  | nil =>
    cases r1
    exact SeqAt.RcNeAt.lists (e := fun _ => true) p1.isList p2.isList rfl hu (fun j h1 _ => absurd h1 (by simp)) _ _ _ _ ⟨.bl false, H, I, rfl, q⟩
  | cons w r =>
    cases r1 with
    | cons _ _ => exact SeqAt.RcNeAt.lists_lengths p1.isList p2.isList (by simp) hu _ _ _ _ ⟨.bl true, H, I, rfl, q⟩
theorem tb_emp {neg : Bool} {i : Nat} : ∀ σ H Q, TBv X.K W cls Wx (bEmp neg i) σ H Q → tTest (tOp (rNilE X.K neg) (tVar i) (tLst tNil)) σ H Q := by
  rintro σ H Q ⟨B, e, ad, s, G, P⟩
  have P' : PostB X.K W cls Wx (Ow B.O ad) σ H Q (match ownAt e i with | some ds => .ok (if neg then !ds.isEmpty else ds.isEmpty) s | none => .stuck) := P
  cases z : ownAt e i with
  | none => rw [z] at P'; exact P'.elim
  | some ds =>
    rw [z] at P'
    obtain ⟨a, xs, h1, h2, h3, h4, h5⟩ := G.env.own_at (ownAt_some z)
    have em : xs.isEmpty = ds.isEmpty := by
      have := h5.length
      cases xs <;> cases ds <;> simp at this ⊢
    refine ⟨.ref a, h1, by decide, fun q hq => ⟨a, q, xs, rfl, rfl, SqL.of (by rw [upd_ne (ne_of_none h3 hq)]; exact h3), SqL.of upd_same, _, rfl, ?_⟩⟩
    rw [em]
    exact P' _ (Ext.new hq) (Wd.new G.R hq)
theorem rb_empEq {k : Nat} (hr : Room k X.A) {i : Nat} {x : Str} {p1 p2 : Pos} (hN : X.N[i]? = some x) (hv : Vis X.env.scope x) (hd : (x == ("__debug__" : Str)) = false := by decide) (hcd : (x == ("__classdict__" : Str)) = false := by decide) : PB X W cls Wx (.Compare (.Name x p1) [.Eq] [.List [] p2] pos) (bEmp false i) :=
  ptConv (pt_cmpR (op_nilEq hr.units0) (pe_var hN hv hd hcd) (pe_lst pa_nil) (nomark _)) tb_emp
theorem rb_empNe {k : Nat} (hr : Room k X.A) {i : Nat} {x : Str} {p1 p2 : Pos} (hN : X.N[i]? = some x) (hv : Vis X.env.scope x) (hd : (x == ("__debug__" : Str)) = false := by decide) (hcd : (x == ("__classdict__" : Str)) = false := by decide) : PB X W cls Wx (.Compare (.Name x p1) [.NotEq] [.List [] p2] pos) (bEmp true i) :=
  ptConv (pt_cmpR (op_nilNe hr.units0) (pe_var hN hv hd hcd) (pe_lst pa_nil) (nomark _)) tb_emp
end
/-! ### defs -/
theorem start_len (n : Nat) (ds : List D) : ds.length ≤ n → (Rf.start n ds).length = n := fun h => by unfold Rf.start; simp; omega
theorem start_env {K : PySem.W.Frag} {O : Addr → Prop} {H : Hp} : ∀ (m : Nat) {ds : List D} {vs : List V}, Reps K O H ds vs → EnvR K O H (ds.map Slot.val ++ List.replicate m .no) (List.replicate (ds.length + m) none) (vs.map some ++ List.replicate m none)
  | 0, [], vs, h => by rw [h.nil_inv]; exact .nil
  | m + 1, [], vs, h => by
    rw [h.nil_inv]
    have := start_env (K := K) (O := O) (H := H) m (ds := []) (vs := []) Reps.nil
    rw [List.length_nil] at this ⊢
    rw [show 0 + (m + 1) = (0 + m) + 1 by omega, List.replicate_succ, List.replicate_succ, List.replicate_succ]
    exact .no this
  | m, d :: ds, vs, h => by
    obtain ⟨v, r, rfl, h1, h2⟩ := h.cons_inv
    have := start_env m h2
    rw [List.length_cons, show ds.length + 1 + m = (ds.length + m) + 1 by omega, List.replicate_succ]
    exact .val h1 this
/-- a def's body, run: what its promise is worth -/
theorem fn_tree {K : PySem.W.Frag} {W : Wd K} {cls : Xc} {n : Nat} {F : Fs W.S} {φ : List D → W.S → Rs W.S D} {vs : List V} {H : Hp} {Q : VK} {E : XK} (h : spD K W cls φ vs H Q E) (hn : vs.length ≤ n)
    (hφ : ∀ ds s, ds.length = vs.length → φ ds s ≠ .stuck → Rf.run n F ds s = φ ds s) :
    TSv K W cls (fun c d _ H' => E c d H') F { nx := fun _ H' => Q .non H', rt := Q } (vs.map some ++ List.replicate (n - vs.length) none) H := by
  obtain ⟨O, ds, s, Ft, R, P⟩ := h
  have hl := R.length
  have hns : φ ds s ≠ .stuck := fun z => by rw [z] at P; exact P
  have e := hφ ds s hl.symm hns
  rw [← e] at P
  have P1 := Post.unbind (show Post _ _ ((F (Rf.start n ds) s).bind _) from P)
  have nn : ∀ a, some a ∉ List.replicate (ds.length + (n - ds.length)) (none : Option Addr) := fun a z => by simp at z
  have ow : ∀ a, Ow O (List.replicate (ds.length + (n - ds.length)) none) a → O a := fun a z => z.elim id fun z => (nn a z).elim
  refine ⟨⟨O, fun a o => ¬ W.M a ∧ H a = some o⟩, Rf.start n ds, List.replicate (ds.length + (n - ds.length)) none, s, ⟨?_, fun i j a h => (nn a (List.mem_of_getElem? h)).elim, fun a o p => p.2, fun a h => (nn a h).elim, Ft.trk, Ft.mo, fun a o p => p.1, Ft.R⟩, P1.imp (fun o s1 k => ?_) fun c d s1 x => ?_⟩
  · unfold Rf.start
    rw [hl]
    exact (start_env _ R).move (fun a o h q => ⟨q, fun z => h (ow a z)⟩) fun a o h => (nn a h).elim
  · cases o with
    | nx e' => exact fun ad' σ' H' G' => (show ∀ v H', Ext W.M H H' → W.R s1 H' → Rep K O H' .none v → Q v H' from k) .non H' (fun a o m q => G'.keep a o ⟨m, q⟩) G'.R Rep.none
    | rt d => exact fun v H' kp r rd => (show ∀ v H', Ext W.M H H' → W.R s1 H' → Rep K O H' d v → Q v H' from k) v H' (fun a o m q => kp a o ⟨m, q⟩) r rd
    | bk e' => exact k.elim
    | ct e' => exact k.elim
  · obtain ⟨C, f, q1, q2⟩ := x
    exact ⟨C, f, q1, fun dct v σ' H' kp r hd hr => q2 dct v H' (fun a o m q => kp a o ⟨m, q⟩) r hd hr⟩
/-- THE RULE: a def keeps the promise of its meaning φ -/
theorem fn_ok {P : Program} {w : World} {K : PySem.W.Frag} {mg : Str → Option Value} {base : Heap} {x qual : Str} {params : Arguments} {body : List Stmt} {scope : Scope} {dvs : List V} {kws : List (Str × V)} {f : Addr} {fd : FuncData} {N ps : List Str} {k : Nat}
    {W : Wd K} {cls : Xc} {φ : List D → W.S → Rs W.S D} {F : Fs W.S} (FD : FunD K x qual params body scope dvs kws f fd) (S : FnScope N ps scope) (hps : ps.length ≤ N.length)
    (hlen : ∀ ds s, φ ds s ≠ .stuck → ds.length = ps.length)
    (hb : ∀ (cdv : Value) (A : Around) (outer : List Env) (s : Shared) (H : Hp) (E : XK), Room k (A.deeper (envOfC qual scope s.heap.objs.size f cdv)) →
      PSs (cxOf (L2.CX P w) P w K mg base N qual scope f cdv A outer s H E) body (TSv K W cls (fun c d _ H' => E c d H') F))
    (hφ : ∀ ds s, ds.length = ps.length → φ ds s ≠ .stuck → Rf.run N.length F ds s = φ ds s) : FnOk P w K mg base (L2.CX P w) (k + 1) f fd ps (spD K W cls φ) := by
  have len : ∀ vs H Q E, spD K W cls φ vs H Q E → vs.length = ps.length := fun vs H Q E h => by
    obtain ⟨O, ds, s, Ft, R, P⟩ := h
    rw [R.length]
    exact hlen ds s fun z => by rw [z] at P; exact P
  refine FD.ok S len fun cdv A outer s H vs Q E hr h => ⟨_, hb cdv A outer s H E hr, ?_⟩
  have hv := len vs H Q E h
  exact fn_tree h (by rw [hv]; exact hps) fun ds s hd hs => hφ ds s (hd.trans hv) hs
/-- what lets out of a def's body -/
theorem takes_def {P : Program} {w : World} {K : PySem.W.Frag} {mg : Str → Option Value} {base : Heap} {N : List Str} {qual : Str} {scope : Scope} {f : Addr} {cdv : Value} {A : Around} {outer : List Env} {s : Shared} {H : Hp} {E : XK} :
    Takes (cxOf (L2.CX P w) P w K mg base N qual scope f cdv A outer s H E) (fun c d _ H' => E c d H') := takes_of rfl rfl rfl rfl
end Rf
end

section
set_option Elab.async false
set_option linter.all false
set_option maxRecDepth 100000
set_option maxHeartbeats 4000000
/-! RfMore: a < b < c, slices, // (own work). -/
namespace Rf
open PySem PySem.Spec PyProof.Rows L2

/-- a op b op' c -/
def vChain {S : Type} (f g : D → D → Option D) (a b c : Fe S) : Fe S := fun e s => (a e s).bind fun x s1 => (b e s1).bind fun y s2 => match f x y with
  | some (.bool true) => (c e s2).bind fun z s3 => .ofO (g y z) s3
  | some (.bool false) => .ok (.bool false) s2
  | _ => .stuck
/-- part of a list -/
def cutD (xs : List D) (lo hi : Option Int) : List D := List.take (HT.sIx xs.length xs.length hi - HT.sIx xs.length 0 lo) (List.drop (HT.sIx xs.length 0 lo) xs)
def dCut (lo hi : Option Int) : D → Option D
  | .tuple xs => some (.tuple (cutD xs lo hi))
  | .list xs => some (.list (cutD xs lo hi))
  | _ => none
def oPart {S : Type} (p : Option (Fe S)) : En → S → Rs S (Option Int) := fun e s => match p with
  | none => .ok none s
  | some f => (f e s).bind fun d s1 => match d with
    | .int i => .ok (some i) s1
    | _ => .stuck
def vCut {S : Type} (a : Fe S) (lo hi : Option (Fe S)) : Fe S := fun e s => (a e s).bind fun x s1 => (oPart lo e s1).bind fun l s2 => (oPart hi e s2).bind fun h s3 => .ofO (dCut l h x) s3
def dFdiv : D → D → Option D
  | .int i, .int j => if 0 < j ∧ j < 1073741824 then some (.int (i / j)) else none
  | _, _ => none
section
variable {K : PySem.W.Frag} {W : Wd K} {O : Addr → Prop} {H : Hp} {cls : Xc} {Wx : WX}
theorem o2_fdiv : Op2 K W dFdiv (rI CDiv fun i j => .int (i / j)) := by
  intro O H s x y z v u Q F hx hy e q
  cases x with
  | int i =>
    cases y with
    | int j =>
      have e' : (if 0 < j ∧ j < 1073741824 then some (PyData.int (i / j)) else none) = some z := e
      split at e'
      · rename_i hj
        cases e'
        obtain rfl := hx.int_inv
        obtain rfl := hy.int_inv
        exact ⟨i, j, rfl, rfl, hj, q _ H (Ext.refl H) F.R (Rep.int _)⟩
      · cases e'
    | _ => cases e
  | _ => cases y <;> cases e
theorem tv_chain {f g : D → D → Option D} {r r' : R2} {a b c : Fe W.S} (h : Op2 K W f r) (h' : Op2 K W g r') : ∀ σ H Q, TEv K W cls Wx (vChain f g a b c) σ H Q → tChain r r' (TEv K W cls Wx a) (TEv K W cls Wx b) (TEv K W cls Wx c) σ H Q := by
  rintro σ H Q ⟨B, e, ad, s, G, P⟩
  refine ⟨B, e, ad, s, G, (Post.unbind P).imp (fun x s1 P1 v H1 e1 r1 hx => ?_) fun _ _ _ x => x⟩
  have G1 := G.ext e1 r1
  refine ⟨B, e, ad, s1, G1, (Post.unbind P1).imp (fun y s2 P2 u H2 e2 r2 hy => ?_) fun _ _ _ x => x.ext e1⟩
  have G2 := G1.ext e2 r2
  have P2' : PostD K W cls Wx (Ow B.O ad) σ H Q (match f x y with
    | some (.bool true) => (c e s2).bind fun z s3 => .ofO (g y z) s3
    | some (.bool false) => .ok (.bool false) s2
    | _ => .stuck) := P2
  cases hz : f x y with
  | none => rw [hz] at P2'; exact P2'.elim
  | some z =>
    rw [hz] at P2'
    cases z with
    | bool k =>
      refine h _ H2 s2 x y _ v u _ G2.fit (G1.rep e2 hx) hy hz fun w H3 e3 r3 hw => ⟨k, hw.bool_inv, ?_⟩
      cases k with
      | false =>
        rw [if_neg Bool.false_ne_true]
        exact P2' (.bl false) H3 ((e1.trans e2).trans e3) r3 (Rep.bool false)
      | true =>
        rw [if_pos rfl]
        have G3 := G2.ext e3 r3
        refine ⟨B, e, ad, s2, G3, (Post.unbind P2').imp (fun z s4 P4 w' H4 e4 r4 hz => ?_) fun _ _ _ x => x.ext ((e1.trans e2).trans e3)⟩
        obtain ⟨y', hy', q⟩ := P4.ofO
        exact h' _ H4 s4 y z y' u w' Q (G3.ext e4 r4).fit (G3.rep e4 (G2.rep e3 hy)) hz hy' fun w5 H5 e5 r5 => q w5 H5 ((((e1.trans e2).trans e3).trans e4).trans e5) r5
    | _ => exact P2'.elim
/-- what a part of a slice is -/
def TOp (K : PySem.W.Frag) (W : Wd K) (cls : Xc) (Wx : WX) (p : Option (Fe W.S)) : TO := fun σ H Q => ∃ B e ad s, Good K W B e ad σ H s ∧ Post (fun o s' => ∀ H', Ext W.M H H' → W.R s' H' → Q o H') (ExcP K W cls (Ow B.O ad) H fun c dd H' => Wx c dd σ H') (oPart p e s)
theorem Reps.cut {ds : List D} {vs : List V} (h : Reps K O H ds vs) (lo hi : Option Int) : Reps K O H (cutD ds lo hi) (cutV vs lo hi) := by
  unfold cutD cutV
  rw [h.length]
  exact (h.drop _).take _
theorem cutD_whole (ds : List D) (lo hi : Option Int) (h1 : HT.sIx ds.length 0 lo = 0) (h2 : HT.sIx ds.length ds.length hi = ds.length) : cutD ds lo hi = ds := by
  unfold cutD
  rw [h1, h2]
  simp
theorem cutD_len (ds : List D) (lo hi : Option Int) : (cutD ds lo hi).length ≤ ds.length := by
  unfold cutD
  rw [List.length_take, List.length_drop]
  omega
end
theorem poConv {X : Cx} {e : Option Expr} {t t' : TO} (h : PO X e t) (c : ∀ σ H Q, t' σ H Q → t σ H Q) : PO X e t' := ⟨fun pins s σ H Q I q => h.run pins s σ H Q I (c σ H Q q)⟩
section
variable {X : Cx} {W : Wd X.K} {cls : Xc} {Wx : WX} {pos p : Pos}
theorem ro_none : PO X none (TOp X.K W cls Wx none) := poConv po_none fun σ H Q h => by
  obtain ⟨B, e, ad, s, G, P⟩ := h
  exact (show ∀ H', Ext W.M H H' → W.R s H' → Q none H' from P) H (Ext.refl H) G.R
theorem ro_some {e : Expr} {f : Fe W.S} (h : PV X W cls Wx e f) : PO X (some e) (TOp X.K W cls Wx (some f)) := poConv (po_some h) fun σ H Q h => by
  obtain ⟨B, e, ad, s, G, P⟩ := h
  refine ⟨B, e, ad, s, G, (Post.unbind P).imp (fun d s1 P1 v H1 e1 r1 hr => ?_) fun _ _ _ x => x⟩
  cases d with
  | int i => exact ⟨i, hr.int_inv, P1 H1 e1 r1⟩
  | _ => exact P1.elim
theorem rv_cut {e : Expr} {lo hi : Option Expr} {fe : Fe W.S} {pl ph : Option (Fe W.S)} {p2 : Pos} (he : PV X W cls Wx e fe) (hl : PO X lo (TOp X.K W cls Wx pl)) (hh : PO X hi (TOp X.K W cls Wx ph)) : PV X W cls Wx (.Subscript e (.Slice lo hi none p2) pos) (vCut fe pl ph) := by
  refine peConv (pe_slice (SlR.or sl_tupA sl_list) he hl hh) fun σ H Q h => ?_
  obtain ⟨B, e, ad, s, G, P⟩ := h
  refine ⟨B, e, ad, s, G, (Post.unbind P).imp (fun x s1 P1 v H1 e1 r1 hx => ?_) fun _ _ _ x => x⟩
  have G1 := G.ext e1 r1
  refine ⟨B, e, ad, s1, G1, (Post.unbind P1).imp (fun l s2 P2 H2 e2 r2 => ?_) fun _ _ _ x => x.ext e1⟩
  have G2 := G1.ext e2 r2
  refine ⟨B, e, ad, s2, G2, (Post.unbind P2).imp (fun u s3 P3 H3 e3 r3 => ?_) fun _ _ _ x => x.ext (e1.trans e2)⟩
  have G3 := G2.ext e3 r3
  have hx3 := G2.rep e3 (G1.rep e2 hx)
  have e13 := (e1.trans e2).trans e3
  obtain ⟨z, hz, q⟩ := P3.ofO
  cases x with
  | tuple ds =>
    cases hz
    obtain ⟨a, xs, rfl, h1, hl, hr⟩ := hx3.tuple_sq
    refine .inl ⟨a, xs, rfl, h1, fun hw => ?_, fun _ p hp => ?_⟩
    · rw [hr.length] at hw
      rw [cutD_whole ds l u hw.1 hw.2] at q
      exact q _ H3 e13 r3 hx3
    · exact q _ _ (e13.trans (Ext.new hp)) (Wd.new r3 hp) (G3.fit.tup (hr.cut l u) (Nat.le_trans (cutD_len ds l u) hl) hp)
  | list ds =>
    cases hz
    obtain ⟨a, xs, rfl, h1, hl, hr⟩ := hx3.list_inv
    exact .inr ⟨a, xs, rfl, SqL.of h1.1, fun p hp => q _ _ (e13.trans (Ext.new hp)) (Wd.new r3 hp) (G3.fit.lst (hr.cut l u) (Nat.le_trans (cutD_len ds l u) hl) hp)⟩
  | _ => cases hz
theorem rv_fdiv {a b : Expr} {fa fb : Fe W.S} (ha : PV X W cls Wx a fa) (hb : PV X W cls Wx b fb) : PV X W cls Wx (.BinOp a .FloorDiv b pos) (v2 dFdiv fa fb) := rv_bin op_fdiv o2_fdiv ha hb
theorem rv_chain {op op' : CmpOp} {f g : D → D → Option D} {r r' : R2} {a b c : Expr} {fa fb fc : Fe W.S} (ho : OpR X (compareOp op) r) (h2 : Op2 X.K W f r) (ho' : OpR X (compareOp op') r') (h2' : Op2 X.K W g r') (ha : PV X W cls Wx a fa) (hb : PV X W cls Wx b fb) (hc : PV X W cls Wx c fc)
    (hm : lastMarks [op, op'] [b, c] = false := by rfl) : PV X W cls Wx (.Compare a [op, op'] [b, c] pos) (vChain f g fa fb fc) := peConv (pe_chain ho ho' ha hb hc hm) (tv_chain h2 h2')
theorem rb_chain {op op' : CmpOp} {f g : D → D → Option D} {r r' : R2} {a b c : Expr} {fa fb fc : Fe W.S} (ho : OpR X (compareOp op) r) (h2 : Op2 X.K W f r) (ho' : OpR X (compareOp op') r') (h2' : Op2 X.K W g r') (ha : PV X W cls Wx a fa) (hb : PV X W cls Wx b fb) (hc : PV X W cls Wx c fc)
    (hm : lastMarks [op, op'] [b, c] = false := by rfl) : PB X W cls Wx (.Compare a [op, op'] [b, c] pos) (bVal (vChain f g fa fb fc)) := tb_of (pt_chain ho ho' ha hb hc hm) (tv_chain h2 h2')
end
/-! ### defs by name -/
/-- the def of the name x keeps the promise of φ -/
structure Df (P : Program) (w : World) (K : PySem.W.Frag) (mg : Str → Option Value) (base : Heap) (W : Wd K) (cls : Xc) (k : Nat) (x : Str) (ps : List Str) (φ : List D → W.S → Rs W.S D) : Prop where
  ex : ∃ f fd, mg x = some (.ref f) ∧ PySem.W.keepIn K (.ref f) = true ∧ Binds K fd ps [] ∧ FnOk P w K mg base (L2.CX P w) k f fd ps (spD K W cls φ)
theorem rv_callD {X : Cx} {W : Wd X.K} {cls : Xc} {Wx : WX} {pos p : Pos} {k j : Nat} {x : Str} {ps : List Str} {φ : List D → W.S → Rs W.S D} {e : Expr} {es : List Expr} {fa : Fa W.S} (h : Df X.prog X.w X.K X.mg X.base W cls k x ps φ) (hr : Room j X.A) (hk : k ≤ j) (tk : Takes X Wx) (hg : Gl X x) (ha : PAr X W cls Wx (e :: es) fa)
    (hdb : (x == ("__debug__" : Str)) = false := by decide) (he : starEach (e :: es) X.env = (false, eval e X.env) :: starEach es X.env := by rfl) (hpl : (backTo pos (starEach es X.env)).any (·.1) = false := by rfl) :
    PV X W cls Wx (.Call (.Name x p) (e :: es) [] pos) (vCall φ fa) := by
  obtain ⟨f, fd, hm, kp, hb, F⟩ := h.ex
  exact rv_call F (hr.mono hk) tk hg hm kp hb ha hdb he hpl
/-! ### what is not claimed -/
theorem rs_stuck {X : Cx} {W : Wd X.K} {cls : Xc} {Wx : WX} {sts : List Stmt} : PSs X sts (TSv X.K W cls Wx fun _ _ => .stuck) := ⟨fun pins s σ H D I q => by
  obtain ⟨B, e, ad, s, G, P⟩ := q
  exact P.elim⟩
theorem rv_stuck {X : Cx} {W : Wd X.K} {cls : Xc} {Wx : WX} {e : Expr} : PV X W cls Wx e fun _ _ => .stuck := ⟨fun pins s σ H Q I q => by
  obtain ⟨B, e, ad, s, G, P⟩ := q
  exact P.elim⟩
/-! ### a negative literal -/
def dNeg : D → Option D
  | .int i => some (.int (-i))
  | _ => none
theorem o1_neg {K : PySem.W.Frag} {W : Wd K} : Op1 K W dNeg (rU fun i => .int (-i)) := by
  intro O H s x z v Q F hx e q
  cases x with
  | int i =>
    cases e
    obtain rfl := hx.int_inv
    exact ⟨i, rfl, q _ H (Ext.refl H) F.R (Rep.int _)⟩
  | _ => cases e
theorem rv_neg {X : Cx} {W : Wd X.K} {cls : Xc} {Wx : WX} {pos : Pos} {a : Expr} {f : Fe W.S} (ha : PV X W cls Wx a f) : PV X W cls Wx (.UnaryOp .USub a pos) (v1 dNeg f) := peConv (pe_un un_neg ha) (tv1 o1_neg)
/-- more room -/
theorem Df.mono {P : Program} {w : World} {K : PySem.W.Frag} {mg : Str → Option Value} {base : Heap} {W : Wd K} {cls : Xc} {j k : Nat} {x : Str} {ps : List Str} {φ : List D → W.S → Rs W.S D} (h : Df P w K mg base W cls j x ps φ) (hk : j ≤ k) : Df P w K mg base W cls k x ps φ := by
  obtain ⟨f, fd, h1, h2, h3, h4⟩ := h.ex
  exact ⟨f, fd, h1, h2, h3, h4.mono hk⟩
/-- a weaker meaning -/
theorem Df.imp {P : Program} {w : World} {K : PySem.W.Frag} {mg : Str → Option Value} {base : Heap} {W : Wd K} {cls : Xc} {k : Nat} {x : Str} {ps : List Str} {φ ψ : List D → W.S → Rs W.S D} (h : Df P w K mg base W cls k x ps φ) (hψ : ∀ ds s, ψ ds s ≠ .stuck → φ ds s = ψ ds s) : Df P w K mg base W cls k x ps ψ := by
  obtain ⟨f, fd, h1, h2, h3, h4⟩ := h.ex
  refine ⟨f, fd, h1, h2, h3, h4.imp fun vs H Q E q => ?_⟩
  obtain ⟨O, ds, s, a, b, c⟩ := q
  refine ⟨O, ds, s, a, b, ?_⟩
  rw [hψ ds s fun z => by rw [z] at c; exact c]
  exact c
/-- a def that is never called with a wish -/
theorem Df.never {P : Program} {w : World} {K : PySem.W.Frag} {mg : Str → Option Value} {base : Heap} {W : Wd K} {cls : Xc} {k : Nat} {x : Str} {ps : List Str} {f : Addr} {fd : FuncData} (hm : mg x = some (.ref f)) (hk : PySem.W.keepIn K (.ref f) = true) (hb : Binds K fd ps []) : Df P w K mg base W cls k x ps fun _ _ => .stuck :=
  ⟨f, fd, hm, hk, hb, fun vs H Q E q => by
    obtain ⟨O, ds, s, a, b, c⟩ := q
    exact c.elim, fun _ _ _ _ _ _ _ _ _ _ _ _ _ q => by
    obtain ⟨O, ds, s, a, b, c⟩ := q
    exact c.elim⟩
/-- from the head's word and the body's reading -/
theorem Df.of {P : Program} {w : World} {K : PySem.W.Frag} {mg : Str → Option Value} {base : Heap} {x : Str} {params : Arguments} {body : List Stmt} {scope : Scope} {f : Addr} {fd : FuncData} {N ps : List Str} {k : Nat}
    {W : Wd K} {cls : Xc} {φ : List D → W.S → Rs W.S D} {F : Fs W.S} (FD : FunD K x x params body scope [] [] f fd) (hm : mg x = some (.ref f)) (S : FnScope N ps scope)
    (hb : ∀ (cdv : Value) (A : Around) (outer : List Env) (s : Shared) (H : Hp) (E : XK), Room k (A.deeper (envOfC x scope s.heap.objs.size f cdv)) →
      PSs (cxOf (L2.CX P w) P w K mg base N x scope f cdv A outer s H E) body (TSv K W cls (fun c d _ H' => E c d H') F))
    (hφ : ∀ ds s, φ ds s ≠ .stuck → ds.length = ps.length ∧ Rf.run N.length F ds s = φ ds s)
    (hps : ps.length ≤ N.length := by decide)
    (hbi : ∀ (kV doc pm : Value) (an : Option Addr) (cdv ct : Value) (us : List Value), us.length = ps.length → bindArgs (PySem.W.fnOf x x params body scope .none kV doc pm an cdv ct) ⟨us, []⟩ = pure (ps.zip us)) :
    Df P w K mg base W cls (k + 1) x ps φ :=
  ⟨f, fd, hm, FD.kp, FD.bindsN hbi, fn_ok FD S hps (fun ds s h => (hφ ds s h).1) hb fun ds s _ h => (hφ ds s h).2⟩
theorem takes_none {X : Cx} : Takes X (fun _ _ _ _ => False) := fun _ _ x => by
  obtain ⟨_, _, _, _, _, _, _, _, _, _, _, _, _, _, _, _, z⟩ := x
  exact z.elim
/-! ### i ** j -/
def dPow : D → D → Option D
  | .int i, .int j => if 0 ≤ j ∧ j ≤ 1000000 ∧ i.natAbs < 2 ^ 64 then some (.int (i ^ j.toNat)) else none
  | _, _ => none
theorem o2_pow {K : PySem.W.Frag} {W : Wd K} : Op2 K W dPow (rI CPow fun i j => .int (i ^ j.toNat)) := by
  intro O H s x y z v u Q F hx hy e q
  cases x with
  | int i =>
    cases y with
    | int j =>
      have e' : (if 0 ≤ j ∧ j ≤ 1000000 ∧ i.natAbs < 2 ^ 64 then some (PyData.int (i ^ j.toNat)) else none) = some z := e
      split at e'
      · rename_i hj
        cases e'
        obtain rfl := hx.int_inv
        obtain rfl := hy.int_inv
        exact ⟨i, j, rfl, rfl, hj, q _ H (Ext.refl H) F.R (Rep.int _)⟩
      · cases e'
    | _ => cases e
  | _ => cases y <;> cases e
theorem rv_pow {X : Cx} {W : Wd X.K} {cls : Xc} {Wx : WX} {pos : Pos} {a b : Expr} {fa fb : Fe W.S} (ha : PV X W cls Wx a fa) (hb : PV X W cls Wx b fb) : PV X W cls Wx (.BinOp a .Pow b pos) (v2 dPow fa fb) := rv_bin op_pow o2_pow ha hb
end Rf
end

section
set_option Elab.async false
set_option linter.all false
set_option maxRecDepth 100000
set_option maxHeartbeats 4000000
/-! RfExc: an own exception class with super().__init__(text, place); self.place = place (turned from the worked proof of an own error). -/
namespace PySem
namespace WordX
open PySem.W PySem.Calls PyProof.Rows PySem.HandSPX
/-! ### the text of __init__ -/
def iA (p1 p2 : Pos) : Arguments := { posonlyargs := [], args := [{ arg := "self", annotation := none, pos := p1 }, { arg := "place", annotation := none, pos := p2 }], vararg := none, kwonlyargs := [], kw_defaults := [], kwarg := none, defaults := [] }
def iB (tx : Str) (j : Nat) (q0 q1 q2 q3 q4 q5 q6 q7 q8 q9 q10 : Pos) : List Stmt := [.Expr (.Call (.Attribute (.Call (.Name "super" q0) [] [] q1) "__init__" q2) [.Constant (.str tx) j q3, .Name "place" q4] [] q5) q6, .Assign [.Attribute (.Name "self" q7) "place" q8] (.Name "place" q9) q10]
def iS : Scope := { kind := .function, names := [(PySem.Str.ofString "self", .local), (PySem.Str.ofString "place", .local), (PySem.Str.ofString "__class__", .free), (PySem.Str.ofString "super", .globalImplicit)], isGenerator := false, isCoroutine := false, more := [] }
/-- what the written part says of the class of the name x, at C, and of its __init__, at fI -/
structure WordTxt (prog : Program) (K : Frag) (mg : Str → Option Value) (x : Str) (C fI : Addr) : Prop where
  gC : mg x = some (.ref C)
  su : mg "super" = none
  cls : ∃ nm q N bs bm sn sub ab col dd k0 k1 k2 k3 k5, K.lookup C = some (excClassObj nm q C N bs bm true sn sub ab col dd k0 k1 k2 k3 k5 "ValueError.__new__") ∧ refsVE bm = true ∧ alongIn K "__init__" bm = some (some (.builtin "ValueError.__init__"))
  sa : findIn K (.ref C) "__setattr__" = some (some (.builtin "object.__setattr__"))
  ga : findIn K (.ref C) "__getattribute__" = some (some (.builtin "BaseException.__getattribute__"))
  gg : findIn K (.ref C) "__getattr__" = some none
  noN : findIn K (.ref C) "place" = some none
  iC : findIn K (.ref C) "__init__" = some (some (.ref fI))
  tC : typeIn K (.ref fI) = some (.type "function")
  kC : keepIn K (.ref C) = true
  exC : subIn K (.ref C) (.type "BaseException") = some true
  veC : subIn K (.ref C) (.type "ValueError") = some true
  mC : mroIn K C (.ref C) = some true
  tyC : typeIn K (.ref C) = some (.type "type")
  hdC : hasDictIn K C = true
  te : exmOne K (.ref C) (.ref C) = some true
  op : nsIn K cStatics "thirdparty.any" = some none
  fn : ∃ (oc : Value) (od : Option Addr) (doc pm : Value) (an : Option Addr) (cda cc : Addr) (ct : Value) (osl : Array (Option Value)) (p1 p2 q0 q1 q2 q3 q4 q5 q6 q7 q8 q9 q10 : Pos) (tx qn : Str) (j : Nat) (ccl cl : Value) (cdd cld : Option Addr) (ccs csl : Array (Option Value)) (vs : Array Value) (file : Str) (tf : Tok),
    K.lookup fI = some ⟨oc, od, .func (fnX "__init__" qn (iA p1 p2) (iB tx j q0 q1 q2 q3 q4 q5 q6 q7 q8 q9 q10) iS [("__class__", cc)] .none .none doc pm an (.ref cda) ct), osl⟩ ∧ codeIn K (.ref cda) qn = true ∧
      K.lookup cc = some ⟨cl, cld, .cell (some (.ref C)), csl⟩ ∧ K.lookup cda = some ⟨ccl, cdd, .fields vs, ccs⟩ ∧ vs[2]? = some (.str file tf) ∧ ((prog.main.file : Str) == file) = true ∧
      ∀ env : Env, ∃ pl : Sem Bool, eval (.Call (.Attribute (.Call (.Name "super" q0) [] [] q1) "__init__" q2) [.Constant (.str tx) j q3, .Name "place" q4] [] q5) env = (do
        let ov ← attributeBase (.Call (.Name "super" q0) [] [] q1) "__init__" env (eval (.Call (.Name "super" q0) [] [] q1) env)
        standAt q2.atName
        let (f, first) ← holding [ov] (getMethod ov "__init__" pl)
        callWith q5 f first (backTo q5 (starEach [.Constant (.str tx) j q3, .Name "place" q4] env)) [])
  top : (prog.main.scope.names.lookup ("super" : Str)).isSome = false
theorem one_size (v : Value) : [v].length ≤ sizeLine := by
  rw [sizeLine_eq]
  exact (by decide : 1 ≤ 16777216)
theorem two_size (u v : Value) : [u, v].length ≤ sizeLine := by
  rw [sizeLine_eq]
  exact (by decide : 2 ≤ 16777216)
/-- what __init__ leaves of a fresh exception at x -/
structure InitEnd (h h' : Heap) (x C dx t1 : Addr) (v : Value) : Prop where
  keep : ∀ b o, b ≠ x → h.get? b = some o → h'.get? b = some o
  obj : h'.get? x = some { cls := .ref C, dict := some dx, data := .fields #[.ref t1, .none, .none, .none, .bool false, .none] }
  dbig : h.objs.size ≤ dx
  dne : dx ≠ x
  ns : h'.Ns1 dx (fun y => if y = "place" then some v else none)
/-- an exception that is made -/
structure OwnMade (h h' : Heap) (e C d : Addr) (v : Value) : Prop where
  keep : ∀ b o, h.get? b = some o → h'.get? b = some o
  new : h.objs.size ≤ e
  obj : ∃ oe vs, h'.get? e = some oe ∧ oe.cls = .ref C ∧ oe.dict = some d ∧ oe.data = .fields vs ∧ vs[1]? = some .none
  dbig : h.objs.size ≤ d
  dne : d ≠ e
  ns : h'.Ns1 d (fun y => if y = "place" then some v else none)
section
variable {prog : Program} {w : World} {A : Around} {E : Value → Shared → Prop} {h : Heap} {g : Array GenState} {d : Drawn} {t : Nat} {os : OsState}
variable {nm q : Str} {C N : Addr} {bs bm : List Value} {hdct : Bool} {sn : List Str} {sub : List Value} {ab : Bool} {col : Option Bool} {dd : Option Addr} {k0 k1 k2 k3 k5 : Option Value}
theorem call_mw {u e t0 : Addr} {rest : List Value} {Q : Value → Shared → Prop}
    (hC : h.get? C = some (excClassObj nm q C N bs bm hdct sn sub ab col dd k0 k1 k2 k3 k5 "ValueError.__new__")) (he : h.get? e = some (excO C t0)) (hu : h.get? u = some (kxs_mw "ValueError.__init__" e)) (hrest : rest.length ≤ sizeLine)
    (hq : ∀ h' t1, (∀ b o, b ≠ e → h.get? b = some o → h'.get? b = some o) → h'.get? e = some (excO C t1) → h.objs.size ≤ h'.objs.size → Q .none ⟨h', g, d, t, os⟩) :
    wpAny (model prog w) A (call (.ref u) rest) Q E ⟨h, g, d, t, os⟩ := by
  refine wpAny_call (codeAny_of_tree ?_)
  show wpAny _ A.in1 (callAny (.ref u) ⟨rest, []⟩) _ _ _
  simp only [callAny]
  refine wpAny_bind (wpAny_load hu ?_)
  simp only [kxs_mw, show (Value.type "method-wrapper" == Value.type "method" || Value.type "method-wrapper" == Value.type "builtin_function_or_method" || Value.type "method-wrapper" == Value.type "method-wrapper") = true by decide, if_true]
  refine W.KFB.if_so (by decide) ?_
  refine wpAny_bind (ESX.check_bound F.excBase_ValueError hC he rfl ?_)
  refine wpAny_bind (wpAny_pure (wpAny_pure ?_))
  refine ⟨Code.quiet_builtin _ (by decide +kernel), codeAny_builtin F.excBase_ValueError.initEntry ?_⟩
  rw [Around.under_plainId F.excBase_ValueError.init.plain _]
  wp_walk
  refine hq _ h.objs.size (fun b o hb ho => ?_) ?_ ?_
  · rw [Heap.get?_update_other _ _ (Ne.symm hb)]
    exact Heap.get?_push_of_some _ ho
  · rw [Heap.get?_update_self _ (Heap.get?_push_of_some _ he) rfl]
    rfl
  · first
      | (rw [Heap.size_update, Heap.size_push]; exact Nat.le_succ _)
      | (simp [Heap.size_push])
end
section
variable {prog : Program} {w : World} {A : Around} {E : Value → Shared → Prop} {R : Result → Shared → Prop} {s : Shared} {K : Frag} {mg : Str → Option Value} {cn : Str} {C fI : Addr}
theorem w_init (T : WordTxt prog K mg cn C fI) {x t0 : Addr} {v : Value} (X : K.In s.heap) (hlim : s.heap.NoLimit) (G : s.heap.Ns mainGlobals mg) {mb : Str → Option Value} (B : s.heap.Ns builtinsNs mb) (hmb : mb "super" = some (.type "super")) (hx : s.heap.get? x = some (excO C t0)) (hnx : K.lookup x = none) (hroom : A.depth < recursionLimit)
    (hq : ∀ h' tk dx t1, InitEnd s.heap h' x C dx t1 v → R (.ok (.ret .none)) { s with heap := h', toks := tk }) :
    codeAny (model prog w) A (.call (.ref fI) ⟨[.ref x, v], []⟩) R s := by
  obtain ⟨oc, od, doc, pm, an, cda, cc, ct, osl, p1, p2, q0, q1, q2, q3, q4, q5, q6, q7, q8, q9, q10, tx, qn, j, ccl, cl, cdd, cld, ccs, csl, vs, file, tf, ho, hcd, hcc, hcda, hvs, hfile, hev⟩ := T.fn
  obtain ⟨nm, q, N, bs, bm, sn, sub, ab, col, dd, k0, k1, k2, k3, k5, hC, hbm, hal⟩ := T.cls
  have hcl : clsIn K C = some { name := nm, bases := bs, mro := .ref C :: bm, ns := N, qualname := q, hasDict := true, slotNames := sn, subclasses := sub, abstract := ab, collection := col, hasDel := false } := by unfold clsIn; rw [hC] <;> rfl
  refine ks_codeAny_call_defAt (binds := [("self", .ref x), ("place", v)]) hroom (X _ _ ho) rfl hlim (codeRec_of X hcd) rfl (BindsTo.of_eq (by first | rfl | with_unfolding_all rfl)) (show ∀ x ∈ iS.names, x.2 ≠ .cell by decide) (fun p hp => by
    rcases List.mem_cons.mp hp with rfl | hp
    · rfl
    · rcases List.mem_cons.mp hp with rfl | hp
      · rfl
      · cases hp) (fun h₁ hns hk₁ => ?_) rfl rfl rfl
  have X₁ : K.In h₁ := X.keeps hk₁
  have hx₁ := hk₁ _ _ hx
  have G₁ := G.keeps hk₁
  have B₁ := B.keeps hk₁
  have hm : ∀ y : Str, ([("self", Value.ref x), ("place", v)] : List (Str × Value)).reverse.lookup y = if y = "place" then some v else if y = "self" then some (.ref x) else none := fun y => by
    show List.lookup y [("place", v), ("self", Value.ref x)] = _
    by_cases e1 : y = "place"
    · subst e1
      rfl
    · have b1 : (y == ("place" : Str)) = false := by simpa using e1
      by_cases e2 : y = "self"
      · subst e2
        rw [if_neg e1, if_pos rfl]
        rfl
      · have b2 : (y == ("self" : Str)) = false := by simpa using e2
        simp [List.lookup, b1, b2, e1, e2]
  obtain ⟨hp, g, dr, tk, os⟩ := s
  dsimp only at hns hk₁ hx hlim G B X hq ⊢
  refine ks_wpAt_execs_cons (ks_wpAt_Expr_any ?_)
  obtain ⟨pl, hev'⟩ := hev (callEnv (fnX "__init__" qn (iA p1 p2) (iB tx j q0 q1 q2 q3 q4 q5 q6 q7 q8 q9 q10) iS [("__class__", cc)] .none .none doc pm an (.ref cda) ct) hp.objs.size fI)
  refine ks_wpAt_MethodCall (pl := pl) ?_ hev'
  refine ks_wpAt_super_base (attr := "__init__") (f := fI) (cc := cda) rfl rfl (by decide) rfl (X₁ _ _ ho) rfl rfl rfl (X₁ _ _ hcda) rfl hvs hfile T.top ?_
  refine ks_loadName_global rfl rfl (loadGlobal_builtin G₁ T.su B₁ hmb ⟨rfl, ?_⟩)
  refine wpAny_loadName_free rfl rfl rfl ⟨_, X₁ _ _ hcc, rfl⟩ ?_
  refine wpAny_loadName_local rfl rfl hns (hm _) ?_
  refine ks_wpAny_isType_cls (X₁ _ _ hC) rfl ⟨rfl, ?_⟩
  refine ks_wpAny_call_super (X₁ _ _ hC) rfl hx₁ rfl (fun c e => by cases e) (looks_mroIn X₁ T.mC) (fun h₂ hso k₂ => ?_)
  -- the wrapper
  have X₂ : K.In h₂ := X₁.keeps k₂
  have hx₂ := k₂ _ _ hx₁
  have I₂ : InstAt h₂ x (excO C t0) C none := ⟨hx₂, rfl, rfl, trivial⟩
  have hI : Looks (model prog w) h₂ (isInstance (.ref x) (.type "ValueError")) true := I₂.type.andThen (looks_subIn X₂ T.veC)
  refine kxs_getMethod kxs_ValueError hso (looks_opaque X₂ T.op) (l₀ := .ref C :: bm) (fun A Q E s k q => wpAny_bind ((looks_clsIn X₂ hcl) A _ E s k (wpAny_pure q))) (ESX.drop_own C bm) X₂ hal hI (ks_ne X₂ I₂ hcl) (by decide) ?_
  have hu : (h₂.push (kxs_mw "ValueError.__init__" x)).get? h₂.objs.size = some (kxs_mw "ValueError.__init__" x) := Heap.get?_push_at rfl rfl
  have k₃ : ∀ b o, h₂.get? b = some o → (h₂.push (kxs_mw "ValueError.__init__" x)).get? b = some o := fun b o e => Heap.get?_push_of_some _ e
  have hn₃ := (hns.keeps k₂).keeps k₃
  have hargs : backTo q5 (starEach [.Constant (.str tx) j q3, .Name "place" q4] (callEnv (fnX "__init__" qn (iA p1 p2) (iB tx j q0 q1 q2 q3 q4 q5 q6 q7 q8 q9 q10) iS [("__class__", cc)] .none .none doc pm an (.ref cda) ct) hp.objs.size fI)) =
    [(false, eval (.Constant (.str tx) j q3) (callEnv (fnX "__init__" qn (iA p1 p2) (iB tx j q0 q1 q2 q3 q4 q5 q6 q7 q8 q9 q10) iS [("__class__", cc)] .none .none doc pm an (.ref cda) ct) hp.objs.size fI)),
      (false, eval (.Name "place" q4) (callEnv (fnX "__init__" qn (iA p1 p2) (iB tx j q0 q1 q2 q3 q4 q5 q6 q7 q8 q9 q10) iS [("__class__", cc)] .none .none doc pm an (.ref cda) ct) hp.objs.size fI))] := rfl
  refine kxs_callWith (i := "ValueError.__init__") (x := x) (by rw [hargs]; rfl) ?_
  rw [hargs]
  refine evalArgs_plain (spliced_cons (Constant_str (spliced_cons (wpAny_Name (wpAny_loadName_local rfl rfl hn₃ (hm _) (spliced_nil ⟨hu, ?_⟩)) (by decide)))))
  have hC₃ := k₃ _ _ (X₂ _ _ hC)
  refine call_mw hC₃ (k₃ _ _ hx₂) hu (two_size _ _) fun h₄ t1 k₄ hx₄ z₄ => ?_
  -- self.place = place
  have xL : hp.objs.size ≠ x := Nat.ne_of_gt (Heap.lt_size hx)
  have hn₄ := hn₃.at fun o e => k₄ _ o xL e
  have xC : C ≠ x := fun z => by
    have y := X₂ _ _ hC
    rw [z, hx₂] at y
    cases y
  have k04 : ∀ b o, b ≠ x → hp.get? b = some o → h₄.get? b = some o := fun b o hb e => k₄ b o hb (k₃ b o (k₂ b o (hk₁ b o e)))
  have nx : ∀ {b o}, K.lookup b = some o → b ≠ x := fun {b o} e z => by
    rw [z, hnx] at e
    cases e
  have X₄ : K.In h₄ := fun b o e => k₄ b o (nx e) (k₃ b o (X₂ b o e))
  refine wpAt_of_wpAny ?_
  show wpAny _ _ (execs _ _) _ _ _
  refine wpAny_execs_cons (plainObj_wpAny_Assign_Attribute ?_)
  refine wpAny_Name (wpAny_loadName_local rfl rfl hn₄ (hm _) (wpAny_Name (wpAny_loadName_local rfl rfl hn₄ (hm _) ?_) (by decide))) (by decide)
  refine set_plain X₄ (ox := excO C t1) (od := none) ⟨hx₄, rfl, rfl, trivial⟩ T.sa ?_
  refine exc_osa X₄ hx₄ hcl (show refsVE (.ref C :: bm) = true from hbm) rfl T.noN (fun h₅ tk₅ dx k₅ dn dne hx₅ hn₅ => ?_)
  show wpAny _ _ (execs _ _) _ _ _
  refine wpAny_execs_nil (hq h₅ tk₅ dx t1 ⟨fun b o hb e => k₅ b o hb (k04 b o hb e), hx₅, Nat.le_trans (Nat.le_of_lt hn₄.lt) dn, dne, hn₅⟩)
theorem w_made (T : WordTxt prog K mg cn C fI) {v : Value} (X : K.In s.heap) (hlim : s.heap.NoLimit) (G : s.heap.Ns mainGlobals mg) {mb : Str → Option Value} (B : s.heap.Ns builtinsNs mb) (hmb : mb "super" = some (.type "super")) (hroom : A.depth + 1 < recursionLimit)
    (hq : ∀ h' tk e d, OwnMade s.heap h' e C d v → R (.ok (.ret (.ref e))) { s with heap := h', toks := tk }) :
    codeAny (model prog w) A (.call (.ref C) ⟨[v], []⟩) R s := by
  obtain ⟨nm, q, N, bs, bm, sn, sub, ab, col, dd, k0, k1, k2, k3, k5, hC, hbm, hal⟩ := T.cls
  obtain ⟨hp, g, dr, tk, os⟩ := s
  have k : ∀ b o, hp.get? b = some o → ((hp.push (kdv_tup [v])).push (excO C hp.objs.size)).get? b = some o := fun b o e => Heap.get?_push_of_some _ (Heap.get?_push_of_some _ e)
  have hget : ((hp.push (kdv_tup [v])).push (excO C hp.objs.size)).get? (hp.objs.size + 1) = some (excO C hp.objs.size) := by heap_get
  have hnx : K.lookup (hp.objs.size + 1) = none := by
    cases e : K.lookup (hp.objs.size + 1) with
    | none => rfl
    | some o =>
      have z : hp.get? (hp.objs.size + 1) = some o := X _ _ e
      exact absurd (Nat.lt_of_succ_lt (Heap.lt_size z)) (Nat.lt_irrefl _)
  refine call_own F.excBase_ValueError (fun X => refsVE_contains X bm hbm) (X _ _ hC) (looks_findIn X T.iC) (fun self => bind_fn X self T.tC) (one_size v) ?_
  refine w_init (s := ⟨(hp.push (kdv_tup [v])).push (excO C hp.objs.size), g, dr, tk, os⟩) T (X.keeps k) (hlim.keeps k) (G.keeps k) (B.keeps k) hmb hget hnx ?_ fun h' tk' dx t1 ⟨k', hx, dn, dne, hns⟩ => ?_
  · show A.depth + 1 < recursionLimit
    exact hroom
  · have old : ∀ b o, hp.get? b = some o → h'.get? b = some o := fun b o e => k' b o (Nat.ne_of_lt (Nat.lt_succ_of_lt (Heap.lt_size e))) (k b o e)
    have z : hp.objs.size + 1 + 1 ≤ dx := by
      first
        | (simpa only [Heap.size_push] using dn)
        | exact dn
        | (have q := dn; rw [Heap.size_push, Heap.size_push] at q; exact q)
    exact ⟨rfl, hq h' tk' (hp.objs.size + 1) dx ⟨old, Nat.le_succ _, ⟨_, _, hx, rfl, rfl, rfl, rfl⟩, Nat.le_trans (Nat.le_trans (Nat.le_succ _) (Nat.le_succ _)) z, dne, hns⟩⟩
end
end WordX
end PySem
namespace L2
open PySem PySem.Spec PyProof.Rows
theorem relO_word {v : V} {v' : Value} (r : RelV v v') (f : Str) : RelO (List.lookup f [(("place" : Str), v)]) (if f = "place" then some v' else none) := by
  by_cases hw : f = "place"
  · subst hw
    rw [if_pos rfl]
    have q : List.lookup ("place" : Str) [(("place" : Str), v)] = some v := by simp [List.lookup]
    rw [q]
    exact r
  · rw [if_neg hw]
    have qw : (f == ("place" : Str)) = false := by simpa using hw
    have q2 : List.lookup f [(("place" : Str), v)] = none := by simp [List.lookup, qw]
    rw [q2]
    trivial
section
variable {X : Cx} {x : Str} {C fI : Addr}
/-- x(e), the exception's class -/
def tMkW (C : Addr) (ta : TA) : St → Hp → XK → Prop := fun σ H Q => ta σ H fun vs H1 => ∃ v, vs = [v] ∧ ∀ d, H1 d = none → Q (.ref C) (some d) (upd H1 d (.xd [(("place" : Str), v)]))
theorem pmk_word {a : Expr} {ta : TA} {p pos : Pos} {k : Nat} (T : PySem.WordX.WordTxt X.prog X.K X.mg x C fI) (hr : Room k X.A) (hg : Gl X x) (ha : PA X [a] ta) (hdb : (x == ("__debug__" : Str)) = false := by decide)
    (he : starEach (a :: []) X.env = (false, eval a X.env) :: starEach [] X.env := by rfl) (hpl : (backTo pos (starEach [] X.env)).any (·.1) = false := by rfl) :
    PMk X (.Call (.Name x p) [a] [] pos) (tMkW C ta) := by
  intro pins s σ H Q I h
  refine wpAny_Call_Name_kw (ld_glob I hg T.gC ?_ hdb)
  refine PySem.W.callWith_K (h₀ := X.base) I.ok.mod.kin T.kC (thn (ha.run pos pins s σ H _ I h) fun us s1 hh => ?_) he hpl
  obtain ⟨vs, H1, I1, r1, v, ev, q1⟩ := hh
  subst ev
  refine ⟨I1.kIn, ?_⟩
  cases r1 with
  | cons rv rn =>
    rename_i v' us'
    cases rn
    show wpAny _ _ (call (.ref C) [v']) _ _ _
    have hlim := I1.nolimit
    obtain ⟨mb, hb1, hb2⟩ := I1.mod.blt
    have hsu : mb ("super" : Str) = some (.type "super") := (hb2 "super" (by decide)).trans (by first | rfl | decide +kernel | kernel_rfl)
    have G1 := I1.mod.glob.keeps I1.bk
    have B1 := hb1.keeps I1.bk
    have kin1 := I1.kIn
    obtain ⟨hp, g, dr, tk, os⟩ := s1
    refine wpAny_call (PySem.WordX.w_made T kin1 hlim G1 B1 hsu (by have := hr.dp; omega) fun h' tk' e d M => ?_)
    show MkP X pins σ Q (.ref e) ⟨h', g, dr, tk', os⟩
    obtain ⟨oe, fv, hoe, hc, hd, hdat, h1⟩ := M.obj
    have hns := M.ns
    obtain ⟨G', g1, g2⟩ := restrict h' fun b => decide (b ≠ e)
    have gk : ∀ b, b ≠ e → G'.get? b = h'.get? b := fun b hb => g1 b (decide_eq_true hb)
    have ge : G'.get? e = none := g2 e (by simp)
    have old : ∀ b o, hp.get? b = some o → G'.get? b = some o := fun b o q => (gk b (Nat.ne_of_lt (Nat.lt_of_lt_of_le (Heap.lt_size q) M.new))).trans (M.keep b o q)
    have ob : ObjOk X.prog X.w (upd H1 d (.xd [(("place" : Str), v)])) G' d (.xd [(("place" : Str), v)]) :=
      ⟨_, hns.at (fun o q => (gk d M.dne).trans q), fun f => relO_word rv f⟩
    have J : Inv X pins σ (upd H1 d (.xd [(("place" : Str), v)])) ⟨G', g, dr, tk', os⟩ := I1.laid (t' := tk') old M.dbig ob
    refine ⟨e, oe, fv, ⟨G', g, dr, tk', os⟩, _, .ref C, some d, rfl, J, fun b o q => ?_, ge, hoe, ⟨hc, hd⟩, hdat, h1, ?_, rfl, I1.bare, raises_own T.exC T.tyC, q1 d (I1.hok.fresh M.dbig)⟩
    · by_cases hb : b = e
      · have q' : G'.get? b = some o := q
        rw [hb, ge] at q'; cases q'
      · exact (gk b hb).symm.trans q
    · rw [upd_ne (Ne.symm M.dne)]
      exact I1.hok.fresh M.new
theorem ps_raiseW {a : Expr} {ta : TA} {W : WX} {p pos pos2 : Pos} {k : Nat} (hc : X.calm = true) (T : PySem.WordX.WordTxt X.prog X.K X.mg x C fI) (hr : Room k X.A) (tk : Takes X W) (hg : Gl X x) (ha : PA X [a] ta) (hdb : (x == ("__debug__" : Str)) = false := by decide)
    (he : starEach (a :: []) X.env = (false, eval a X.env) :: starEach [] X.env := by rfl) (hpl : (backTo pos (starEach [] X.env)).any (·.1) = false := by rfl) :
    PS X (.Raise (some (.Call (.Name x p) [a] [] pos)) none pos2) (fun _ σ H => tMkW C ta σ H fun cls d H' => W cls d σ H') := ps_raise hc tk (pmk_word T hr hg ha hdb he hpl)
/-- error.place, error the exception that the suite holds (at a; its class cls, its dict d) -/
def tPlace (C : Addr) (a : Addr) (cls : Value) (d : Option Addr) (te : TE) : TE := fun σ H Q => te σ H fun x H1 => x = .ref a ∧ cls = .ref C ∧ ∃ (dd : Addr) (v : V), d = some dd ∧ H1 dd = some (.xd [(("place" : Str), v)]) ∧ Q v H1
theorem pe_place {a : Addr} {oe : Obj} {cls : Value} {d : Option Addr} {pn : List (Addr × Obj)} {e : Expr} {te : TE} {pos : Pos} (T : PySem.WordX.WordTxt X.prog X.K X.mg x C fI) (hz : Zc cls d oe) (hf : ∃ vs, oe.data = .fields vs) (he : PE (X.suite a ((a, oe) :: pn)) e te)
    (hb : attributeBase e "place" X.env (eval e X.env) = eval e X.env := by rfl) :
    PE (X.suite a ((a, oe) :: pn)) (.Attribute e "place" pos) (tPlace C a cls d te) := by
  refine ⟨fun pins s σ H Q I h => ?_⟩
  refine attr_of hb (thn (he.run pins s σ H _ I h) fun u s1 hh => ?_)
  obtain ⟨x, H1, I1, rx, ex, ec, dd, v, ed, ea, q⟩ := hh
  subst ex
  obtain rfl : u = Value.ref a := rx
  subst ec
  subst ed
  obtain ⟨ha, _⟩ := I1.pin (a, oe) (List.mem_append_left _ List.mem_cons_self)
  obtain ⟨vs, hd⟩ := hf
  have hx : ObjOk X.prog X.w H1 s1.heap dd (.xd [(("place" : Str), v)]) := I1.hok dd _ ea
  obtain ⟨mA, hns, hr⟩ := hx
  obtain ⟨od, ho, hl⟩ := lookIn_ns hns
  have l : List.lookup ("place" : Str) [(("place" : Str), v)] = some v := by simp [List.lookup]
  obtain ⟨u, hu, ru⟩ := RelO.some_of (v := v) (o := mA "place") (by rw [← l]; exact hr "place")
  have J : PySem.W.InstAt s1.heap a oe C (some od) := ⟨ha, hz.1, by unfold PySem.W.notCls; rw [hd] <;> rfl, by rw [hz.2]; exact ho⟩
  exact HandSPX.exc_get I1.kIn J T.ga T.gg T.exC (PySem.W.findObj_own T.hdC T.noN rfl (by rw [hl, hu])) (handed_of ru) ⟨v, H1, I1.tok _, ru, q⟩
end
end L2
namespace Rf
open PySem PySem.Spec PyProof.Rows L2
/-- raise x(e) -/
theorem rs_raiseW {X : Cx} {W : Wd X.K} {cls : Xc} {Wx : WX} {p pos pos2 : Pos} {k : Nat} {x : Str} {C fI : Addr} {a : Expr} {fa : Fe W.S} (T : PySem.WordX.WordTxt X.prog X.K X.mg x C fI) (hcl : cls x = some (C, ("place" : Str))) (hr : Room k X.A) (tk : Takes X Wx) (hc : X.calm = true) (hg : Gl X x) (ha : PV X W cls Wx a fa)
    (hdb : (x == ("__debug__" : Str)) = false := by decide) (he : starEach (a :: []) X.env = (false, eval a X.env) :: starEach [] X.env := by rfl) (hpl : (backTo pos (starEach [] X.env)).any (·.1) = false := by rfl) :
    PS X (.Raise (some (.Call (.Name x p) [a] [] pos)) none pos2) (TSv X.K W cls Wx (sRaise x fa)) := by
  refine psConv (ps_raiseW hc T hr tk hg (pa_cons ha pa_nil he) hdb he hpl) fun D σ H h => ?_
  obtain ⟨B, e, ad, s, G, P⟩ := h
  refine ⟨B, e, ad, s, G, (Post.unbind P).imp (fun d s1 P1 v H1 e1 r1 hv => ?_) fun _ _ _ x => x.toP G⟩
  obtain ⟨C', f, q1, q2⟩ := (show ExcS X.K W cls B Wx x d s1 from P1)
  rw [hcl] at q1
  cases q1
  refine ⟨v, rfl, fun dd hd => ?_⟩
  have G1 := G.ext e1 r1
  refine q2 dd v σ _ (fun a o p => ?_) (Wd.new r1 hd) upd_same ?_
  · rw [upd_ne (ne_of_none (G1.keep a o p) hd)]
    exact G1.keep a o p
  · exact (G1.back hv).move (fun a o h q => ⟨by rw [upd_ne (ne_of_none q hd)]; exact q, h⟩) _ _
end Rf
end

section
set_option Elab.async false
set_option linter.all false
set_option maxRecDepth 100000
set_option maxHeartbeats 4000000
/-! RfLam: a lambda without parameters, or all of whose parameters have defaults, handed to a def (turned from the kit's rule for lambdas without parameters). -/
namespace LamD
open PySem PySem.Spec PyProof.Rows L2 LamX
open PySem.W (kdv_obj kdv_fn kdv_tup)
/-- the defaults' tuple as it lies in the heap -/
def DvOk (h : Heap) (dV : Value) (dv : List Value) : Prop := (dv = [] ∧ dV = .none) ∨ ∃ t, dv ≠ [] ∧ dV = .ref t ∧ h.get? t = some (kdv_tup dv)
/-- what is asked of a lambda's parameters: their names ns, each with a default -/
structure LamDv (params : Arguments) (env : Env) (ns : List Str) : Prop where
  ev : ∀ (M : Model) (A : Around) (E : Value → Shared → Prop) (s : Shared) (Q : List Value → Shared → Prop), (∀ dv t, dv.length = ns.length → Q dv { s with toks := t }) → wpAny M A (evalAll (evalEach params.defaults env)) Q E s
  kw : params.kw_defaults = []
  bind : ∀ (s : Shared) (q : Str) (body : Expr) (scope : Scope) (cl : List (Str × Addr)) (dV doc pm cdv ct : Value) (dv : List Value), dv.length = ns.length → DvOk s.heap dV dv → BindsTo s (kdv_fn "<lambda>" q params (.expr body) scope cl dV doc pm cdv ct) ⟨[], []⟩ (ns.zip dv)
/-- the lambda's names: those of its own stand for no slot of the maker -/
structure LamS (N : List Str) (sc scope : Scope) (ns : List Str) : Prop where
  kind : scope.kind = .function
  co : scope.isCoroutine = false
  gen : scope.isGenerator = false
  cell : ∀ y ∈ scope.names, y.2 ≠ .cell
  own : ∀ y ∈ scope.names, y.2 = .local → y.1 ∉ N
  par : ∀ y ∈ ns, scope.names.lookup y = some .local
  free : ∀ y ∈ scope.names, y.2 = .free → sc.names.lookup y.1 = some .cell ∨ sc.names.lookup y.1 = some .free
def lamSB (N : List Str) (sc scope : Scope) (ns : List Str) : Bool :=
  decide (scope.kind = .function) && !scope.isCoroutine && !scope.isGenerator && (scope.names.all fun y => !decide (y.2 = .cell) && (!decide (y.2 = .local) || !decide (y.1 ∈ N)) && (!decide (y.2 = .free) || decide (sc.names.lookup y.1 = some .cell) || decide (sc.names.lookup y.1 = some .free))) &&
    ns.all fun y => decide (scope.names.lookup y = some .local)
theorem lamS_by {N : List Str} {sc scope : Scope} {ns : List Str} (h : lamSB N sc scope ns = true) : LamS N sc scope ns := by
  unfold lamSB at h
  simp only [Bool.and_eq_true, Bool.or_eq_true, Bool.not_eq_true', decide_eq_true_eq, decide_eq_false_iff_not, List.all_eq_true] at h
  obtain ⟨⟨⟨⟨h1, h2⟩, h3⟩, h4⟩, h5⟩ := h
  refine ⟨h1, h2, h3, fun y hy => (h4 y hy).1.1, fun y hy e => ?_, h5, fun y hy e => ?_⟩
  · rcases (h4 y hy).1.2 with z | z
    · exact absurd e z
    · exact z
  · rcases (h4 y hy).2 with (z | z) | z
    · exact absurd e z
    · exact .inl z
    · exact .inr z
section
variable {X : Cx} {pins : List (Addr × Obj)} {σ : L2.St} {H : Hp} {s : Shared}
theorem LamS.has {scope : Scope} {ns : List Str} (L : LamS X.N X.env.scope scope ns) (ok : X.Ok) : ∀ y ∈ scope.names, y.2 = .free → ∃ c, X.env.cells.lookup y.1 = some c := fun y hy e => by
  rcases L.free y hy e with k | k
  · exact ok.has _ (.inl k)
  · exact ok.has _ (.inr k)
/-- the defaults are made and kept aside -/
theorem lam_makeD {c P : Addr} {params : Arguments} {body : Expr} {scope : Scope} {pos : Pos} {ns : List Str} {E : Value → Shared → Prop} {Q : Value → Shared → Prop} (I : Inv X pins σ H s) (TB : TabB X.base X.mg c P) (hcode : X.env.code = .ref c)
    (hT : TabS H P (X.env.qual ++ "<lambda>")) (hD : LamDv params X.env ns) (hfree : ∀ y ∈ scope.names, y.2 = .free → ∃ c, X.env.cells.lookup y.1 = some c)
    (h : ∀ (f c' : Addr) (dV doc pm ctv : Value) (dv : List Value) (H1 : Hp) (s' : Shared), Inv X pins σ H1 s' → (∀ b o, b ≠ P → H b = some o → H1 b = some o) → TabS H1 P (X.env.qual ++ "<lambda>") →
      s'.heap.get? f = some (kdv_obj "<lambda>" (X.env.qual ++ "<lambda>") params (.expr body) scope (cloFrom X.env.cells scope.names []) dV doc pm c' ctv) → H1 f = none → f ∉ frs X.stack → H1 c' = some (CodeO c' (X.env.qual ++ "<lambda>")) →
      dv.length = ns.length → ((dv = [] ∧ dV = .none) ∨ ∃ t, dv ≠ [] ∧ dV = .ref t ∧ s'.heap.get? t = some (kdv_tup dv) ∧ H1 t = none ∧ t ∉ frs X.stack) → Q (.ref f) s') :
    wpAny (model X.prog X.w) X.A (eval (.Lambda params body scope pos) X.env) Q E s := by
  rw [arm_eval_Lambda, defaultsOf_eq, hD.kw]
  show wpAny _ _ (do let dv ← evalAll (evalEach params.defaults X.env); let kdv ← holding dv (evalAllOpt []); makeFunction "<lambda>" (X.env.qual ++ "<lambda>") params (.expr body) scope X.env dv kdv [] pos pos.line) Q E s
  refine wpAny_bind (hD.ev _ _ _ _ _ fun dv t0 hdv => wpAny_bind (wpAny_holding (wpAny_pure ?_)))
  rw [makeFunction_eq]
  simp only [List.zip_nil_right, List.filterMap_nil, List.isEmpty_nil, if_true, pure_bind]
  -- the tuple of the defaults, if there are any
  have nofr : ∀ {H' : Hp} {s' : Shared}, Inv X pins σ H' s' → ∀ f, s'.heap.objs.size ≤ f → f ∉ frs X.stack := fun {H' s'} I' f hf z => by
    rcases List.mem_cons.mp (I'.stkSub _ z) with e | e
    · have h1 := I'.lt
      rw [← e] at h1
      exact Nat.lt_irrefl _ (Nat.lt_of_lt_of_le h1 hf)
    · exact I'.nofs hf e
  have tail : ∀ (dV : Value) (s0 : Shared), Inv X pins σ H s0 → ((dv = [] ∧ dV = .none) ∨ ∃ t, dv ≠ [] ∧ dV = .ref t ∧ s0.heap.get? t = some (kdv_tup dv) ∧ H t = none ∧ t ∉ frs X.stack) →
      wpAny (model X.prog X.w) X.A (makeTail "<lambda>" (X.env.qual ++ "<lambda>") params (.expr body) scope X.env dV .none none pos pos.line) Q E s0 := by
    intro dV s I hdV
    obtain ⟨ps, hP, ht, ha⟩ := hT
    have bP : s.heap.BuiltinsAt X.mg P := TB.bm.keeps I.bk
    have hP' : s.heap.get? P = some { cls := .none, data := .fields ps } := I.hok P _ hP
    cases hc : codeAmong pos ps.toList with
    | none =>
      refine PySem.W.kdv_makeTail (mg := X.mg) (c := c) (P := P) (ps := ps) (closure_ok hfree) I.ok.glob (I.mod.glob.keeps I.bk) hcode (TB.code.keeps I.bk) hP' ht hc TB.gP bP fun c' ctv doc h' tk hx hge hlt hrec htb => ?_
      obtain ⟨c2, oc, vs, t, e2, hoc, hd, hv⟩ := hrec
      cases e2
      have hsz : s.heap.objs.size ≤ h'.objs.size := Nat.le_trans hge (Nat.le_of_lt hlt)
      have nC : H c' = none := I.hok.fresh hge
      have I1 := inv_table (t' := tk) (more := #[rawInt pos.line, rawInt pos.col, .ref c']) (h' := h'.push (kdv_obj "<lambda>" (X.env.qual ++ "<lambda>") params (.expr body) scope (cloFrom X.env.cells scope.names []) dV doc ((X.mg "__name__").getD .none) c' ctv)) I hP
        (fun b o hb e => Heap.get?_push_of_some _ (hx b o hb e)) (Heap.get?_push_of_some _ htb) hge ⟨oc, vs, t, Heap.get?_push_of_some _ hoc, hd, hv⟩
      have hE : ∀ b o, b ≠ P → H b = some o → upd (upd H P (.tbl (ps ++ #[rawInt pos.line, rawInt pos.col, .ref c']))) c' (CodeO c' (X.env.qual ++ "<lambda>")) b = some o := fun b o n e => by
        rw [upd_ne (ne_of_none e nC), upd_ne n]
        exact e
      have eL : (ps ++ #[rawInt pos.line, rawInt pos.col, .ref c']).toList = ps.toList ++ [rawInt pos.line, rawInt pos.col, .ref c'] := by simp
      have nP : P ≠ c' := ne_of_none hP nC
      refine h h'.objs.size c' dV doc ((X.mg "__name__").getD .none) ctv dv _ _ I1 hE ⟨_, by rw [upd_ne nP, upd_same], by rw [eL]; exact PySem.TriplesOk_snoc _ _ _ _ ht, fun p' cv hcv => ?_⟩ (Heap.get?_push_size _ rfl) ?_ (nofr I _ hsz) upd_same hdv ?_
      · rw [eL] at hcv
        rcases among_app _ ht hcv with z | z
        · obtain ⟨c0, e1, e2⟩ := ha p' cv z
          refine ⟨c0, e1, hE _ _ (fun z => ?_) e2⟩
          rw [z, hP] at e2
          exact codeO_ne _ (Option.some.inj e2).symm
        · exact ⟨c', z, upd_same⟩
      · have n1 : h'.objs.size ≠ c' := Nat.ne_of_gt hlt
        have n2 : h'.objs.size ≠ P := Nat.ne_of_gt (Nat.lt_of_lt_of_le (Heap.lt_size hP') hsz)
        rw [upd_ne n1, upd_ne n2]
        exact I.hok.fresh hsz
      · rcases hdV with z | ⟨t2, e0, e1, e2, e3, e4⟩
        · exact .inl z
        · have m1 : t2 ≠ P := fun z => by rw [z, hP] at e3; cases e3
          have m2 : t2 ≠ c' := Nat.ne_of_lt (Nat.lt_of_lt_of_le (Heap.lt_size e2) hge)
          exact .inr ⟨t2, e0, e1, Heap.get?_push_of_some _ (hx t2 _ m1 e2), by rw [upd_ne m2, upd_ne m1]; exact e3, e4⟩
    | some cv =>
      obtain ⟨c', e, hco⟩ := ha pos cv hc
      subst e
      refine PySem.W.kdv_makeTailHit (mg := X.mg) (c := c) (P := P) (ps := ps) (closure_ok hfree) I.ok.glob (I.mod.glob.keeps I.bk) hcode (TB.code.keeps I.bk) hP' ht hc bP fun ctv doc h' tk hx hsz => ?_
      have I1 : Inv X pins σ H { s with heap := h'.push (kdv_obj "<lambda>" (X.env.qual ++ "<lambda>") params (.expr body) scope (cloFrom X.env.cells scope.names []) dV doc ((X.mg "__name__").getD .none) c' ctv), toks := tk } := I.kept fun b o e => Heap.get?_push_of_some _ (hx b o e)
      refine h h'.objs.size c' dV doc ((X.mg "__name__").getD .none) ctv dv H _ I1 (fun _ _ _ e => e) ⟨ps, hP, ht, ha⟩ (Heap.get?_push_size _ rfl) (I.hok.fresh hsz) (nofr I _ hsz) hco hdv ?_
      rcases hdV with z | ⟨t2, e0, e1, e2, e3, e4⟩
      · exact .inl z
      · exact .inr ⟨t2, e0, e1, Heap.get?_push_of_some _ (hx t2 _ e2), e3, e4⟩
  cases dv with
  | nil =>
    simp only [List.isEmpty_nil, if_true, pure_bind]
    exact tail .none _ (I.kept fun _ _ e => e) (.inl ⟨rfl, rfl⟩)
  | cons v r =>
    simp only [List.isEmpty_cons, Bool.false_eq_true, if_false]
    refine wpAny_bind (wpAny_newTextTuple ?_)
    refine tail _ _ (I.kept (t' := t0) fun b o e => Heap.get?_push_of_some _ e) (.inr ⟨_, by simp, rfl, Heap.get?_push_size _ rfl, I.hok.fresh (Nat.le_refl _), nofr I _ (Nat.le_refl _)⟩)
end
section
variable {X : Cx} {pins : List (Addr × Obj)} {σ : L2.St} {H HZ : Hp} {s s1 : Shared}
theorem lam_startD {A : Around} {outer : List Env} {E : XK} {scope : Scope} {ns : List Str} {f c' : Addr} {h₁ : Heap} {tk : Nat} {m : Str → Option Value} (I : Inv X pins σ H s) (L : LamS X.N X.env.scope scope ns) (e0 : Env0 X.prog X.w X.K X.mg X.base A outer s1 HZ) (hd : A.handled = none)
    (un : Un (frs X.stack) [] H HZ s.heap s1.heap) (hns : h₁.Ns s1.heap.objs.size m) (kp : ∀ b o, s1.heap.get? b = some o → h₁.get? b = some o) :
    Inv (lamCx X A outer s1 HZ E scope f c') [] σ HZ { s1 with heap := h₁, toks := tk } := by
  have hfree := L.has I.ok
  have cm : ∀ {y c}, (cloFrom X.env.cells scope.names []).lookup y = some c → X.env.cells.lookup y = some c := fun {y c} e => by
    rcases cloFrom_mem (PySem.mem_of_lookup e) with hm | ⟨h1, h2⟩
    · cases hm
    · obtain ⟨c1, hc⟩ := hfree _ h1 rfl
      have hc : X.env.cells.lookup y = some c1 := hc
      have e2 : c = c1 := by
        rw [h2, hc] <;> rfl
      rw [e2]
      exact hc
  have look : ∀ {y}, scope.names.lookup y = some .free → ∃ c, (cloFrom X.env.cells scope.names []).lookup y = some c := fun {y} hl => by
    have hy : (y, NameKind.free) ∈ scope.names := PySem.mem_of_lookup hl
    exact mem_lookup (cloFrom_has (cells := X.env.cells) (acc := []) hy)
  have cellK : ∀ {c : Addr} {v : Option Value}, H c = none → s.heap.IsCell c v → h₁.IsCell c v := fun {c v} n ⟨o, ho, hd⟩ => by
    obtain ⟨sl, q⟩ := un.any ho n (by simp)
    exact ⟨_, kp _ _ q, hd⟩
  have noA : ∀ b : Addr, b ∉ (lamCx X A outer s1 HZ E scope f c').ex := fun b z => absurd (show b ∈ ([] : List Addr) from z) (by simp)
  refine ⟨⟨e0.mod, L.kind, rfl, rfl, Nat.le_refl _, fun y z c e1 e2 => I.ok.inj y z c (cm e1) (cm e2), fun y hy => ?_, fun y c z _ => ?_, fun _ => hd, Around.frames_deeper e0.frames, .inr ⟨rfl, rfl⟩, fun b z => absurd z (noA b), e0.bs, e0.bsz, fun b _ _ => noA b,
      fun b z => absurd z (noA b), e0.funs, e0.frf⟩,
    rfl, e0.bare, Un.kept kp, ⟨_, hns, fun i y v e1 e2 e3 => ?_⟩, fun y c e => ?_, e0.hok.fresh (Nat.le_refl _), fun y c e => ?_, fun q hq => absurd (show q ∈ ([] : List (Addr × Obj)) ++ [] from hq) (by simp), e0.hok.kept kp, I.len⟩
  · have hy : scope.names.lookup y = some .cell ∨ scope.names.lookup y = some .free := hy
    rcases hy with hy | hy
    · exact absurd rfl (L.cell _ (PySem.mem_of_lookup hy))
    · exact look hy
  · have z : false = true := z
    cases z
  · have e3 : Vis scope y := e3
    have e1 : X.N[i]? = some y := e1
    rcases e3 with k | k | k
    · exact absurd (List.mem_of_getElem? e1) (L.own _ (PySem.mem_of_lookup k) rfl)
    · exact absurd rfl (L.cell _ (PySem.mem_of_lookup k))
    · obtain ⟨m, hn, hl⟩ := I.loc
      have hvis : Vis X.env.scope y := (L.free _ (PySem.mem_of_lookup k) rfl).elim (fun k => .inr (.inl k)) (fun k => .inr (.inr k))
      obtain ⟨w', r, q⟩ := hl i y v e1 e2 hvis
      obtain ⟨c2, h2⟩ := look k
      refine ⟨w', r, .inr ⟨.inr k, c2, h2, ?_⟩⟩
      have c1 := cm h2
      rcases q with ⟨k', _⟩ | ⟨_, c3, e', z⟩
      · have k' : X.env.scope.names.lookup y = some .local := k'
        rcases L.free _ (PySem.mem_of_lookup k) rfl with k2 | k2 <;> rw [show X.env.scope.names.lookup y = _ from k2] at k' <;> cases k'
      · rw [c1] at e'
        cases e'
        exact cellK (I.freeC y _ c1) z
  · obtain ⟨w', z⟩ := I.cell y c (cm e)
    exact ⟨w', cellK (I.freeC y c (cm e)) z⟩
  · obtain ⟨v, o, ho, hd⟩ := I.cell y c (cm e)
    exact un.free c o ho (I.freeC y c (cm e)) (by simp)
/-- x(), in the def that got the lambda: Z is that def's context, entered at s -/
theorem pe_actD {CXg : CXT} {Eg : XK} {Ng : List Str} {qg : Str} {sg : Scope} {g f c' : Addr} {cdg dV doc pm ctv : Value} {dv : List Value} {params : Arguments} {body : Expr} {scope : Scope} {ns : List Str} {k i : Nat} {a : Str} {pn : List (Addr × Obj)} {xe : Value → Shared → Prop} {W : WX} {E : XK} {tb : TE} {p1 p2 : Pos}
    (I : Inv X pins σ H s) (L : LamS X.N X.env.scope scope ns) (hD : LamDv params X.env ns) (hf : s.heap.get? f = some (kdv_obj "<lambda>" (X.env.qual ++ "<lambda>") params (.expr body) scope (cloFrom X.env.cells scope.names []) dV doc pm c' ctv)) (hfn : H f = none) (hfr : f ∉ frs X.stack)
    (hdv : dv.length = ns.length) (hdV : (dv = [] ∧ dV = .none) ∨ ∃ t, dv ≠ [] ∧ dV = .ref t ∧ s.heap.get? t = some (kdv_tup dv) ∧ H t = none ∧ t ∉ frs X.stack)
    (tk : Takes ((cxOf CXg X.prog X.w X.K X.mg X.base Ng qg sg g cdg X.A X.stack s H Eg).tr pn xe) W) (hW : ∀ cls d σ' H', E cls d H' → W cls d σ' H') (hr : Room (k + 1) (X.A.deeper (envOfC qg sg s.heap.objs.size g cdg)))
    (hbody : ∀ (A : Around) (outer : List Env) (s : Shared) (H : Hp), Room k (A.deeper (lamEnv X scope s.heap.objs.size f c')) → PE (lamCx X A outer s H E scope f c') body tb)
    (hN : Ng[i]? = some a) (hv : Vis sg a) (hd : (a == ("__debug__" : Str)) = false := by decide) (hcd : (a == ("__classdict__" : Str)) = false := by decide) :
    PE ((cxOf CXg X.prog X.w X.K X.mg X.base Ng qg sg g cdg X.A X.stack s H Eg).tr pn xe) (.Call (.Name a p1) [] [] p2)
      (fun σZ HZ Q => σZ[i]? = some (some (.ref f)) ∧ HZ c' = some (CodeO c' (X.env.qual ++ "<lambda>")) ∧ tb σ HZ Q) := by
  refine ⟨fun pinsZ sZ σZ HZ Q IZ h => ?_⟩
  obtain ⟨hs, hc, ht⟩ := h
  refine wpAny_Call_Name_kw (thn ((pe_var (pos := p1) (i := i) hN hv hd hcd).run pinsZ sZ σZ HZ (fun v H1 => v = .ref f ∧ H1 = HZ) IZ ⟨.ref f, hs, rfl, rfl⟩) fun u s1 ⟨v, H1, I1, r1, q1⟩ => ?_)
  obtain ⟨ev, eH⟩ := q1
  subst ev
  rw [eH] at I1
  obtain rfl : u = Value.ref f := r1
  have of1 : s1.heap.get? f = some (kdv_obj "<lambda>" (X.env.qual ++ "<lambda>") params (.expr body) scope (cloFrom X.env.cells scope.names []) dV doc pm c' ctv) := I1.base.keep f _ hf hfn hfr (fun z => nomatch (show f ∈ ([] : List Addr) from z))
  have hdk : DvOk s1.heap dV dv := hdV.imp id fun ⟨t, e0, e1, e2, e3, e4⟩ => ⟨t, e0, e1, I1.base.keep t _ e2 e3 e4 (fun z => nomatch (show t ∈ ([] : List Addr) from z))⟩
  refine PySem.W.callWith_F0 ⟨_, _, _, _, of1⟩ ?_
  have un : Un (frs X.stack) [] H HZ s.heap s1.heap := I1.base
  obtain ⟨⟨oc, vs, t, hoc, hdc, hvc⟩, _, _⟩ := I1.hok c' _ hc
  have rc : codeAny (model X.prog X.w) (X.A.deeper (envOfC qg sg s.heap.objs.size g cdg)) (.call (.ref f) ⟨[], []⟩) (CR (L2.CX X.prog X.w) (envOfC qg sg s.heap.objs.size g cdg :: X.stack) X.prog X.w HZ s1 Q E) s1 := by
    refine PySem.W.kla_callFunE hr.depth of1 rfl L.co L.gen rfl ⟨c', oc, vs, t, rfl, hoc, hdc, hvc⟩ ?_
    refine hD.bind s1 _ _ _ _ _ _ _ _ _ dv hdv hdk _ _ _ _ ?_
    refine wpAny_newFunctionEnv L.cell (fun y hy => L.par _ (List.of_mem_zip (show (y.1, y.2) ∈ ns.zip dv from hy)).1) (fun h₁ hns hsb => ⟨I1.nolimit.fresh _ hsb, ?_⟩) L.kind
    show codeAny _ _ (.expr body (lamEnv X scope s1.heap.objs.size f c')) _ _
    have kp : ∀ b o, s1.heap.get? b = some o → h₁.get? b = some o := fun b o e => hsb.extBut b o (Nat.ne_of_lt (Heap.lt_size e)) (Heap.get?_push_of_some _ e)
    have J : Inv (lamCx X (X.A.deeper (envOfC qg sg s.heap.objs.size g cdg)) (envOfC qg sg s.heap.objs.size g cdg :: X.stack) s1 HZ E scope f c') [] σ HZ { s1 with heap := h₁, toks := s1.toks + (ns.zip dv).length } :=
      lam_startD I L I1.env0 hr.hd un hns kp
    refine PySem.W.kla_codeExpr (wpAny_mono ((hbody _ _ s1 HZ (hr.deeper _)).run [] _ _ HZ Q J ht) (fun v s' hq => ?_) fun e s' hq => hq)
    obtain ⟨w', H', J', rv, q⟩ := hq
    exact ⟨w', H', J'.os, J'.bare, J'.base, J'.hok, rv, q⟩
  have hx : Passes (L2.CX X.prog X.w) ((cxOf CXg X.prog X.w X.K X.mg X.base Ng qg sg g cdg X.A X.stack s H Eg).tr pn xe) E := passes_call tk hW
  refine wpAny_call (codeAny_mono rc fun r s' hq => ?_)
  cases r with
  | error e => exact hx pinsZ σZ HZ s1 e s' I1 hq
  | ok fl =>
    cases fl with
    | ret u => exact I1.after hq
    | next => exact False.elim hq
    | brk => exact False.elim hq
    | cont => exact False.elim hq
end
def tLamD (P : Addr) (q : Str) (TT : (XK → Hp → VK → Prop) → Hp → VK → Prop) (t : XK → TE) : TE := fun σ H Q => TabS H P q ∧ ∀ H1, (∀ b o, b ≠ P → H b = some o → H1 b = some o) → TabS H1 P q → TT (fun E H' Q' => t E σ H' Q') H1 Q
section
variable {X : Cx}
/-- x(lambda ..: body) -/
theorem pe_lamcallD {TT : (XK → Hp → VK → Prop) → Hp → VK → Prop} {x a : Str} {g c P : Addr} {k : Nat} {pg : Arguments} {bg : List Stmt} {sg : Scope} {dVg kVg docg pmg cdv ctg ocg : Value} {ang odg : Option Addr} {oslg : Array (Option Value)} {Ng : List Str}
    {params : Arguments} {body : Expr} {scope : Scope} {ns : List Str} {t : XK → TE} {p lpos pos : Pos} (hg : Gl X x) (hm : X.mg x = some (.ref g)) (hk : PySem.W.keepIn X.K (.ref g) = true)
    (lk : X.K.lookup g = some ⟨ocg, odg, .func (PySem.W.fnOf x x pg bg sg dVg kVg docg pmg ang cdv ctg), oslg⟩) (hcg : PySem.W.codeIn X.K cdv x = true) (hb : L2.Binds X.K (PySem.W.fnOf x x pg bg sg dVg kVg docg pmg ang cdv ctg) [a] []) (Sg : FnScope Ng [a] sg) (hNg : Ng[0]? = some a) (hva : Vis sg a)
    (hG : GivesTo X Ng x sg g cdv bg a (X.env.qual ++ "<lambda>") TT)
    (TB : TabB X.base X.mg c P) (hcode : X.env.code = .ref c) (hr : Room (k + 2) X.A) (L : LamS X.N X.env.scope scope ns) (hD : LamDv params X.env ns)
    (hbody : ∀ (A : Around) (outer : List Env) (s : Shared) (H : Hp) (E : XK) (f c' : Addr), Room k (A.deeper (lamEnv X scope s.heap.objs.size f c')) → PE (lamCx X A outer s H E scope f c') body (t E))
    (hdb : (x == ("__debug__" : Str)) = false := by decide) (hd : (a == ("__debug__" : Str)) = false := by decide) (hcd : (a == ("__classdict__" : Str)) = false := by decide) :
    PE X (.Call (.Name x p) [.Lambda params body scope lpos] [] pos) (tLamD P (X.env.qual ++ "<lambda>") TT t) := by
  refine ⟨fun pins s σ H Q I h => ?_⟩
  obtain ⟨hT, h⟩ := h
  refine wpAny_Call_Name_kw (ld_glob I hg hm ?_ hdb)
  refine PySem.W.callWith_K (h₀ := X.base) I.ok.mod.kin hk ?_ (by rfl) (by rfl)
  show wpAny _ _ (spliced ((false, eval (.Lambda params body scope lpos) X.env) :: backTo pos (starEach [] X.env))) _ _ s
  refine Calls.spliced_cons (lam_makeD I TB hcode hT hD (L.has I.ok) fun f c' dV doc pm' ctv dv H1 s' I1 eN T1 hf hfn hfr hco hdv hdV => ?_)
  refine Calls.spliced_nil ⟨I1.kIn, ?_⟩
  have rc : codeAny (model X.prog X.w) X.A (.call (.ref g) ⟨[.ref f], []⟩) (CR C8.CX0 X.stack X.prog X.w H1 s' Q C8.E0) s' := by
    refine run_ofS (N := Ng) (ps := [a]) (us := [.ref f]) (vs := [.ref f]) lk hcg Sg hr I1.env0 (hb s' [.ref f] I1.kIn rfl) (.cons rfl .nil) rfl fun hr' => ?_
    obtain ⟨t', ht', hq'⟩ := hG f c' s' H1 Q (fun E H' Q' => t E σ H' Q') (fun W pn xe E p1 p2 tk hW => pe_actD (i := 0) I1 L hD hf hfn hfr hdv hdV tk hW hr' (fun A outer s H hr2 => hbody A outer s H E f c' hr2) hNg hva hd hcd) hco (h H1 eN T1)
    exact ⟨t', ht'.nox, hq'⟩
  refine wpAny_call (codeAny_mono rc fun r s2 hq => ?_)
  cases r with
  | error e => exact (show False from hq).elim
  | ok fl =>
    cases fl with
    | ret u => exact I1.after hq
    | next => exact False.elim hq
    | brk => exact False.elim hq
    | cont => exact False.elim hq
/-- told: try: return (ok, a()) / except x as n: return (no, n.place) -/
def TTsaid (K : PySem.W.Frag) (CS : Addr) (ok no : Str) : (XK → Hp → VK → Prop) → Hp → VK → Prop := fun tl H Q =>
  tl (fun cls d H' => ∃ b, PySem.W.exmOne K cls (.ref CS) = some b ∧ (b = true → cls = .ref CS ∧ ∃ (dd : Addr) (v : V), d = some dd ∧ H' dd = some (.xd [(("place" : Str), v)]) ∧ ∀ p, H' p = none → Q (.ref p) (upd H' p (.tup [.str no, v]))) ∧ (b = false → False)) H
    fun v H' => [V.str ok, v].length ≤ sizeLine ∧ ∀ p, H' p = none → Q (.ref p) (upd H' p (.tup [.str ok, v]))
theorem pe_len {Y : Cx} {e : Expr} {te : TE} (h : PE Y e te) : PE Y e (fun σ H Q => σ.length = Y.N.length → te σ H Q) := ⟨fun pins s σ H Q I q => h.run pins s σ H Q I (q I.len)⟩
theorem two_line (u v : V) : [u, v].length ≤ sizeLine := by
  show 2 ≤ sizeLine
  rw [sizeLine_eq]
  decide
theorem said_gives {x a n e q ok no : Str} {sg : Scope} {g CS fI : Addr} {cdg : Value} {j1 j2 : Nat} {k1 k2 : Nat} {p1 p2 p3 p4 p5 p6 p7 p8 p9 p10 p11 p12 p13 : Pos} (T : PySem.WordX.WordTxt X.prog X.K X.mg e CS fI) (hge : sg.names.lookup e = some .globalImplicit) (hde : (e == ("__debug__" : Str)) = false)
    (hN : [a, n].Nodup) (hkn : sg.kind = .function) (hn : sg.names.lookup n = some .local) (hnd : (n == ("__debug__" : Str)) = false) (hncd : (n == ("__classdict__" : Str)) = false) :
    GivesTo X [a, n] x sg g cdg [.Try [.Return (some (.Tuple [.Constant (.str ok) j1 p4, .Call (.Name a p1) [] [] p2] k1 p5)) p3] [.ExceptHandler (some (.Name e p6)) (some n) [.Return (some (.Tuple [.Constant (.str no) j2 p7, .Attribute (.Name n p8) "place" p9] k2 p10)) p11] p12] [] [] p13] a q (TTsaid X.K CS ok no) := by
  intro f c' s H Q tl act hc h
  have hgl : Gl (cxOf C8.CX0 X.prog X.w X.K X.mg X.base [a, n] x sg g cdg X.A X.stack s H C8.E0).nox e := hge
  refine ⟨_, pss_one (ps_try_as (X := (cxOf C8.CX0 X.prog X.w X.K X.mg X.base [a, n] x sg g cdg X.A X.stack s H C8.E0).nox) (c := .ref CS) (i := 1)
      (tb := fun W D σ H => ∃ Ech : XK, (∀ cls d σ' H', Ech cls d H' → W cls d σ' H') ∧ σ[0]? = some (some (.ref f)) ∧ H c' = some (CodeO c' q) ∧ tl Ech H fun v H' => [V.str ok, v].length ≤ sizeLine ∧ ∀ p, H' p = none → D.rt (.ref p) (upd H' p (.tup [.str ok, v])))
      (ts := fun a cls d => tRet (tTup (tCons (tC (.str no)) (tCons (tPlace CS a cls d (fun σ H Q => σ.length = 2 → tVar 1 σ H Q)) tNil))))
      rfl rfl hN rfl hn ⟨hgl, hde, .inl T.gC⟩ LamX.takes0 (fun W pn xe tk _ => ?_) (fun a oe cls d pn hz hf => pss_one (ps_ret (pe_tup (pa_cons pe_str (pa_cons (pe_place T hz hf (pe_len (pe_var (i := 1) rfl (.inl hn) hnd hncd))) pa_nil)))))), ?_⟩
  · refine ⟨fun pins s' σ H' D I h' => ?_⟩
    obtain ⟨Ech, hW, h1, h2, h3⟩ := h'
    have hp := act W pn xe Ech p1 p2 tk hW
    have hq := pss_one (ps_ret (pos := p3) (pe_tup (x1 := k1) (pos := p5) (pa_cons (pe_str (x := ok) (j := j1) (pos := p4)) (pa_cons hp pa_nil))))
    exact hq.run pins s' σ H' D I ⟨h1, h2, h3⟩
  · refine ⟨fun cls d H' => ∃ b, PySem.W.exmOne X.K cls (.ref CS) = some b ∧ (b = true → cls = .ref CS ∧ ∃ (dd : Addr) (v : V), d = some dd ∧ H' dd = some (.xd [(("place" : Str), v)]) ∧ ∀ p, H' p = none → Q (.ref p) (upd H' p (.tup [.str no, v]))) ∧ (b = false → False), fun cls d σ' H' ⟨b, e1, e2, e3⟩ => ⟨b, e1, fun hb a _ => ?_, fun hb => e3 hb⟩, rfl, hc, h⟩
    obtain ⟨ec, dd, v, ed, ex, q⟩ := e2 hb
    show (σ'.set 1 (some (.ref a))).length = 2 → _
    intro hl
    refine ⟨.ref a, ?_, rfl, ec, dd, v, ed, ex, two_line _ _, q⟩
    rw [List.length_set] at hl
    rw [List.getElem?_set, if_pos rfl, if_pos (by omega)]
end
end LamD
namespace Rf
open PySem PySem.Spec PyProof.Rows L2 LamX LamD
/-- (ok, f()); the exception nm caught: (no, its field) -/
def vSaid {S : Type} (nm ok no : Str) (f : Fe S) : Fe S := fun e s => match f e s with
  | .ok d s1 => .ok (.tuple [.str ok, d]) s1
  | .exc c d s1 => if c = nm then .ok (.tuple [.str no, d]) s1 else .stuck
  | .stuck => .stuck
/-- the world holds the table at P -/
structure WTab {K : PySem.W.Frag} (W : Wd K) (P : Addr) (q : Str) : Prop where
  tab : ∀ s H, W.R s H → TabS H P q
  mem : W.M P
  st : ∀ s H H', W.R s H → (∀ b o, b ≠ P → H b = some o → H' b = some o) → TabS H' P q → W.R s H'
theorem tv_said {K : PySem.W.Frag} {prog : Program} {mg : Str → Option Value} {W : Wd K} {cls : Xc} {Wx : WX} {P CS fI : Addr} {q nm ok no : Str} {F : Fe W.S} (T : PySem.WordX.WordTxt prog K mg nm CS fI) (hcl : cls nm = some (CS, ("place" : Str))) (hW : WTab W P q) :
    ∀ σ H Q, TEv K W cls Wx (vSaid nm ok no F) σ H Q → tLamD P q (TTsaid K CS ok no) (fun E => TEv K W cls (fun c d _ H' => E c d H') F) σ H Q := by
  rintro σ H Q ⟨B, e, ad, s, G, Pp⟩
  refine ⟨hW.tab s H G.R, fun H1 k t1 => ?_⟩
  have x1 : Ext W.M H H1 := fun a o m h => k a o (fun z => m (by rw [z]; exact hW.mem)) h
  have r1 : W.R s H1 := hW.st s H H1 G.R k t1
  have G1 := G.ext x1 r1
  refine ⟨B, e, ad, s, G1, ?_⟩
  have P1 := Pp
  unfold vSaid at P1
  cases hF : F e s with
  | stuck => rw [hF] at P1; exact P1.elim
  | ok d s1 =>
    rw [hF] at P1
    intro v H' x r hv
    refine ⟨two_line _ _, fun p hp => ?_⟩
    exact P1 _ _ ((x1.trans x).trans (Ext.new hp)) (Wd.new r hp) ((G1.ext x r).fit.tup (Reps.cons (Rep.str ok) (Reps.cons hv Reps.nil)) (by show 2 ≤ line; decide) hp)
  | exc c d s1 =>
    rw [hF] at P1
    dsimp only at P1
    by_cases hc : c = nm
    · rw [if_pos hc] at P1
      subst hc
      refine ⟨CS, "place", hcl, fun dct v H' x r hd hv => ⟨true, T.te, fun _ => ⟨rfl, dct, v, rfl, hd, fun p hp => ?_⟩, fun z => nomatch z⟩⟩
      exact P1 _ _ ((x1.trans x).trans (Ext.new hp)) (Wd.new r hp) ((G1.ext x r).fit.tup (Reps.cons (Rep.str no) (Reps.cons hv Reps.nil)) (by show 2 ≤ line; decide) hp)
    · rw [if_neg hc] at P1
      exact P1.elim
/-- the def that tells: _law_said's text -/
structure SaidD (prog : Program) (K : PySem.W.Frag) (mg : Str → Option Value) (x a n nm ok no : Str) (CS : Addr) : Prop where
  ex : ∃ (g : Addr) (fd : FuncData) (pg : Arguments) (sg : Scope) (j1 j2 k1 k2 : Nat) (p1 p2 p3 p4 p5 p6 p7 p8 p9 p10 p11 p12 p13 : Pos), mg x = some (.ref g) ∧
    FunD K x x pg [.Try [.Return (some (.Tuple [.Constant (.str ok) j1 p4, .Call (.Name a p1) [] [] p2] k1 p5)) p3] [.ExceptHandler (some (.Name nm p6)) (some n) [.Return (some (.Tuple [.Constant (.str no) j2 p7, .Attribute (.Name n p8) "place" p9] k2 p10)) p11] p12] [] [] p13] sg [] [] g fd ∧ Binds K fd [a] [] ∧ FnScope [a, n] [a] sg ∧
      sg.names.lookup nm = some .globalImplicit ∧ sg.names.lookup n = some .local
theorem rv_said {X : Cx} {W : Wd X.K} {cls : Xc} {Wx : WX} {x a n nm ok no : Str} {CS fI c P : Addr} {k : Nat} {params : Arguments} {body : Expr} {scope : Scope} {ns : List Str} {p lpos pos : Pos} {F : Fe W.S} (T : PySem.WordX.WordTxt X.prog X.K X.mg nm CS fI) (hcl : cls nm = some (CS, ("place" : Str)))
    (SD : SaidD X.prog X.K X.mg x a n nm ok no CS) (hW : WTab W P (X.env.qual ++ "<lambda>")) (TB : TabB X.base X.mg c P) (hcode : X.env.code = .ref c) (hr : Room (k + 2) X.A) (hg : Gl X x) (L : LamD.LamS X.N X.env.scope scope ns) (hD : LamDv params X.env ns)
    (hbody : ∀ (A : Around) (outer : List Env) (s : Shared) (H : Hp) (E : XK) (f c' : Addr), Room k (A.deeper (lamEnv X scope s.heap.objs.size f c')) → PE (lamCx X A outer s H E scope f c') body (TEv X.K W cls (fun c d _ H' => E c d H') F))
    (hdb : (x == ("__debug__" : Str)) = false := by decide) (hd : (a == ("__debug__" : Str)) = false := by decide) (hcd : (a == ("__classdict__" : Str)) = false := by decide) (hnm : (nm == ("__debug__" : Str)) = false := by decide) (hnd : (n == ("__debug__" : Str)) = false := by decide) (hncd : (n == ("__classdict__" : Str)) = false := by decide)
    (han : [a, n].Nodup := by decide) : PV X W cls Wx (.Call (.Name x p) [.Lambda params body scope lpos] [] pos) (vSaid nm ok no F) := by
  obtain ⟨g, fd, pg, sg, j1, j2, k1, k2, q1, q2, q3, q4, q5, q6, q7, q8, q9, q10, q11, q12, q13, hm, FD, hb, Sg, hge, hn⟩ := SD.ex
  obtain ⟨oc, od, dV, kV, doc, pm, an, cdv, ct, osl, rfl, lk, hcg, _, _⟩ := FD.ex
  have hva : Vis sg a := by
    rcases Sg.par a (by simp) with z | z
    · exact .inl z
    · exact .inr (.inl z)
  exact peConv (pe_lamcallD (Ng := [a, n]) (k := k) hg hm FD.kp lk hcg hb Sg rfl hva (said_gives T hge hnm han Sg.kind hn hnd hncd) TB hcode hr L hD (t := fun E => TEv X.K W cls (fun c d _ H' => E c d H') F) hbody hdb hd hcd) (tv_said T hcl hW)
/-! ### the defaults of a lambda: none, one int, two ints -/
theorem lamDv0 {params : Arguments} {env : Env} (h0 : params.defaults = []) (hk : params.kw_defaults = []) (hb : ∀ (q : Str) (body : Expr) (scope : Scope) (cl : List (Str × Addr)) (doc pm cdv ct : Value), bindArgs (PySem.W.kdv_fn "<lambda>" q params (.expr body) scope cl .none doc pm cdv ct) ⟨[], []⟩ = pure []) : LamDv params env [] where
  ev := fun M A E s Q h => by
    rw [h0]
    exact PySem.W.kdv_all0 (by have := h [] s.toks rfl; exact this)
  kw := hk
  bind := fun s q body scope cl dV doc pm cdv ct dv hl hd => by
    obtain rfl : dv = [] := List.eq_nil_of_length_eq_zero hl
    rcases hd with ⟨_, rfl⟩ | ⟨t, z, _⟩
    · exact BindsTo.of_eq (hb _ _ _ _ _ _ _ _)
    · exact absurd rfl z
theorem ev_int1 {M : Model} {A : Around} {E : Value → Shared → Prop} {s : Shared} {env : Env} {i : Int} {j : Nat} {p : Pos} {es : List Expr} {Q : List Value → Shared → Prop} (h : ∀ v t, wpAny M A (evalAll (evalEach es env)) (fun vs s2 => Q (v :: vs) s2) E { s with toks := t }) :
    wpAny M A (evalAll (evalEach (.Constant (.int i) j p :: es) env)) Q E s := PySem.W.kdv_all1 (wpAny_Constant_int (h _ _))
theorem lamDv1 {params : Arguments} {env : Env} {x : Str} {i : Int} {j : Nat} {p : Pos} (h0 : params.defaults = [.Constant (.int i) j p]) (hk : params.kw_defaults = [])
    (hb : ∀ (s : Shared) (q : Str) (body : Expr) (scope : Scope) (cl : List (Str × Addr)) (t : Addr) (doc pm cdv ct v : Value), s.heap.get? t = some (PySem.W.kdv_tup [v]) → BindsTo s (PySem.W.kdv_fn "<lambda>" q params (.expr body) scope cl (.ref t) doc pm cdv ct) ⟨[], []⟩ [(x, v)]) : LamDv params env [x] where
  ev := fun M A E s Q h => by
    rw [h0]
    exact ev_int1 fun v t => PySem.W.kdv_all0 (h [v] t rfl)
  kw := hk
  bind := fun s q body scope cl dV doc pm cdv ct dv hl hd => by
    obtain ⟨v, rfl⟩ := List.length_eq_one_iff.mp hl
    rcases hd with ⟨z, _⟩ | ⟨t, _, rfl, ht⟩
    · cases z
    · exact hb s _ _ _ _ _ _ _ _ _ v ht
theorem lamDv2 {params : Arguments} {env : Env} {x y : Str} {i i2 : Int} {j j2 : Nat} {p p2 : Pos} (h0 : params.defaults = [.Constant (.int i) j p, .Constant (.int i2) j2 p2]) (hk : params.kw_defaults = [])
    (hb : ∀ (s : Shared) (q : Str) (body : Expr) (scope : Scope) (cl : List (Str × Addr)) (t : Addr) (doc pm cdv ct v u : Value), s.heap.get? t = some (PySem.W.kdv_tup [v, u]) → BindsTo s (PySem.W.kdv_fn "<lambda>" q params (.expr body) scope cl (.ref t) doc pm cdv ct) ⟨[], []⟩ [(x, v), (y, u)]) : LamDv params env [x, y] where
  ev := fun M A E s Q h => by
    rw [h0]
    exact ev_int1 fun v t => ev_int1 fun u t' => PySem.W.kdv_all0 (h [v, u] t' rfl)
  kw := hk
  bind := fun s q body scope cl dV doc pm cdv ct dv hl hd => by
    obtain ⟨v, u, rfl⟩ : ∃ v u, dv = [v, u] := by
      cases dv with
      | nil => cases hl
      | cons v r =>
        cases r with
        | nil => cases hl
        | cons u r =>
          cases r with
          | nil => exact ⟨v, u, rfl⟩
          | cons _ _ => cases hl
    rcases hd with ⟨z, _⟩ | ⟨t, _, rfl, ht⟩
    · cases z
    · exact hb s _ _ _ _ _ _ _ _ _ v u ht
end Rf
end

section
set_option Elab.async false
set_option linter.all false
set_option maxRecDepth 100000
set_option maxHeartbeats 4000000
/-! RfDraw: the worlds of the laws: the script, the lambdas' tables, the draws' dict and its list (own work). -/
namespace Rf
open PySem PySem.Spec PyProof.Rows L2 LamX

/-- the script at scr stands -/
def ScrOk (K : PySem.W.Frag) (pl : Prop) (scr : Addr) (ns : List Int) (H : Hp) : Prop :=
  (pl ∧ H scr = some (.lst (ns.map V.int))) ∨ (¬ pl ∧ ((∃ o, H scr = some (.frz o (.lst (ns.map V.int)))) ∨ ∀ H', SqL K H' scr (ns.map V.int)))
theorem ScrOk.seq {K : PySem.W.Frag} {pl : Prop} {scr : Addr} {ns : List Int} {H : Hp} (h : ScrOk K pl scr ns H) : SqL K H scr (ns.map V.int) := by
  rcases h with ⟨_, h⟩ | ⟨_, ⟨o, h⟩ | h⟩
  · exact .inl (.inl h)
  · exact .inl (.inr ⟨o, h⟩)
  · exact h H
/-- what is fixed for a law's run -/
structure Scr where
  T : List (Addr × Str)
  pl : Prop
  scr : Addr
  ns : List Int
def Scr.M (S : Scr) (a : Addr) : Prop := (∃ p ∈ S.T, p.1 = a) ∨ (a = S.scr ∧ S.pl)
def Scr.R (K : PySem.W.Frag) (S : Scr) (H : Hp) : Prop := Tabs S.T H ∧ ScrOk K S.pl S.scr S.ns H
theorem ScrOk.keep {K : PySem.W.Frag} {pl : Prop} {scr : Addr} {ns : List Int} {H H' : Hp} (h : ScrOk K pl scr ns H) (k : ∀ o, (pl ∨ ∀ xs, o ≠ .lst xs) → H scr = some o → H' scr = some o) : ScrOk K pl scr ns H' := by
  rcases h with ⟨p, h⟩ | ⟨p, ⟨o, h⟩ | h⟩
  · exact .inl ⟨p, k _ (.inl p) h⟩
  · exact .inr ⟨p, .inl ⟨o, k _ (.inr fun xs z => by cases z) h⟩⟩
  · exact .inr ⟨p, .inr h⟩
theorem Tabs.keep {T : List (Addr × Str)} {H H' : Hp} (h : Tabs T H) (k : ∀ a o, (∀ xs, o ≠ .lst xs) → (∀ kvs, o ≠ .dK kvs) → H a = some o → H' a = some o) : Tabs T H' := fun p hp => by
  obtain ⟨ps, h1, h2, h3⟩ := h p hp
  refine ⟨ps, k _ _ (fun _ z => by cases z) (fun _ z => by cases z) h1, h2, fun pos cv hc => ?_⟩
  obtain ⟨c, e1, e2⟩ := h3 pos cv hc
  exact ⟨c, e1, k _ _ (fun _ z => by unfold CodeO at z; cases z) (fun _ z => by unfold CodeO at z; cases z) e2⟩
/-- .. before the draws are begun -/
def wScr (K : PySem.W.Frag) (S : Scr) : Wd K where
  S := Unit
  M := S.M
  R := fun _ H => S.R K H
  stable := fun _ H H' h k => ⟨Tabs.keep h.1 fun a o n _ => k a o (.inr n), h.2.keep fun o n => k _ o (n.imp (fun p => .inr ⟨rfl, p⟩) id)⟩
  there := fun _ H a h m => by
    rcases m with ⟨p, hp, rfl⟩ | ⟨rfl, p⟩
    · obtain ⟨ps, h1, _⟩ := h.1 p hp
      exact ⟨_, h1⟩
    · rcases h.2 with ⟨_, e⟩ | ⟨n, _⟩
      · exact ⟨_, e⟩
      · exact absurd p n
/-- the draws' state -/
structure MS where
  great : List Int
  mixed : Int
  drawn : Int
def MS.kvs (gl : Addr) (s : MS) : List (Key × V) := [(.inr "great", .ref gl), (.inr "mixed", .int s.mixed), (.inr "drawn", .int s.drawn)]
structure DrR (K : PySem.W.Frag) (S : Scr) (am gl : Addr) (s : MS) (H : Hp) : Prop where
  base : S.R K H
  dic : H am = some (.dK (s.kvs gl))
  lst : H gl = some (.lst (s.great.map V.int))
  nS : ¬ S.M am ∧ ¬ S.M gl
def wDr (K : PySem.W.Frag) (S : Scr) (am gl : Addr) : Wd K where
  S := MS
  M := fun a => S.M a ∨ a = am ∨ a = gl
  R := DrR K S am gl
  stable := fun s H H' h k => ⟨⟨Tabs.keep h.base.1 fun a o n _ => k a o (.inr n), h.base.2.keep fun o n => k _ o (n.imp (fun p => .inl (.inr ⟨rfl, p⟩)) id)⟩, k _ _ (.inl (.inr (.inl rfl))) h.dic, k _ _ (.inl (.inr (.inr rfl))) h.lst, h.nS⟩
  there := fun s H a h m => by
    rcases m with m | rfl | rfl
    · exact (wScr K S).there () H a h.base m
    · exact ⟨_, h.dic⟩
    · exact ⟨_, h.lst⟩
section
variable {K : PySem.W.Frag} {S : Scr} {am gl : Addr} {s : MS} {H : Hp}
theorem DrR.ne (h : DrR K S am gl s H) : am ≠ gl := fun z => by
  have := h.dic
  rw [z, h.lst] at this
  cases this
theorem DrR.tab_ne (h : DrR K S am gl s H) {p : Addr × Str} (hp : p ∈ S.T) : p.1 ≠ am ∧ p.1 ≠ gl := ⟨fun z => h.nS.1 (.inl ⟨p, hp, z⟩), fun z => h.nS.2 (.inl ⟨p, hp, z⟩)⟩
theorem ScrOk.upd {pl : Prop} {scr : Addr} {ns : List Int} (h : ScrOk K pl scr ns H) {a : Addr} {o : HO} (n : ∀ o', H a = some o' → ∀ u x, o' ≠ .frz u x) (m : ¬ (a = scr ∧ pl)) : ScrOk K pl scr ns (upd H a o) := by
  rcases h with ⟨p, h⟩ | ⟨p, ⟨u, h⟩ | h⟩
  · exact .inl ⟨p, by rw [upd_ne (fun z => m ⟨z.symm, p⟩)]; exact h⟩
  · exact .inr ⟨p, .inl ⟨u, by rw [upd_ne (fun z => n _ (by rw [← z]; exact h) u _ rfl)]; exact h⟩⟩
  · exact .inr ⟨p, .inr h⟩
theorem Tabs.upd {T : List (Addr × Str)} (h : Tabs T H) {a : Addr} {o o0 : HO} (ha : H a = some o0) (n1 : ∀ ps, o0 ≠ .tbl ps) (n2 : ∀ φ, o0 ≠ .ext φ) : Tabs T (upd H a o) := fun p hp => by
  obtain ⟨ps, h1, h2, h3⟩ := h p hp
  have ne : ∀ b o', H b = some o' → o' ≠ o0 → b ≠ a := fun b o' e q z => by
    rw [z, ha] at e
    exact q (Option.some.inj e).symm
  refine ⟨ps, by rw [upd_ne (ne _ _ h1 fun z => n1 ps z.symm)]; exact h1, h2, fun pos cv hc => ?_⟩
  obtain ⟨c, e1, e2⟩ := h3 pos cv hc
  exact ⟨c, e1, by rw [upd_ne (ne _ _ e2 fun z => n2 _ z.symm)]; exact e2⟩
/-- the dict is written -/
theorem DrR.put (h : DrR K S am gl s H) (s' : MS) (hg : s'.great = s.great) : DrR K S am gl s' (upd H am (.dK (s'.kvs gl))) := by
  refine ⟨⟨Tabs.upd h.base.1 h.dic (fun _ z => by cases z) (fun _ z => by cases z), h.base.2.upd (fun o' e u x z => ?_) fun z => h.nS.1 (.inr z)⟩, upd_same, ?_, h.nS⟩
  · rw [h.dic] at e
    cases e
    cases z
  · rw [upd_ne (Ne.symm h.ne), hg]
    exact h.lst
/-- the list is written -/
theorem DrR.putL (h : DrR K S am gl s H) (g : List Int) : DrR K S am gl { s with great := g } (upd H gl (.lst (g.map V.int))) := by
  refine ⟨⟨Tabs.upd h.base.1 h.lst (fun _ z => by cases z) (fun _ z => by cases z), h.base.2.upd (fun o' e u x z => ?_) fun z => h.nS.2 (.inr z)⟩, ?_, upd_same, h.nS⟩
  · rw [h.lst] at e
    cases e
    cases z
  · rw [upd_ne h.ne]
    exact h.dic
theorem wDr_tab {P : Addr} {q : Str} (hm : (P, q) ∈ S.T) (hu : ∀ p ∈ S.T, p.1 = P → p.2 = q) : WTab (wDr K S am gl) P q where
  tab := fun s H h => h.base.1 (P, q) hm
  mem := .inl (.inl ⟨(P, q), hm, rfl⟩)
  st := fun s H H' h k t => by
    obtain ⟨ps, hP, _⟩ := h.base.1 (P, q) hm
    have nP : ∀ b o, H b = some o → (∀ ps, o ≠ .tbl ps) → b ≠ P := fun b o e n z => by
      rw [z, hP] at e
      exact n ps (Option.some.inj e).symm
    refine ⟨⟨fun p hp => ?_, ?_⟩, k _ _ (nP _ _ h.dic fun _ z => by cases z) h.dic, k _ _ (nP _ _ h.lst fun _ z => by cases z) h.lst, h.nS⟩
    · by_cases e : p.1 = P
      · obtain ⟨p1, p2⟩ := p
        have e2 := hu _ hp e
        dsimp only at e e2 ⊢
        rw [e, e2]
        exact t
      · obtain ⟨ps', h1, h2, h3⟩ := h.base.1 p hp
        refine ⟨ps', k _ _ e h1, h2, fun pos cv hc => ?_⟩
        obtain ⟨c, e1, e2⟩ := h3 pos cv hc
        exact ⟨c, e1, k _ _ (nP _ _ e2 (codeO_ne)) e2⟩
    · rcases h.base.2 with ⟨p, q⟩ | ⟨p, ⟨u, q⟩ | q⟩
      · exact .inl ⟨p, k _ _ (nP _ _ q fun _ z => by cases z) q⟩
      · exact .inr ⟨p, .inl ⟨u, k _ _ (nP _ _ q fun _ z => by cases z) q⟩⟩
      · exact .inr ⟨p, .inr q⟩
end
/-! ### rules: m[..], the list that it holds -/
/-- the handle a -/
def isH (a : Addr) : D → Bool
  | .dict [(.int b, .none)] => decide (b = (a : Int))
  | _ => false
theorem isH_eq {a : Addr} {d : D} (h : isH a d = true) : d = hnd a := by
  unfold isH at h
  split at h
  · rename_i b
    have e : b = (a : Int) := of_decide_eq_true h
    subst e
    rfl
  · cases h
theorem rep_hnd {K : PySem.W.Frag} {O : Addr → Prop} {H : Hp} {a : Addr} {v : V} (h : Rep K O H (hnd a) v) : v = .ref a := by
  rcases h.dict_inv with ⟨z, _⟩ | ⟨b, e, rfl⟩
  · cases z
  · have e2 := congrArg (fun l : List (D × D) => match l with | [(PyData.int z, _)] => z.toNat | _ => 0) e
    have e3 : a = b := by simpa using e2
    rw [e3]
def hAt (a : Addr) (i : Nat) (e : En) : Bool := match e[i]? with
  | some (.val d) => isH a d
  | _ => false
theorem hAt_eq {a : Addr} {i : Nat} {e : En} (h : hAt a i e = true) : e[i]? = some (.val (hnd a)) := by
  unfold hAt at h
  split at h
  · rename_i d q
    rw [q, isH_eq h]
  · cases h
inductive Mk where
  | great
  | mixed
  | drawn
def Mk.key : Mk → Str
  | .great => "great"
  | .mixed => "mixed"
  | .drawn => "drawn"
def MS.get (gl : Addr) (s : MS) : Mk → D
  | .great => hnd gl
  | .mixed => .int s.mixed
  | .drawn => .int s.drawn
def MS.put (s : MS) (z : Int) : Mk → Option MS
  | .great => none
  | .mixed => some { s with mixed := z }
  | .drawn => some { s with drawn := z }
/-- m[key] -/
def vMGet (am gl : Addr) (i : Nat) (k : Mk) : Fe MS := fun e s => if hAt am i e = true then .ok (s.get gl k) s else .stuck
/-- m[key] = e -/
def sMPut (am : Addr) (i : Nat) (k : Mk) (f : Fe MS) : Fs MS := fun e s => if hAt am i e = true then (f e s).bind fun d s1 => match d with
  | .int z => (match s1.put z k with
    | some s2 => .ok (.nx e) s2
    | none => .stuck)
  | _ => .stuck else .stuck
/-- lot != [], len(lot), lot[e], lot[e] = f -/
def bLNe (gl : Addr) (i : Nat) : Fb MS := fun e s => if hAt gl i e = true then .ok (!s.great.isEmpty) s else .stuck
def vLLen (gl : Addr) (i : Nat) : Fe MS := fun e s => if hAt gl i e = true then .ok (.int s.great.length) s else .stuck
def vLIx (gl : Addr) (i : Nat) (k : Fe MS) : Fe MS := fun e s => if hAt gl i e = true then (k e s).bind fun d s1 => match d with
  | .int z => (match s1.great[z.toNat]? with
    | some c => if 0 ≤ z then .ok (.int c) s1 else .stuck
    | none => .stuck)
  | _ => .stuck else .stuck
def sLSet (gl : Addr) (i : Nat) (k f : Fe MS) : Fs MS := fun e s => if hAt gl i e = true then (f e s).bind fun d s1 => (k e s1).bind fun j s2 => match d with
  | .int c => (match j with
    | .int z => if 0 ≤ z ∧ z < s2.great.length then .ok (.nx e) { s2 with great := s2.great.set z.toNat c } else .stuck
    | _ => .stuck)
  | _ => .stuck else .stuck
section
variable {X : Cx} {S : Scr} {am gl : Addr} {cls : Xc} {Wx : WX} {pos p p1 p2 : Pos}
theorem rv_mget {i : Nat} {k : Mk} {x y : Str} {j : Nat} {kk : Nat} (hr : Room kk X.A) (hy : y = k.key) (hN : X.N[i]? = some x) (hv : Vis X.env.scope x) (hd : (x == ("__debug__" : Str)) = false := by decide) (hcd : (x == ("__classdict__" : Str)) = false := by decide) :
    PV X (wDr X.K S am gl) cls Wx (.Subscript (.Name x p1) (.Constant (.str y) j p2) pos) (vMGet am gl i k) := by
  subst hy
  refine peConv (pe_dget (by have := hr.units; omega) (pe_var hN hv hd hcd) pe_str (fun _ _ => rfl)) fun σ H Q h => ?_
  obtain ⟨B, e, ad, s, G, P⟩ := h
  have P' := P
  unfold vMGet at P'
  by_cases hh : hAt am i e = true
  · rw [if_pos hh] at P'
    obtain ⟨v, e1, r⟩ := G.env.val_at (hAt_eq hh)
    obtain rfl := rep_hnd r
    have hdic := (show DrR X.K S am gl s H from G.R).dic
    refine ⟨.ref am, e1, am, (match k with | .great => .ref gl | .mixed => .int s.mixed | .drawn => .int s.drawn), rfl, .inl ⟨s.kvs gl, .inr k.key, .inl hdic, rfl, ?_⟩, P' _ H (Ext.refl H) G.R ?_⟩
    · cases k <;> rfl
    · cases k
      · exact Rep.hnd gl
      · exact Rep.int _
      · exact Rep.int _
  · rw [if_neg hh] at P'
    exact P'.elim
theorem rs_mput {i : Nat} {k : Mk} {x y : Str} {j : Nat} {kk : Nat} {e : Expr} {f : Fe MS} (hr : Room kk X.A) (hy : y = k.key) (hN : X.N[i]? = some x) (hv : Vis X.env.scope x) (he : PV X (wDr X.K S am gl) cls Wx e f) (hd : (x == ("__debug__" : Str)) = false := by decide) (hcd : (x == ("__classdict__" : Str)) = false := by decide)
    (ha : ∀ v, assign (.Subscript (.Name x p1) (.Constant (.str y) j p) p2) X.env v = (do
      let ov ← holding [v] (eval (.Name x p1) X.env)
      let iv ← holding [v, ov] (eval (.Constant (.str y) j p) X.env)
      standAt p2
      holding [v, ov, iv] (setItem ov iv v)
      release [v, ov, iv] []) := by intro _; rfl)
    (hs : swapsWithSole [.Subscript (.Name x p1) (.Constant (.str y) j p) p2] e pos.line X.env = pure false := by rfl) (hw : swappedStores [.Subscript (.Name x p1) (.Constant (.str y) j p) p2] e X.env = pure none := by rfl)
    (h1 : (assignEach [.Subscript (.Name x p1) (.Constant (.str y) j p) p2] X.env).map (·.2) = [assign (.Subscript (.Name x p1) (.Constant (.str y) j p) p2) X.env] := by rfl) :
    PS X (.Assign [.Subscript (.Name x p1) (.Constant (.str y) j p) p2] e pos) (TSv X.K (wDr X.K S am gl) cls Wx (sMPut am i k f)) := by
  subst hy
  refine psConv (ps_asg he (pg_sub (pe_var hN hv hd hcd) pe_str (set_dict (by have := hr.units; omega)) ha) hs hw h1) fun D σ H h => ?_
  obtain ⟨B, e, ad, s, G, P⟩ := h
  have P' := P
  unfold sMPut at P'
  by_cases hh : hAt am i e = true
  · rw [if_pos hh] at P'
    refine ⟨B, e, ad, s, G, (Post.unbind P').imp (fun d s1 P1 v H1 e1 r1 hr => ?_) fun _ _ _ x => x.toP G⟩
    have G1 := G.ext e1 r1
    cases d with
    | int z =>
      obtain rfl := hr.int_inv
      dsimp only at P1
      cases hp : s1.put z k with
      | none => rw [hp] at P1; exact P1.elim
      | some s2 =>
        rw [hp] at P1
        obtain ⟨v, e2, r⟩ := G1.env.val_at (hAt_eq hh)
        obtain rfl := rep_hnd r
        have hR : DrR X.K S am gl s1 H1 := G1.R
        have hg : s2.great = s1.great := by
          cases k <;> cases hp <;> rfl
        have hkv : putK (s1.kvs gl) (Sum.inr k.key) (.int z) = s2.kvs gl := by
          cases k <;> cases hp <;> rfl
        refine ⟨.ref am, e2, am, _, rfl, .inl ⟨s1.kvs gl, .inr k.key, hR.dic, rfl, ?_, rfl⟩, ?_⟩
        · rw [sizeLine_eq]
          show 3 < 16777216
          decide
        · rw [hkv]
          refine P1 ad _ _ (G1.ext (fun a o m q => ?_) (hR.put s2 hg))
          rw [upd_ne (fun z => m (.inr (.inl z)))]
          exact q
    | _ => exact P1.elim
  · rw [if_neg hh] at P'
    exact P'.elim
theorem rb_lne {i : Nat} {x : Str} {kk : Nat} (hr : Room kk X.A) (hN : X.N[i]? = some x) (hv : Vis X.env.scope x) (hd : (x == ("__debug__" : Str)) = false := by decide) (hcd : (x == ("__classdict__" : Str)) = false := by decide) :
    PB X (wDr X.K S am gl) cls Wx (.Compare (.Name x p1) [.NotEq] [.List [] p2] pos) (bLNe gl i) := by
  refine ptConv (pt_cmpR (op_nilNe hr.units0) (pe_var hN hv hd hcd) (pe_lst pa_nil) (nomark _)) fun σ H Q h => ?_
  obtain ⟨B, e, ad, s, G, P⟩ := h
  have P' := P
  unfold bLNe at P'
  by_cases hh : hAt gl i e = true
  · rw [if_pos hh] at P'
    obtain ⟨v, e1, r⟩ := G.env.val_at (hAt_eq hh)
    obtain rfl := rep_hnd r
    have hl := (show DrR X.K S am gl s H from G.R).lst
    refine ⟨.ref gl, e1, by decide, fun q hq => ⟨gl, q, s.great.map V.int, rfl, rfl, SqL.of (by rw [upd_ne (ne_of_none hl hq)]; exact hl), SqL.of upd_same, _, rfl, ?_⟩⟩
    have em : (s.great.map V.int).isEmpty = s.great.isEmpty := by cases s.great <;> rfl
    rw [if_pos rfl, em]
    exact P' _ (Ext.new hq) (Wd.new G.R hq)
  · rw [if_neg hh] at P'
    exact P'.elim
theorem rv_llen {i : Nat} {x : Str} (hN : X.N[i]? = some x) (hv : Vis X.env.scope x) (hg : Gl X "len") (hm : X.mg "len" = none) (hd : (x == ("__debug__" : Str)) = false := by decide) (hcd : (x == ("__classdict__" : Str)) = false := by decide) :
    PV X (wDr X.K S am gl) cls Wx (.Call (.Name "len" p) [.Name x p1] [] pos) (vLLen gl i) := by
  refine peConv (pe_callB call_len_seq hg hm PySem.boot_len (pa_cons (pe_var hN hv hd hcd) pa_nil)) fun σ H Q h => ?_
  obtain ⟨B, e, ad, s, G, P⟩ := h
  have P' := P
  unfold vLLen at P'
  by_cases hh : hAt gl i e = true
  · rw [if_pos hh] at P'
    obtain ⟨v, e1, r⟩ := G.env.val_at (hAt_eq hh)
    obtain rfl := rep_hnd r
    have hl := (show DrR X.K S am gl s H from G.R).lst
    exact ⟨.ref gl, e1, gl, _, rfl, .inl (SqL.of hl), P' _ H (Ext.refl H) G.R (by rw [List.length_map]; exact Rep.int _)⟩
  · rw [if_neg hh] at P'
    exact P'.elim
theorem ix_nat {α : Type} {xs : List α} {z : Int} {c : α} (h0 : 0 ≤ z) (h : xs[z.toNat]? = some c) : L2.atI xs z = some c := by
  unfold L2.atI ixN
  have hl : z.toNat < xs.length := (List.getElem?_eq_some_iff.mp h).1
  rw [if_pos h0, if_pos (by omega)]
  exact h
theorem rv_lix {i : Nat} {x : Str} {k : Expr} {fk : Fe MS} (hN : X.N[i]? = some x) (hv : Vis X.env.scope x) (hk : PV X (wDr X.K S am gl) cls Wx k fk) (hs : PlainIx k := by exact fun _ _ => rfl) (hd : (x == ("__debug__" : Str)) = false := by decide) (hcd : (x == ("__classdict__" : Str)) = false := by decide) :
    PV X (wDr X.K S am gl) cls Wx (.Subscript (.Name x p1) k pos) (vLIx gl i fk) := by
  refine peConv (pe_ix ix_list (pe_var hN hv hd hcd) hk hs) fun σ H Q h => ?_
  obtain ⟨B, e, ad, s, G, P⟩ := h
  have P' := P
  unfold vLIx at P'
  by_cases hh : hAt gl i e = true
  · rw [if_pos hh] at P'
    obtain ⟨v, e1, r⟩ := G.env.val_at (hAt_eq hh)
    obtain rfl := rep_hnd r
    refine ⟨.ref gl, e1, B, e, ad, s, G, (Post.unbind P').imp (fun d s1 P1 v H1 e1 r1 hr => ?_) fun _ _ _ x => x⟩
    cases d with
    | int z =>
      obtain rfl := hr.int_inv
      dsimp only at P1
      cases hc : s1.great[z.toNat]? with
      | none => rw [hc] at P1; exact P1.elim
      | some c =>
        rw [hc] at P1
        dsimp only at P1
        by_cases h0 : 0 ≤ z
        · rw [if_pos h0] at P1
          have hl := (show DrR X.K S am gl s1 H1 from r1).lst
          exact ⟨gl, _, z, .int c, rfl, rfl, SqL.of hl, ix_nat h0 (by rw [List.getElem?_map, hc]; rfl), P1 _ H1 e1 r1 (Rep.int c)⟩
        · rw [if_neg h0] at P1
          exact P1.elim
    | _ => exact P1.elim
  · rw [if_neg hh] at P'
    exact P'.elim
theorem rs_lset {i : Nat} {x : Str} {k e : Expr} {fk fe : Fe MS} (hN : X.N[i]? = some x) (hv : Vis X.env.scope x) (hk : PV X (wDr X.K S am gl) cls Wx k fk) (he : PV X (wDr X.K S am gl) cls Wx e fe) (hd : (x == ("__debug__" : Str)) = false := by decide) (hcd : (x == ("__classdict__" : Str)) = false := by decide)
    (ha : ∀ v, assign (.Subscript (.Name x p1) k p2) X.env v = (do
      let ov ← holding [v] (eval (.Name x p1) X.env)
      let iv ← holding [v, ov] (eval k X.env)
      standAt p2
      holding [v, ov, iv] (setItem ov iv v)
      release [v, ov, iv] []) := by intro _; rfl)
    (hs : swapsWithSole [.Subscript (.Name x p1) k p2] e pos.line X.env = pure false := by rfl) (hw : swappedStores [.Subscript (.Name x p1) k p2] e X.env = pure none := by rfl)
    (h1 : (assignEach [.Subscript (.Name x p1) k p2] X.env).map (·.2) = [assign (.Subscript (.Name x p1) k p2) X.env] := by rfl) : PS X (.Assign [.Subscript (.Name x p1) k p2] e pos) (TSv X.K (wDr X.K S am gl) cls Wx (sLSet gl i fk fe)) := by
  refine psConv (ps_asg he (pg_sub (pe_var hN hv hd hcd) hk set_list ha) hs hw h1) fun D σ H h => ?_
  obtain ⟨B, e, ad, s, G, P⟩ := h
  have P' := P
  unfold sLSet at P'
  by_cases hh : hAt gl i e = true
  · rw [if_pos hh] at P'
    refine ⟨B, e, ad, s, G, (Post.unbind P').imp (fun d s1 P1 v H1 e1 r1 hr => ?_) fun _ _ _ x => x.toP G⟩
    have G1 := G.ext e1 r1
    obtain ⟨u, e2, r⟩ := G1.env.val_at (hAt_eq hh)
    obtain rfl := rep_hnd r
    refine ⟨.ref gl, e2, B, e, ad, s1, G1, (Post.unbind P1).imp (fun j s2 P2 w H2 e3 r2 hw => ?_) fun _ _ _ x => x.toP G1⟩
    have G2 := G1.ext e3 r2
    cases d with
    | int c =>
      obtain rfl := hr.int_inv
      cases j with
      | int z =>
        obtain rfl := hw.int_inv
        dsimp only at P2
        by_cases hc : 0 ≤ z ∧ z < s2.great.length
        · rw [if_pos hc] at P2
          have hR : DrR X.K S am gl s2 H2 := r2
          refine ⟨gl, s2.great.map V.int, z, z.toNat, rfl, rfl, hR.lst, ?_, ?_⟩
          · unfold ixN
            rw [if_pos hc.1, List.length_map, if_pos hc.2]
          · have em : (s2.great.map V.int).set z.toNat (.int c) = (s2.great.set z.toNat c).map V.int := by rw [List.map_set]
            rw [em]
            refine P2 ad _ _ (G2.ext (fun a o m q => ?_) (hR.putL _))
            rw [upd_ne (fun z => m (.inr (.inr z)))]
            exact q
        · rw [if_neg hc] at P2
          exact P2.elim
      | _ => exact P2.elim
    | _ => cases j <;> exact P2.elim
  · rw [if_neg hh] at P'
    exact P'.elim
end
/-! ### the script -/
/-- a world that holds the script -/
structure WScr {K : PySem.W.Frag} (W : Wd K) (scr : Addr) (ns : List Int) : Prop where
  seq : ∀ s H, W.R s H → SqL K H scr (ns.map V.int)
  st : ∀ s H H', W.R s H → (∀ a o, (W.M a ∨ ∀ xs, o ≠ .lst xs) → H a = some o → H' a = some o) → SqL K H' scr (ns.map V.int)
theorem wScr_scr {K : PySem.W.Frag} {S : Scr} : WScr (wScr K S) S.scr S.ns := ⟨fun _ _ h => h.2.seq, fun s H H' h k => ((wScr K S).stable s H H' h k).2.seq⟩
theorem wDr_scr {K : PySem.W.Frag} {S : Scr} {am gl : Addr} : WScr (wDr K S am gl) S.scr S.ns := ⟨fun _ _ h => h.base.2.seq, fun s H H' h k => ((wDr K S am gl).stable s H H' h k).base.2.seq⟩
def vScrLen {St : Type} (scr : Addr) (ns : List Int) (i : Nat) : Fe St := fun e s => if hAt scr i e = true then .ok (.int ns.length) s else .stuck
def iScr {St : Type} (scr : Addr) (ns : List Int) (i : Nat) : Fa St := fun e s => if hAt scr i e = true then .ok (ns.map PyData.int) s else .stuck
section
variable {X : Cx} {W : Wd X.K} {cls : Xc} {Wx : WX} {pos p p1 p2 : Pos} {tg : Expr} {scr : Addr} {ns : List Int}
theorem rv_scrlen {i : Nat} {x : Str} (hW : WScr W scr ns) (hN : X.N[i]? = some x) (hv : Vis X.env.scope x) (hg : Gl X "len") (hm : X.mg "len" = none) (hd : (x == ("__debug__" : Str)) = false := by decide) (hcd : (x == ("__classdict__" : Str)) = false := by decide) :
    PV X W cls Wx (.Call (.Name "len" p) [.Name x p1] [] pos) (vScrLen scr ns i) := by
  refine peConv (pe_callB call_len_seq hg hm PySem.boot_len (pa_cons (pe_var hN hv hd hcd) pa_nil)) fun σ H Q h => ?_
  obtain ⟨B, e, ad, s, G, P⟩ := h
  have P' := P
  unfold vScrLen at P'
  by_cases hh : hAt scr i e = true
  · rw [if_pos hh] at P'
    obtain ⟨v, e1, r⟩ := G.env.val_at (hAt_eq hh)
    obtain rfl := rep_hnd r
    exact ⟨.ref scr, e1, scr, _, rfl, .inl (hW.seq s H G.R), P' _ H (Ext.refl H) G.R (by rw [List.length_map]; exact Rep.int _)⟩
  · rw [if_neg hh] at P'
    exact P'.elim
theorem ints_get {ns : List Int} {i : Nat} {x : V} (h : (ns.map V.int)[i]? = some x) : ∃ n : Int, (ns.map PyData.int)[i]? = some (.int n) ∧ x = .int n := by
  rw [List.getElem?_map] at h
  cases e : ns[i]? with
  | none => rw [e] at h; cases h
  | some n =>
    rw [e] at h
    exact ⟨n, by rw [List.getElem?_map, e]; rfl, (Option.some.inj h).symm⟩
theorem ri_scr {i : Nat} {x : Str} (hW : WScr W scr ns) (hN : X.N[i]? = some x) (hv : Vis X.env.scope x) (hd : (x == ("__debug__" : Str)) = false := by decide) (hcd : (x == ("__classdict__" : Str)) = false := by decide) : PI X tg (.Name x p1) (TIv X.K W cls Wx (iScr scr ns i)) := by
  refine piConv (pi_list (pe_var hN hv hd hcd)) fun σ H R h => ?_
  obtain ⟨B, e, ad, s, G, P⟩ := h
  have P' := P
  unfold iScr at P'
  by_cases hh : hAt scr i e = true
  · rw [if_pos hh] at P'
    obtain ⟨v, e1, r⟩ := G.env.val_at (hAt_eq hh)
    obtain rfl := rep_hnd r
    refine ⟨.ref scr, e1, scr, rfl, ⟨_, hW.seq s H G.R⟩, P' _ H (Ext.refl H) G.R ⟨_, _, by rw [List.length_map, ← List.length_map (f := V.int)]; exact walk_list, fun H'' hw _ => ?_, fun i Hx x Hy hi k y => ?_⟩⟩
    · obtain ⟨s'', hs⟩ := hw
      exact hW.seq s'' H'' hs
    · obtain ⟨rfl, hx⟩ := y
      obtain ⟨n, h1, rfl⟩ := ints_get hx
      exact ⟨_, h1, fun a o h => h, fun O' _ _ => Rep.int n⟩
  · rw [if_neg hh] at P'
    exact P'.elim
end
end Rf
end

section
set_option Elab.async false
set_option linter.all false
set_option maxRecDepth 100000
set_option maxHeartbeats 4000000
/-! RfTop: the meaning of a def is what its body's reading does (own work). -/
namespace Rf
open PySem PySem.Spec PyProof.Rows L2 LamX

/-- the meaning of a def: n parameters, N slots -/
def fnφ {S : Type} (n N : Nat) (F : Fs S) : List D → S → Rs S D := fun ds s => if ds.length = n then run N F ds s else .stuck
theorem fnφ_of {S : Type} {n N : Nat} {F : Fs S} (ds : List D) (s : S) (h : fnφ n N F ds s ≠ .stuck) : ds.length = n ∧ run N F ds s = fnφ n N F ds s := by
  unfold fnφ at h ⊢
  by_cases e : ds.length = n
  · rw [if_pos e]
    exact ⟨e, rfl⟩
  · rw [if_neg e] at h
    exact absurd rfl h
theorem fnφ_eq {S : Type} {n N : Nat} {F : Fs S} {ds : List D} {s : S} (h : ds.length = n) : fnφ n N F ds s = run N F ds s := if_pos h
def noφ {S : Type} : List D → S → Rs S D := fun _ _ => .stuck
/-- from the head's word and the body's reading, the def's code object in view -/
theorem Df.ofC {P : Program} {w : World} {K : PySem.W.Frag} {mg : Str → Option Value} {base : Heap} {x : Str} {params : Arguments} {body : List Stmt} {scope : Scope} {f : Addr} {fd : FuncData} {N ps : List Str} {k : Nat}
    {W : Wd K} {cls : Xc} {φ : List D → W.S → Rs W.S D} {F : Fs W.S} (FD : FunD K x x params body scope [] [] f fd) (hm : mg x = some (.ref f)) (S : FnScope N ps scope)
    (hb : ∀ (A : Around) (outer : List Env) (s : Shared) (H : Hp) (E : XK), Room k (A.deeper (envOfC x scope s.heap.objs.size f fd.code)) →
      PSs (cxOf (L2.CX P w) P w K mg base N x scope f fd.code A outer s H E) body (TSv K W cls (fun c d _ H' => E c d H') F))
    (hφ : ∀ ds s, φ ds s ≠ .stuck → ds.length = ps.length ∧ Rf.run N.length F ds s = φ ds s)
    (hps : ps.length ≤ N.length := by decide)
    (hbi : ∀ (kV doc pm : Value) (an : Option Addr) (cdv ct : Value) (us : List Value), us.length = ps.length → bindArgs (PySem.W.fnOf x x params body scope .none kV doc pm an cdv ct) ⟨us, []⟩ = pure (ps.zip us)) :
    Df P w K mg base W cls (k + 1) x ps φ := by
  have bn := FD.bindsN hbi
  have kp := FD.kp
  obtain ⟨oc, od, dV, kV, doc, pm, an, cdv, ct, osl, rfl, lk, hcg, _, _⟩ := FD.ex
  have len : ∀ vs H Q E, spD K W cls φ vs H Q E → vs.length = ps.length := fun vs H Q E h => by
    obtain ⟨O, ds, s, Ft, R, P⟩ := h
    rw [R.length]
    exact (hφ ds s fun z => by rw [z] at P; exact P).1
  refine ⟨f, _, hm, kp, bn, len, fun A outer s H args us vs Q E hr e0 hbt hv h => ?_⟩
  have hl := len vs H Q E h
  refine run_ofS lk hcg S hr e0 hbt hv hl fun hr' => ⟨_, hb A outer s H E hr', ?_⟩
  exact fn_tree h (by rw [hl]; exact hps) fun ds s hd hs => (hφ ds s hs).2
end Rf
end

section
set_option Elab.async false
set_option linter.all false
set_option maxRecDepth 100000
set_option maxHeartbeats 4000000
/-! RfKw: f(k = e, ..), all parameters by their names, in their order (own work). -/
namespace Rf
open PySem PySem.Spec PyProof.Rows L2

structure DfK (P : Program) (w : World) (K : PySem.W.Frag) (mg : Str → Option Value) (base : Heap) (W : Wd K) (cls : Xc) (k : Nat) (x : Str) (ps : List Str) (φ : List D → W.S → Rs W.S D) : Prop where
  ex : ∃ f fd, mg x = some (.ref f) ∧ PySem.W.keepIn K (.ref f) = true ∧ (∀ (s : Shared) (ws : List Value), K.In s.heap → ws.length = ps.length → BindsTo s fd ⟨[], ps.zip ws⟩ (ps.zip ws)) ∧ FnOk P w K mg base (L2.CX P w) k f fd ps (spD K W cls φ)
section
variable {X : Cx} {W : Wd X.K} {cls : Xc} {Wx : WX} {k : Nat} {f : Addr} {fd : FuncData} {ps : List Str} {φ : List D → W.S → Rs W.S D}
theorem run_fnSK {pins : List (Addr × Obj)} {σ : L2.St} {H : Hp} {s : Shared} {Q : VK} {E : L2.St → XK} {sp : Sp} {ws : List Value} {zs : List V} (F : FnOk X.prog X.w X.K X.mg X.base (L2.CX X.prog X.w) k f fd ps sp) (hr : Room k X.A)
    (hb : ∀ (s : Shared) (ws : List Value), X.K.In s.heap → ws.length = ps.length → BindsTo s fd ⟨[], ps.zip ws⟩ (ps.zip ws)) (hx : PassesAt (L2.CX X.prog X.w) X σ (E σ)) (I : Inv X pins σ H s) (r : Vals zs ws) (h : sp zs H Q (E σ)) :
    wpAny (model X.prog X.w) X.A (call (.ref f) [] (ps.zip ws)) (EP X pins σ Q) X.xe s := by
  have hl : ws.length = ps.length := by rw [← r.length]; exact F.len _ _ _ _ h
  refine wpAny_call (codeAny_mono (F.run X.A X.stack s H ⟨[], ps.zip ws⟩ ws zs Q (E σ) hr I.env0 (hb s ws I.kIn hl) r h) fun r s' hq => ?_)
  cases r with
  | error e => exact hx pins H s e s' I hq
  | ok fl =>
    cases fl with
    | ret u => exact I.after hq
    | next => exact False.elim hq
    | brk => exact False.elim hq
    | cont => exact False.elim hq
abbrev PKr (X : Cx) (W : Wd X.K) (cls : Xc) (Wx : WX) (kws : List Keyword) (F : Fa W.S) : Prop := PK X kws (TAv X.K W cls Wx F)
theorem pkConv {X : Cx} {kws : List Keyword} {t t' : TA} (h : PK X kws t) (c : ∀ σ H Q, t' σ H Q → t σ H Q) : PK X kws t' := ⟨fun pos pins s σ H Q I q => h.run pos pins s σ H Q I (c σ H Q q)⟩
theorem rk_nil : PKr X W cls Wx [] aNil := pkConv pk_nil tNilv
theorem rk_cons {nm : Option Str} {e : Expr} {kpos : Pos} {kws : List Keyword} {a : Fe W.S} {r : Fa W.S} (ha : PV X W cls Wx e a) (hr : PKr X W cls Wx kws r) : PKr X W cls Wx (⟨nm, e, kpos⟩ :: kws) (aCons a r) := pkConv (pk_cons ha hr) tConsv
theorem rv_callKw {j : Nat} {x : Str} {kws : List Keyword} {fa : Fa W.S} {p pos : Pos} (h : DfK X.prog X.w X.K X.mg X.base W cls k x ps φ) (hr : Room j X.A) (hk : k ≤ j) (tk : Takes X Wx) (hg : Gl X x) (ha : PKr X W cls Wx kws fa)
    (hall : (backToKw pos (keywordEach kws X.env)).all (·.1.isSome) = true := by rfl) (hks : (backToKw pos (keywordEach kws X.env)).filterMap (·.1) = ps := by rfl) (hdb : (x == ("__debug__" : Str)) = false := by decide)
    (hpl : ((backTo pos (starEach [] X.env)).any (·.1) || (backToKw pos (keywordEach kws X.env)).any (·.1.isNone)) = false := by rfl) : PV X W cls Wx (.Call (.Name x p) [] kws pos) (vCall φ fa) := by
  obtain ⟨f, fd, hm, kp, hb, F⟩ := h.ex
  have F' := F.mono hk
  have base : PE X (.Call (.Name x p) [] kws pos) (fun σ H Q => TAv X.K W cls Wx fa σ H fun zs H1 => spD X.K W cls φ zs H1 Q (WE Wx σ)) := by
    refine ⟨fun pins s σ H Q I h => ?_⟩
    refine wpAny_Call_Name_kw (ld_glob I hg hm ?_ hdb)
    refine PySem.W.callWith_KW0 (h₀ := X.base) I.ok.mod.kin kp hall (thn (ha.run pos pins s σ H _ I h) fun ws s2 ⟨zs, H2, I2, rz, q2⟩ => ⟨I2.kIn, ?_⟩) hpl
    rw [hks]
    exact run_fnSK F' hr hb (passAt tk σ) I2 rz q2
  refine peConv base fun σ H Q h => ?_
  obtain ⟨B, e, ad, s, G, P⟩ := h
  refine ⟨B, e, ad, s, G, (Post.unbind P).imp (fun ds s1 P1 vs H1 e1 r1 hr => ?_) fun _ _ _ x => x⟩
  exact ⟨Ow B.O ad, ds, s1, (G.ext e1 r1).fit, hr, P1.imp (fun d s2 q v H2 e2 r2 hv => q v H2 (e1.trans e2) r2 hv) fun c d s2 q => q.ext e1⟩
end
/-- .. of a def without defaults -/
theorem DfK.of {P : Program} {w : World} {K : PySem.W.Frag} {mg : Str → Option Value} {base : Heap} {W : Wd K} {cls : Xc} {k : Nat} {x : Str} {ps : List Str} {φ : List D → W.S → Rs W.S D} {params : Arguments} {body : List Stmt} {scope : Scope} {f : Addr} {fd : FuncData}
    (h : FnOk P w K mg base (L2.CX P w) k f fd ps (spD K W cls φ)) (hm : mg x = some (.ref f)) (FD : FunD K x x params body scope [] [] f fd)
    (hbi : ∀ (kV doc pm : Value) (an : Option Addr) (cdv ct : Value) (ws : List Value), ws.length = ps.length → bindArgs (PySem.W.fnOf x x params body scope .none kV doc pm an cdv ct) ⟨[], ps.zip ws⟩ = pure (ps.zip ws)) : DfK P w K mg base W cls k x ps φ := by
  have kp := FD.kp
  obtain ⟨oc, od, dV, kV, doc, pm, an, cdv, ct, osl, rfl, lk, hcg, hd, _⟩ := FD.ex
  have hdV : dV = .none := by
    rcases hd with ⟨_, e⟩ | ⟨z, _⟩
    · exact e
    · exact absurd rfl z
  subst hdV
  exact ⟨f, _, hm, kp, fun s ws _ hl => BindsTo.of_eq (hbi _ _ _ _ _ _ ws hl), h⟩
theorem DfK.mono {P : Program} {w : World} {K : PySem.W.Frag} {mg : Str → Option Value} {base : Heap} {W : Wd K} {cls : Xc} {j k : Nat} {x : Str} {ps : List Str} {φ : List D → W.S → Rs W.S D} (h : DfK P w K mg base W cls j x ps φ) (hk : j ≤ k) : DfK P w K mg base W cls k x ps φ := by
  obtain ⟨f, fd, h1, h2, h3, h4⟩ := h.ex
  exact ⟨f, fd, h1, h2, h3, h4.mono hk⟩
end Rf
end

section
set_option Elab.async false
set_option linter.all false
set_option maxRecDepth 100000
set_option maxHeartbeats 4000000
/-! RfBegun: the draws are begun: m = {'great': [..], 'mixed': 50021, 'drawn': 0} (own work). -/
namespace Rf
open PySem PySem.Spec PyProof.Rows L2 LamX

theorem pss_ex {X : Cx} {sts : List Stmt} {ι : Type} {t : ι → TS} (h : ∀ i, PSs X sts (t i)) : PSs X sts (fun D σ H => ∃ i, t i D σ H) := ⟨fun pins s σ H D I ⟨i, q⟩ => (h i).run pins s σ H D I q⟩
/-- the numbers that are great -/
def great (ns : List Int) : List Int := (ns.map fun z => if z < 0 then -z else z).filter fun z => decide (10 ^ 12 ≤ z)
def cG : Fb Unit := bVal (v2 dGe (vA dAbs (aCons (vVar 2) aNil)) (v2 dPow (vCst (.int 10)) (vCst (.int 12))))
def aG : Fe Unit := vA dAbs (aCons (vVar 2) aNil)
def fLc (S : Scr) : Fa Unit := vLc [2] (gNm 2) (iScr S.scr S.ns 0) cG aG
def eBeg (S : Scr) : En := [.val (hnd S.scr), .no, .no]
theorem isH_hnd (a : Addr) : isH a (hnd a) = true := by unfold isH hnd; simp
theorem lc_great (e : En) (he : e.length = 3) : ∀ ns : List Int, lcGo (gNm 2) cG aG e (ns.map PyData.int) () = .ok ((great ns).map PyData.int) ()
  | [] => rfl
  | z :: r => by
    have ih := lc_great e he r
    have hget : (e.set 2 (.val (PyData.int z)))[2]? = some (.val (.int z)) := by rw [List.getElem?_set, if_pos rfl, if_pos (by omega)]
    have hv : vVar (S := Unit) 2 (e.set 2 (.val (PyData.int z))) () = .ok (.int z) () := by unfold vVar; rw [hget]
    have ha : aG (e.set 2 (.val (PyData.int z))) () = .ok (.int (if z < 0 then -z else z)) () := by
      unfold aG vA aCons aNil
      rw [hv]
      rfl
    have ht : cG (e.set 2 (.val (PyData.int z))) () = .ok (decide (10 ^ 12 ≤ if z < 0 then -z else z)) () := by
      have ha' := ha
      unfold aG at ha'
      unfold cG bVal v2
      rw [ha']
      rfl
    have step : lcGo (gNm 2) cG aG e ((z :: r).map PyData.int) () = (cG (e.set 2 (.val (.int z))) ()).nox.bind fun b s1 => match b with
      | true => (aG (e.set 2 (.val (.int z))) s1).nox.bind fun y s2 => (lcGo (gNm 2) cG aG e (r.map PyData.int) s2).bind fun ys s3 => .ok (y :: ys) s3
      | false => lcGo (gNm 2) cG aG e (r.map PyData.int) s1 := rfl
    rw [step, ht]
    unfold great
    rw [List.map_cons, List.filter_cons]
    unfold great at ih
    cases hd : decide (10 ^ 12 ≤ if z < 0 then -z else z) with
    | true =>
      rw [if_pos rfl]
      show (aG (e.set 2 (.val (.int z))) ()).nox.bind _ = _
      rw [ha]
      show (lcGo (gNm 2) cG aG e (r.map PyData.int) ()).bind _ = _
      rw [ih]
      rfl
    | false =>
      rw [if_neg Bool.false_ne_true]
      exact ih
theorem fLc_ok (S : Scr) (hl : S.ns.length ≤ line) : fLc S (eBeg S) () = .ok ((great S.ns).map PyData.int) () := by
  unfold fLc vLc
  have h0 : iScr (St := Unit) S.scr S.ns 0 (eBeg S) () = .ok (S.ns.map PyData.int) () := by
    unfold iScr hAt eBeg
    rw [show ([Slot.val (hnd S.scr), Slot.no, Slot.no] : En)[0]? = some (.val (hnd S.scr)) from rfl]
    dsimp only
    rw [if_pos (isH_hnd S.scr)]
  rw [h0, Rs.bind_ok, if_pos (by rw [List.length_map]; exact hl), lc_great _ (by unfold eBeg wipeE wipeE; rfl)]
  rfl
theorem reps_ints {K : PySem.W.Frag} {O : Addr → Prop} {H : Hp} : ∀ {ns : List Int} {xs : List V}, Reps K O H (ns.map PyData.int) xs → xs = ns.map V.int
  | [], xs, h => h.nil_inv
  | n :: r, xs, h => by
    obtain ⟨v, q, rfl, h1, h2⟩ := h.cons_inv
    rw [h1.int_inv, reps_ints h2]
    rfl
theorem great_len (ns : List Int) : (great ns).length ≤ ns.length := by
  unfold great
  exact Nat.le_trans (List.length_filter_le _ _) (by rw [List.length_map]; exact Nat.le_refl _)
/-- the promise: a dict and a list, new, the draws' state -/
def spBegun (K : PySem.W.Frag) (S : Scr) : Sp := fun vs H Q _ => vs = [.ref S.scr] ∧ S.R K H ∧ S.ns.length ≤ line ∧ ∀ am gl s H', (∀ a o, ¬ S.M a → H a = some o → H' a = some o) → DrR K S am gl s H' → Q (.ref am) H'
/-- the rest of the body walks the script and gives m back -/
def RestOk (S : Scr) (F : Addr → Addr → Fs MS) : Prop := ∀ am gl s, ∃ s', F am gl [.val (hnd S.scr), .val (hnd am), .no] s = .ok (.rt (hnd am)) s'
theorem begun_tree {K : PySem.W.Frag} {S : Scr} {cls : Xc} {Wx : WX} {F : Addr → Addr → Fs MS} {H : Hp} {Q : VK} {E : XK} {vs : List V} (h : spBegun K S vs H Q E) (hF : RestOk S F) :
    tDisp [(tC (.str "great"), TOv K (wScr K S) cls (fun _ _ _ _ => False) (fLc S)), (tC (.str "mixed"), tC (.int 50021)), (tC (.str "drawn"), tC (.int 0))] (vs.map some ++ [none, none]) H
      (fun v H1 => ∃ i : Addr × Addr, TSv K (wDr K S i.1 i.2) cls Wx (F i.1 i.2) { nx := fun _ H' => Q .non H', rt := Q } ((vs.map some ++ [none, none]).set 1 (some v)) H1) := by
  obtain ⟨rfl, hR, hln, hq⟩ := h
  intro p hp
  have thr : ∀ a, S.M a → ∃ o, H a = some o := fun a m => (wScr K S).there () H a hR m
  have nMp : ¬ S.M p := fun m => by
    obtain ⟨o, e⟩ := thr p m
    rw [hp] at e
    cases e
  have hR1 : S.R K (upd H p (.dK [])) := Wd.new (W := wScr K S) (s := ()) hR hp
  -- the list
  refine ⟨⟨S.M, fun _ _ => False⟩, eBeg S, [none, none, none], (), ⟨?_, fun i j a hi => ?_, fun _ _ z => z.elim, fun a z => by simp at z, fun a m => (wScr K S).there () _ a hR1 m, fun a m => m, fun _ _ z => z.elim, hR1⟩, ?_⟩
  · exact .val (Rep.hnd S.scr) (.no (.no .nil))
  · have := List.mem_of_getElem? hi
    simp at this
  · rw [fLc_ok S hln]
    refine ⟨by rw [List.length_map]; exact Nat.le_trans (great_len _) hln, fun a xs H' ha e1 r1 hl hr => ?_⟩
    obtain rfl := reps_ints hr
    have hp' : H' p = some (.dK []) := e1 p _ nMp upd_same
    have nap : a ≠ p := fun z => by rw [z, upd_same] at ha; cases ha
    have nMa : ¬ S.M a := fun m => by
      obtain ⟨o, e⟩ := (wScr K S).there () _ a hR1 m
      rw [ha] at e
      cases e
    refine ⟨hp', [(.inr "great", .ref a), (.inr "mixed", .int 50021), (.inr "drawn", .int 0)], rfl, by show 3 ≤ 15; decide, (p, a), ?_⟩
    show TSv K (wDr K S p a) cls Wx (F p a) _ _ (upd H' p (.dK (MS.kvs a ⟨great S.ns, 50021, 0⟩)))
    obtain ⟨s', hF'⟩ := hF p a ⟨great S.ns, 50021, 0⟩
    have hDr : DrR K S p a ⟨great S.ns, 50021, 0⟩ (upd H' p (.dK (MS.kvs a ⟨great S.ns, 50021, 0⟩))) := by
      refine ⟨⟨Tabs.upd r1.1 hp' (fun _ z => by cases z) (fun _ z => by cases z), r1.2.upd (fun o' e u x z => ?_) fun z => nMp (.inr z)⟩, upd_same, by rw [upd_ne nap]; exact hl, nMp, nMa⟩
      rw [hp'] at e
      cases e
      cases z
    refine ⟨⟨(wDr K S p a).M, fun b o => ¬ S.M b ∧ H b = some o⟩, [.val (hnd S.scr), .val (hnd p), .no], [none, none, none], ⟨great S.ns, 50021, 0⟩, ⟨?_, fun i j b hi => ?_, fun b o hb => ?_, fun b z => by simp at z, fun b m => (wDr K S p a).there _ _ b hDr m, fun b m => m, fun b o hb m => ?_, hDr⟩, ?_⟩
    · exact .val (Rep.hnd S.scr) (.val (Rep.hnd p) (.no .nil))
    · have := List.mem_of_getElem? hi
      simp at this
    · have nb : b ≠ p := ne_of_none hb.2 hp
      rw [upd_ne nb]
      exact e1 b o hb.1 (by rw [upd_ne nb]; exact hb.2)
    · rcases m with m | rfl | rfl
      · exact hb.1 m
      · have z : H b = some o := hb.2
        rw [hp] at z
        cases z
      · have z : H b = some o := hb.2
        rw [upd_ne nap, z] at ha
        cases ha
    · rw [hF']
      intro v H2 k r rv
      obtain rfl := rep_hnd rv
      exact hq p a s' H2 (fun b o m e => k b o ⟨m, e⟩) r
end Rf
end

section
set_option Elab.async false
set_option linter.all false
set_option maxRecDepth 100000
set_option maxHeartbeats 4000000
/-! RfHead: the head's facts, with exception classes of the program whose __init__ says super().__init__ (own work). -/
namespace He
open PySem PySem.Spec PyProof.Rows L2
abbrev InW : Type := Option (Str × Str × Arguments × FuncBody × Scope × Addr × Addr)
def initA (K : PySem.W.Frag) (x : Str) : Addr := ma K (ga K x) "__init__"
def initW (K : PySem.W.Frag) (x : Str) : InW := match K.lookup (initA K x) with
  | some ⟨_, _, .func fd, _⟩ => some (fd.name, fd.qualname, fd.params, fd.body, fd.scope, fd.globals, fd.builtins)
  | _ => none
def clsB (K : PySem.W.Frag) (C : Addr) : Bool := match K.lookup C with
  | some ⟨.type t, _, .cls cd, sl⟩ => decide (t = "type") && (match cd.mro, sl.toList with
    | .ref C' :: bm, [_, _, _, _, some (.builtin n), _] => decide (C' = C) && (decide (n = "ValueError.__new__") && ((!cd.hasDel && cd.hasDict) && (PySem.HandSPX.refsVE bm && eqO (PySem.W.alongIn K "__init__" bm) (some (some (.builtin "ValueError.__init__"))))))
    | _, _ => false)
  | _ => false
def fnB (prog : Program) (K : PySem.W.Frag) (C fI : Addr) : Bool := match K.lookup fI with
  | some ⟨_, _, .func fd, _⟩ => (match fd.closure, fd.code with
    | [(y, cc)], .ref cda => decide (y = ("__class__" : Str)) && (decide (fd.defaults = .none) && (decide (fd.kwdefaults = .none) && (PySem.W.codeIn K fd.code fd.qualname && ((match K.lookup cc with
      | some ⟨_, _, .cell (some v), _⟩ => decide (v = .ref C)
      | _ => false) && (match K.lookup cda with
      | some ⟨_, _, .fields vs, _⟩ => (match (vs[2]? : Option Value) with
        | some (.str file _) => ((prog.main.file : Str) == file)
        | _ => false)
      | _ => false)))))
    | _, _ => false)
  | _ => false
def wordL (K : PySem.W.Frag) (C fI : Addr) : List Bool := [
  eqO (PySem.W.findIn K (.ref C) "__setattr__") (some (some (.builtin "object.__setattr__"))),
  eqO (PySem.W.findIn K (.ref C) "__getattribute__") (some (some (.builtin "BaseException.__getattribute__"))),
  eqO (PySem.W.findIn K (.ref C) "__getattr__") (some none),
  eqO (PySem.W.findIn K (.ref C) "place") (some none),
  eqO (PySem.W.findIn K (.ref C) "__init__") (some (some (.ref fI))),
  decide (PySem.W.typeIn K (.ref fI) = some (.type "function")),
  PySem.W.keepIn K (.ref C),
  decide (PySem.W.subIn K (.ref C) (.type "BaseException") = some true),
  decide (PySem.W.subIn K (.ref C) (.type "ValueError") = some true),
  decide (PySem.W.mroIn K C (.ref C) = some true),
  decide (PySem.W.typeIn K (.ref C) = some (.type "type")),
  PySem.W.hasDictIn K C,
  decide (PySem.W.exmOne K (.ref C) (.ref C) = some true),
  eqO (PySem.W.nsIn K cStatics "thirdparty.any") (some none)]
def wordB (prog : Program) (K : PySem.W.Frag) (x : Str) : Bool := clsB K (ga K x) && (fnB prog K (ga K x) (initA K x) && (wordL K (ga K x) (initA K x)).all id)
theorem clsB_ok {K : PySem.W.Frag} {C : Addr} (h : clsB K C = true) : ∃ nm q N bs bm sn sub ab col dd k0 k1 k2 k3 k5, K.lookup C = some (excClassObj nm q C N bs bm true sn sub ab col dd k0 k1 k2 k3 k5 "ValueError.__new__") ∧ PySem.HandSPX.refsVE bm = true ∧ PySem.W.alongIn K "__init__" bm = some (some (.builtin "ValueError.__init__")) := by
  unfold clsB at h
  split at h
  · rename_i t dd cd sl ho
    obtain ⟨h1, h⟩ := ba h
    split at h
    · rename_i C' bm k0 k1 k2 k3 n k5 hm hs
      obtain ⟨h2, h⟩ := ba h
      obtain ⟨h3, h⟩ := ba h
      obtain ⟨h4, h⟩ := ba h
      obtain ⟨h5, h6⟩ := ba h
      obtain ⟨h7, h8⟩ := ba h4
      have e1 : t = "type" := of_decide_eq_true h1
      have e2 : C' = C := of_decide_eq_true h2
      have e3 : n = "ValueError.__new__" := of_decide_eq_true h3
      subst e1 e2 e3
      obtain ⟨nm, bs, mro, ns, qn, hd, sn, sub, ab, col, del⟩ := cd
      dsimp only at hm h7 h8
      have e4 : del = false := by simpa using h7
      subst hm e4 h8
      have hsl : sl = #[k0, k1, k2, k3, some (.builtin "ValueError.__new__"), k5] := by
        obtain ⟨l⟩ := sl
        simp only at hs
        rw [hs]
      subst hsl
      exact ⟨nm, qn, ns, bs, bm, sn, sub, ab, col, dd, k0, k1, k2, k3, k5, ho, h5, eqO_ok h6⟩
    · cases h
  · cases h
/-- the text of such an __init__ -/
def initVal (cn : Str) (p1 p2 : Pos) (tx : Str) (j : Nat) (q0 q1 q2 q3 q4 q5 q6 q7 q8 q9 q10 : Pos) : InW :=
  some ("__init__", cn ++ ".__init__", PySem.WordX.iA p1 p2, .stmts (PySem.WordX.iB tx j q0 q1 q2 q3 q4 q5 q6 q7 q8 q9 q10), PySem.WordX.iS, mainGlobals, builtinsNs)
theorem word_ok {prog : Program} {K : PySem.W.Frag} {h : Heap} {mg : Str → Option Value} {x cn : Str} {p1 p2 q0 q1 q2 q3 q4 q5 q6 q7 q8 q9 q10 : Pos} {tx : Str} {j : Nat} (b : wordB prog K x = true) (e : initW K x = initVal cn p1 p2 tx j q0 q1 q2 q3 q4 q5 q6 q7 q8 q9 q10)
    (gC : mg x = some (.ref (ga K x))) (su : mg "super" = none) (top : (prog.main.scope.names.lookup ("super" : Str)).isSome = false)
    (hev : ∀ env : Env, ∃ pl : Sem Bool, eval (.Call (.Attribute (.Call (.Name "super" q0) [] [] q1) "__init__" q2) [.Constant (.str tx) j q3, .Name "place" q4] [] q5) env = (do
        let ov ← attributeBase (.Call (.Name "super" q0) [] [] q1) "__init__" env (eval (.Call (.Name "super" q0) [] [] q1) env)
        standAt q2.atName
        let (f, first) ← holding [ov] (getMethod ov "__init__" pl)
        callWith q5 f first (backTo q5 (starEach [.Constant (.str tx) j q3, .Name "place" q4] env)) [])) : PySem.WordX.WordTxt prog K mg x (ga K x) (initA K x) := by
  obtain ⟨b1, b⟩ := ba b
  obtain ⟨b2, b3⟩ := ba b
  have l : ∀ (i : Nat) {c : Bool}, (wordL K (ga K x) (initA K x))[i]? = some c → c = true := fun i c hi => List.all_eq_true.mp b3 c (List.mem_of_getElem? hi)
  refine ⟨gC, su, clsB_ok b1, eqO_ok (l 0 rfl), eqO_ok (l 1 rfl), eqO_ok (l 2 rfl), eqO_ok (l 3 rfl), eqO_ok (l 4 rfl), of_decide_eq_true (l 5 rfl), l 6 rfl, of_decide_eq_true (l 7 rfl), of_decide_eq_true (l 8 rfl), of_decide_eq_true (l 9 rfl), of_decide_eq_true (l 10 rfl), l 11 rfl, of_decide_eq_true (l 12 rfl), eqO_ok (l 13 rfl), ?_, top⟩
  unfold initW at e
  unfold fnB at b2
  cases q : K.lookup (initA K x) with
  | none => rw [q] at e; cases e
  | some o =>
    obtain ⟨oc, od, dt, osl⟩ := o
    rw [q] at e b2
    cases dt with
    | func fd =>
      obtain ⟨n1, n2, n3, n4, n5, n6, n7, n8, n9, n10, n11, n12, n13, n14, n15⟩ := fd
      unfold initVal at e
      have e2 : (some (n1, n2, n3, n4, n5, n6, n15) : InW) = some (("__init__" : Str), cn ++ ".__init__", PySem.WordX.iA p1 p2, FuncBody.stmts (PySem.WordX.iB tx j q0 q1 q2 q3 q4 q5 q6 q7 q8 q9 q10), PySem.WordX.iS, mainGlobals, builtinsNs) := e
      simp only [Option.some.injEq, Prod.mk.injEq] at e2
      obtain ⟨h1, h2, h3, h4, h5, h6, h8⟩ := e2
      subst h1 h3 h4 h5 h6 h8
      dsimp only at b2
      split at b2
      · rename_i y cc cda
        obtain ⟨c1, b2⟩ := ba b2
        obtain ⟨c2, b2⟩ := ba b2
        obtain ⟨c3, b2⟩ := ba b2
        obtain ⟨c4, b2⟩ := ba b2
        obtain ⟨c5, c6⟩ := ba b2
        have z1 : y = ("__class__" : Str) := of_decide_eq_true c1
        have z2 : n8 = .none := of_decide_eq_true c2
        have z3 : n9 = .none := of_decide_eq_true c3
        subst z1 z2 z3
        split at c5
        · rename_i cl cld v csl hcc
          have z4 : v = .ref (ga K x) := of_decide_eq_true c5
          subst z4
          split at c6
          · rename_i ccl cdd vs ccs hcda
            split at c6
            · rename_i file tf hvs
              exact ⟨oc, od, _, _, _, cda, cc, _, osl, p1, p2, q0, q1, q2, q3, q4, q5, q6, q7, q8, q9, q10, tx, n2, j, ccl, cl, cdd, cld, ccs, csl, vs, file, tf, rfl, c4, hcc, hcda, hvs, c6, hev⟩
            · cases c6
          · cases c6
        · cases c5
      · cases b2
    | _ => cases e
/-! ### the Hook -/
abbrev AlY : Type := AlX × List InW
def asY (g : Addr → Option Obj) (n : Nat) : List Addr := asD g n ++ [cStatics]
def obsZ (fa : List Fa) (fn : List DefD) (ts : List Tab) (tf : List Defn) (ex : PySem.W.Frag → Bool) (g : Addr → Option Obj) (as : List Addr) : AlX := (obsT fa fn ts (frT g as), ex (frT g as) && tabsB g tf (frT g as))
theorem saysZ_of {as : List Addr} {fa : List Fa} {fn : List DefD} {ts : List Tab} {tf : List Defn} {ex : PySem.W.Frag → Bool} {w : World} {h : Heap} (e : obsZ fa fn ts tf ex h.get? as = valX fn ts w) : SaysX fa fn ts tf ex w h (frT h.get? as) := by
  have e1 : obsT fa fn ts (frT h.get? as) = valT fn ts w := congrArg (fun z : AlX => z.1) e
  have e2 : (ex (frT h.get? as) && tabsB h.get? tf (frT h.get? as)) = true := congrArg (fun z : AlX => z.2) e
  obtain ⟨h1, h2⟩ := ba e2
  have key : ∀ p ∈ tf, PySem.W.codeHdIn (frT h.get? as) (cT (frT h.get? as) p).1 (cT (frT h.get? as) p).2 = true ∧ ∃ o, h.get? (cT (frT h.get? as) p).2 = some o ∧ emptyTab o = true := fun p hp => by
    obtain ⟨h3, h4⟩ := ba (List.all_eq_true.mp h2 p hp)
    refine ⟨h3, ?_⟩
    cases q : h.get? (cT (frT h.get? as) p).2 with
    | none =>
      rw [q] at h4
      cases h4
    | some o =>
      rw [q] at h4
      exact ⟨o, rfl, h4⟩
  exact ⟨e1, h1, fun p hp => (key p hp).1, fun p hp => by
    obtain ⟨_, o, q, z⟩ := key p hp
    exact frT_none q z, fun p hp => by
    obtain ⟨_, o, q, z⟩ := key p hp
    rw [q, emptyTab_eq z]⟩
def obsY (n : Nat) (fa : List Fa) (fn : List DefD) (ts : List Tab) (tf : List Defn) (ex : PySem.W.Frag → Bool) (xs : List Str) (g : Addr → Option Obj) : AlY := (obsZ fa fn ts tf ex g (asY g n), xs.map (initW (frT g (asY g n))))
def hookY (n : Nat) (fa : List Fa) (fn : List DefD) (ts : List Tab) (tf : List Defn) (ex : PySem.W.Frag → Bool) (xs : List Str) (vs : List InW) : PySem.W.Hook where
  α := AlY
  obs := fun s => obsY n fa fn ts tf ex xs s.heap.get?
  val := fun w => (valX fn ts w, vs)
  says := fun w h => ∃ K : PySem.W.Frag, K.In h ∧ SaysX fa fn ts tf ex w h K ∧ xs.map (initW K) = vs
  of := fun _ _ e => ⟨_, frT_in, saysZ_of (congrArg (fun z : AlY => z.1) e), congrArg (fun z : AlY => z.2) e⟩
  keeps := fun _ _ _ ⟨K, hK, c, d⟩ k => ⟨K, PySem.W.Frag.In.keeps hK k, ⟨c.t, c.more, c.hd, c.out, fun p hp => k _ _ (c.empty p hp)⟩, d⟩
theorem obsY_eq {n : Nat} {fa : List Fa} {fn : List DefD} {ts : List Tab} {tf : List Defn} {ex : PySem.W.Frag → Bool} {xs : List Str} {vs : List InW} {g : Addr → Option Obj} {s : Shared} (h : ∀ a, g a = s.heap.get? a) : obsY n fa fn ts tf ex xs g = (hookY n fa fn ts tf ex xs vs).obs s := by
  have e : g = s.heap.get? := funext h
  rw [e] <;> rfl
end He
end

section
set_option Elab.async false
set_option linter.all false
set_option maxRecDepth 100000
set_option maxHeartbeats 0
namespace Hd54
open PySem PySem.Spec PyProof.Rows L2
def top (i : Nat) : Stmt := PySem.Challenge.pw_tornwebs_k54_whole_named_words.main.body.getD i (.Pass ⟨0, 0, 0, 0⟩)
abbrev s_corners_by_parts : Stmt := top 61
def d_corners_by_parts : He.DefD := ⟨("corners_by_parts", none), "corners_by_parts", "corners_by_parts", defArgs s_corners_by_parts, defBody s_corners_by_parts, defScope s_corners_by_parts, [], []⟩
abbrev s_is_number : Stmt := top 10
def d_is_number : He.DefD := ⟨("is_number", none), "is_number", "is_number", defArgs s_is_number, defBody s_is_number, defScope s_is_number, [], []⟩
abbrev s_is_among : Stmt := top 11
def d_is_among : He.DefD := ⟨("is_among", none), "is_among", "is_among", defArgs s_is_among, defBody s_is_among, defScope s_is_among, [], []⟩
abbrev s_is_tuple_of : Stmt := top 12
def d_is_tuple_of : He.DefD := ⟨("is_tuple_of", none), "is_tuple_of", "is_tuple_of", defArgs s_is_tuple_of, defBody s_is_tuple_of, defScope s_is_tuple_of, [], []⟩
abbrev s_is_inner : Stmt := top 32
def d_is_inner : He.DefD := ⟨("is_inner", none), "is_inner", "is_inner", defArgs s_is_inner, defBody s_is_inner, defScope s_is_inner, [], []⟩
abbrev s_is_leaf : Stmt := top 33
def d_is_leaf : He.DefD := ⟨("is_leaf", none), "is_leaf", "is_leaf", defArgs s_is_leaf, defBody s_is_leaf, defScope s_is_leaf, [], []⟩
abbrev s_names_of : Stmt := top 34
def d_names_of : He.DefD := ⟨("names_of", none), "names_of", "names_of", defArgs s_names_of, defBody s_names_of, defScope s_names_of, [], []⟩
abbrev s_need_named_word : Stmt := top 35
def d_need_named_word : He.DefD := ⟨("need_named_word", none), "need_named_word", "need_named_word", defArgs s_need_named_word, defBody s_need_named_word, defScope s_need_named_word, [], []⟩
abbrev s_how_many_cables : Stmt := top 36
def d_how_many_cables : He.DefD := ⟨("how_many_cables", none), "how_many_cables", "how_many_cables", defArgs s_how_many_cables, defBody s_how_many_cables, defScope s_how_many_cables, [], []⟩
abbrev s_dual_of : Stmt := top 37
def d_dual_of : He.DefD := ⟨("dual_of", none), "dual_of", "dual_of", defArgs s_dual_of, defBody s_dual_of, defScope s_dual_of, [], []⟩
abbrev s_dual_word : Stmt := top 38
def d_dual_word : He.DefD := ⟨("dual_word", none), "dual_word", "dual_word", defArgs s_dual_word, defBody s_dual_word, defScope s_dual_word, [], []⟩
abbrev s_plain_word : Stmt := top 41
def d_plain_word : He.DefD := ⟨("plain_word", none), "plain_word", "plain_word", defArgs s_plain_word, defBody s_plain_word, defScope s_plain_word, [], []⟩
abbrev s_word_corners : Stmt := top 62
def d_word_corners : He.DefD := ⟨("word_corners", none), "word_corners", "word_corners", defArgs s_word_corners, defBody s_word_corners, defScope s_word_corners, [], []⟩
abbrev s_word_values : Stmt := top 63
def d_word_values : He.DefD := ⟨("word_values", none), "word_values", "word_values", defArgs s_word_values, defBody s_word_values, defScope s_word_values, [], []⟩
abbrev s_need_words : Stmt := top 68
def d_need_words : He.DefD := ⟨("need_words", none), "need_words", "need_words", defArgs s_need_words, defBody s_need_words, defScope s_need_words, [], []⟩
abbrev s_word_paper : Stmt := top 73
def d_word_paper : He.DefD := ⟨("word_paper", none), "word_paper", "word_paper", defArgs s_word_paper, defBody s_word_paper, defScope s_word_paper, [], []⟩
abbrev s_check_word_paper : Stmt := top 74
def d_check_word_paper : He.DefD := ⟨("check_word_paper", none), "check_word_paper", "check_word_paper", defArgs s_check_word_paper, defBody s_check_word_paper, defScope s_check_word_paper, [], []⟩
abbrev s_is_word_never_weaker : Stmt := top 75
def d_is_word_never_weaker : He.DefD := ⟨("is_word_never_weaker", none), "is_word_never_weaker", "is_word_never_weaker", defArgs s_is_word_never_weaker, defBody s_is_word_never_weaker, defScope s_is_word_never_weaker, [], []⟩
abbrev s_are_words_one : Stmt := top 76
def d_are_words_one : He.DefD := ⟨("are_words_one", none), "are_words_one", "are_words_one", defArgs s_are_words_one, defBody s_are_words_one, defScope s_are_words_one, [], []⟩
abbrev s__law_begun : Stmt := top 78
def d__law_begun : He.DefD := ⟨("_law_begun", none), "_law_begun", "_law_begun", defArgs s__law_begun, defBody s__law_begun, defScope s__law_begun, [], []⟩
abbrev s__law_next : Stmt := top 79
def d__law_next : He.DefD := ⟨("_law_next", none), "_law_next", "_law_next", defArgs s__law_next, defBody s__law_next, defScope s__law_next, [], []⟩
abbrev s__law_of : Stmt := top 80
def d__law_of : He.DefD := ⟨("_law_of", none), "_law_of", "_law_of", defArgs s__law_of, defBody s__law_of, defScope s__law_of, [], []⟩
abbrev s__law_same : Stmt := top 81
def d__law_same : He.DefD := ⟨("_law_same", none), "_law_same", "_law_same", defArgs s__law_same, defBody s__law_same, defScope s__law_same, [], []⟩
abbrev s__law_word : Stmt := top 82
def d__law_word : He.DefD := ⟨("_law_word", none), "_law_word", "_law_word", defArgs s__law_word, defBody s__law_word, defScope s__law_word, [], []⟩
abbrev s__law_said : Stmt := top 83
def d__law_said : He.DefD := ⟨("_law_said", none), "_law_said", "_law_said", defArgs s__law_said, defBody s__law_said, defScope s__law_said, [], []⟩
abbrev s__law_names : Stmt := top 84
def d__law_names : He.DefD := ⟨("_law_names", none), "_law_names", "_law_names", defArgs s__law_names, defBody s__law_names, defScope s__law_names, [], []⟩
abbrev s__law_dual : Stmt := top 85
def d__law_dual : He.DefD := ⟨("_law_dual", none), "_law_dual", "_law_dual", defArgs s__law_dual, defBody s__law_dual, defScope s__law_dual, [], []⟩
abbrev s__law_ways : Stmt := top 86
def d__law_ways : He.DefD := ⟨("_law_ways", none), "_law_ways", "_law_ways", defArgs s__law_ways, defBody s__law_ways, defScope s__law_ways, [], []⟩
abbrev s__law_set : Stmt := top 87
def d__law_set : He.DefD := ⟨("_law_set", none), "_law_set", "_law_set", defArgs s__law_set, defBody s__law_set, defScope s__law_set, [], []⟩
abbrev s__law_odd : Stmt := top 88
def d__law_odd : He.DefD := ⟨("_law_odd", none), "_law_odd", "_law_odd", defArgs s__law_odd, defBody s__law_odd, defScope s__law_odd, [], []⟩
abbrev s__law_refused_right : Stmt := top 89
def d__law_refused_right : He.DefD := ⟨("_law_refused_right", none), "_law_refused_right", "_law_refused_right", defArgs s__law_refused_right, defBody s__law_refused_right, defScope s__law_refused_right, [], []⟩
abbrev s__law_deep : Stmt := top 90
def d__law_deep : He.DefD := ⟨("_law_deep", none), "_law_deep", "_law_deep", defArgs s__law_deep, defBody s__law_deep, defScope s__law_deep, [], []⟩
abbrev s__law_bounds_right : Stmt := top 91
def d__law_bounds_right : He.DefD := ⟨("_law_bounds_right", none), "_law_bounds_right", "_law_bounds_right", defArgs s__law_bounds_right, defBody s__law_bounds_right, defScope s__law_bounds_right, [], []⟩
abbrev s_law : Stmt := top 92
def d_law : He.DefD := ⟨("law", none), "law", "law", defArgs s_law, defBody s_law, defScope s_law, [], []⟩
def fn : List He.DefD := [d_corners_by_parts, d_is_number, d_is_among, d_is_tuple_of, d_is_inner, d_is_leaf, d_names_of, d_need_named_word, d_how_many_cables, d_dual_of, d_dual_word, d_plain_word, d_word_corners, d_word_values, d_need_words, d_word_paper, d_check_word_paper, d_is_word_never_weaker, d_are_words_one, d__law_begun, d__law_next, d__law_of, d__law_same, d__law_word, d__law_said, d__law_names, d__law_dual, d__law_ways, d__law_set, d__law_odd, d__law_refused_right, d__law_deep, d__law_bounds_right, d_law]
def fa : List He.Fa := [.glo "corners_by_parts", .glo "is_number", .glo "is_among", .glo "is_tuple_of", .glo "is_inner", .glo "is_leaf", .glo "names_of", .glo "need_named_word", .glo "how_many_cables", .glo "dual_of", .glo "dual_word", .glo "plain_word", .glo "word_corners", .glo "word_values", .glo "need_words", .glo "word_paper", .glo "check_word_paper", .glo "is_word_never_weaker", .glo "are_words_one", .glo "_law_begun", .glo "_law_next", .glo "_law_of", .glo "_law_same", .glo "_law_word", .glo "_law_said", .glo "_law_names", .glo "_law_dual", .glo "_law_ways", .glo "_law_set", .glo "_law_odd", .glo "_law_refused_right", .glo "_law_deep", .glo "_law_bounds_right", .glo "law", .glo "BadWord", .glo "WebError", .int "MOST_NAMES" 6, .int "MOST_IN_WORD" 40, .int "MOST_DEEP" 40, .str "ROW" "row", .str "SIDE" "side", .free "abs", .free "bool", .free "int", .free "isinstance", .free "len", .free "list", .free "min", .free "range", .free "str", .free "super", .free "tuple", .free "zip"]
def tf : List He.Defn := [("_law_refused_right", none), ("_law_bounds_right", none)]
def ex : PySem.W.Frag → Bool := fun K => He.wordB PySem.Challenge.pw_tornwebs_k54_whole_named_words K "BadWord" && (decide ((He.cT K ("_law_refused_right", none)).2 ≠ (He.cT K ("_law_bounds_right", none)).2) && (true))
abbrev s_BadWord : Stmt := inClass (top 4) 0
def i_BadWord : He.InW := some (("__init__" : PySem.Str), ("BadWord.__init__" : PySem.Str), defArgs s_BadWord, FuncBody.stmts (defBody s_BadWord), defScope s_BadWord, mainGlobals, builtinsNs)
def xs : List PySem.Str := ["BadWord"]
def iv : List He.InW := [i_BadWord]
def loose0 : List PySem.Str := ["WebError", "BadRift", "BadPrice", "BadWord", "BadList", "BadPaper", "BadNumber", "TooMany", "is_number", "is_among", "is_tuple_of", "MOST_NAMES", "pivot", "entering", "leaving", "weights_or_plane", "less_by", "stands_above", "above_none", "corners_among", "sum_at", "least_at", "are_weights", "do_weights_hold", "MOST_IN_WORD", "MOST_DEEP", "ROW", "SIDE", "is_inner", "is_leaf"]
def loose1 : List PySem.Str := ["names_of", "need_named_word", "how_many_cables", "dual_of", "dual_word", "lot_of", "plain_of", "plain_word", "MOST_TOP", "MOST_BOTTOM", "greatest_factor", "lowest", "need_price", "MOST_TORN", "need_places", "is_part", "need_rift", "rift_by", "MOST_STRENGTH", "MOST_CORNERS", "NOTHING", "need_six_strengths", "few_corners", "vector_sums", "corners_by_parts", "word_corners", "word_values", "ties_of", "is_tie", "need_words"]
def loose2 : List PySem.Str := ["lots_paper", "are_strengths_any", "check_rows", "check_lots_paper", "word_paper", "check_word_paper", "is_word_never_weaker", "are_words_one", "_law_begun", "_law_next", "_law_of", "_law_same", "_law_word", "_law_said", "_law_names", "_law_dual", "_law_ways", "_law_set", "_law_odd", "_law_refused_right", "_law_deep", "_law_bounds_right"]
def loose : List PySem.Str := loose0 ++ loose1 ++ loose2
abbrev R : PySem.W.OpenRow := PySem.W.OpenLaw.row PySem.Challenge.rw_tornwebs_k54_whole_named_words
abbrev hk : PySem.W.Hook := He.hookY 5 fa fn [] tf ex xs iv
def ob (s : PySem.W.SharedT) : He.AlY := He.obsY 5 fa fn [] tf ex xs (HandSHeadRun.getT s)
theorem ob_eq (s : PySem.W.SharedT) : ob s = hk.obs s.abs := He.obsY_eq (HandSHeadRun.getT_eq s)
theorem run (w : World) : HandSHeadRun.RunEq R (PySem.W.view R.prog [92]) hk ob 4200 loose w := by
  intro os
  kernel_rfl
end Hd54
end

section
set_option Elab.async false
set_option linter.all false
set_option maxRecDepth 100000
set_option maxHeartbeats 4000000
namespace K54
open PySem PySem.Spec PyProof.Rows L2 Rf Hd54
def F_is_number {S : Type}  : Fs S := (sRet (vIte (bVal (v1 (dIsi Ty.int) (vVar 0))) (vB (bNot (bVal (v1 (dIsi Ty.bool) (vVar 0))))) (vCst (.bool false))))
theorem sc_is_number : FnScope ["thing"] ["thing"] (defScope s_is_number) := ⟨rfl, rfl, rfl, by decide +kernel, rfl, by decide +kernel, by decide +kernel⟩
theorem b_is_number {P : Program} {w : World} {K : PySem.W.Frag} {mg : Str → Option Value} {base : Heap} {qual : Str} {f : Addr} {cdv : Value} {A : Around} {outer : List Env} {s : Shared} {H : Hp} {E : XK} {W : Wd K} {cls : Xc} {k : Nat} (hr : Room k (A.deeper (envOfC qual (defScope s_is_number) s.heap.objs.size f cdv)))
    (g_isinstance : mg "isinstance" = none)
    (g_int : mg "int" = none)
    (g_bool : mg "bool" = none) :
    PSs (cxOf (L2.CX P w) P w K mg base ["thing"] qual (defScope s_is_number) f cdv A outer s H E) (defBody s_is_number) (TSv K W cls (fun c d _ H' => E c d H') (F_is_number )) := (rs_one (rs_ret (rv_and (rv_isi (T := Ty.int) rfl rfl g_isinstance rfl g_int (by decide +kernel) (rv_var 0)) (rv_one (rv_not (rv_isi (T := Ty.bool) rfl rfl g_isinstance rfl g_bool (by decide +kernel) (rv_var 0)))))))

def F_is_among {S : Type} (φ_is_number : List D → S → Rs S D) : Fs S := (sRet (vIte (bVal (vCall φ_is_number (aCons (vVar 0) aNil))) (vChain dLe dLe (vVar 1) (vVar 0) (vVar 2)) (vCst (.bool false))))
theorem sc_is_among : FnScope ["thing", "least", "most"] ["thing", "least", "most"] (defScope s_is_among) := ⟨rfl, rfl, rfl, by decide +kernel, rfl, by decide +kernel, by decide +kernel⟩
theorem b_is_among {P : Program} {w : World} {K : PySem.W.Frag} {mg : Str → Option Value} {base : Heap} {qual : Str} {f : Addr} {cdv : Value} {A : Around} {outer : List Env} {s : Shared} {H : Hp} {E : XK} {W : Wd K} {cls : Xc} {k : Nat} (hr : Room k (A.deeper (envOfC qual (defScope s_is_among) s.heap.objs.size f cdv)))
    {φ_is_number : List D → W.S → Rs W.S D} (h_is_number : Df P w K mg base W cls k "is_number" ["thing"] φ_is_number) :
    PSs (cxOf (L2.CX P w) P w K mg base ["thing", "least", "most"] qual (defScope s_is_among) f cdv A outer s H E) (defBody s_is_among) (TSv K W cls (fun c d _ H' => E c d H') (F_is_among φ_is_number)) := (rs_one (rs_ret (rv_and (rv_callD h_is_number hr (Nat.le_refl _) takes_def rfl (ra_cons (rv_var 0) ra_nil)) (rv_one (rv_chain op_le o2_cmp op_le o2_cmp (rv_var 1) (rv_var 0) (rv_var 2))))))

def F_is_tuple_of {S : Type}  : Fs S := (sRet (vIte (bVal (v1 (dIsi Ty.tuple) (vVar 0))) (vChain dLe dLe (vVar 1) (vA dLen (aCons (vVar 0) aNil)) (vVar 2)) (vCst (.bool false))))
theorem sc_is_tuple_of : FnScope ["thing", "least", "most"] ["thing", "least", "most"] (defScope s_is_tuple_of) := ⟨rfl, rfl, rfl, by decide +kernel, rfl, by decide +kernel, by decide +kernel⟩
theorem b_is_tuple_of {P : Program} {w : World} {K : PySem.W.Frag} {mg : Str → Option Value} {base : Heap} {qual : Str} {f : Addr} {cdv : Value} {A : Around} {outer : List Env} {s : Shared} {H : Hp} {E : XK} {W : Wd K} {cls : Xc} {k : Nat} (hr : Room k (A.deeper (envOfC qual (defScope s_is_tuple_of) s.heap.objs.size f cdv)))
    (g_isinstance : mg "isinstance" = none)
    (g_tuple : mg "tuple" = none)
    (g_len : mg "len" = none) :
    PSs (cxOf (L2.CX P w) P w K mg base ["thing", "least", "most"] qual (defScope s_is_tuple_of) f cdv A outer s H E) (defBody s_is_tuple_of) (TSv K W cls (fun c d _ H' => E c d H') (F_is_tuple_of )) := (rs_one (rs_ret (rv_and (rv_isi (T := Ty.tuple) rfl rfl g_isinstance rfl g_tuple (by decide +kernel) (rv_var 0)) (rv_one (rv_chain op_le o2_cmp op_le o2_cmp (rv_var 1) (rv_blt call_len_seq oA_len rfl g_len PySem.boot_len (ra_cons (rv_var 0) ra_nil)) (rv_var 2))))))

def F_is_inner {S : Type} (φ_is_tuple_of : List D → S → Rs S D) : Fs S := (sRet (vIte (bVal (vCall φ_is_tuple_of (aCons (vVar 0) (aCons (vCst (.int 3)) (aCons (vCst (.int 3)) aNil))))) (vIte (bVal (v1 (dIsi Ty.str) (v2 dItem (vVar 0) (vCst (.int 0))))) (v2 (dIn false) (v2 dItem (vVar 0) (vCst (.int 0))) (vA dTup (aCons (vCst (.str "row")) (aCons (vCst (.str "side")) aNil)))) (vCst (.bool false))) (vCst (.bool false))))
theorem sc_is_inner : FnScope ["thing"] ["thing"] (defScope s_is_inner) := ⟨rfl, rfl, rfl, by decide +kernel, rfl, by decide +kernel, by decide +kernel⟩
theorem b_is_inner {P : Program} {w : World} {K : PySem.W.Frag} {mg : Str → Option Value} {base : Heap} {qual : Str} {f : Addr} {cdv : Value} {A : Around} {outer : List Env} {s : Shared} {H : Hp} {E : XK} {W : Wd K} {cls : Xc} {k : Nat} (hr : Room k (A.deeper (envOfC qual (defScope s_is_inner) s.heap.objs.size f cdv)))
    (g_isinstance : mg "isinstance" = none)
    (g_str : mg "str" = none)
    {t_SIDE : Tok} (g_SIDE : mg "SIDE" = some (.str "side" t_SIDE))
    {t_ROW : Tok} (g_ROW : mg "ROW" = some (.str "row" t_ROW))
    {φ_is_tuple_of : List D → W.S → Rs W.S D} (h_is_tuple_of : Df P w K mg base W cls k "is_tuple_of" ["thing", "least", "most"] φ_is_tuple_of) :
    PSs (cxOf (L2.CX P w) P w K mg base ["thing"] qual (defScope s_is_inner) f cdv A outer s H E) (defBody s_is_inner) (TSv K W cls (fun c d _ H' => E c d H') (F_is_inner φ_is_tuple_of)) := (rs_one (rs_ret (rv_and (rv_callD h_is_tuple_of hr (Nat.le_refl _) takes_def rfl (ra_cons (rv_var 0) (ra_cons rv_int (ra_cons rv_int ra_nil)))) (rv_and (rv_isi (T := Ty.str) rfl rfl g_isinstance rfl g_str (by decide +kernel) (rv_item (rv_var 0) rv_int)) (rv_one (rv_in (rv_item (rv_var 0) rv_int) (rv_tup (ra_cons (rv_gstr rfl g_ROW) (ra_cons (rv_gstr rfl g_SIDE) ra_nil)))))))))

def F_is_leaf {S : Type} (φ_is_tuple_of : List D → S → Rs S D) (φ_is_among : List D → S → Rs S D) : Fs S := (sSeq (sIf (bOr (bNot (bVal (vCall φ_is_tuple_of (aCons (vVar 0) (aCons (vCst (.int 2)) (aCons (vCst (.int 2)) aNil)))))) (bNot (bVal (v1 (dIsi Ty.str) (v2 dItem (vVar 0) (vCst (.int 0))))))) (sRet (vCst (.bool false))) sNil)
  (sRet (vIte (bVal (v2 dEq (v2 dItem (vVar 0) (vCst (.int 0))) (vCst (.str "cable")))) (vCall φ_is_among (aCons (v2 dItem (vVar 0) (vCst (.int 1))) (aCons (vCst (.int 0)) (aCons (v2 dSub (vCst (.int 6)) (vCst (.int 1))) aNil)))) (vCst (.bool false)))))
theorem sc_is_leaf : FnScope ["thing"] ["thing"] (defScope s_is_leaf) := ⟨rfl, rfl, rfl, by decide +kernel, rfl, by decide +kernel, by decide +kernel⟩
theorem b_is_leaf {P : Program} {w : World} {K : PySem.W.Frag} {mg : Str → Option Value} {base : Heap} {qual : Str} {f : Addr} {cdv : Value} {A : Around} {outer : List Env} {s : Shared} {H : Hp} {E : XK} {W : Wd K} {cls : Xc} {k : Nat} (hr : Room k (A.deeper (envOfC qual (defScope s_is_leaf) s.heap.objs.size f cdv)))
    (g_isinstance : mg "isinstance" = none)
    (g_str : mg "str" = none)
    {t_MOST_NAMES : Tok} (g_MOST_NAMES : mg "MOST_NAMES" = some (.int 6 t_MOST_NAMES))
    {φ_is_tuple_of : List D → W.S → Rs W.S D} (h_is_tuple_of : Df P w K mg base W cls k "is_tuple_of" ["thing", "least", "most"] φ_is_tuple_of)
    {φ_is_among : List D → W.S → Rs W.S D} (h_is_among : Df P w K mg base W cls k "is_among" ["thing", "least", "most"] φ_is_among) :
    PSs (cxOf (L2.CX P w) P w K mg base ["thing"] qual (defScope s_is_leaf) f cdv A outer s H E) (defBody s_is_leaf) (TSv K W cls (fun c d _ H' => E c d H') (F_is_leaf φ_is_tuple_of φ_is_among)) := (rs_cons (rs_if (rb_w (rw_or (rb_not (rb_val (rv_callD h_is_tuple_of hr (Nat.le_refl _) takes_def rfl (ra_cons (rv_var 0) (ra_cons rv_int (ra_cons rv_int ra_nil)))))) (rw_or1 (rb_not (rb_val (rv_isi (T := Ty.str) rfl rfl g_isinstance rfl g_str (by decide +kernel) (rv_item (rv_var 0) rv_int))))))) (rs_one (rs_ret rv_bool)) rs_nil)
  (rs_one (rs_ret (rv_and (rv_eq hr (rv_item (rv_var 0) rv_int) rv_str) (rv_one (rv_callD h_is_among hr (Nat.le_refl _) takes_def rfl (ra_cons (rv_item (rv_var 0) rv_int) (ra_cons rv_int (ra_cons (rv_sub (rv_gint rfl g_MOST_NAMES) rv_int) ra_nil)))))))))

def F_names_of {S : Type} (φ_is_inner : List D → S → Rs S D) (φ_is_leaf : List D → S → Rs S D) (fuel : Nat) : Fs S := (sSeq (sPar 1 2 (cNew aNil) (cNew (aCons (vA dTup (aCons (vA dTup aNil) (aCons (vVar 0) aNil))) aNil)))
  (sSeq (sWhile fuel (bEmp true 2) (sSeq (sPop 2 (gTp [(gNm 3), (gNm 4)]))
  (sSeq (sIf (bOr (bVal (v2 dGt (vA dLen (aCons (vVar 3) aNil)) (vCst (.int 40)))) (bAnd (bNot (bVal (vCall φ_is_inner (aCons (vVar 4) aNil)))) (bNot (bVal (vCall φ_is_leaf (aCons (vVar 4) aNil)))))) (sRaise "BadWord" (vVar 3)) sNil)
  (sIf (bVal (vCall φ_is_inner (aCons (vVar 4) aNil))) (sSeq (sApp 2 (vA dTup (aCons (v2 dAdd (vVar 3) (vA dTup (aCons (vCst (.int 2)) aNil))) (aCons (v2 dItem (vVar 4) (vCst (.int 2))) aNil))))
  (sApp 2 (vA dTup (aCons (v2 dAdd (vVar 3) (vA dTup (aCons (vCst (.int 1)) aNil))) (aCons (v2 dItem (vVar 4) (vCst (.int 1))) aNil))))) (sSeq (sApp 1 (v2 dItem (vVar 4) (vCst (.int 1))))
  (sIf (bVal (v2 dGt (vLenO 1) (vCst (.int 40)))) (sRaise "BadWord" (vCst (.str "many"))) sNil))))))
  (sSeq (sFrz 1) (sRet (vVar 1)))))
theorem sc_names_of : FnScope ["word", "found", "waiting", "way", "part"] ["word"] (defScope s_names_of) := ⟨rfl, rfl, rfl, by decide +kernel, rfl, by decide +kernel, by decide +kernel⟩
theorem b_names_of {P : Program} {w : World} {K : PySem.W.Frag} {mg : Str → Option Value} {base : Heap} {qual : Str} {f : Addr} {cdv : Value} {A : Around} {outer : List Env} {s : Shared} {H : Hp} {E : XK} {W : Wd K} {cls : Xc} {k : Nat} {fuel : Nat} (hr : Room k (A.deeper (envOfC qual (defScope s_names_of) s.heap.objs.size f cdv)))
    (g_len : mg "len" = none)
    {t_MOST_DEEP : Tok} (g_MOST_DEEP : mg "MOST_DEEP" = some (.int 40 t_MOST_DEEP))
    {t_MOST_IN_WORD : Tok} (g_MOST_IN_WORD : mg "MOST_IN_WORD" = some (.int 40 t_MOST_IN_WORD))
    {φ_is_inner : List D → W.S → Rs W.S D} (h_is_inner : Df P w K mg base W cls k "is_inner" ["thing"] φ_is_inner)
    {φ_is_leaf : List D → W.S → Rs W.S D} (h_is_leaf : Df P w K mg base W cls k "is_leaf" ["thing"] φ_is_leaf)
    {C_BadWord I_BadWord : Addr} (T_BadWord : PySem.WordX.WordTxt P K mg "BadWord" C_BadWord I_BadWord) (c_BadWord : cls "BadWord" = some (C_BadWord, ("place" : Str))) :
    PSs (cxOf (L2.CX P w) P w K mg base ["word", "found", "waiting", "way", "part"] qual (defScope s_names_of) f cdv A outer s H E) (defBody s_names_of) (TSv K W cls (fun c d _ H' => E c d H') (F_names_of φ_is_inner φ_is_leaf fuel)) := (rs_cons (rs_par (i := 1) (j := 2) rfl sc_names_of.nd rfl rfl (by decide) rfl rfl (rc_new (ro_lst ra_nil)) (rc_new (ro_lst (ra_cons (rv_tup (ra_cons (rv_tup ra_nil) (ra_cons (rv_var 0) ra_nil))) ra_nil))))
  (rs_cons (rs_while (passes_of rfl) (rb_empNe hr (i := 2) rfl (by first | exact Or.inl rfl | exact Or.inr (Or.inl rfl) | exact Or.inr (Or.inr rfl))) (rs_cons (rs_pop (i := 2) rfl (by first | exact Or.inl rfl | exact Or.inr (Or.inl rfl) | exact Or.inr (Or.inr rfl)) (rg_tup rfl (rgs_cons (rg_name (i := 3) sc_names_of.nd rfl (by first | exact Or.inl rfl | exact Or.inr rfl)) (rgs_cons (rg_name (i := 4) sc_names_of.nd rfl (by first | exact Or.inl rfl | exact Or.inr rfl)) rgs_nil))))
  (rs_cons (rs_if (rb_w (rw_or (rb_gt (rv_blt call_len_seq oA_len rfl g_len PySem.boot_len (ra_cons (rv_var 3) ra_nil)) (rv_gint rfl g_MOST_DEEP)) (rw_or1 (rb_w (rw_and (rb_not (rb_val (rv_callD h_is_inner hr (Nat.le_refl _) takes_def rfl (ra_cons (rv_var 4) ra_nil)))) (rw_and1 (rb_not (rb_val (rv_callD h_is_leaf hr (Nat.le_refl _) takes_def rfl (ra_cons (rv_var 4) ra_nil)))))))))) (rs_one (rs_raiseW T_BadWord c_BadWord hr takes_def rfl rfl (rv_var 3))) rs_nil)
  (rs_one (rs_if (rb_val (rv_callD h_is_inner hr (Nat.le_refl _) takes_def rfl (ra_cons (rv_var 4) ra_nil))) (rs_cons (rs_app (i := 2) rfl (by first | exact Or.inl rfl | exact Or.inr (Or.inl rfl) | exact Or.inr (Or.inr rfl)) (rv_tup (ra_cons (rv_add (rv_var 3) (rv_tup (ra_cons rv_int ra_nil))) (ra_cons (rv_item (rv_var 4) rv_int) ra_nil))))
  (rs_one (rs_app (i := 2) rfl (by first | exact Or.inl rfl | exact Or.inr (Or.inl rfl) | exact Or.inr (Or.inr rfl)) (rv_tup (ra_cons (rv_add (rv_var 3) (rv_tup (ra_cons rv_int ra_nil))) (ra_cons (rv_item (rv_var 4) rv_int) ra_nil)))))) (rs_cons (rs_app (i := 1) rfl (by first | exact Or.inl rfl | exact Or.inr (Or.inl rfl) | exact Or.inr (Or.inr rfl)) (rv_item (rv_var 4) rv_int))
  (rs_one (rs_if (rb_gt (rv_lenO (i := 1) rfl (by first | exact Or.inl rfl | exact Or.inr (Or.inl rfl) | exact Or.inr (Or.inr rfl)) rfl g_len) (rv_gint rfl g_MOST_IN_WORD)) (rs_one (rs_raiseW T_BadWord c_BadWord hr takes_def rfl rfl rv_str)) rs_nil))))))))
  (rs_frz (i := 1) (rs_one (rs_ret (rv_var 1))))))

def F_need_named_word {S : Type} (φ_names_of : List D → S → Rs S D) : Fs S := (sSeq (sDrop (vCall φ_names_of (aCons (vVar 0) aNil)))
  (sRet (vVar 0)))
theorem sc_need_named_word : FnScope ["word"] ["word"] (defScope s_need_named_word) := ⟨rfl, rfl, rfl, by decide +kernel, rfl, by decide +kernel, by decide +kernel⟩
theorem b_need_named_word {P : Program} {w : World} {K : PySem.W.Frag} {mg : Str → Option Value} {base : Heap} {qual : Str} {f : Addr} {cdv : Value} {A : Around} {outer : List Env} {s : Shared} {H : Hp} {E : XK} {W : Wd K} {cls : Xc} {k : Nat} (hr : Room k (A.deeper (envOfC qual (defScope s_need_named_word) s.heap.objs.size f cdv)))
    {φ_names_of : List D → W.S → Rs W.S D} (h_names_of : Df P w K mg base W cls k "names_of" ["word"] φ_names_of) :
    PSs (cxOf (L2.CX P w) P w K mg base ["word"] qual (defScope s_need_named_word) f cdv A outer s H E) (defBody s_need_named_word) (TSv K W cls (fun c d _ H' => E c d H') (F_need_named_word φ_names_of)) := (rs_cons (rs_drop (rv_callD h_names_of hr (Nat.le_refl _) takes_def rfl (ra_cons (rv_var 0) ra_nil)))
  (rs_one (rs_ret (rv_var 0))))

def F_how_many_cables {S : Type} (φ_names_of : List D → S → Rs S D) : Fs S := (sRet (vA dLen (aCons (vCall φ_names_of (aCons (vVar 0) aNil)) aNil)))
theorem sc_how_many_cables : FnScope ["word"] ["word"] (defScope s_how_many_cables) := ⟨rfl, rfl, rfl, by decide +kernel, rfl, by decide +kernel, by decide +kernel⟩
theorem b_how_many_cables {P : Program} {w : World} {K : PySem.W.Frag} {mg : Str → Option Value} {base : Heap} {qual : Str} {f : Addr} {cdv : Value} {A : Around} {outer : List Env} {s : Shared} {H : Hp} {E : XK} {W : Wd K} {cls : Xc} {k : Nat} (hr : Room k (A.deeper (envOfC qual (defScope s_how_many_cables) s.heap.objs.size f cdv)))
    (g_len : mg "len" = none)
    {φ_names_of : List D → W.S → Rs W.S D} (h_names_of : Df P w K mg base W cls k "names_of" ["word"] φ_names_of) :
    PSs (cxOf (L2.CX P w) P w K mg base ["word"] qual (defScope s_how_many_cables) f cdv A outer s H E) (defBody s_how_many_cables) (TSv K W cls (fun c d _ H' => E c d H') (F_how_many_cables φ_names_of)) := (rs_one (rs_ret (rv_blt call_len_seq oA_len rfl g_len PySem.boot_len (ra_cons (rv_callD h_names_of hr (Nat.le_refl _) takes_def rfl (ra_cons (rv_var 0) ra_nil)) ra_nil))))

def F_dual_of {S : Type} (φ_dual_of : List D → S → Rs S D) : Fs S := (sSeq (sIf (bVal (v2 dEq (v2 dItem (vVar 0) (vCst (.int 0))) (vCst (.str "cable")))) (sRet (vVar 0)) sNil)
  (sRet (vA dTup (aCons (vIte (bVal (v2 dEq (v2 dItem (vVar 0) (vCst (.int 0))) (vCst (.str "row")))) (vCst (.str "side")) (vCst (.str "row"))) (aCons (vCall φ_dual_of (aCons (v2 dItem (vVar 0) (vCst (.int 1))) aNil)) (aCons (vCall φ_dual_of (aCons (v2 dItem (vVar 0) (vCst (.int 2))) aNil)) aNil))))))
theorem sc_dual_of : FnScope ["word"] ["word"] (defScope s_dual_of) := ⟨rfl, rfl, rfl, by decide +kernel, rfl, by decide +kernel, by decide +kernel⟩
theorem b_dual_of {P : Program} {w : World} {K : PySem.W.Frag} {mg : Str → Option Value} {base : Heap} {qual : Str} {f : Addr} {cdv : Value} {A : Around} {outer : List Env} {s : Shared} {H : Hp} {E : XK} {W : Wd K} {cls : Xc} {k : Nat} (hr : Room k (A.deeper (envOfC qual (defScope s_dual_of) s.heap.objs.size f cdv)))
    {t_ROW : Tok} (g_ROW : mg "ROW" = some (.str "row" t_ROW))
    {t_SIDE : Tok} (g_SIDE : mg "SIDE" = some (.str "side" t_SIDE))
    {φ_dual_of : List D → W.S → Rs W.S D} (h_dual_of : Df P w K mg base W cls k "dual_of" ["word"] φ_dual_of) :
    PSs (cxOf (L2.CX P w) P w K mg base ["word"] qual (defScope s_dual_of) f cdv A outer s H E) (defBody s_dual_of) (TSv K W cls (fun c d _ H' => E c d H') (F_dual_of φ_dual_of)) := (rs_cons (rs_if (rb_eq hr (rv_item (rv_var 0) rv_int) rv_str) (rs_one (rs_ret (rv_var 0))) rs_nil)
  (rs_one (rs_ret (rv_tup (ra_cons (rv_ite (rb_eq hr (rv_item (rv_var 0) rv_int) (rv_gstr rfl g_ROW)) (rv_gstr rfl g_SIDE) (rv_gstr rfl g_ROW)) (ra_cons (rv_callD h_dual_of hr (Nat.le_refl _) takes_def rfl (ra_cons (rv_item (rv_var 0) rv_int) ra_nil)) (ra_cons (rv_callD h_dual_of hr (Nat.le_refl _) takes_def rfl (ra_cons (rv_item (rv_var 0) rv_int) ra_nil)) ra_nil)))))))

def F_dual_word {S : Type} (φ_need_named_word : List D → S → Rs S D) (φ_dual_of : List D → S → Rs S D) : Fs S := (sRet (vCall φ_dual_of (aCons (vCall φ_need_named_word (aCons (vVar 0) aNil)) aNil)))
theorem sc_dual_word : FnScope ["word"] ["word"] (defScope s_dual_word) := ⟨rfl, rfl, rfl, by decide +kernel, rfl, by decide +kernel, by decide +kernel⟩
theorem b_dual_word {P : Program} {w : World} {K : PySem.W.Frag} {mg : Str → Option Value} {base : Heap} {qual : Str} {f : Addr} {cdv : Value} {A : Around} {outer : List Env} {s : Shared} {H : Hp} {E : XK} {W : Wd K} {cls : Xc} {k : Nat} (hr : Room k (A.deeper (envOfC qual (defScope s_dual_word) s.heap.objs.size f cdv)))
    {φ_need_named_word : List D → W.S → Rs W.S D} (h_need_named_word : Df P w K mg base W cls k "need_named_word" ["word"] φ_need_named_word)
    {φ_dual_of : List D → W.S → Rs W.S D} (h_dual_of : Df P w K mg base W cls k "dual_of" ["word"] φ_dual_of) :
    PSs (cxOf (L2.CX P w) P w K mg base ["word"] qual (defScope s_dual_word) f cdv A outer s H E) (defBody s_dual_word) (TSv K W cls (fun c d _ H' => E c d H') (F_dual_word φ_need_named_word φ_dual_of)) := (rs_one (rs_ret (rv_callD h_dual_of hr (Nat.le_refl _) takes_def rfl (ra_cons (rv_callD h_need_named_word hr (Nat.le_refl _) takes_def rfl (ra_cons (rv_var 0) ra_nil)) ra_nil))))

def F_plain_word {S : Type} (φ_names_of : List D → S → Rs S D) : Fs S := (sSeq (sSet 1 (vCall φ_names_of (aCons (vVar 0) aNil)))
  (fun _ _ => .stuck))
theorem sc_plain_word : FnScope ["word", "names", "name"] ["word"] (defScope s_plain_word) := ⟨rfl, rfl, rfl, by decide +kernel, rfl, by decide +kernel, by decide +kernel⟩
theorem b_plain_word {P : Program} {w : World} {K : PySem.W.Frag} {mg : Str → Option Value} {base : Heap} {qual : Str} {f : Addr} {cdv : Value} {A : Around} {outer : List Env} {s : Shared} {H : Hp} {E : XK} {W : Wd K} {cls : Xc} {k : Nat} (hr : Room k (A.deeper (envOfC qual (defScope s_plain_word) s.heap.objs.size f cdv)))
    {φ_names_of : List D → W.S → Rs W.S D} (h_names_of : Df P w K mg base W cls k "names_of" ["word"] φ_names_of) :
    PSs (cxOf (L2.CX P w) P w K mg base ["word", "names", "name"] qual (defScope s_plain_word) f cdv A outer s H E) (defBody s_plain_word) (TSv K W cls (fun c d _ H' => E c d H') (F_plain_word φ_names_of)) := (rs_cons (rs_set (i := 1) sc_plain_word.nd rfl (by first | exact Or.inl rfl | exact Or.inr rfl) (rv_callD h_names_of hr (Nat.le_refl _) takes_def rfl (ra_cons (rv_var 0) ra_nil)))
  rs_stuck)

def F_word_corners {S : Type} (φ_need_named_word : List D → S → Rs S D) (φ_corners_by_parts : List D → S → Rs S D) : Fs S := (sSeq (sUnp (gTp [(gNm 1), (gNm 2)]) (vCall φ_corners_by_parts (aCons (vCall φ_need_named_word (aCons (vVar 0) aNil)) aNil)))
  (sRet (vA dTup (aCons (vA dTuple (aCons (vVar 1) aNil)) (aCons (vA dTuple (aCons (vVar 2) aNil)) aNil)))))
theorem sc_word_corners : FnScope ["word", "tied", "loose"] ["word"] (defScope s_word_corners) := ⟨rfl, rfl, rfl, by decide +kernel, rfl, by decide +kernel, by decide +kernel⟩
theorem b_word_corners {P : Program} {w : World} {K : PySem.W.Frag} {mg : Str → Option Value} {base : Heap} {qual : Str} {f : Addr} {cdv : Value} {A : Around} {outer : List Env} {s : Shared} {H : Hp} {E : XK} {W : Wd K} {cls : Xc} {k : Nat} (hr : Room k (A.deeper (envOfC qual (defScope s_word_corners) s.heap.objs.size f cdv)))
    (g_tuple : mg "tuple" = none)
    {φ_need_named_word : List D → W.S → Rs W.S D} (h_need_named_word : Df P w K mg base W cls k "need_named_word" ["word"] φ_need_named_word)
    {φ_corners_by_parts : List D → W.S → Rs W.S D} (h_corners_by_parts : Df P w K mg base W cls k "corners_by_parts" ["word"] φ_corners_by_parts) :
    PSs (cxOf (L2.CX P w) P w K mg base ["word", "tied", "loose"] qual (defScope s_word_corners) f cdv A outer s H E) (defBody s_word_corners) (TSv K W cls (fun c d _ H' => E c d H') (F_word_corners φ_need_named_word φ_corners_by_parts)) := (rs_cons (rs_unp (rv_callD h_corners_by_parts hr (Nat.le_refl _) takes_def rfl (ra_cons (rv_callD h_need_named_word hr (Nat.le_refl _) takes_def rfl (ra_cons (rv_var 0) ra_nil)) ra_nil)) (rg_tup rfl (rgs_cons (rg_name (i := 1) sc_word_corners.nd rfl (by first | exact Or.inl rfl | exact Or.inr rfl)) (rgs_cons (rg_name (i := 2) sc_word_corners.nd rfl (by first | exact Or.inl rfl | exact Or.inr rfl)) rgs_nil))))
  (rs_one (rs_ret (rv_tup (ra_cons (rv_bty call_tuple_of oA_tuple rfl g_tuple (by decide +kernel) (ra_cons (rv_var 1) ra_nil)) (ra_cons (rv_bty call_tuple_of oA_tuple rfl g_tuple (by decide +kernel) (ra_cons (rv_var 2) ra_nil)) ra_nil))))))

def F_word_values {S : Type} (φ_need_named_word : List D → S → Rs S D) : Fs S := (sSeq (sDrop (vCall φ_need_named_word (aCons (vVar 0) aNil)))
  (fun _ _ => .stuck))
theorem sc_word_values : FnScope ["word", "strengths", "price", "lot"] ["word", "strengths", "price"] (defScope s_word_values) := ⟨rfl, rfl, rfl, by decide +kernel, rfl, by decide +kernel, by decide +kernel⟩
theorem b_word_values {P : Program} {w : World} {K : PySem.W.Frag} {mg : Str → Option Value} {base : Heap} {qual : Str} {f : Addr} {cdv : Value} {A : Around} {outer : List Env} {s : Shared} {H : Hp} {E : XK} {W : Wd K} {cls : Xc} {k : Nat} (hr : Room k (A.deeper (envOfC qual (defScope s_word_values) s.heap.objs.size f cdv)))
    {φ_need_named_word : List D → W.S → Rs W.S D} (h_need_named_word : Df P w K mg base W cls k "need_named_word" ["word"] φ_need_named_word) :
    PSs (cxOf (L2.CX P w) P w K mg base ["word", "strengths", "price", "lot"] qual (defScope s_word_values) f cdv A outer s H E) (defBody s_word_values) (TSv K W cls (fun c d _ H' => E c d H') (F_word_values φ_need_named_word)) := (rs_cons (rs_drop (rv_callD h_need_named_word hr (Nat.le_refl _) takes_def rfl (ra_cons (rv_var 0) ra_nil)))
  rs_stuck)

def F_need_words {S : Type} (φ_need_named_word : List D → S → Rs S D) : Fs S := (sSeq (sDrop (vCall φ_need_named_word (aCons (vVar 0) aNil)))
  (sSeq (sDrop (vCall φ_need_named_word (aCons (vVar 1) aNil)))
  (fun _ _ => .stuck)))
theorem sc_need_words : FnScope ["one", "other", "tied", "loose", "other_tied", "other_loose"] ["one", "other"] (defScope s_need_words) := ⟨rfl, rfl, rfl, by decide +kernel, rfl, by decide +kernel, by decide +kernel⟩
theorem b_need_words {P : Program} {w : World} {K : PySem.W.Frag} {mg : Str → Option Value} {base : Heap} {qual : Str} {f : Addr} {cdv : Value} {A : Around} {outer : List Env} {s : Shared} {H : Hp} {E : XK} {W : Wd K} {cls : Xc} {k : Nat} (hr : Room k (A.deeper (envOfC qual (defScope s_need_words) s.heap.objs.size f cdv)))
    {φ_need_named_word : List D → W.S → Rs W.S D} (h_need_named_word : Df P w K mg base W cls k "need_named_word" ["word"] φ_need_named_word) :
    PSs (cxOf (L2.CX P w) P w K mg base ["one", "other", "tied", "loose", "other_tied", "other_loose"] qual (defScope s_need_words) f cdv A outer s H E) (defBody s_need_words) (TSv K W cls (fun c d _ H' => E c d H') (F_need_words φ_need_named_word)) := (rs_cons (rs_drop (rv_callD h_need_named_word hr (Nat.le_refl _) takes_def rfl (ra_cons (rv_var 0) ra_nil)))
  (rs_cons (rs_drop (rv_callD h_need_named_word hr (Nat.le_refl _) takes_def rfl (ra_cons (rv_var 1) ra_nil)))
  rs_stuck))

def F_word_paper {S : Type} (φ_need_words : List D → S → Rs S D) : Fs S := (sSeq (sUnp (gTp [(gNm 2), (gNm 3)]) (vCall φ_need_words (aCons (vVar 0) (aCons (vVar 1) aNil))))
  (fun _ _ => .stuck))
theorem sc_word_paper : FnScope ["one", "other", "lots", "others"] ["one", "other"] (defScope s_word_paper) := ⟨rfl, rfl, rfl, by decide +kernel, rfl, by decide +kernel, by decide +kernel⟩
theorem b_word_paper {P : Program} {w : World} {K : PySem.W.Frag} {mg : Str → Option Value} {base : Heap} {qual : Str} {f : Addr} {cdv : Value} {A : Around} {outer : List Env} {s : Shared} {H : Hp} {E : XK} {W : Wd K} {cls : Xc} {k : Nat} (hr : Room k (A.deeper (envOfC qual (defScope s_word_paper) s.heap.objs.size f cdv)))
    {φ_need_words : List D → W.S → Rs W.S D} (h_need_words : Df P w K mg base W cls k "need_words" ["one", "other"] φ_need_words) :
    PSs (cxOf (L2.CX P w) P w K mg base ["one", "other", "lots", "others"] qual (defScope s_word_paper) f cdv A outer s H E) (defBody s_word_paper) (TSv K W cls (fun c d _ H' => E c d H') (F_word_paper φ_need_words)) := (rs_cons (rs_unp (rv_callD h_need_words hr (Nat.le_refl _) takes_def rfl (ra_cons (rv_var 0) (ra_cons (rv_var 1) ra_nil))) (rg_tup rfl (rgs_cons (rg_name (i := 2) sc_word_paper.nd rfl (by first | exact Or.inl rfl | exact Or.inr rfl)) (rgs_cons (rg_name (i := 3) sc_word_paper.nd rfl (by first | exact Or.inl rfl | exact Or.inr rfl)) rgs_nil))))
  rs_stuck)

def F_check_word_paper {S : Type} (φ_need_words : List D → S → Rs S D) : Fs S := (sSeq (sUnp (gTp [(gNm 3), (gNm 4)]) (vCall φ_need_words (aCons (vVar 0) (aCons (vVar 1) aNil))))
  (fun _ _ => .stuck))
theorem sc_check_word_paper : FnScope ["one", "other", "paper", "lots", "others"] ["one", "other", "paper"] (defScope s_check_word_paper) := ⟨rfl, rfl, rfl, by decide +kernel, rfl, by decide +kernel, by decide +kernel⟩
theorem b_check_word_paper {P : Program} {w : World} {K : PySem.W.Frag} {mg : Str → Option Value} {base : Heap} {qual : Str} {f : Addr} {cdv : Value} {A : Around} {outer : List Env} {s : Shared} {H : Hp} {E : XK} {W : Wd K} {cls : Xc} {k : Nat} (hr : Room k (A.deeper (envOfC qual (defScope s_check_word_paper) s.heap.objs.size f cdv)))
    {φ_need_words : List D → W.S → Rs W.S D} (h_need_words : Df P w K mg base W cls k "need_words" ["one", "other"] φ_need_words) :
    PSs (cxOf (L2.CX P w) P w K mg base ["one", "other", "paper", "lots", "others"] qual (defScope s_check_word_paper) f cdv A outer s H E) (defBody s_check_word_paper) (TSv K W cls (fun c d _ H' => E c d H') (F_check_word_paper φ_need_words)) := (rs_cons (rs_unp (rv_callD h_need_words hr (Nat.le_refl _) takes_def rfl (ra_cons (rv_var 0) (ra_cons (rv_var 1) ra_nil))) (rg_tup rfl (rgs_cons (rg_name (i := 3) sc_check_word_paper.nd rfl (by first | exact Or.inl rfl | exact Or.inr rfl)) (rgs_cons (rg_name (i := 4) sc_check_word_paper.nd rfl (by first | exact Or.inl rfl | exact Or.inr rfl)) rgs_nil))))
  rs_stuck)

def F_is_word_never_weaker {S : Type} (φ_word_paper : List D → S → Rs S D) : Fs S := (sRet (v2 dEq (v2 dItem (vCall φ_word_paper (aCons (vVar 0) (aCons (vVar 1) aNil))) (vCst (.int 0))) (vCst (.str "always"))))
theorem sc_is_word_never_weaker : FnScope ["one", "other"] ["one", "other"] (defScope s_is_word_never_weaker) := ⟨rfl, rfl, rfl, by decide +kernel, rfl, by decide +kernel, by decide +kernel⟩
theorem b_is_word_never_weaker {P : Program} {w : World} {K : PySem.W.Frag} {mg : Str → Option Value} {base : Heap} {qual : Str} {f : Addr} {cdv : Value} {A : Around} {outer : List Env} {s : Shared} {H : Hp} {E : XK} {W : Wd K} {cls : Xc} {k : Nat} (hr : Room k (A.deeper (envOfC qual (defScope s_is_word_never_weaker) s.heap.objs.size f cdv)))
    {φ_word_paper : List D → W.S → Rs W.S D} (h_word_paper : Df P w K mg base W cls k "word_paper" ["one", "other"] φ_word_paper) :
    PSs (cxOf (L2.CX P w) P w K mg base ["one", "other"] qual (defScope s_is_word_never_weaker) f cdv A outer s H E) (defBody s_is_word_never_weaker) (TSv K W cls (fun c d _ H' => E c d H') (F_is_word_never_weaker φ_word_paper)) := (rs_one (rs_ret (rv_eq hr (rv_item (rv_callD h_word_paper hr (Nat.le_refl _) takes_def rfl (ra_cons (rv_var 0) (ra_cons (rv_var 1) ra_nil))) rv_int) rv_str)))

def F_are_words_one {S : Type} (φ_need_words : List D → S → Rs S D) : Fs S := (sSeq (sUnp (gTp [(gNm 2), (gNm 3)]) (vCall φ_need_words (aCons (vVar 0) (aCons (vVar 1) aNil))))
  (sRet (v2 dEq (vVar 2) (vVar 3))))
theorem sc_are_words_one : FnScope ["one", "other", "lots", "others"] ["one", "other"] (defScope s_are_words_one) := ⟨rfl, rfl, rfl, by decide +kernel, rfl, by decide +kernel, by decide +kernel⟩
theorem b_are_words_one {P : Program} {w : World} {K : PySem.W.Frag} {mg : Str → Option Value} {base : Heap} {qual : Str} {f : Addr} {cdv : Value} {A : Around} {outer : List Env} {s : Shared} {H : Hp} {E : XK} {W : Wd K} {cls : Xc} {k : Nat} (hr : Room k (A.deeper (envOfC qual (defScope s_are_words_one) s.heap.objs.size f cdv)))
    {φ_need_words : List D → W.S → Rs W.S D} (h_need_words : Df P w K mg base W cls k "need_words" ["one", "other"] φ_need_words) :
    PSs (cxOf (L2.CX P w) P w K mg base ["one", "other", "lots", "others"] qual (defScope s_are_words_one) f cdv A outer s H E) (defBody s_are_words_one) (TSv K W cls (fun c d _ H' => E c d H') (F_are_words_one φ_need_words)) := (rs_cons (rs_unp (rv_callD h_need_words hr (Nat.le_refl _) takes_def rfl (ra_cons (rv_var 0) (ra_cons (rv_var 1) ra_nil))) (rg_tup rfl (rgs_cons (rg_name (i := 2) sc_are_words_one.nd rfl (by first | exact Or.inl rfl | exact Or.inr rfl)) (rgs_cons (rg_name (i := 3) sc_are_words_one.nd rfl (by first | exact Or.inl rfl | exact Or.inr rfl)) rgs_nil))))
  (rs_one (rs_ret (rv_eq hr (rv_var 2) (rv_var 3)))))

def F__law_next (am gl : Addr)  : Fs MS := (sSeq (sMPut am 0 .drawn (v2 dAdd (vMGet am gl 0 .drawn) (vCst (.int 1))))
  (sSeq (sPar 2 3 (cVal (vMGet am gl 0 .great)) (cVal (vCst (.int 0))))
  (sSeq (sIf (bLNe gl 2) (sSeq (sSet 3 (v2 dMod (vA dInt (aCons (vMGet am gl 0 .drawn) aNil)) (vLLen gl 2)))
  (sSeq (sSet 4 (vLIx gl 2 (vVar 3)))
  (sIf (bVal (v2 dGt (vVar 4) (vCst (.int 0)))) (sSeq (sLSet gl 2 (vVar 3) (v2 dFdiv (vVar 4) (vVar 1)))
  (sRet (v2 dMod (vA dInt (aCons (vVar 4) aNil)) (vVar 1)))) sNil))) sNil)
  (sSeq (sMPut am 0 .mixed (v2 dMod (vA dInt (aCons (v2 dAdd (v2 dAdd (v2 dMul (vMGet am gl 0 .mixed) (vCst (.int 48271))) (v2 dMul (vCst (.int 7907)) (vMGet am gl 0 .drawn))) (vCst (.int 13))) aNil)) (vCst (.int 2147483647))))
  (sRet (v2 dMod (vA dInt (aCons (v2 dFdiv (vMGet am gl 0 .mixed) (vCst (.int 11))) aNil)) (vVar 1)))))))
theorem sc__law_next : FnScope ["m", "many", "lot", "at", "cell"] ["m", "many"] (defScope s__law_next) := ⟨rfl, rfl, rfl, by decide +kernel, rfl, by decide +kernel, by decide +kernel⟩
theorem b__law_next {P : Program} {w : World} {K : PySem.W.Frag} {mg : Str → Option Value} {base : Heap} {qual : Str} {f : Addr} {cdv : Value} {A : Around} {outer : List Env} {s : Shared} {H : Hp} {E : XK} {S : Scr} {am gl : Addr} {cls : Xc} {k : Nat} (hr : Room k (A.deeper (envOfC qual (defScope s__law_next) s.heap.objs.size f cdv)))
    (g_int : mg "int" = none)
    (g_len : mg "len" = none) :
    PSs (cxOf (L2.CX P w) P w K mg base ["m", "many", "lot", "at", "cell"] qual (defScope s__law_next) f cdv A outer s H E) (defBody s__law_next) (TSv K (wDr K S am gl) cls (fun c d _ H' => E c d H') (F__law_next am gl )) := (rs_cons (rs_mput (k := .drawn) (i := 0) hr rfl rfl (by first | exact Or.inl rfl | exact Or.inr (Or.inl rfl) | exact Or.inr (Or.inr rfl)) (rv_add (rv_mget (k := .drawn) (i := 0) hr rfl rfl (by first | exact Or.inl rfl | exact Or.inr (Or.inl rfl) | exact Or.inr (Or.inr rfl))) rv_int))
  (rs_cons (rs_par (i := 2) (j := 3) rfl sc__law_next.nd rfl rfl (by decide) rfl rfl (rc_val (rv_mget (k := .great) (i := 0) hr rfl rfl (by first | exact Or.inl rfl | exact Or.inr (Or.inl rfl) | exact Or.inr (Or.inr rfl)))) (rc_val rv_int))
  (rs_cons (rs_if (rb_lne (i := 2) hr rfl (by first | exact Or.inl rfl | exact Or.inr (Or.inl rfl) | exact Or.inr (Or.inr rfl))) (rs_cons (rs_set (i := 3) sc__law_next.nd rfl (by first | exact Or.inl rfl | exact Or.inr rfl) (rv_mod (rv_bty call_int1 oA_int rfl g_int (by decide +kernel) (ra_cons (rv_mget (k := .drawn) (i := 0) hr rfl rfl (by first | exact Or.inl rfl | exact Or.inr (Or.inl rfl) | exact Or.inr (Or.inr rfl))) ra_nil)) (rv_llen (i := 2) rfl (by first | exact Or.inl rfl | exact Or.inr (Or.inl rfl) | exact Or.inr (Or.inr rfl)) rfl g_len)))
  (rs_cons (rs_set (i := 4) sc__law_next.nd rfl (by first | exact Or.inl rfl | exact Or.inr rfl) (rv_lix (i := 2) rfl (by first | exact Or.inl rfl | exact Or.inr (Or.inl rfl) | exact Or.inr (Or.inr rfl)) (rv_var 3)))
  (rs_one (rs_if (rb_gt (rv_var 4) rv_int) (rs_cons (rs_lset (i := 2) rfl (by first | exact Or.inl rfl | exact Or.inr (Or.inl rfl) | exact Or.inr (Or.inr rfl)) (rv_var 3) (rv_fdiv (rv_var 4) (rv_var 1)))
  (rs_one (rs_ret (rv_mod (rv_bty call_int1 oA_int rfl g_int (by decide +kernel) (ra_cons (rv_var 4) ra_nil)) (rv_var 1))))) rs_nil)))) rs_nil)
  (rs_cons (rs_mput (k := .mixed) (i := 0) hr rfl rfl (by first | exact Or.inl rfl | exact Or.inr (Or.inl rfl) | exact Or.inr (Or.inr rfl)) (rv_mod (rv_bty call_int1 oA_int rfl g_int (by decide +kernel) (ra_cons (rv_add (rv_add (rv_mul (rv_mget (k := .mixed) (i := 0) hr rfl rfl (by first | exact Or.inl rfl | exact Or.inr (Or.inl rfl) | exact Or.inr (Or.inr rfl))) rv_int) (rv_mul rv_int (rv_mget (k := .drawn) (i := 0) hr rfl rfl (by first | exact Or.inl rfl | exact Or.inr (Or.inl rfl) | exact Or.inr (Or.inr rfl))))) rv_int) ra_nil)) rv_int))
  (rs_one (rs_ret (rv_mod (rv_bty call_int1 oA_int rfl g_int (by decide +kernel) (ra_cons (rv_fdiv (rv_mget (k := .mixed) (i := 0) hr rfl rfl (by first | exact Or.inl rfl | exact Or.inr (Or.inl rfl) | exact Or.inr (Or.inr rfl))) rv_int) ra_nil)) (rv_var 1))))))))

def F__law_of {S : Type} (φ__law_next : List D → S → Rs S D) : Fs S := (sRet (v2 dItem (vVar 1) (vCall φ__law_next (aCons (vVar 0) (aCons (vA dLen (aCons (vVar 1) aNil)) aNil)))))
theorem sc__law_of : FnScope ["m", "some"] ["m", "some"] (defScope s__law_of) := ⟨rfl, rfl, rfl, by decide +kernel, rfl, by decide +kernel, by decide +kernel⟩
theorem b__law_of {P : Program} {w : World} {K : PySem.W.Frag} {mg : Str → Option Value} {base : Heap} {qual : Str} {f : Addr} {cdv : Value} {A : Around} {outer : List Env} {s : Shared} {H : Hp} {E : XK} {W : Wd K} {cls : Xc} {k : Nat} (hr : Room k (A.deeper (envOfC qual (defScope s__law_of) s.heap.objs.size f cdv)))
    (g_len : mg "len" = none)
    {φ__law_next : List D → W.S → Rs W.S D} (h__law_next : Df P w K mg base W cls k "_law_next" ["m", "many"] φ__law_next) :
    PSs (cxOf (L2.CX P w) P w K mg base ["m", "some"] qual (defScope s__law_of) f cdv A outer s H E) (defBody s__law_of) (TSv K W cls (fun c d _ H' => E c d H') (F__law_of φ__law_next)) := (rs_one (rs_ret (rv_item (rv_var 1) (rv_callD h__law_next hr (Nat.le_refl _) takes_def rfl (ra_cons (rv_var 0) (ra_cons (rv_blt call_len_seq oA_len rfl g_len PySem.boot_len (ra_cons (rv_var 1) ra_nil)) ra_nil))))))

def F__law_same {S : Type} (φ__law_same : List D → S → Rs S D) : Fs S := (sSeq (sIf (bOr (bVal (v1 dIsN (vVar 0))) (bVal (v1 dIsN (vVar 1)))) (sRet (vIte (bVal (v1 dIsN (vVar 0))) (v1 dIsN (vVar 1)) (vCst (.bool false)))) sNil)
  (sSeq (sIf (bOr (bVal (v1 (dIsi Ty.bool) (vVar 0))) (bVal (v1 (dIsi Ty.bool) (vVar 1)))) (sRet (vIte (bVal (v1 (dIsi Ty.bool) (vVar 0))) (vIte (bVal (v1 (dIsi Ty.bool) (vVar 1))) (v2 dEq (vVar 0) (vVar 1)) (vCst (.bool false))) (vCst (.bool false)))) sNil)
  (sSeq (sIf (bAnd (bVal (v1 (dIsi Ty.tuple) (vVar 0))) (bVal (v1 (dIsi Ty.tuple) (vVar 1)))) (sRet (vIte (bVal (v2 dEq (vA dLen (aCons (vVar 0) aNil)) (vA dLen (aCons (vVar 1) aNil)))) (v2 dEq (vNew (vLc [2, 3] (gTp [(gNm 2), (gNm 3)]) (iZip (vVar 0) (vVar 1)) (bNot (bVal (vCall φ__law_same (aCons (vVar 2) (aCons (vVar 3) aNil))))) (vCst (.int 1)))) (vA dLst aNil)) (vCst (.bool false)))) sNil)
  (sSeq (sIf (bOr (bAnd (bVal (v1 (dIsi Ty.str) (vVar 0))) (bVal (v1 (dIsi Ty.str) (vVar 1)))) (bAnd (bVal (v1 (dIsi Ty.int) (vVar 0))) (bVal (v1 (dIsi Ty.int) (vVar 1))))) (sRet (v2 dEq (vVar 0) (vVar 1))) sNil)
  (sRet (vCst (.bool false)))))))
theorem sc__law_same : FnScope ["one", "other", "near", "far"] ["one", "other"] (defScope s__law_same) := ⟨rfl, rfl, rfl, by decide +kernel, rfl, by decide +kernel, by decide +kernel⟩
theorem b__law_same {P : Program} {w : World} {K : PySem.W.Frag} {mg : Str → Option Value} {base : Heap} {qual : Str} {f : Addr} {cdv : Value} {A : Around} {outer : List Env} {s : Shared} {H : Hp} {E : XK} {W : Wd K} {cls : Xc} {k : Nat} (hr : Room k (A.deeper (envOfC qual (defScope s__law_same) s.heap.objs.size f cdv)))
    (g_isinstance : mg "isinstance" = none)
    (g_bool : mg "bool" = none)
    (g_tuple : mg "tuple" = none)
    (g_len : mg "len" = none)
    (g_zip : mg "zip" = none)
    (g_str : mg "str" = none)
    (g_int : mg "int" = none)
    {φ__law_same : List D → W.S → Rs W.S D} (h__law_same : Df P w K mg base W cls k "_law_same" ["one", "other"] φ__law_same) :
    PSs (cxOf (L2.CX P w) P w K mg base ["one", "other", "near", "far"] qual (defScope s__law_same) f cdv A outer s H E) (defBody s__law_same) (TSv K W cls (fun c d _ H' => E c d H') (F__law_same φ__law_same)) := (rs_cons (rs_if (rb_w (rw_or (rb_isN (rv_var 0)) (rw_or1 (rb_isN (rv_var 1))))) (rs_one (rs_ret (rv_and (rv_isN (rv_var 0)) (rv_one (rv_isN (rv_var 1)))))) rs_nil)
  (rs_cons (rs_if (rb_w (rw_or (rb_val (rv_isi (T := Ty.bool) rfl rfl g_isinstance rfl g_bool (by decide +kernel) (rv_var 0))) (rw_or1 (rb_val (rv_isi (T := Ty.bool) rfl rfl g_isinstance rfl g_bool (by decide +kernel) (rv_var 1)))))) (rs_one (rs_ret (rv_and (rv_isi (T := Ty.bool) rfl rfl g_isinstance rfl g_bool (by decide +kernel) (rv_var 0)) (rv_and (rv_isi (T := Ty.bool) rfl rfl g_isinstance rfl g_bool (by decide +kernel) (rv_var 1)) (rv_one (rv_eq hr (rv_var 0) (rv_var 1))))))) rs_nil)
  (rs_cons (rs_if (rb_w (rw_and (rb_val (rv_isi (T := Ty.tuple) rfl rfl g_isinstance rfl g_tuple (by decide +kernel) (rv_var 0))) (rw_and1 (rb_val (rv_isi (T := Ty.tuple) rfl rfl g_isinstance rfl g_tuple (by decide +kernel) (rv_var 1)))))) (rs_one (rs_ret (rv_and (rv_eq hr (rv_blt call_len_seq oA_len rfl g_len PySem.boot_len (ra_cons (rv_var 0) ra_nil)) (rv_blt call_len_seq oA_len rfl g_len PySem.boot_len (ra_cons (rv_var 1) ra_nil))) (rv_one (rv_eq hr (rv_new (ro_lc (own := [("near", 2), ("far", 3)]) rfl sc__law_same.nd (ri_zip rfl g_zip (rv_var 0) (rv_var 1)) (blkOk_by (by first | rfl | decide +kernel)) (fun _ _ _ _ _ => (rg_tup rfl (rgs_cons (rg_name (i := 2) sc__law_same.nd rfl (by first | exact Or.inl rfl | exact Or.inr rfl)) (rgs_cons (rg_name (i := 3) sc__law_same.nd rfl (by first | exact Or.inl rfl | exact Or.inr rfl)) rgs_nil)))) (by decide) (fun _ _ _ _ _ => (rt_one (rb_not (rb_val (rv_callD h__law_same hr (Nat.le_refl _) takes_none rfl (ra_cons (rv_var 2) (ra_cons (rv_var 3) ra_nil))))))) (fun _ _ _ _ _ => rv_int))) (rv_lst ra_nil)))))) rs_nil)
  (rs_cons (rs_if (rb_w (rw_or (rb_w (rw_and (rb_val (rv_isi (T := Ty.str) rfl rfl g_isinstance rfl g_str (by decide +kernel) (rv_var 0))) (rw_and1 (rb_val (rv_isi (T := Ty.str) rfl rfl g_isinstance rfl g_str (by decide +kernel) (rv_var 1)))))) (rw_or1 (rb_w (rw_and (rb_val (rv_isi (T := Ty.int) rfl rfl g_isinstance rfl g_int (by decide +kernel) (rv_var 0))) (rw_and1 (rb_val (rv_isi (T := Ty.int) rfl rfl g_isinstance rfl g_int (by decide +kernel) (rv_var 1))))))))) (rs_one (rs_ret (rv_eq hr (rv_var 0) (rv_var 1)))) rs_nil)
  (rs_one (rs_ret rv_bool))))))

def F__law_word {S : Type} (φ__law_next : List D → S → Rs S D) (φ__law_word : List D → S → Rs S D) (φ__law_of : List D → S → Rs S D) : Fs S := (sSeq (sIf (bVal (v2 dEq (vVar 1) (vCst (.int 1)))) (sRet (vA dTup (aCons (vCst (.str "cable")) (aCons (vCall φ__law_next (aCons (vVar 0) (aCons (vVar 2) aNil))) aNil)))) sNil)
  (sSeq (sSet 3 (v2 dAdd (vCst (.int 1)) (vCall φ__law_next (aCons (vVar 0) (aCons (v2 dSub (vVar 1) (vCst (.int 1))) aNil)))))
  (sRet (vA dTup (aCons (vCall φ__law_of (aCons (vVar 0) (aCons (vA dLst (aCons (vCst (.str "row")) (aCons (vCst (.str "side")) aNil))) aNil))) (aCons (vCall φ__law_word (aCons (vVar 0) (aCons (vVar 3) (aCons (vVar 2) aNil)))) (aCons (vCall φ__law_word (aCons (vVar 0) (aCons (v2 dSub (vVar 1) (vVar 3)) (aCons (vVar 2) aNil)))) aNil)))))))
theorem sc__law_word : FnScope ["m", "many", "names", "first"] ["m", "many", "names"] (defScope s__law_word) := ⟨rfl, rfl, rfl, by decide +kernel, rfl, by decide +kernel, by decide +kernel⟩
theorem b__law_word {P : Program} {w : World} {K : PySem.W.Frag} {mg : Str → Option Value} {base : Heap} {qual : Str} {f : Addr} {cdv : Value} {A : Around} {outer : List Env} {s : Shared} {H : Hp} {E : XK} {W : Wd K} {cls : Xc} {k : Nat} (hr : Room k (A.deeper (envOfC qual (defScope s__law_word) s.heap.objs.size f cdv)))
    {φ__law_next : List D → W.S → Rs W.S D} (h__law_next : Df P w K mg base W cls k "_law_next" ["m", "many"] φ__law_next)
    {φ__law_word : List D → W.S → Rs W.S D} (h__law_word : Df P w K mg base W cls k "_law_word" ["m", "many", "names"] φ__law_word)
    {φ__law_of : List D → W.S → Rs W.S D} (h__law_of : Df P w K mg base W cls k "_law_of" ["m", "some"] φ__law_of) :
    PSs (cxOf (L2.CX P w) P w K mg base ["m", "many", "names", "first"] qual (defScope s__law_word) f cdv A outer s H E) (defBody s__law_word) (TSv K W cls (fun c d _ H' => E c d H') (F__law_word φ__law_next φ__law_word φ__law_of)) := (rs_cons (rs_if (rb_eq hr (rv_var 1) rv_int) (rs_one (rs_ret (rv_tup (ra_cons rv_str (ra_cons (rv_callD h__law_next hr (Nat.le_refl _) takes_def rfl (ra_cons (rv_var 0) (ra_cons (rv_var 2) ra_nil))) ra_nil))))) rs_nil)
  (rs_cons (rs_set (i := 3) sc__law_word.nd rfl (by first | exact Or.inl rfl | exact Or.inr rfl) (rv_add rv_int (rv_callD h__law_next hr (Nat.le_refl _) takes_def rfl (ra_cons (rv_var 0) (ra_cons (rv_sub (rv_var 1) rv_int) ra_nil)))))
  (rs_one (rs_ret (rv_tup (ra_cons (rv_callD h__law_of hr (Nat.le_refl _) takes_def rfl (ra_cons (rv_var 0) (ra_cons (rv_lst (ra_cons rv_str (ra_cons rv_str ra_nil))) ra_nil))) (ra_cons (rv_callD h__law_word hr (Nat.le_refl _) takes_def rfl (ra_cons (rv_var 0) (ra_cons (rv_var 3) (ra_cons (rv_var 2) ra_nil)))) (ra_cons (rv_callD h__law_word hr (Nat.le_refl _) takes_def rfl (ra_cons (rv_var 0) (ra_cons (rv_sub (rv_var 1) (rv_var 3)) (ra_cons (rv_var 2) ra_nil)))) ra_nil))))))))

def F__law_names {S : Type} (φ__law_names : List D → S → Rs S D) : Fs S := (sRet (vIte (bVal (v2 dEq (v2 dItem (vVar 0) (vCst (.int 0))) (vCst (.str "cable")))) (vA dLst (aCons (v2 dItem (vVar 0) (vCst (.int 1))) aNil)) (v2 dAdd (vCall φ__law_names (aCons (v2 dItem (vVar 0) (vCst (.int 1))) aNil)) (vCall φ__law_names (aCons (v2 dItem (vVar 0) (vCst (.int 2))) aNil)))))
theorem sc__law_names : FnScope ["word"] ["word"] (defScope s__law_names) := ⟨rfl, rfl, rfl, by decide +kernel, rfl, by decide +kernel, by decide +kernel⟩
theorem b__law_names {P : Program} {w : World} {K : PySem.W.Frag} {mg : Str → Option Value} {base : Heap} {qual : Str} {f : Addr} {cdv : Value} {A : Around} {outer : List Env} {s : Shared} {H : Hp} {E : XK} {W : Wd K} {cls : Xc} {k : Nat} (hr : Room k (A.deeper (envOfC qual (defScope s__law_names) s.heap.objs.size f cdv)))
    {φ__law_names : List D → W.S → Rs W.S D} (h__law_names : Df P w K mg base W cls k "_law_names" ["word"] φ__law_names) :
    PSs (cxOf (L2.CX P w) P w K mg base ["word"] qual (defScope s__law_names) f cdv A outer s H E) (defBody s__law_names) (TSv K W cls (fun c d _ H' => E c d H') (F__law_names φ__law_names)) := (rs_one (rs_ret (rv_ite (rb_eq hr (rv_item (rv_var 0) rv_int) rv_str) (rv_lst (ra_cons (rv_item (rv_var 0) rv_int) ra_nil)) (rv_add (rv_callD h__law_names hr (Nat.le_refl _) takes_def rfl (ra_cons (rv_item (rv_var 0) rv_int) ra_nil)) (rv_callD h__law_names hr (Nat.le_refl _) takes_def rfl (ra_cons (rv_item (rv_var 0) rv_int) ra_nil))))))

def F__law_dual {S : Type} (φ__law_dual : List D → S → Rs S D) : Fs S := (sRet (vIte (bVal (v2 dEq (v2 dItem (vVar 0) (vCst (.int 0))) (vCst (.str "cable")))) (vVar 0) (vA dTup (aCons (vIte (bVal (v2 dEq (v2 dItem (vVar 0) (vCst (.int 0))) (vCst (.str "row")))) (vCst (.str "side")) (vCst (.str "row"))) (aCons (vCall φ__law_dual (aCons (v2 dItem (vVar 0) (vCst (.int 1))) aNil)) (aCons (vCall φ__law_dual (aCons (v2 dItem (vVar 0) (vCst (.int 2))) aNil)) aNil))))))
theorem sc__law_dual : FnScope ["word"] ["word"] (defScope s__law_dual) := ⟨rfl, rfl, rfl, by decide +kernel, rfl, by decide +kernel, by decide +kernel⟩
theorem b__law_dual {P : Program} {w : World} {K : PySem.W.Frag} {mg : Str → Option Value} {base : Heap} {qual : Str} {f : Addr} {cdv : Value} {A : Around} {outer : List Env} {s : Shared} {H : Hp} {E : XK} {W : Wd K} {cls : Xc} {k : Nat} (hr : Room k (A.deeper (envOfC qual (defScope s__law_dual) s.heap.objs.size f cdv)))
    {φ__law_dual : List D → W.S → Rs W.S D} (h__law_dual : Df P w K mg base W cls k "_law_dual" ["word"] φ__law_dual) :
    PSs (cxOf (L2.CX P w) P w K mg base ["word"] qual (defScope s__law_dual) f cdv A outer s H E) (defBody s__law_dual) (TSv K W cls (fun c d _ H' => E c d H') (F__law_dual φ__law_dual)) := (rs_one (rs_ret (rv_ite (rb_eq hr (rv_item (rv_var 0) rv_int) rv_str) (rv_var 0) (rv_tup (ra_cons (rv_ite (rb_eq hr (rv_item (rv_var 0) rv_int) rv_str) rv_str rv_str) (ra_cons (rv_callD h__law_dual hr (Nat.le_refl _) takes_def rfl (ra_cons (rv_item (rv_var 0) rv_int) ra_nil)) (ra_cons (rv_callD h__law_dual hr (Nat.le_refl _) takes_def rfl (ra_cons (rv_item (rv_var 0) rv_int) ra_nil)) ra_nil)))))))

def F__law_ways {S : Type} (φ__law_ways : List D → S → Rs S D) : Fs S := (sRet (vIte (bVal (v2 dEq (v2 dItem (vVar 0) (vCst (.int 0))) (vCst (.str "cable")))) (vA dLst (aCons (vVar 1) aNil)) (v2 dAdd (v2 dAdd (vA dLst (aCons (vVar 1) aNil)) (vCall φ__law_ways (aCons (v2 dItem (vVar 0) (vCst (.int 1))) (aCons (v2 dAdd (vVar 1) (vA dTup (aCons (vCst (.int 1)) aNil))) aNil)))) (vCall φ__law_ways (aCons (v2 dItem (vVar 0) (vCst (.int 2))) (aCons (v2 dAdd (vVar 1) (vA dTup (aCons (vCst (.int 2)) aNil))) aNil))))))
theorem sc__law_ways : FnScope ["word", "way"] ["word", "way"] (defScope s__law_ways) := ⟨rfl, rfl, rfl, by decide +kernel, rfl, by decide +kernel, by decide +kernel⟩
theorem b__law_ways {P : Program} {w : World} {K : PySem.W.Frag} {mg : Str → Option Value} {base : Heap} {qual : Str} {f : Addr} {cdv : Value} {A : Around} {outer : List Env} {s : Shared} {H : Hp} {E : XK} {W : Wd K} {cls : Xc} {k : Nat} (hr : Room k (A.deeper (envOfC qual (defScope s__law_ways) s.heap.objs.size f cdv)))
    {φ__law_ways : List D → W.S → Rs W.S D} (h__law_ways : Df P w K mg base W cls k "_law_ways" ["word", "way"] φ__law_ways) :
    PSs (cxOf (L2.CX P w) P w K mg base ["word", "way"] qual (defScope s__law_ways) f cdv A outer s H E) (defBody s__law_ways) (TSv K W cls (fun c d _ H' => E c d H') (F__law_ways φ__law_ways)) := (rs_one (rs_ret (rv_ite (rb_eq hr (rv_item (rv_var 0) rv_int) rv_str) (rv_lst (ra_cons (rv_var 1) ra_nil)) (rv_add (rv_add (rv_lst (ra_cons (rv_var 1) ra_nil)) (rv_callD h__law_ways hr (Nat.le_refl _) takes_def rfl (ra_cons (rv_item (rv_var 0) rv_int) (ra_cons (rv_add (rv_var 1) (rv_tup (ra_cons rv_int ra_nil))) ra_nil)))) (rv_callD h__law_ways hr (Nat.le_refl _) takes_def rfl (ra_cons (rv_item (rv_var 0) rv_int) (ra_cons (rv_add (rv_var 1) (rv_tup (ra_cons rv_int ra_nil))) ra_nil)))))))

def F__law_set {S : Type} (φ__law_set : List D → S → Rs S D) : Fs S := (sSeq (sIf (bVal (v2 dEq (vVar 1) (vA dTup aNil))) (sRet (vVar 2)) sNil)
  (sSeq (sSetC 3 (cNew (oList (vVar 0))))
  (sSeq (sSetIx 3 (v2 dItem (vVar 1) (vCst (.int 0))) (vCall φ__law_set (aCons (vIxO 3 (v2 dItem (vVar 1) (vCst (.int 0)))) (aCons (vCut (vVar 1) (some (vCst (.int 1))) none) (aCons (vVar 2) aNil)))))
  (sRet (vTupO 3)))))
theorem sc__law_set : FnScope ["word", "way", "thing", "parts"] ["word", "way", "thing"] (defScope s__law_set) := ⟨rfl, rfl, rfl, by decide +kernel, rfl, by decide +kernel, by decide +kernel⟩
theorem b__law_set {P : Program} {w : World} {K : PySem.W.Frag} {mg : Str → Option Value} {base : Heap} {qual : Str} {f : Addr} {cdv : Value} {A : Around} {outer : List Env} {s : Shared} {H : Hp} {E : XK} {W : Wd K} {cls : Xc} {k : Nat} (hr : Room k (A.deeper (envOfC qual (defScope s__law_set) s.heap.objs.size f cdv)))
    (g_list : mg "list" = none)
    (g_tuple : mg "tuple" = none)
    {φ__law_set : List D → W.S → Rs W.S D} (h__law_set : Df P w K mg base W cls k "_law_set" ["word", "way", "thing"] φ__law_set) :
    PSs (cxOf (L2.CX P w) P w K mg base ["word", "way", "thing", "parts"] qual (defScope s__law_set) f cdv A outer s H E) (defBody s__law_set) (TSv K W cls (fun c d _ H' => E c d H') (F__law_set φ__law_set)) := (rs_cons (rs_if (rb_eq hr (rv_var 1) (rv_tup ra_nil)) (rs_one (rs_ret (rv_var 2))) rs_nil)
  (rs_cons (rs_setC (i := 3) sc__law_set.nd rfl (by first | exact Or.inl rfl | exact Or.inr rfl) (rc_new (ro_list rfl g_list (rv_var 0))))
  (rs_cons (rs_setix (i := 3) rfl (by first | exact Or.inl rfl | exact Or.inr (Or.inl rfl) | exact Or.inr (Or.inr rfl)) (rv_item (rv_var 1) rv_int) (rv_callD h__law_set hr (Nat.le_refl _) takes_def rfl (ra_cons (rv_ixO (i := 3) rfl (by first | exact Or.inl rfl | exact Or.inr (Or.inl rfl) | exact Or.inr (Or.inr rfl)) (rv_item (rv_var 1) rv_int)) (ra_cons (rv_cut (rv_var 1) (ro_some rv_int) ro_none) (ra_cons (rv_var 2) ra_nil)))))
  (rs_one (rs_ret (rv_tupO (i := 3) rfl (by first | exact Or.inl rfl | exact Or.inr (Or.inl rfl) | exact Or.inr (Or.inr rfl)) rfl g_tuple))))))

def F__law_odd {S : Type} (φ__law_of : List D → S → Rs S D) : Fs S := (sSeq (sSet 1 (vA dTup (aCons (vCst (.str "cable")) (aCons (vCst (.int 0)) aNil))))
  (sSeq (sSet 2 (vA dLst (aCons (vCst .none) (aCons (vA dTup aNil) (aCons (vCst (.str "cable")) (aCons (vCst (.int 5)) (aCons (vA dTup (aCons (vCst (.str "cable")) aNil)) (aCons (vA dTup (aCons (vCst (.str "cable")) (aCons (vCst (.int 6)) aNil))) (aCons (vA dTup (aCons (vCst (.str "cable")) (aCons (v1 dNeg (vCst (.int 1))) aNil))) (aCons (vA dTup (aCons (vCst (.str "cable")) (aCons (vCst (.bool true)) aNil))) (aCons (vA dTup (aCons (vCst (.str "cable")) (aCons (vCst .none) aNil))) (aCons (vA dTup (aCons (vCst (.str "cable")) (aCons (vCst (.str "0")) aNil))) (aCons (vA dTup (aCons (vCst (.str "cable")) (aCons (vCst (.int 0)) (aCons (vCst (.int 0)) aNil)))) (aCons (vA dLst (aCons (vCst (.str "cable")) (aCons (vCst (.int 0)) aNil))) aNil))))))))))))))
  (sSeq (sSet 2 (v2 dAdd (vVar 2) (vA dLst (aCons (vA dTup (aCons (vCst (.str "row")) (aCons (vVar 1) aNil))) (aCons (vA dTup (aCons (vCst (.str "side")) (aCons (vVar 1) (aCons (vVar 1) (aCons (vVar 1) aNil))))) (aCons (vA dTup (aCons (vCst (.str "Row")) (aCons (vVar 1) (aCons (vVar 1) aNil)))) (aCons (vA dTup (aCons (vA dLst aNil) (aCons (vVar 1) (aCons (vVar 1) aNil)))) (aCons (vA dTup (aCons (vCst (.dict [])) (aCons (vCst (.int 0)) aNil))) (aCons (vA dTup (aCons (vCst .none) (aCons (vVar 1) (aCons (vVar 1) aNil)))) (aCons (vA dLst (aCons (vCst (.str "row")) (aCons (vVar 1) (aCons (vVar 1) aNil)))) (aCons (vA dTup (aCons (vCst (.int 0)) (aCons (vCst (.int 0)) aNil))) aNil)))))))))))
  (sRet (vCall φ__law_of (aCons (vVar 0) (aCons (v2 dAdd (vVar 2) (vA dLst (aCons (vA dTup (aCons (vCst (.str "row")) (aCons (vCst (.int 0)) aNil))) (aCons (vA dTup (aCons (vCst (.str "cable")) (aCons (vVar 1) (aCons (vVar 1) aNil)))) (aCons (vA dTup (aCons (vCst (.str "side")) aNil)) (aCons (vCst (.dict [])) aNil)))))) aNil)))))))
theorem sc__law_odd : FnScope ["m", "good", "some"] ["m"] (defScope s__law_odd) := ⟨rfl, rfl, rfl, by decide +kernel, rfl, by decide +kernel, by decide +kernel⟩
theorem b__law_odd {P : Program} {w : World} {K : PySem.W.Frag} {mg : Str → Option Value} {base : Heap} {qual : Str} {f : Addr} {cdv : Value} {A : Around} {outer : List Env} {s : Shared} {H : Hp} {E : XK} {W : Wd K} {cls : Xc} {k : Nat} (hr : Room k (A.deeper (envOfC qual (defScope s__law_odd) s.heap.objs.size f cdv)))
    {φ__law_of : List D → W.S → Rs W.S D} (h__law_of : Df P w K mg base W cls k "_law_of" ["m", "some"] φ__law_of) :
    PSs (cxOf (L2.CX P w) P w K mg base ["m", "good", "some"] qual (defScope s__law_odd) f cdv A outer s H E) (defBody s__law_odd) (TSv K W cls (fun c d _ H' => E c d H') (F__law_odd φ__law_of)) := (rs_cons (rs_set (i := 1) sc__law_odd.nd rfl (by first | exact Or.inl rfl | exact Or.inr rfl) (rv_tup (ra_cons rv_str (ra_cons rv_int ra_nil))))
  (rs_cons (rs_set (i := 2) sc__law_odd.nd rfl (by first | exact Or.inl rfl | exact Or.inr rfl) (rv_lst (ra_cons rv_none (ra_cons (rv_tup ra_nil) (ra_cons rv_str (ra_cons rv_int (ra_cons (rv_tup (ra_cons rv_str ra_nil)) (ra_cons (rv_tup (ra_cons rv_str (ra_cons rv_int ra_nil))) (ra_cons (rv_tup (ra_cons rv_str (ra_cons (rv_neg rv_int) ra_nil))) (ra_cons (rv_tup (ra_cons rv_str (ra_cons rv_bool ra_nil))) (ra_cons (rv_tup (ra_cons rv_str (ra_cons rv_none ra_nil))) (ra_cons (rv_tup (ra_cons rv_str (ra_cons rv_str ra_nil))) (ra_cons (rv_tup (ra_cons rv_str (ra_cons rv_int (ra_cons rv_int ra_nil)))) (ra_cons (rv_lst (ra_cons rv_str (ra_cons rv_int ra_nil))) ra_nil))))))))))))))
  (rs_cons (rs_set (i := 2) sc__law_odd.nd rfl (by first | exact Or.inl rfl | exact Or.inr rfl) (rv_add (rv_var 2) (rv_lst (ra_cons (rv_tup (ra_cons rv_str (ra_cons (rv_var 1) ra_nil))) (ra_cons (rv_tup (ra_cons rv_str (ra_cons (rv_var 1) (ra_cons (rv_var 1) (ra_cons (rv_var 1) ra_nil))))) (ra_cons (rv_tup (ra_cons rv_str (ra_cons (rv_var 1) (ra_cons (rv_var 1) ra_nil)))) (ra_cons (rv_tup (ra_cons (rv_lst ra_nil) (ra_cons (rv_var 1) (ra_cons (rv_var 1) ra_nil)))) (ra_cons (rv_tup (ra_cons rv_dic (ra_cons rv_int ra_nil))) (ra_cons (rv_tup (ra_cons rv_none (ra_cons (rv_var 1) (ra_cons (rv_var 1) ra_nil)))) (ra_cons (rv_lst (ra_cons rv_str (ra_cons (rv_var 1) (ra_cons (rv_var 1) ra_nil)))) (ra_cons (rv_tup (ra_cons rv_int (ra_cons rv_int ra_nil))) ra_nil)))))))))))
  (rs_one (rs_ret (rv_callD h__law_of hr (Nat.le_refl _) takes_def rfl (ra_cons (rv_var 0) (ra_cons (rv_add (rv_var 2) (rv_lst (ra_cons (rv_tup (ra_cons rv_str (ra_cons rv_int ra_nil))) (ra_cons (rv_tup (ra_cons rv_str (ra_cons (rv_var 1) (ra_cons (rv_var 1) ra_nil)))) (ra_cons (rv_tup (ra_cons rv_str ra_nil)) (ra_cons rv_dic ra_nil)))))) ra_nil))))))))

def F__law_deep {S : Type}  : Fs S := (sSeq (sSet 2 (vA dTup (aCons (vCst (.str "cable")) (aCons (vCst (.int 0)) aNil))))
  (sSeq (sFor (gNm 3) (iRng (vVar 0)) (sSet 2 (vIte (bVal (vVar 1)) (vA dTup (aCons (v2 dItem (vA dTup (aCons (vCst (.str "row")) (aCons (vCst (.str "side")) aNil))) (v2 dMod (vA dInt (aCons (vVar 3) aNil)) (vCst (.int 2)))) (aCons (vVar 2) (aCons (vA dTup (aCons (vCst (.str "cable")) (aCons (vCst (.int 1)) aNil))) aNil)))) (vA dTup (aCons (v2 dItem (vA dTup (aCons (vCst (.str "side")) (aCons (vCst (.str "row")) aNil))) (v2 dMod (vA dInt (aCons (vVar 3) aNil)) (vCst (.int 2)))) (aCons (vA dTup (aCons (vCst (.str "cable")) (aCons (vCst (.int 2)) aNil))) (aCons (vVar 2) aNil)))))))
  (sRet (vVar 2))))
theorem sc__law_deep : FnScope ["many", "left", "word", "turn"] ["many", "left"] (defScope s__law_deep) := ⟨rfl, rfl, rfl, by decide +kernel, rfl, by decide +kernel, by decide +kernel⟩
theorem b__law_deep {P : Program} {w : World} {K : PySem.W.Frag} {mg : Str → Option Value} {base : Heap} {qual : Str} {f : Addr} {cdv : Value} {A : Around} {outer : List Env} {s : Shared} {H : Hp} {E : XK} {W : Wd K} {cls : Xc} {k : Nat} (hr : Room k (A.deeper (envOfC qual (defScope s__law_deep) s.heap.objs.size f cdv)))
    (g_range : mg "range" = none)
    (g_int : mg "int" = none) :
    PSs (cxOf (L2.CX P w) P w K mg base ["many", "left", "word", "turn"] qual (defScope s__law_deep) f cdv A outer s H E) (defBody s__law_deep) (TSv K W cls (fun c d _ H' => E c d H') (F__law_deep )) := (rs_cons (rs_set (i := 2) sc__law_deep.nd rfl (by first | exact Or.inl rfl | exact Or.inr rfl) (rv_tup (ra_cons rv_str (ra_cons rv_int ra_nil))))
  (rs_cons (rs_for (passes_of rfl) rfl (ri_range rfl g_range (rv_var 0)) (rg_name (i := 3) sc__law_deep.nd rfl (by first | exact Or.inl rfl | exact Or.inr rfl)) (rs_one (rs_set (i := 2) sc__law_deep.nd rfl (by first | exact Or.inl rfl | exact Or.inr rfl) (rv_ite (rb_val (rv_var 1)) (rv_tup (ra_cons (rv_item (rv_tup (ra_cons rv_str (ra_cons rv_str ra_nil))) (rv_mod (rv_bty call_int1 oA_int rfl g_int (by decide +kernel) (ra_cons (rv_var 3) ra_nil)) rv_int)) (ra_cons (rv_var 2) (ra_cons (rv_tup (ra_cons rv_str (ra_cons rv_int ra_nil))) ra_nil)))) (rv_tup (ra_cons (rv_item (rv_tup (ra_cons rv_str (ra_cons rv_str ra_nil))) (rv_mod (rv_bty call_int1 oA_int rfl g_int (by decide +kernel) (ra_cons (rv_var 3) ra_nil)) rv_int)) (ra_cons (rv_tup (ra_cons rv_str (ra_cons rv_int ra_nil))) (ra_cons (rv_var 2) ra_nil))))))))
  (rs_one (rs_ret (rv_var 2)))))

def F__law_refused_right {S : Type} (φ__law_ways : List D → S → Rs S D) (φ__law_of : List D → S → Rs S D) (φ__law_odd : List D → S → Rs S D) (φ__law_set : List D → S → Rs S D) (φ_dual_word : List D → S → Rs S D) (φ_how_many_cables : List D → S → Rs S D) (φ_need_named_word : List D → S → Rs S D) (φ_word_values : List D → S → Rs S D) (φ_word_corners : List D → S → Rs S D) (φ_plain_word : List D → S → Rs S D) (φ_word_paper : List D → S → Rs S D) (φ_are_words_one : List D → S → Rs S D) (φ_is_word_never_weaker : List D → S → Rs S D) (φ_check_word_paper : List D → S → Rs S D) (φ__law_same : List D → S → Rs S D) : Fs S := (sSeq (sSet 2 (vCall φ__law_ways (aCons (vVar 1) (aCons (vA dTup aNil) aNil))))
  (sSeq (sSet 3 (vCall φ__law_of (aCons (vVar 0) (aCons (vVar 2) aNil))))
  (sSeq (sUnp (gTp [(gNm 5), (gNm 6)]) (vA dTup (aCons (vCall φ__law_set (aCons (vVar 1) (aCons (vVar 3) (aCons (vCall φ__law_odd (aCons (vVar 0) aNil)) aNil)))) (aCons (vA dTup (aCons (vCst (.str "cable")) (aCons (vCst (.int 1)) aNil))) aNil))))
  (sSeq (sSet 4 (vA dTup (aCons (vCst (.str "row")) (aCons (vVar 5) (aCons (vCall φ__law_odd (aCons (vVar 0) aNil)) aNil)))))
  (sSeq (sFor (gTp [(gNm 7), (gNm 8)]) (iTp (vA dTup (aCons (vA dTup (aCons (vVar 5) (aCons (vVar 3) aNil))) (aCons (vA dTup (aCons (vVar 4) (aCons (v2 dAdd (vA dTup (aCons (vCst (.int 1)) aNil)) (vVar 3)) aNil))) (aCons (vA dTup (aCons (vA dTup (aCons (vCst (.str "side")) (aCons (vVar 6) (aCons (vVar 5) aNil)))) (aCons (v2 dAdd (vA dTup (aCons (vCst (.int 2)) aNil)) (vVar 3)) aNil))) aNil))))) (sSeq (sSet 9 (vA dLst (aCons (vSaid "BadWord" "answer" "word" (vCall φ_need_named_word (aCons (vVar 7) aNil))) (aCons (vSaid "BadWord" "answer" "word" (vCall φ_how_many_cables (aCons (vVar 7) aNil))) (aCons (vSaid "BadWord" "answer" "word" (vCall φ_dual_word (aCons (vVar 7) aNil))) aNil)))))
  (sSeq (sSet 9 (v2 dAdd (vVar 9) (vA dLst (aCons (vSaid "BadWord" "answer" "word" (vCall φ_plain_word (aCons (vVar 7) aNil))) (aCons (vSaid "BadWord" "answer" "word" (vCall φ_word_corners (aCons (vVar 7) aNil))) (aCons (vSaid "BadWord" "answer" "word" (vCall φ_word_values (aCons (vVar 7) (aCons (vCst .none) (aCons (vCst .none) aNil))))) aNil))))))
  (sSeq (sSet 9 (v2 dAdd (vVar 9) (vA dLst (aCons (vSaid "BadWord" "answer" "word" (vCall φ_is_word_never_weaker (aCons (vVar 7) (aCons (vCst .none) aNil)))) (aCons (vSaid "BadWord" "answer" "word" (vCall φ_are_words_one (aCons (vVar 6) (aCons (vVar 7) aNil)))) (aCons (vSaid "BadWord" "answer" "word" (vCall φ_word_paper (aCons (vVar 7) (aCons (vCst .none) aNil)))) aNil))))))
  (sSeq (sSet 9 (v2 dAdd (vVar 9) (vA dLst (aCons (vSaid "BadWord" "answer" "word" (vCall φ_check_word_paper (aCons (vVar 7) (aCons (vCst .none) (aCons (vCst .none) aNil))))) (aCons (vSaid "BadWord" "answer" "word" (vCall φ_check_word_paper (aCons (vVar 6) (aCons (vVar 7) (aCons (vCst .none) aNil))))) aNil)))))
  (sIf (bNot (bVal (vCall φ__law_same (aCons (vA dTuple (aCons (vVar 9) aNil)) (aCons (v2 dMul (vA dTup (aCons (vA dTup (aCons (vCst (.str "word")) (aCons (vVar 8) aNil))) aNil)) (vCst (.int 11))) aNil))))) (sRet (vCst (.bool false))) sNil))))))
  (sRet (vCst (.bool true))))))))
theorem sc__law_refused_right : FnScope ["m", "word", "ways", "way", "wide", "bad", "good", "one", "place", "told"] ["m", "word"] (defScope s__law_refused_right) := ⟨rfl, rfl, rfl, by decide +kernel, rfl, by decide +kernel, by decide +kernel⟩
theorem b__law_refused_right {P : Program} {w : World} {K : PySem.W.Frag} {mg : Str → Option Value} {base : Heap} {qual : Str} {f : Addr} {cdv : Value} {A : Around} {outer : List Env} {s : Shared} {H : Hp} {E : XK} {W : Wd K} {cls : Xc} {k : Nat} (hr : Room (k + 2) (A.deeper (envOfC qual (defScope s__law_refused_right) s.heap.objs.size f cdv)))
    (g_tuple : mg "tuple" = none)
    {φ__law_ways : List D → W.S → Rs W.S D} (h__law_ways : Df P w K mg base W cls k "_law_ways" ["word", "way"] φ__law_ways)
    {φ__law_of : List D → W.S → Rs W.S D} (h__law_of : Df P w K mg base W cls k "_law_of" ["m", "some"] φ__law_of)
    {φ__law_odd : List D → W.S → Rs W.S D} (h__law_odd : Df P w K mg base W cls k "_law_odd" ["m"] φ__law_odd)
    {φ__law_set : List D → W.S → Rs W.S D} (h__law_set : Df P w K mg base W cls k "_law_set" ["word", "way", "thing"] φ__law_set)
    {φ_dual_word : List D → W.S → Rs W.S D} (h_dual_word : Df P w K mg base W cls k "dual_word" ["word"] φ_dual_word)
    {φ_how_many_cables : List D → W.S → Rs W.S D} (h_how_many_cables : Df P w K mg base W cls k "how_many_cables" ["word"] φ_how_many_cables)
    {φ_need_named_word : List D → W.S → Rs W.S D} (h_need_named_word : Df P w K mg base W cls k "need_named_word" ["word"] φ_need_named_word)
    {φ_word_values : List D → W.S → Rs W.S D} (h_word_values : Df P w K mg base W cls k "word_values" ["word", "strengths", "price"] φ_word_values)
    {φ_word_corners : List D → W.S → Rs W.S D} (h_word_corners : Df P w K mg base W cls k "word_corners" ["word"] φ_word_corners)
    {φ_plain_word : List D → W.S → Rs W.S D} (h_plain_word : Df P w K mg base W cls k "plain_word" ["word"] φ_plain_word)
    {φ_word_paper : List D → W.S → Rs W.S D} (h_word_paper : Df P w K mg base W cls k "word_paper" ["one", "other"] φ_word_paper)
    {φ_are_words_one : List D → W.S → Rs W.S D} (h_are_words_one : Df P w K mg base W cls k "are_words_one" ["one", "other"] φ_are_words_one)
    {φ_is_word_never_weaker : List D → W.S → Rs W.S D} (h_is_word_never_weaker : Df P w K mg base W cls k "is_word_never_weaker" ["one", "other"] φ_is_word_never_weaker)
    {φ_check_word_paper : List D → W.S → Rs W.S D} (h_check_word_paper : Df P w K mg base W cls k "check_word_paper" ["one", "other", "paper"] φ_check_word_paper)
    {φ__law_same : List D → W.S → Rs W.S D} (h__law_same : Df P w K mg base W cls k "_law_same" ["one", "other"] φ__law_same)
    {C_BadWord I_BadWord : Addr} (T_BadWord : PySem.WordX.WordTxt P K mg "BadWord" C_BadWord I_BadWord) (c_BadWord : cls "BadWord" = some (C_BadWord, ("place" : Str)))
    (SD__law_said : SaidD P K mg "_law_said" "call" "error" "BadWord" "answer" "word" C_BadWord) {cc PP : Addr} (TB : LamX.TabB base mg cc PP) (hcode : cdv = .ref cc) (hTab : WTab W PP ((qual ++ ".<locals>.") ++ "<lambda>")) :
    PSs (cxOf (L2.CX P w) P w K mg base ["m", "word", "ways", "way", "wide", "bad", "good", "one", "place", "told"] qual (defScope s__law_refused_right) f cdv A outer s H E) (defBody s__law_refused_right) (TSv K W cls (fun c d _ H' => E c d H') (F__law_refused_right φ__law_ways φ__law_of φ__law_odd φ__law_set φ_dual_word φ_how_many_cables φ_need_named_word φ_word_values φ_word_corners φ_plain_word φ_word_paper φ_are_words_one φ_is_word_never_weaker φ_check_word_paper φ__law_same)) := (rs_cons (rs_set (i := 2) sc__law_refused_right.nd rfl (by first | exact Or.inl rfl | exact Or.inr rfl) (rv_callD h__law_ways hr (Nat.le_add_right _ _) takes_def rfl (ra_cons (rv_var 1) (ra_cons (rv_tup ra_nil) ra_nil))))
  (rs_cons (rs_set (i := 3) sc__law_refused_right.nd rfl (by first | exact Or.inl rfl | exact Or.inr rfl) (rv_callD h__law_of hr (Nat.le_add_right _ _) takes_def rfl (ra_cons (rv_var 0) (ra_cons (rv_var 2) ra_nil))))
  (rs_cons (rs_unp (rv_tup (ra_cons (rv_callD h__law_set hr (Nat.le_add_right _ _) takes_def rfl (ra_cons (rv_var 1) (ra_cons (rv_var 3) (ra_cons (rv_callD h__law_odd hr (Nat.le_add_right _ _) takes_def rfl (ra_cons (rv_var 0) ra_nil)) ra_nil)))) (ra_cons (rv_tup (ra_cons rv_str (ra_cons rv_int ra_nil))) ra_nil))) (rg_tup rfl (rgs_cons (rg_name (i := 5) sc__law_refused_right.nd rfl (by first | exact Or.inl rfl | exact Or.inr rfl)) (rgs_cons (rg_name (i := 6) sc__law_refused_right.nd rfl (by first | exact Or.inl rfl | exact Or.inr rfl)) rgs_nil))))
  (rs_cons (rs_set (i := 4) sc__law_refused_right.nd rfl (by first | exact Or.inl rfl | exact Or.inr rfl) (rv_tup (ra_cons rv_str (ra_cons (rv_var 5) (ra_cons (rv_callD h__law_odd hr (Nat.le_add_right _ _) takes_def rfl (ra_cons (rv_var 0) ra_nil)) ra_nil)))))
  (rs_cons (rs_for (passes_of rfl) rfl (ri_tup (rv_tup (ra_cons (rv_tup (ra_cons (rv_var 5) (ra_cons (rv_var 3) ra_nil))) (ra_cons (rv_tup (ra_cons (rv_var 4) (ra_cons (rv_add (rv_tup (ra_cons rv_int ra_nil)) (rv_var 3)) ra_nil))) (ra_cons (rv_tup (ra_cons (rv_tup (ra_cons rv_str (ra_cons (rv_var 6) (ra_cons (rv_var 5) ra_nil)))) (ra_cons (rv_add (rv_tup (ra_cons rv_int ra_nil)) (rv_var 3)) ra_nil))) ra_nil))))) (rg_tup rfl (rgs_cons (rg_name (i := 7) sc__law_refused_right.nd rfl (by first | exact Or.inl rfl | exact Or.inr rfl)) (rgs_cons (rg_name (i := 8) sc__law_refused_right.nd rfl (by first | exact Or.inl rfl | exact Or.inr rfl)) rgs_nil))) (rs_cons (rs_set (i := 9) sc__law_refused_right.nd rfl (by first | exact Or.inl rfl | exact Or.inr rfl) (rv_lst (ra_cons (rv_said (ns := []) T_BadWord c_BadWord SD__law_said hTab TB hcode hr rfl (LamD.lamS_by (by first | rfl | decide +kernel)) (lamDv0 rfl rfl (fun _ _ _ _ _ _ _ _ => rfl)) (fun _ _ _ _ _ _ _ hrl => (rv_callD h_need_named_word hrl (Nat.le_refl _) (takes_of rfl rfl rfl rfl) rfl (ra_cons (rv_var 7) ra_nil)))) (ra_cons (rv_said (ns := ["x"]) T_BadWord c_BadWord SD__law_said hTab TB hcode hr rfl (LamD.lamS_by (by first | rfl | decide +kernel)) (lamDv1 rfl rfl (fun _ _ _ _ _ _ _ _ _ _ _ ht => BindsTo.of_defaults rfl ht rfl rfl rfl)) (fun _ _ _ _ _ _ _ hrl => (rv_callD h_how_many_cables hrl (Nat.le_refl _) (takes_of rfl rfl rfl rfl) rfl (ra_cons (rv_var 7) ra_nil)))) (ra_cons (rv_said (ns := ["x", "y"]) T_BadWord c_BadWord SD__law_said hTab TB hcode hr rfl (LamD.lamS_by (by first | rfl | decide +kernel)) (lamDv2 rfl rfl (fun _ _ _ _ _ _ _ _ _ _ _ _ ht => BindsTo.of_defaults rfl ht rfl rfl rfl)) (fun _ _ _ _ _ _ _ hrl => (rv_callD h_dual_word hrl (Nat.le_refl _) (takes_of rfl rfl rfl rfl) rfl (ra_cons (rv_var 7) ra_nil)))) ra_nil)))))
  (rs_cons (rs_set (i := 9) sc__law_refused_right.nd rfl (by first | exact Or.inl rfl | exact Or.inr rfl) (rv_add (rv_var 9) (rv_lst (ra_cons (rv_said (ns := []) T_BadWord c_BadWord SD__law_said hTab TB hcode hr rfl (LamD.lamS_by (by first | rfl | decide +kernel)) (lamDv0 rfl rfl (fun _ _ _ _ _ _ _ _ => rfl)) (fun _ _ _ _ _ _ _ hrl => (rv_callD h_plain_word hrl (Nat.le_refl _) (takes_of rfl rfl rfl rfl) rfl (ra_cons (rv_var 7) ra_nil)))) (ra_cons (rv_said (ns := ["x"]) T_BadWord c_BadWord SD__law_said hTab TB hcode hr rfl (LamD.lamS_by (by first | rfl | decide +kernel)) (lamDv1 rfl rfl (fun _ _ _ _ _ _ _ _ _ _ _ ht => BindsTo.of_defaults rfl ht rfl rfl rfl)) (fun _ _ _ _ _ _ _ hrl => (rv_callD h_word_corners hrl (Nat.le_refl _) (takes_of rfl rfl rfl rfl) rfl (ra_cons (rv_var 7) ra_nil)))) (ra_cons (rv_said (ns := ["x", "y"]) T_BadWord c_BadWord SD__law_said hTab TB hcode hr rfl (LamD.lamS_by (by first | rfl | decide +kernel)) (lamDv2 rfl rfl (fun _ _ _ _ _ _ _ _ _ _ _ _ ht => BindsTo.of_defaults rfl ht rfl rfl rfl)) (fun _ _ _ _ _ _ _ hrl => (rv_callD h_word_values hrl (Nat.le_refl _) (takes_of rfl rfl rfl rfl) rfl (ra_cons (rv_var 7) (ra_cons rv_none (ra_cons rv_none ra_nil)))))) ra_nil))))))
  (rs_cons (rs_set (i := 9) sc__law_refused_right.nd rfl (by first | exact Or.inl rfl | exact Or.inr rfl) (rv_add (rv_var 9) (rv_lst (ra_cons (rv_said (ns := []) T_BadWord c_BadWord SD__law_said hTab TB hcode hr rfl (LamD.lamS_by (by first | rfl | decide +kernel)) (lamDv0 rfl rfl (fun _ _ _ _ _ _ _ _ => rfl)) (fun _ _ _ _ _ _ _ hrl => (rv_callD h_is_word_never_weaker hrl (Nat.le_refl _) (takes_of rfl rfl rfl rfl) rfl (ra_cons (rv_var 7) (ra_cons rv_none ra_nil))))) (ra_cons (rv_said (ns := ["x"]) T_BadWord c_BadWord SD__law_said hTab TB hcode hr rfl (LamD.lamS_by (by first | rfl | decide +kernel)) (lamDv1 rfl rfl (fun _ _ _ _ _ _ _ _ _ _ _ ht => BindsTo.of_defaults rfl ht rfl rfl rfl)) (fun _ _ _ _ _ _ _ hrl => (rv_callD h_are_words_one hrl (Nat.le_refl _) (takes_of rfl rfl rfl rfl) rfl (ra_cons (rv_var 6) (ra_cons (rv_var 7) ra_nil))))) (ra_cons (rv_said (ns := ["x", "y"]) T_BadWord c_BadWord SD__law_said hTab TB hcode hr rfl (LamD.lamS_by (by first | rfl | decide +kernel)) (lamDv2 rfl rfl (fun _ _ _ _ _ _ _ _ _ _ _ _ ht => BindsTo.of_defaults rfl ht rfl rfl rfl)) (fun _ _ _ _ _ _ _ hrl => (rv_callD h_word_paper hrl (Nat.le_refl _) (takes_of rfl rfl rfl rfl) rfl (ra_cons (rv_var 7) (ra_cons rv_none ra_nil))))) ra_nil))))))
  (rs_cons (rs_set (i := 9) sc__law_refused_right.nd rfl (by first | exact Or.inl rfl | exact Or.inr rfl) (rv_add (rv_var 9) (rv_lst (ra_cons (rv_said (ns := []) T_BadWord c_BadWord SD__law_said hTab TB hcode hr rfl (LamD.lamS_by (by first | rfl | decide +kernel)) (lamDv0 rfl rfl (fun _ _ _ _ _ _ _ _ => rfl)) (fun _ _ _ _ _ _ _ hrl => (rv_callD h_check_word_paper hrl (Nat.le_refl _) (takes_of rfl rfl rfl rfl) rfl (ra_cons (rv_var 7) (ra_cons rv_none (ra_cons rv_none ra_nil)))))) (ra_cons (rv_said (ns := ["x"]) T_BadWord c_BadWord SD__law_said hTab TB hcode hr rfl (LamD.lamS_by (by first | rfl | decide +kernel)) (lamDv1 rfl rfl (fun _ _ _ _ _ _ _ _ _ _ _ ht => BindsTo.of_defaults rfl ht rfl rfl rfl)) (fun _ _ _ _ _ _ _ hrl => (rv_callD h_check_word_paper hrl (Nat.le_refl _) (takes_of rfl rfl rfl rfl) rfl (ra_cons (rv_var 6) (ra_cons (rv_var 7) (ra_cons rv_none ra_nil)))))) ra_nil)))))
  (rs_one (rs_if (rb_not (rb_val (rv_callD h__law_same hr (Nat.le_add_right _ _) takes_def rfl (ra_cons (rv_bty call_tuple_of oA_tuple rfl g_tuple (by decide +kernel) (ra_cons (rv_var 9) ra_nil)) (ra_cons (rv_mul (rv_tup (ra_cons (rv_tup (ra_cons rv_str (ra_cons (rv_var 8) ra_nil))) ra_nil)) rv_int) ra_nil))))) (rs_one (rs_ret rv_bool)) rs_nil)))))))
  (rs_one (rs_ret rv_bool)))))))

def F__law_bounds_right {S : Type} (φ__law_next : List D → S → Rs S D) (φ_how_many_cables : List D → S → Rs S D) (φ_need_named_word : List D → S → Rs S D) (φ__law_deep : List D → S → Rs S D) (φ_dual_word : List D → S → Rs S D) : Fs S := (sSeq (sSet 1 (vA dTup (aCons (vCst (.str "cable")) (aCons (vCst (.int 3)) aNil))))
  (sSeq (sFor (gNm 2) (iRng (vCst (.int 39))) (sSet 1 (vIte (bAnd (bVal (v2 dEq (vCall φ__law_next (aCons (vVar 0) (aCons (vCst (.int 2)) aNil))) (vCst (.int 0)))) (bVal (v2 dLt (vVar 2) (vCst (.int 30))))) (vA dTup (aCons (vCst (.str "side")) (aCons (vVar 1) (aCons (vA dTup (aCons (vCst (.str "cable")) (aCons (vCst (.int 4)) aNil))) aNil)))) (vA dTup (aCons (vCst (.str "row")) (aCons (vA dTup (aCons (vCst (.str "cable")) (aCons (vCst (.int 5)) aNil))) (aCons (vVar 1) aNil)))))))
  (sSeq (sIf (bOr (bVal (v2 dNe (vCall φ_how_many_cables (aCons (vVar 1) aNil)) (vCst (.int 40)))) (bVal (v2 dNe (vCall φ_need_named_word (aCons (vVar 1) aNil)) (vVar 1)))) (sRet (vCst (.bool false))) sNil)
  (sSeq (sIf (bVal (v2 dNe (vSaid "BadWord" "answer" "word" (vCall φ_need_named_word (aCons (vA dTup (aCons (vCst (.str "side")) (aCons (vVar 1) (aCons (vA dTup (aCons (vCst (.str "cable")) (aCons (vCst (.int 0)) aNil))) aNil)))) aNil))) (vA dTup (aCons (vCst (.str "word")) (aCons (vCst (.str "many")) aNil))))) (sRet (vCst (.bool false))) sNil)
  (sSeq (sIf (bOr (bVal (v2 dNe (vCall φ_how_many_cables (aCons (vCall φ__law_deep (aCons (vCst (.int 39)) (aCons (vCst (.bool true)) aNil))) aNil)) (vCst (.int 40)))) (bVal (v2 dNe (vCall φ_how_many_cables (aCons (vCall φ__law_deep (aCons (vCst (.int 39)) (aCons (vCst (.bool false)) aNil))) aNil)) (vCst (.int 40))))) (sRet (vCst (.bool false))) sNil)
  (sSeq (sSet 3 (vA dLst (aCons (vSaid "BadWord" "answer" "word" (vCall φ_need_named_word (aCons (vCall φ__law_deep (aCons (vCst (.int 40)) (aCons (vCst (.bool false)) aNil))) aNil))) (aCons (vSaid "BadWord" "answer" "word" (vCall φ_need_named_word (aCons (vCall φ__law_deep (aCons (vCst (.int 41)) (aCons (vCst (.bool true)) aNil))) aNil))) (aCons (vSaid "BadWord" "answer" "word" (vCall φ_need_named_word (aCons (vCall φ__law_deep (aCons (vCst (.int 41)) (aCons (vCst (.bool false)) aNil))) aNil))) aNil)))))
  (sSeq (sIf (bVal (v2 dNe (vVar 3) (vA dLst (aCons (vA dTup (aCons (vCst (.str "word")) (aCons (vCst (.str "many")) aNil))) (aCons (vA dTup (aCons (vCst (.str "word")) (aCons (v2 dMul (vA dTup (aCons (vCst (.int 1)) aNil)) (vCst (.int 41))) aNil))) (aCons (vA dTup (aCons (vCst (.str "word")) (aCons (v2 dAdd (v2 dMul (vA dTup (aCons (vCst (.int 2)) aNil)) (vCst (.int 40))) (vA dTup (aCons (vCst (.int 1)) aNil))) aNil))) aNil)))))) (sRet (vCst (.bool false))) sNil)
  (sSeq (sSet 4 (vA dTup (aCons (vCst (.str "row")) (aCons (vVar 1) (aCons (vA dTup (aCons (vCst (.str "row")) (aCons (vA dTup (aCons (vCst (.str "cable")) (aCons (vCst (.int 1)) aNil))) (aCons (vCst .none) aNil)))) aNil)))))
  (sSeq (sIf (bOr (bVal (v2 dNe (vSaid "BadWord" "answer" "word" (vCall φ_need_named_word (aCons (vVar 4) aNil))) (vA dTup (aCons (vCst (.str "word")) (aCons (vCst (.str "many")) aNil))))) (bVal (v2 dNe (vSaid "BadWord" "answer" "word" (vCall φ_dual_word (aCons (vA dTup (aCons (vCst (.str "row")) (aCons (vVar 1) (aCons (vCst .none) aNil)))) aNil))) (vA dTup (aCons (vCst (.str "word")) (aCons (vA dTup (aCons (vCst (.int 2)) aNil)) aNil)))))) (sRet (vCst (.bool false))) sNil)
  (sSeq (sSet 5 (vA dTup (aCons (vCst (.str "cable")) (aCons (vCst (.int 0)) aNil))))
  (sSeq (sFor (gNm 2) (iRng (vCst (.int 6))) (sSet 5 (vA dTup (aCons (vCst (.str "row")) (aCons (vVar 5) (aCons (vVar 5) aNil))))))
  (sRet (vIte (bVal (v2 dEq (vSaid "BadWord" "answer" "word" (vCall φ_need_named_word (aCons (vVar 5) aNil))) (vA dTup (aCons (vCst (.str "word")) (aCons (vCst (.str "many")) aNil))))) (v2 dEq (vSaid "BadWord" "answer" "word" (vCall φ_how_many_cables (aCons (vA dTup (aCons (vCst (.str "side")) (aCons (vCst .none) (aCons (vVar 5) aNil)))) aNil))) (vA dTup (aCons (vCst (.str "word")) (aCons (vA dTup (aCons (vCst (.int 1)) aNil)) aNil)))) (vCst (.bool false)))))))))))))))
theorem sc__law_bounds_right : FnScope ["m", "word", "turn", "told", "bad", "twin"] ["m"] (defScope s__law_bounds_right) := ⟨rfl, rfl, rfl, by decide +kernel, rfl, by decide +kernel, by decide +kernel⟩
theorem b__law_bounds_right {P : Program} {w : World} {K : PySem.W.Frag} {mg : Str → Option Value} {base : Heap} {qual : Str} {f : Addr} {cdv : Value} {A : Around} {outer : List Env} {s : Shared} {H : Hp} {E : XK} {W : Wd K} {cls : Xc} {k : Nat} (hr : Room (k + 2) (A.deeper (envOfC qual (defScope s__law_bounds_right) s.heap.objs.size f cdv)))
    (g_range : mg "range" = none)
    {φ__law_next : List D → W.S → Rs W.S D} (h__law_next : Df P w K mg base W cls k "_law_next" ["m", "many"] φ__law_next)
    {φ_how_many_cables : List D → W.S → Rs W.S D} (h_how_many_cables : Df P w K mg base W cls k "how_many_cables" ["word"] φ_how_many_cables)
    {φ_need_named_word : List D → W.S → Rs W.S D} (h_need_named_word : Df P w K mg base W cls k "need_named_word" ["word"] φ_need_named_word)
    {φ__law_deep : List D → W.S → Rs W.S D} (h__law_deep : Df P w K mg base W cls k "_law_deep" ["many", "left"] φ__law_deep)
    {φ_dual_word : List D → W.S → Rs W.S D} (h_dual_word : Df P w K mg base W cls k "dual_word" ["word"] φ_dual_word)
    {C_BadWord I_BadWord : Addr} (T_BadWord : PySem.WordX.WordTxt P K mg "BadWord" C_BadWord I_BadWord) (c_BadWord : cls "BadWord" = some (C_BadWord, ("place" : Str)))
    (SD__law_said : SaidD P K mg "_law_said" "call" "error" "BadWord" "answer" "word" C_BadWord) {cc PP : Addr} (TB : LamX.TabB base mg cc PP) (hcode : cdv = .ref cc) (hTab : WTab W PP ((qual ++ ".<locals>.") ++ "<lambda>")) :
    PSs (cxOf (L2.CX P w) P w K mg base ["m", "word", "turn", "told", "bad", "twin"] qual (defScope s__law_bounds_right) f cdv A outer s H E) (defBody s__law_bounds_right) (TSv K W cls (fun c d _ H' => E c d H') (F__law_bounds_right φ__law_next φ_how_many_cables φ_need_named_word φ__law_deep φ_dual_word)) := (rs_cons (rs_set (i := 1) sc__law_bounds_right.nd rfl (by first | exact Or.inl rfl | exact Or.inr rfl) (rv_tup (ra_cons rv_str (ra_cons rv_int ra_nil))))
  (rs_cons (rs_for (passes_of rfl) rfl (ri_range rfl g_range rv_int) (rg_name (i := 2) sc__law_bounds_right.nd rfl (by first | exact Or.inl rfl | exact Or.inr rfl)) (rs_one (rs_set (i := 1) sc__law_bounds_right.nd rfl (by first | exact Or.inl rfl | exact Or.inr rfl) (rv_ite (rb_w (rw_and (rb_eq hr (rv_callD h__law_next hr (Nat.le_add_right _ _) takes_def rfl (ra_cons (rv_var 0) (ra_cons rv_int ra_nil))) rv_int) (rw_and1 (rb_lt (rv_var 2) rv_int)))) (rv_tup (ra_cons rv_str (ra_cons (rv_var 1) (ra_cons (rv_tup (ra_cons rv_str (ra_cons rv_int ra_nil))) ra_nil)))) (rv_tup (ra_cons rv_str (ra_cons (rv_tup (ra_cons rv_str (ra_cons rv_int ra_nil))) (ra_cons (rv_var 1) ra_nil))))))))
  (rs_cons (rs_if (rb_w (rw_or (rb_ne hr (rv_callD h_how_many_cables hr (Nat.le_add_right _ _) takes_def rfl (ra_cons (rv_var 1) ra_nil)) rv_int) (rw_or1 (rb_ne hr (rv_callD h_need_named_word hr (Nat.le_add_right _ _) takes_def rfl (ra_cons (rv_var 1) ra_nil)) (rv_var 1))))) (rs_one (rs_ret rv_bool)) rs_nil)
  (rs_cons (rs_if (rb_ne hr (rv_said (ns := []) T_BadWord c_BadWord SD__law_said hTab TB hcode hr rfl (LamD.lamS_by (by first | rfl | decide +kernel)) (lamDv0 rfl rfl (fun _ _ _ _ _ _ _ _ => rfl)) (fun _ _ _ _ _ _ _ hrl => (rv_callD h_need_named_word hrl (Nat.le_refl _) (takes_of rfl rfl rfl rfl) rfl (ra_cons (rv_tup (ra_cons rv_str (ra_cons (rv_var 1) (ra_cons (rv_tup (ra_cons rv_str (ra_cons rv_int ra_nil))) ra_nil)))) ra_nil)))) (rv_tup (ra_cons rv_str (ra_cons rv_str ra_nil)))) (rs_one (rs_ret rv_bool)) rs_nil)
  (rs_cons (rs_if (rb_w (rw_or (rb_ne hr (rv_callD h_how_many_cables hr (Nat.le_add_right _ _) takes_def rfl (ra_cons (rv_callD h__law_deep hr (Nat.le_add_right _ _) takes_def rfl (ra_cons rv_int (ra_cons rv_bool ra_nil))) ra_nil)) rv_int) (rw_or1 (rb_ne hr (rv_callD h_how_many_cables hr (Nat.le_add_right _ _) takes_def rfl (ra_cons (rv_callD h__law_deep hr (Nat.le_add_right _ _) takes_def rfl (ra_cons rv_int (ra_cons rv_bool ra_nil))) ra_nil)) rv_int)))) (rs_one (rs_ret rv_bool)) rs_nil)
  (rs_cons (rs_set (i := 3) sc__law_bounds_right.nd rfl (by first | exact Or.inl rfl | exact Or.inr rfl) (rv_lst (ra_cons (rv_said (ns := []) T_BadWord c_BadWord SD__law_said hTab TB hcode hr rfl (LamD.lamS_by (by first | rfl | decide +kernel)) (lamDv0 rfl rfl (fun _ _ _ _ _ _ _ _ => rfl)) (fun _ _ _ _ _ _ _ hrl => (rv_callD h_need_named_word hrl (Nat.le_refl _) (takes_of rfl rfl rfl rfl) rfl (ra_cons (rv_callD h__law_deep hrl (Nat.le_refl _) (takes_of rfl rfl rfl rfl) rfl (ra_cons rv_int (ra_cons rv_bool ra_nil))) ra_nil)))) (ra_cons (rv_said (ns := ["x"]) T_BadWord c_BadWord SD__law_said hTab TB hcode hr rfl (LamD.lamS_by (by first | rfl | decide +kernel)) (lamDv1 rfl rfl (fun _ _ _ _ _ _ _ _ _ _ _ ht => BindsTo.of_defaults rfl ht rfl rfl rfl)) (fun _ _ _ _ _ _ _ hrl => (rv_callD h_need_named_word hrl (Nat.le_refl _) (takes_of rfl rfl rfl rfl) rfl (ra_cons (rv_callD h__law_deep hrl (Nat.le_refl _) (takes_of rfl rfl rfl rfl) rfl (ra_cons rv_int (ra_cons rv_bool ra_nil))) ra_nil)))) (ra_cons (rv_said (ns := ["x", "y"]) T_BadWord c_BadWord SD__law_said hTab TB hcode hr rfl (LamD.lamS_by (by first | rfl | decide +kernel)) (lamDv2 rfl rfl (fun _ _ _ _ _ _ _ _ _ _ _ _ ht => BindsTo.of_defaults rfl ht rfl rfl rfl)) (fun _ _ _ _ _ _ _ hrl => (rv_callD h_need_named_word hrl (Nat.le_refl _) (takes_of rfl rfl rfl rfl) rfl (ra_cons (rv_callD h__law_deep hrl (Nat.le_refl _) (takes_of rfl rfl rfl rfl) rfl (ra_cons rv_int (ra_cons rv_bool ra_nil))) ra_nil)))) ra_nil)))))
  (rs_cons (rs_if (rb_ne hr (rv_var 3) (rv_lst (ra_cons (rv_tup (ra_cons rv_str (ra_cons rv_str ra_nil))) (ra_cons (rv_tup (ra_cons rv_str (ra_cons (rv_mul (rv_tup (ra_cons rv_int ra_nil)) rv_int) ra_nil))) (ra_cons (rv_tup (ra_cons rv_str (ra_cons (rv_add (rv_mul (rv_tup (ra_cons rv_int ra_nil)) rv_int) (rv_tup (ra_cons rv_int ra_nil))) ra_nil))) ra_nil))))) (rs_one (rs_ret rv_bool)) rs_nil)
  (rs_cons (rs_set (i := 4) sc__law_bounds_right.nd rfl (by first | exact Or.inl rfl | exact Or.inr rfl) (rv_tup (ra_cons rv_str (ra_cons (rv_var 1) (ra_cons (rv_tup (ra_cons rv_str (ra_cons (rv_tup (ra_cons rv_str (ra_cons rv_int ra_nil))) (ra_cons rv_none ra_nil)))) ra_nil)))))
  (rs_cons (rs_if (rb_w (rw_or (rb_ne hr (rv_said (ns := []) T_BadWord c_BadWord SD__law_said hTab TB hcode hr rfl (LamD.lamS_by (by first | rfl | decide +kernel)) (lamDv0 rfl rfl (fun _ _ _ _ _ _ _ _ => rfl)) (fun _ _ _ _ _ _ _ hrl => (rv_callD h_need_named_word hrl (Nat.le_refl _) (takes_of rfl rfl rfl rfl) rfl (ra_cons (rv_var 4) ra_nil)))) (rv_tup (ra_cons rv_str (ra_cons rv_str ra_nil)))) (rw_or1 (rb_ne hr (rv_said (ns := ["x"]) T_BadWord c_BadWord SD__law_said hTab TB hcode hr rfl (LamD.lamS_by (by first | rfl | decide +kernel)) (lamDv1 rfl rfl (fun _ _ _ _ _ _ _ _ _ _ _ ht => BindsTo.of_defaults rfl ht rfl rfl rfl)) (fun _ _ _ _ _ _ _ hrl => (rv_callD h_dual_word hrl (Nat.le_refl _) (takes_of rfl rfl rfl rfl) rfl (ra_cons (rv_tup (ra_cons rv_str (ra_cons (rv_var 1) (ra_cons rv_none ra_nil)))) ra_nil)))) (rv_tup (ra_cons rv_str (ra_cons (rv_tup (ra_cons rv_int ra_nil)) ra_nil))))))) (rs_one (rs_ret rv_bool)) rs_nil)
  (rs_cons (rs_set (i := 5) sc__law_bounds_right.nd rfl (by first | exact Or.inl rfl | exact Or.inr rfl) (rv_tup (ra_cons rv_str (ra_cons rv_int ra_nil))))
  (rs_cons (rs_for (passes_of rfl) rfl (ri_range rfl g_range rv_int) (rg_name (i := 2) sc__law_bounds_right.nd rfl (by first | exact Or.inl rfl | exact Or.inr rfl)) (rs_one (rs_set (i := 5) sc__law_bounds_right.nd rfl (by first | exact Or.inl rfl | exact Or.inr rfl) (rv_tup (ra_cons rv_str (ra_cons (rv_var 5) (ra_cons (rv_var 5) ra_nil)))))))
  (rs_one (rs_ret (rv_and (rv_eq hr (rv_said (ns := []) T_BadWord c_BadWord SD__law_said hTab TB hcode hr rfl (LamD.lamS_by (by first | rfl | decide +kernel)) (lamDv0 rfl rfl (fun _ _ _ _ _ _ _ _ => rfl)) (fun _ _ _ _ _ _ _ hrl => (rv_callD h_need_named_word hrl (Nat.le_refl _) (takes_of rfl rfl rfl rfl) rfl (ra_cons (rv_var 5) ra_nil)))) (rv_tup (ra_cons rv_str (ra_cons rv_str ra_nil)))) (rv_one (rv_eq hr (rv_said (ns := ["x"]) T_BadWord c_BadWord SD__law_said hTab TB hcode hr rfl (LamD.lamS_by (by first | rfl | decide +kernel)) (lamDv1 rfl rfl (fun _ _ _ _ _ _ _ _ _ _ _ ht => BindsTo.of_defaults rfl ht rfl rfl rfl)) (fun _ _ _ _ _ _ _ hrl => (rv_callD h_how_many_cables hrl (Nat.le_refl _) (takes_of rfl rfl rfl rfl) rfl (ra_cons (rv_tup (ra_cons rv_str (ra_cons rv_none (ra_cons (rv_var 5) ra_nil)))) ra_nil)))) (rv_tup (ra_cons rv_str (ra_cons (rv_tup (ra_cons rv_int ra_nil)) ra_nil)))))))))))))))))))

end K54
end

section
set_option Elab.async false
set_option linter.all false
set_option maxRecDepth 100000
set_option maxHeartbeats 4000000
namespace K54
open PySem PySem.Spec PyProof.Rows L2 Rf Hd54
def φ_is_number {S : Type} : List D → S → Rs S D := fnφ 1 1 F_is_number
def φ_is_among {S : Type} : List D → S → Rs S D := fnφ 3 3 (F_is_among φ_is_number)
def φ_is_tuple_of {S : Type} : List D → S → Rs S D := fnφ 3 3 F_is_tuple_of
def φ_is_inner {S : Type} : List D → S → Rs S D := fnφ 1 1 (F_is_inner φ_is_tuple_of)
def φ_is_leaf {S : Type} : List D → S → Rs S D := fnφ 1 1 (F_is_leaf φ_is_tuple_of φ_is_among)
def φ_names_of {S : Type} : List D → S → Rs S D := fnφ 1 5 (F_names_of φ_is_inner φ_is_leaf 1000)
def φ_need_named_word {S : Type} : List D → S → Rs S D := fnφ 1 1 (F_need_named_word φ_names_of)
def φ_how_many_cables {S : Type} : List D → S → Rs S D := fnφ 1 1 (F_how_many_cables φ_names_of)
def φ_dual_of {S : Type} : Nat → List D → S → Rs S D
  | 0 => noφ
  | k + 1 => fnφ 1 1 (F_dual_of (φ_dual_of k))
def φ_dual_word {S : Type} : List D → S → Rs S D := fnφ 1 1 (F_dual_word φ_need_named_word (φ_dual_of 50))
def φ_plain_word {S : Type} : List D → S → Rs S D := fnφ 1 3 (F_plain_word φ_names_of)
def φ_word_corners {S : Type} : List D → S → Rs S D := fnφ 1 3 (F_word_corners φ_need_named_word noφ)
def φ_word_values {S : Type} : List D → S → Rs S D := fnφ 3 4 (F_word_values φ_need_named_word)
def φ_need_words {S : Type} : List D → S → Rs S D := fnφ 2 6 (F_need_words φ_need_named_word)
def φ_word_paper {S : Type} : List D → S → Rs S D := fnφ 2 4 (F_word_paper φ_need_words)
def φ_check_word_paper {S : Type} : List D → S → Rs S D := fnφ 3 5 (F_check_word_paper φ_need_words)
def φ_is_word_never_weaker {S : Type} : List D → S → Rs S D := fnφ 2 2 (F_is_word_never_weaker φ_word_paper)
def φ_are_words_one {S : Type} : List D → S → Rs S D := fnφ 2 4 (F_are_words_one φ_need_words)
def φ__law_next (am gl : Addr) : List D → MS → Rs MS D := fnφ 2 5 (F__law_next am gl)
def φ__law_of (am gl : Addr) : List D → MS → Rs MS D := fnφ 2 2 (F__law_of (φ__law_next am gl))
def φ__law_same {S : Type} : Nat → List D → S → Rs S D
  | 0 => noφ
  | k + 1 => fnφ 2 4 (F__law_same (φ__law_same k))
def φ__law_word (am gl : Addr) : Nat → List D → MS → Rs MS D
  | 0 => noφ
  | k + 1 => fnφ 3 4 (F__law_word (φ__law_next am gl) (φ__law_word am gl k) (φ__law_of am gl))
def φ__law_names {S : Type} : Nat → List D → S → Rs S D
  | 0 => noφ
  | k + 1 => fnφ 1 1 (F__law_names (φ__law_names k))
def φ__law_dual {S : Type} : Nat → List D → S → Rs S D
  | 0 => noφ
  | k + 1 => fnφ 1 1 (F__law_dual (φ__law_dual k))
def φ__law_ways {S : Type} : Nat → List D → S → Rs S D
  | 0 => noφ
  | k + 1 => fnφ 2 2 (F__law_ways (φ__law_ways k))
def φ__law_set {S : Type} : Nat → List D → S → Rs S D
  | 0 => noφ
  | k + 1 => fnφ 3 4 (F__law_set (φ__law_set k))
def φ__law_odd (am gl : Addr) : List D → MS → Rs MS D := fnφ 1 3 (F__law_odd (φ__law_of am gl))
def φ__law_deep {S : Type} : List D → S → Rs S D := fnφ 2 4 F__law_deep
def φ__law_refused_right (am gl : Addr) : List D → MS → Rs MS D := fnφ 2 10 (F__law_refused_right (φ__law_ways 50) (φ__law_of am gl) (φ__law_odd am gl) (φ__law_set 50) φ_dual_word φ_how_many_cables φ_need_named_word φ_word_values φ_word_corners φ_plain_word φ_word_paper φ_are_words_one φ_is_word_never_weaker φ_check_word_paper (φ__law_same 50))
def φ__law_bounds_right (am gl : Addr) : List D → MS → Rs MS D := fnφ 1 6 (F__law_bounds_right (φ__law_next am gl) φ_how_many_cables φ_need_named_word φ__law_deep φ_dual_word)
structure Fx (P : Program) (K : PySem.W.Frag) (mg : Str → Option Value) (C_BadWord I_BadWord : Addr) : Prop where
  g_isinstance : mg "isinstance" = none
  g_int : mg "int" = none
  g_bool : mg "bool" = none
  g_tuple : mg "tuple" = none
  g_len : mg "len" = none
  g_str : mg "str" = none
  g_SIDE : ∃ t, mg "SIDE" = some (.str "side" t)
  g_ROW : ∃ t, mg "ROW" = some (.str "row" t)
  g_MOST_NAMES : ∃ t, mg "MOST_NAMES" = some (.int 6 t)
  g_MOST_DEEP : ∃ t, mg "MOST_DEEP" = some (.int 40 t)
  g_MOST_IN_WORD : ∃ t, mg "MOST_IN_WORD" = some (.int 40 t)
  g_zip : mg "zip" = none
  g_list : mg "list" = none
  g_range : mg "range" = none
  g_min : mg "min" = none
  g_abs : mg "abs" = none
  f_is_number : ∃ f fd, mg "is_number" = some (.ref f) ∧ FunD K "is_number" "is_number" (defArgs s_is_number) (defBody s_is_number) (defScope s_is_number) [] [] f fd
  f_is_among : ∃ f fd, mg "is_among" = some (.ref f) ∧ FunD K "is_among" "is_among" (defArgs s_is_among) (defBody s_is_among) (defScope s_is_among) [] [] f fd
  f_is_tuple_of : ∃ f fd, mg "is_tuple_of" = some (.ref f) ∧ FunD K "is_tuple_of" "is_tuple_of" (defArgs s_is_tuple_of) (defBody s_is_tuple_of) (defScope s_is_tuple_of) [] [] f fd
  f_is_inner : ∃ f fd, mg "is_inner" = some (.ref f) ∧ FunD K "is_inner" "is_inner" (defArgs s_is_inner) (defBody s_is_inner) (defScope s_is_inner) [] [] f fd
  f_is_leaf : ∃ f fd, mg "is_leaf" = some (.ref f) ∧ FunD K "is_leaf" "is_leaf" (defArgs s_is_leaf) (defBody s_is_leaf) (defScope s_is_leaf) [] [] f fd
  f_names_of : ∃ f fd, mg "names_of" = some (.ref f) ∧ FunD K "names_of" "names_of" (defArgs s_names_of) (defBody s_names_of) (defScope s_names_of) [] [] f fd
  f_need_named_word : ∃ f fd, mg "need_named_word" = some (.ref f) ∧ FunD K "need_named_word" "need_named_word" (defArgs s_need_named_word) (defBody s_need_named_word) (defScope s_need_named_word) [] [] f fd
  f_how_many_cables : ∃ f fd, mg "how_many_cables" = some (.ref f) ∧ FunD K "how_many_cables" "how_many_cables" (defArgs s_how_many_cables) (defBody s_how_many_cables) (defScope s_how_many_cables) [] [] f fd
  f_dual_of : ∃ f fd, mg "dual_of" = some (.ref f) ∧ FunD K "dual_of" "dual_of" (defArgs s_dual_of) (defBody s_dual_of) (defScope s_dual_of) [] [] f fd
  f_dual_word : ∃ f fd, mg "dual_word" = some (.ref f) ∧ FunD K "dual_word" "dual_word" (defArgs s_dual_word) (defBody s_dual_word) (defScope s_dual_word) [] [] f fd
  f_plain_word : ∃ f fd, mg "plain_word" = some (.ref f) ∧ FunD K "plain_word" "plain_word" (defArgs s_plain_word) (defBody s_plain_word) (defScope s_plain_word) [] [] f fd
  f_word_corners : ∃ f fd, mg "word_corners" = some (.ref f) ∧ FunD K "word_corners" "word_corners" (defArgs s_word_corners) (defBody s_word_corners) (defScope s_word_corners) [] [] f fd
  f_word_values : ∃ f fd, mg "word_values" = some (.ref f) ∧ FunD K "word_values" "word_values" (defArgs s_word_values) (defBody s_word_values) (defScope s_word_values) [] [] f fd
  f_need_words : ∃ f fd, mg "need_words" = some (.ref f) ∧ FunD K "need_words" "need_words" (defArgs s_need_words) (defBody s_need_words) (defScope s_need_words) [] [] f fd
  f_word_paper : ∃ f fd, mg "word_paper" = some (.ref f) ∧ FunD K "word_paper" "word_paper" (defArgs s_word_paper) (defBody s_word_paper) (defScope s_word_paper) [] [] f fd
  f_check_word_paper : ∃ f fd, mg "check_word_paper" = some (.ref f) ∧ FunD K "check_word_paper" "check_word_paper" (defArgs s_check_word_paper) (defBody s_check_word_paper) (defScope s_check_word_paper) [] [] f fd
  f_is_word_never_weaker : ∃ f fd, mg "is_word_never_weaker" = some (.ref f) ∧ FunD K "is_word_never_weaker" "is_word_never_weaker" (defArgs s_is_word_never_weaker) (defBody s_is_word_never_weaker) (defScope s_is_word_never_weaker) [] [] f fd
  f_are_words_one : ∃ f fd, mg "are_words_one" = some (.ref f) ∧ FunD K "are_words_one" "are_words_one" (defArgs s_are_words_one) (defBody s_are_words_one) (defScope s_are_words_one) [] [] f fd
  f__law_next : ∃ f fd, mg "_law_next" = some (.ref f) ∧ FunD K "_law_next" "_law_next" (defArgs s__law_next) (defBody s__law_next) (defScope s__law_next) [] [] f fd
  f__law_of : ∃ f fd, mg "_law_of" = some (.ref f) ∧ FunD K "_law_of" "_law_of" (defArgs s__law_of) (defBody s__law_of) (defScope s__law_of) [] [] f fd
  f__law_same : ∃ f fd, mg "_law_same" = some (.ref f) ∧ FunD K "_law_same" "_law_same" (defArgs s__law_same) (defBody s__law_same) (defScope s__law_same) [] [] f fd
  f__law_word : ∃ f fd, mg "_law_word" = some (.ref f) ∧ FunD K "_law_word" "_law_word" (defArgs s__law_word) (defBody s__law_word) (defScope s__law_word) [] [] f fd
  f__law_names : ∃ f fd, mg "_law_names" = some (.ref f) ∧ FunD K "_law_names" "_law_names" (defArgs s__law_names) (defBody s__law_names) (defScope s__law_names) [] [] f fd
  f__law_dual : ∃ f fd, mg "_law_dual" = some (.ref f) ∧ FunD K "_law_dual" "_law_dual" (defArgs s__law_dual) (defBody s__law_dual) (defScope s__law_dual) [] [] f fd
  f__law_ways : ∃ f fd, mg "_law_ways" = some (.ref f) ∧ FunD K "_law_ways" "_law_ways" (defArgs s__law_ways) (defBody s__law_ways) (defScope s__law_ways) [] [] f fd
  f__law_set : ∃ f fd, mg "_law_set" = some (.ref f) ∧ FunD K "_law_set" "_law_set" (defArgs s__law_set) (defBody s__law_set) (defScope s__law_set) [] [] f fd
  f__law_odd : ∃ f fd, mg "_law_odd" = some (.ref f) ∧ FunD K "_law_odd" "_law_odd" (defArgs s__law_odd) (defBody s__law_odd) (defScope s__law_odd) [] [] f fd
  f__law_deep : ∃ f fd, mg "_law_deep" = some (.ref f) ∧ FunD K "_law_deep" "_law_deep" (defArgs s__law_deep) (defBody s__law_deep) (defScope s__law_deep) [] [] f fd
  f__law_refused_right : ∃ f fd, mg "_law_refused_right" = some (.ref f) ∧ FunD K "_law_refused_right" "_law_refused_right" (defArgs s__law_refused_right) (defBody s__law_refused_right) (defScope s__law_refused_right) [] [] f fd
  f__law_bounds_right : ∃ f fd, mg "_law_bounds_right" = some (.ref f) ∧ FunD K "_law_bounds_right" "_law_bounds_right" (defArgs s__law_bounds_right) (defBody s__law_bounds_right) (defScope s__law_bounds_right) [] [] f fd
  f_corners_by_parts : ∃ f fd, mg "corners_by_parts" = some (.ref f) ∧ FunD K "corners_by_parts" "corners_by_parts" (defArgs s_corners_by_parts) (defBody s_corners_by_parts) (defScope s_corners_by_parts) [] [] f fd
  f__law_begun : ∃ f fd, mg "_law_begun" = some (.ref f) ∧ FunD K "_law_begun" "_law_begun" (defArgs s__law_begun) (defBody s__law_begun) (defScope s__law_begun) [] [] f fd
  f_law : ∃ f fd, mg "law" = some (.ref f) ∧ FunD K "law" "law" (defArgs s_law) (defBody s_law) (defScope s_law) [] [] f fd
  f__law_said : ∃ f fd, mg "_law_said" = some (.ref f) ∧ FunD K "_law_said" "_law_said" (defArgs s__law_said) (defBody s__law_said) (defScope s__law_said) [] [] f fd
  T_BadWord : PySem.WordX.WordTxt P K mg "BadWord" C_BadWord I_BadWord
def clsX (C_BadWord : Addr) : Xc := fun x => (if x = "BadWord" then some (C_BadWord, ("place" : Str)) else none)
theorem clsX_BadWord {C_BadWord : Addr} : clsX C_BadWord "BadWord" = some (C_BadWord, ("place" : Str)) := by unfold clsX; simp
section
variable {P : Program} {w : World} {K : PySem.W.Frag} {mg : Str → Option Value} {base : Heap} {C_BadWord I_BadWord : Addr}
theorem df_corners_by_parts (x : Fx P K mg C_BadWord I_BadWord) {W : Wd K} : Df P w K mg base W (clsX C_BadWord) 0 "corners_by_parts" ["word"] noφ := by
  obtain ⟨f, fd, hm, FD⟩ := x.f_corners_by_parts
  exact Df.never hm FD.kp (FD.bindsN (fun _ _ _ _ _ _ us hl => match us, hl with | [_], _ => rfl))
theorem df_is_number (x : Fx P K mg C_BadWord I_BadWord) {W : Wd K} : Df P w K mg base W (clsX C_BadWord) 1 "is_number" ["thing"] φ_is_number := by
  obtain ⟨f, fd, hm, FD⟩ := x.f_is_number
  exact Df.of FD hm sc_is_number (fun cdv A outer s H E hr => b_is_number hr x.g_isinstance x.g_int x.g_bool) (fun ds s h => fnφ_of ds s h) (by decide) (fun _ _ _ _ _ _ us hl => match us, hl with | [_], _ => rfl)
theorem df_is_among (x : Fx P K mg C_BadWord I_BadWord) {W : Wd K} : Df P w K mg base W (clsX C_BadWord) 2 "is_among" ["thing", "least", "most"] φ_is_among := by
  obtain ⟨f, fd, hm, FD⟩ := x.f_is_among
  exact Df.of FD hm sc_is_among (fun cdv A outer s H E hr => b_is_among hr ((df_is_number x).mono (by decide))) (fun ds s h => fnφ_of ds s h) (by decide) (fun _ _ _ _ _ _ us hl => match us, hl with | [_, _, _], _ => rfl)
theorem df_is_tuple_of (x : Fx P K mg C_BadWord I_BadWord) {W : Wd K} : Df P w K mg base W (clsX C_BadWord) 1 "is_tuple_of" ["thing", "least", "most"] φ_is_tuple_of := by
  obtain ⟨f, fd, hm, FD⟩ := x.f_is_tuple_of
  exact Df.of FD hm sc_is_tuple_of (fun cdv A outer s H E hr => b_is_tuple_of hr x.g_isinstance x.g_tuple x.g_len) (fun ds s h => fnφ_of ds s h) (by decide) (fun _ _ _ _ _ _ us hl => match us, hl with | [_, _, _], _ => rfl)
theorem df_is_inner (x : Fx P K mg C_BadWord I_BadWord) {W : Wd K} : Df P w K mg base W (clsX C_BadWord) 2 "is_inner" ["thing"] φ_is_inner := by
  obtain ⟨f, fd, hm, FD⟩ := x.f_is_inner
  obtain ⟨t_SIDE, q_SIDE⟩ := x.g_SIDE
  obtain ⟨t_ROW, q_ROW⟩ := x.g_ROW
  exact Df.of FD hm sc_is_inner (fun cdv A outer s H E hr => b_is_inner hr x.g_isinstance x.g_str q_SIDE q_ROW ((df_is_tuple_of x).mono (by decide))) (fun ds s h => fnφ_of ds s h) (by decide) (fun _ _ _ _ _ _ us hl => match us, hl with | [_], _ => rfl)
theorem df_is_leaf (x : Fx P K mg C_BadWord I_BadWord) {W : Wd K} : Df P w K mg base W (clsX C_BadWord) 3 "is_leaf" ["thing"] φ_is_leaf := by
  obtain ⟨f, fd, hm, FD⟩ := x.f_is_leaf
  obtain ⟨t_MOST_NAMES, q_MOST_NAMES⟩ := x.g_MOST_NAMES
  exact Df.of FD hm sc_is_leaf (fun cdv A outer s H E hr => b_is_leaf hr x.g_isinstance x.g_str q_MOST_NAMES ((df_is_tuple_of x).mono (by decide)) ((df_is_among x).mono (by decide))) (fun ds s h => fnφ_of ds s h) (by decide) (fun _ _ _ _ _ _ us hl => match us, hl with | [_], _ => rfl)
theorem df_names_of (x : Fx P K mg C_BadWord I_BadWord) {W : Wd K} : Df P w K mg base W (clsX C_BadWord) 4 "names_of" ["word"] φ_names_of := by
  obtain ⟨f, fd, hm, FD⟩ := x.f_names_of
  obtain ⟨t_MOST_DEEP, q_MOST_DEEP⟩ := x.g_MOST_DEEP
  obtain ⟨t_MOST_IN_WORD, q_MOST_IN_WORD⟩ := x.g_MOST_IN_WORD
  exact Df.of FD hm sc_names_of (fun cdv A outer s H E hr => b_names_of hr x.g_len q_MOST_DEEP q_MOST_IN_WORD ((df_is_inner x).mono (by decide)) ((df_is_leaf x).mono (by decide)) x.T_BadWord clsX_BadWord) (fun ds s h => fnφ_of ds s h) (by decide) (fun _ _ _ _ _ _ us hl => match us, hl with | [_], _ => rfl)
theorem df_need_named_word (x : Fx P K mg C_BadWord I_BadWord) {W : Wd K} : Df P w K mg base W (clsX C_BadWord) 5 "need_named_word" ["word"] φ_need_named_word := by
  obtain ⟨f, fd, hm, FD⟩ := x.f_need_named_word
  exact Df.of FD hm sc_need_named_word (fun cdv A outer s H E hr => b_need_named_word hr ((df_names_of x).mono (by decide))) (fun ds s h => fnφ_of ds s h) (by decide) (fun _ _ _ _ _ _ us hl => match us, hl with | [_], _ => rfl)
theorem dk_need_named_word (x : Fx P K mg C_BadWord I_BadWord) {W : Wd K} : DfK P w K mg base W (clsX C_BadWord) 5 "need_named_word" ["word"] φ_need_named_word := by
  obtain ⟨f, fd, hm, FD⟩ := x.f_need_named_word
  exact DfK.of (fn_ok FD sc_need_named_word (by decide) (fun ds s h => (fnφ_of ds s h).1) (fun cdv A outer s H E hr => b_need_named_word hr ((df_names_of x).mono (by decide))) (fun ds s _ h => (fnφ_of ds s h).2)) hm FD (fun _ _ _ _ _ _ us hl => match us, hl with | [_], _ => rfl)
theorem df_how_many_cables (x : Fx P K mg C_BadWord I_BadWord) {W : Wd K} : Df P w K mg base W (clsX C_BadWord) 5 "how_many_cables" ["word"] φ_how_many_cables := by
  obtain ⟨f, fd, hm, FD⟩ := x.f_how_many_cables
  exact Df.of FD hm sc_how_many_cables (fun cdv A outer s H E hr => b_how_many_cables hr x.g_len ((df_names_of x).mono (by decide))) (fun ds s h => fnφ_of ds s h) (by decide) (fun _ _ _ _ _ _ us hl => match us, hl with | [_], _ => rfl)
theorem dk_how_many_cables (x : Fx P K mg C_BadWord I_BadWord) {W : Wd K} : DfK P w K mg base W (clsX C_BadWord) 5 "how_many_cables" ["word"] φ_how_many_cables := by
  obtain ⟨f, fd, hm, FD⟩ := x.f_how_many_cables
  exact DfK.of (fn_ok FD sc_how_many_cables (by decide) (fun ds s h => (fnφ_of ds s h).1) (fun cdv A outer s H E hr => b_how_many_cables hr x.g_len ((df_names_of x).mono (by decide))) (fun ds s _ h => (fnφ_of ds s h).2)) hm FD (fun _ _ _ _ _ _ us hl => match us, hl with | [_], _ => rfl)
theorem df_dual_of (x : Fx P K mg C_BadWord I_BadWord) {W : Wd K} : ∀ k : Nat, Df P w K mg base W (clsX C_BadWord) (0 + k) "dual_of" ["word"] (φ_dual_of k)
  | 0 => by
    obtain ⟨f, fd, hm, FD⟩ := x.f_dual_of
    exact (Df.never hm FD.kp (FD.bindsN (fun _ _ _ _ _ _ us hl => match us, hl with | [_], _ => rfl))).mono (Nat.zero_le _)
  | k + 1 => by
    have ih := df_dual_of (W := W) x k
    obtain ⟨f, fd, hm, FD⟩ := x.f_dual_of
    obtain ⟨t_ROW, q_ROW⟩ := x.g_ROW
    obtain ⟨t_SIDE, q_SIDE⟩ := x.g_SIDE
    exact Df.of (k := 0 + k) FD hm sc_dual_of (fun cdv A outer s H E hr => b_dual_of hr q_ROW q_SIDE ih) (fun ds s h => fnφ_of ds s h) (by decide) (fun _ _ _ _ _ _ us hl => match us, hl with | [_], _ => rfl)
theorem df_dual_word (x : Fx P K mg C_BadWord I_BadWord) {W : Wd K} : Df P w K mg base W (clsX C_BadWord) 51 "dual_word" ["word"] φ_dual_word := by
  obtain ⟨f, fd, hm, FD⟩ := x.f_dual_word
  exact Df.of FD hm sc_dual_word (fun cdv A outer s H E hr => b_dual_word hr ((df_need_named_word x).mono (by decide)) ((df_dual_of x 50).mono (by decide))) (fun ds s h => fnφ_of ds s h) (by decide) (fun _ _ _ _ _ _ us hl => match us, hl with | [_], _ => rfl)
theorem dk_dual_word (x : Fx P K mg C_BadWord I_BadWord) {W : Wd K} : DfK P w K mg base W (clsX C_BadWord) 51 "dual_word" ["word"] φ_dual_word := by
  obtain ⟨f, fd, hm, FD⟩ := x.f_dual_word
  exact DfK.of (fn_ok FD sc_dual_word (by decide) (fun ds s h => (fnφ_of ds s h).1) (fun cdv A outer s H E hr => b_dual_word hr ((df_need_named_word x).mono (by decide)) ((df_dual_of x 50).mono (by decide))) (fun ds s _ h => (fnφ_of ds s h).2)) hm FD (fun _ _ _ _ _ _ us hl => match us, hl with | [_], _ => rfl)
theorem df_plain_word (x : Fx P K mg C_BadWord I_BadWord) {W : Wd K} : Df P w K mg base W (clsX C_BadWord) 5 "plain_word" ["word"] φ_plain_word := by
  obtain ⟨f, fd, hm, FD⟩ := x.f_plain_word
  exact Df.of FD hm sc_plain_word (fun cdv A outer s H E hr => b_plain_word hr ((df_names_of x).mono (by decide))) (fun ds s h => fnφ_of ds s h) (by decide) (fun _ _ _ _ _ _ us hl => match us, hl with | [_], _ => rfl)
theorem df_word_corners (x : Fx P K mg C_BadWord I_BadWord) {W : Wd K} : Df P w K mg base W (clsX C_BadWord) 6 "word_corners" ["word"] φ_word_corners := by
  obtain ⟨f, fd, hm, FD⟩ := x.f_word_corners
  exact Df.of FD hm sc_word_corners (fun cdv A outer s H E hr => b_word_corners hr x.g_tuple ((df_need_named_word x).mono (by decide)) ((df_corners_by_parts x).mono (by decide))) (fun ds s h => fnφ_of ds s h) (by decide) (fun _ _ _ _ _ _ us hl => match us, hl with | [_], _ => rfl)
theorem df_word_values (x : Fx P K mg C_BadWord I_BadWord) {W : Wd K} : Df P w K mg base W (clsX C_BadWord) 6 "word_values" ["word", "strengths", "price"] φ_word_values := by
  obtain ⟨f, fd, hm, FD⟩ := x.f_word_values
  exact Df.of FD hm sc_word_values (fun cdv A outer s H E hr => b_word_values hr ((df_need_named_word x).mono (by decide))) (fun ds s h => fnφ_of ds s h) (by decide) (fun _ _ _ _ _ _ us hl => match us, hl with | [_, _, _], _ => rfl)
theorem df_need_words (x : Fx P K mg C_BadWord I_BadWord) {W : Wd K} : Df P w K mg base W (clsX C_BadWord) 6 "need_words" ["one", "other"] φ_need_words := by
  obtain ⟨f, fd, hm, FD⟩ := x.f_need_words
  exact Df.of FD hm sc_need_words (fun cdv A outer s H E hr => b_need_words hr ((df_need_named_word x).mono (by decide))) (fun ds s h => fnφ_of ds s h) (by decide) (fun _ _ _ _ _ _ us hl => match us, hl with | [_, _], _ => rfl)
theorem df_word_paper (x : Fx P K mg C_BadWord I_BadWord) {W : Wd K} : Df P w K mg base W (clsX C_BadWord) 7 "word_paper" ["one", "other"] φ_word_paper := by
  obtain ⟨f, fd, hm, FD⟩ := x.f_word_paper
  exact Df.of FD hm sc_word_paper (fun cdv A outer s H E hr => b_word_paper hr ((df_need_words x).mono (by decide))) (fun ds s h => fnφ_of ds s h) (by decide) (fun _ _ _ _ _ _ us hl => match us, hl with | [_, _], _ => rfl)
theorem df_check_word_paper (x : Fx P K mg C_BadWord I_BadWord) {W : Wd K} : Df P w K mg base W (clsX C_BadWord) 7 "check_word_paper" ["one", "other", "paper"] φ_check_word_paper := by
  obtain ⟨f, fd, hm, FD⟩ := x.f_check_word_paper
  exact Df.of FD hm sc_check_word_paper (fun cdv A outer s H E hr => b_check_word_paper hr ((df_need_words x).mono (by decide))) (fun ds s h => fnφ_of ds s h) (by decide) (fun _ _ _ _ _ _ us hl => match us, hl with | [_, _, _], _ => rfl)
theorem df_is_word_never_weaker (x : Fx P K mg C_BadWord I_BadWord) {W : Wd K} : Df P w K mg base W (clsX C_BadWord) 8 "is_word_never_weaker" ["one", "other"] φ_is_word_never_weaker := by
  obtain ⟨f, fd, hm, FD⟩ := x.f_is_word_never_weaker
  exact Df.of FD hm sc_is_word_never_weaker (fun cdv A outer s H E hr => b_is_word_never_weaker hr ((df_word_paper x).mono (by decide))) (fun ds s h => fnφ_of ds s h) (by decide) (fun _ _ _ _ _ _ us hl => match us, hl with | [_, _], _ => rfl)
theorem df_are_words_one (x : Fx P K mg C_BadWord I_BadWord) {W : Wd K} : Df P w K mg base W (clsX C_BadWord) 7 "are_words_one" ["one", "other"] φ_are_words_one := by
  obtain ⟨f, fd, hm, FD⟩ := x.f_are_words_one
  exact Df.of FD hm sc_are_words_one (fun cdv A outer s H E hr => b_are_words_one hr ((df_need_words x).mono (by decide))) (fun ds s h => fnφ_of ds s h) (by decide) (fun _ _ _ _ _ _ us hl => match us, hl with | [_, _], _ => rfl)
theorem df__law_next (x : Fx P K mg C_BadWord I_BadWord) {S : Scr} {am gl : Addr} : Df P w K mg base (wDr K S am gl) (clsX C_BadWord) 1 "_law_next" ["m", "many"] (φ__law_next am gl) := by
  obtain ⟨f, fd, hm, FD⟩ := x.f__law_next
  exact Df.of FD hm sc__law_next (fun cdv A outer s H E hr => b__law_next hr x.g_int x.g_len) (fun ds s h => fnφ_of ds s h) (by decide) (fun _ _ _ _ _ _ us hl => match us, hl with | [_, _], _ => rfl)
theorem df__law_of (x : Fx P K mg C_BadWord I_BadWord) {S : Scr} {am gl : Addr} : Df P w K mg base (wDr K S am gl) (clsX C_BadWord) 2 "_law_of" ["m", "some"] (φ__law_of am gl) := by
  obtain ⟨f, fd, hm, FD⟩ := x.f__law_of
  exact Df.of FD hm sc__law_of (fun cdv A outer s H E hr => b__law_of hr x.g_len ((df__law_next x).mono (by decide))) (fun ds s h => fnφ_of ds s h) (by decide) (fun _ _ _ _ _ _ us hl => match us, hl with | [_, _], _ => rfl)
theorem df__law_same (x : Fx P K mg C_BadWord I_BadWord) {W : Wd K} : ∀ k : Nat, Df P w K mg base W (clsX C_BadWord) (0 + k) "_law_same" ["one", "other"] (φ__law_same k)
  | 0 => by
    obtain ⟨f, fd, hm, FD⟩ := x.f__law_same
    exact (Df.never hm FD.kp (FD.bindsN (fun _ _ _ _ _ _ us hl => match us, hl with | [_, _], _ => rfl))).mono (Nat.zero_le _)
  | k + 1 => by
    have ih := df__law_same (W := W) x k
    obtain ⟨f, fd, hm, FD⟩ := x.f__law_same
    exact Df.of (k := 0 + k) FD hm sc__law_same (fun cdv A outer s H E hr => b__law_same hr x.g_isinstance x.g_bool x.g_tuple x.g_len x.g_zip x.g_str x.g_int ih) (fun ds s h => fnφ_of ds s h) (by decide) (fun _ _ _ _ _ _ us hl => match us, hl with | [_, _], _ => rfl)
theorem df__law_word (x : Fx P K mg C_BadWord I_BadWord) {S : Scr} {am gl : Addr} : ∀ k : Nat, Df P w K mg base (wDr K S am gl) (clsX C_BadWord) (2 + k) "_law_word" ["m", "many", "names"] (φ__law_word am gl k)
  | 0 => by
    obtain ⟨f, fd, hm, FD⟩ := x.f__law_word
    exact (Df.never hm FD.kp (FD.bindsN (fun _ _ _ _ _ _ us hl => match us, hl with | [_, _, _], _ => rfl))).mono (Nat.zero_le _)
  | k + 1 => by
    have ih := df__law_word (S := S) (am := am) (gl := gl) x k
    obtain ⟨f, fd, hm, FD⟩ := x.f__law_word
    exact Df.of (k := 2 + k) FD hm sc__law_word (fun cdv A outer s H E hr => b__law_word hr ((df__law_next x).mono (by omega)) ih ((df__law_of x).mono (by omega))) (fun ds s h => fnφ_of ds s h) (by decide) (fun _ _ _ _ _ _ us hl => match us, hl with | [_, _, _], _ => rfl)
theorem df__law_names (x : Fx P K mg C_BadWord I_BadWord) {W : Wd K} : ∀ k : Nat, Df P w K mg base W (clsX C_BadWord) (0 + k) "_law_names" ["word"] (φ__law_names k)
  | 0 => by
    obtain ⟨f, fd, hm, FD⟩ := x.f__law_names
    exact (Df.never hm FD.kp (FD.bindsN (fun _ _ _ _ _ _ us hl => match us, hl with | [_], _ => rfl))).mono (Nat.zero_le _)
  | k + 1 => by
    have ih := df__law_names (W := W) x k
    obtain ⟨f, fd, hm, FD⟩ := x.f__law_names
    exact Df.of (k := 0 + k) FD hm sc__law_names (fun cdv A outer s H E hr => b__law_names hr ih) (fun ds s h => fnφ_of ds s h) (by decide) (fun _ _ _ _ _ _ us hl => match us, hl with | [_], _ => rfl)
theorem df__law_dual (x : Fx P K mg C_BadWord I_BadWord) {W : Wd K} : ∀ k : Nat, Df P w K mg base W (clsX C_BadWord) (0 + k) "_law_dual" ["word"] (φ__law_dual k)
  | 0 => by
    obtain ⟨f, fd, hm, FD⟩ := x.f__law_dual
    exact (Df.never hm FD.kp (FD.bindsN (fun _ _ _ _ _ _ us hl => match us, hl with | [_], _ => rfl))).mono (Nat.zero_le _)
  | k + 1 => by
    have ih := df__law_dual (W := W) x k
    obtain ⟨f, fd, hm, FD⟩ := x.f__law_dual
    exact Df.of (k := 0 + k) FD hm sc__law_dual (fun cdv A outer s H E hr => b__law_dual hr ih) (fun ds s h => fnφ_of ds s h) (by decide) (fun _ _ _ _ _ _ us hl => match us, hl with | [_], _ => rfl)
theorem df__law_ways (x : Fx P K mg C_BadWord I_BadWord) {W : Wd K} : ∀ k : Nat, Df P w K mg base W (clsX C_BadWord) (0 + k) "_law_ways" ["word", "way"] (φ__law_ways k)
  | 0 => by
    obtain ⟨f, fd, hm, FD⟩ := x.f__law_ways
    exact (Df.never hm FD.kp (FD.bindsN (fun _ _ _ _ _ _ us hl => match us, hl with | [_, _], _ => rfl))).mono (Nat.zero_le _)
  | k + 1 => by
    have ih := df__law_ways (W := W) x k
    obtain ⟨f, fd, hm, FD⟩ := x.f__law_ways
    exact Df.of (k := 0 + k) FD hm sc__law_ways (fun cdv A outer s H E hr => b__law_ways hr ih) (fun ds s h => fnφ_of ds s h) (by decide) (fun _ _ _ _ _ _ us hl => match us, hl with | [_, _], _ => rfl)
theorem df__law_set (x : Fx P K mg C_BadWord I_BadWord) {W : Wd K} : ∀ k : Nat, Df P w K mg base W (clsX C_BadWord) (0 + k) "_law_set" ["word", "way", "thing"] (φ__law_set k)
  | 0 => by
    obtain ⟨f, fd, hm, FD⟩ := x.f__law_set
    exact (Df.never hm FD.kp (FD.bindsN (fun _ _ _ _ _ _ us hl => match us, hl with | [_, _, _], _ => rfl))).mono (Nat.zero_le _)
  | k + 1 => by
    have ih := df__law_set (W := W) x k
    obtain ⟨f, fd, hm, FD⟩ := x.f__law_set
    exact Df.of (k := 0 + k) FD hm sc__law_set (fun cdv A outer s H E hr => b__law_set hr x.g_list x.g_tuple ih) (fun ds s h => fnφ_of ds s h) (by decide) (fun _ _ _ _ _ _ us hl => match us, hl with | [_, _, _], _ => rfl)
theorem df__law_odd (x : Fx P K mg C_BadWord I_BadWord) {S : Scr} {am gl : Addr} : Df P w K mg base (wDr K S am gl) (clsX C_BadWord) 3 "_law_odd" ["m"] (φ__law_odd am gl) := by
  obtain ⟨f, fd, hm, FD⟩ := x.f__law_odd
  exact Df.of FD hm sc__law_odd (fun cdv A outer s H E hr => b__law_odd hr ((df__law_of x).mono (by decide))) (fun ds s h => fnφ_of ds s h) (by decide) (fun _ _ _ _ _ _ us hl => match us, hl with | [_], _ => rfl)
theorem df__law_deep (x : Fx P K mg C_BadWord I_BadWord) {W : Wd K} : Df P w K mg base W (clsX C_BadWord) 1 "_law_deep" ["many", "left"] φ__law_deep := by
  obtain ⟨f, fd, hm, FD⟩ := x.f__law_deep
  exact Df.of FD hm sc__law_deep (fun cdv A outer s H E hr => b__law_deep hr x.g_range x.g_int) (fun ds s h => fnφ_of ds s h) (by decide) (fun _ _ _ _ _ _ us hl => match us, hl with | [_, _], _ => rfl)
-- _law_refused_right: lambdas
theorem df__law_refused_right (x : Fx P K mg C_BadWord I_BadWord) {S : Scr} {am gl : Addr} (SD : SaidD P K mg "_law_said" "call" "error" "BadWord" "answer" "word" C_BadWord) {cc PP : Addr} (TB : LamX.TabB base mg cc PP) (hc : ∀ f fd, mg "_law_refused_right" = some (.ref f) → FunD K "_law_refused_right" "_law_refused_right" (defArgs s__law_refused_right) (defBody s__law_refused_right) (defScope s__law_refused_right) [] [] f fd → fd.code = .ref cc) (hTab : WTab (wDr K S am gl) PP ((("_law_refused_right" : Str) ++ ".<locals>.") ++ "<lambda>")) : Df P w K mg base (wDr K S am gl) (clsX C_BadWord) 54 "_law_refused_right" ["m", "word"] (φ__law_refused_right am gl) := by
  obtain ⟨f, fd, hm, FD⟩ := x.f__law_refused_right
  exact Df.ofC (k := 53) FD hm sc__law_refused_right (fun A outer s H E hr => b__law_refused_right hr x.g_tuple ((df__law_ways x 50).mono (by decide)) ((df__law_of x).mono (by decide)) ((df__law_odd x).mono (by decide)) ((df__law_set x 50).mono (by decide)) ((df_dual_word x).mono (by decide)) ((df_how_many_cables x).mono (by decide)) ((df_need_named_word x).mono (by decide)) ((df_word_values x).mono (by decide)) ((df_word_corners x).mono (by decide)) ((df_plain_word x).mono (by decide)) ((df_word_paper x).mono (by decide)) ((df_are_words_one x).mono (by decide)) ((df_is_word_never_weaker x).mono (by decide)) ((df_check_word_paper x).mono (by decide)) ((df__law_same x 50).mono (by decide)) x.T_BadWord clsX_BadWord SD TB (hc f fd hm FD) hTab) (fun ds s h => fnφ_of ds s h) (by decide) (fun _ _ _ _ _ _ us hl => match us, hl with | [_, _], _ => rfl)
-- _law_bounds_right: lambdas
theorem df__law_bounds_right (x : Fx P K mg C_BadWord I_BadWord) {S : Scr} {am gl : Addr} (SD : SaidD P K mg "_law_said" "call" "error" "BadWord" "answer" "word" C_BadWord) {cc PP : Addr} (TB : LamX.TabB base mg cc PP) (hc : ∀ f fd, mg "_law_bounds_right" = some (.ref f) → FunD K "_law_bounds_right" "_law_bounds_right" (defArgs s__law_bounds_right) (defBody s__law_bounds_right) (defScope s__law_bounds_right) [] [] f fd → fd.code = .ref cc) (hTab : WTab (wDr K S am gl) PP ((("_law_bounds_right" : Str) ++ ".<locals>.") ++ "<lambda>")) : Df P w K mg base (wDr K S am gl) (clsX C_BadWord) 54 "_law_bounds_right" ["m"] (φ__law_bounds_right am gl) := by
  obtain ⟨f, fd, hm, FD⟩ := x.f__law_bounds_right
  exact Df.ofC (k := 53) FD hm sc__law_bounds_right (fun A outer s H E hr => b__law_bounds_right hr x.g_range ((df__law_next x).mono (by decide)) ((df_how_many_cables x).mono (by decide)) ((df_need_named_word x).mono (by decide)) ((df__law_deep x).mono (by decide)) ((df_dual_word x).mono (by decide)) x.T_BadWord clsX_BadWord SD TB (hc f fd hm FD) hTab) (fun ds s h => fnφ_of ds s h) (by decide) (fun _ _ _ _ _ _ us hl => match us, hl with | [_], _ => rfl)
end

end K54
end

section
set_option Elab.async false
set_option linter.all false
set_option maxRecDepth 100000
set_option maxHeartbeats 4000000
namespace K54
open PySem PySem.Spec PyProof.Rows L2 Rf Hd54
def F__law_begun (S : Scr) (am gl : Addr)  : Fs MS := (sSeq (sFor (gNm 2) (iScr S.scr S.ns 0) (sMPut am 1 .mixed (v2 dMod (vA dInt (aCons (v2 dAdd (v2 dAdd (v2 dMul (vMGet am gl 1 .mixed) (vCst (.int 69069))) (v2 dMod (vA dInt (aCons (vVar 2) aNil)) (vCst (.int 2147483647)))) (vCst (.int 5))) aNil)) (vCst (.int 2147483647)))))
  (sRet (vVar 1)))
theorem sc__law_begun : FnScope ["script", "m", "cell"] ["script"] (defScope s__law_begun) := ⟨rfl, rfl, rfl, by decide +kernel, rfl, by decide +kernel, by decide +kernel⟩
theorem b__law_begun {P : Program} {w : World} {K : PySem.W.Frag} {mg : Str → Option Value} {base : Heap} {qual : Str} {f : Addr} {cdv : Value} {A : Around} {outer : List Env} {s : Shared} {H : Hp} {E : XK} {S : Scr} {am gl : Addr} {cls : Xc} {k : Nat} (hr : Room k (A.deeper (envOfC qual (defScope s__law_begun) s.heap.objs.size f cdv)))
    (g_int : mg "int" = none) :
    PSs (cxOf (L2.CX P w) P w K mg base ["script", "m", "cell"] qual (defScope s__law_begun) f cdv A outer s H E) ((defBody s__law_begun).drop 1) (TSv K (wDr K S am gl) cls (fun c d _ H' => E c d H') (F__law_begun S am gl )) := (rs_cons (rs_for (passes_of rfl) rfl (ri_scr (i := 0) wDr_scr rfl (by first | exact Or.inl rfl | exact Or.inr (Or.inl rfl) | exact Or.inr (Or.inr rfl))) (rg_name (i := 2) sc__law_begun.nd rfl (by first | exact Or.inl rfl | exact Or.inr rfl)) (rs_one (rs_mput (k := .mixed) (i := 1) hr rfl rfl (by first | exact Or.inl rfl | exact Or.inr (Or.inl rfl) | exact Or.inr (Or.inr rfl)) (rv_mod (rv_bty call_int1 oA_int rfl g_int (by decide +kernel) (ra_cons (rv_add (rv_add (rv_mul (rv_mget (k := .mixed) (i := 1) hr rfl rfl (by first | exact Or.inl rfl | exact Or.inr (Or.inl rfl) | exact Or.inr (Or.inr rfl))) rv_int) (rv_mod (rv_bty call_int1 oA_int rfl g_int (by decide +kernel) (ra_cons (rv_var 2) ra_nil)) rv_int)) rv_int) ra_nil)) rv_int))))
  (rs_one (rs_ret (rv_var 1))))
def F_law (S : Scr) (am gl : Addr) (φ__law_next : List D → MS → Rs MS D) (φ__law_word : List D → MS → Rs MS D) (φ__law_same : List D → MS → Rs MS D) (φ__law_names : List D → MS → Rs MS D) (φ__law_dual : List D → MS → Rs MS D) (φ_dual_word : List D → MS → Rs MS D) (φ__law_refused_right : List D → MS → Rs MS D) (φ__law_bounds_right : List D → MS → Rs MS D) (φ_need_named_word : List D → MS → Rs MS D) (φ_how_many_cables : List D → MS → Rs MS D) : Fs MS := (sSeq (sFor (gNm 2) (iRng (v2 dAdd (vCst (.int 3)) (vA dMin2 (aCons (vScrLen S.scr S.ns 0) (aCons (vCst (.int 2)) aNil))))) (sSeq (sSet 3 (vCall φ__law_word (aCons (vVar 1) (aCons (v2 dAdd (vCst (.int 1)) (vCall φ__law_next (aCons (vVar 1) (aCons (vCst (.int 12)) aNil)))) (aCons (vCst (.int 6)) aNil)))))
  (sSeq (sIf (bOr (bNot (bVal (vCall φ__law_same (aCons (vCall φ_need_named_word (aCons (vVar 3) aNil)) (aCons (vVar 3) aNil))))) (bNot (bVal (vCall φ__law_same (aCons (vCall φ_how_many_cables (aCons (vVar 3) aNil)) (aCons (vA dLen (aCons (vCall φ__law_names (aCons (vVar 3) aNil)) aNil)) aNil)))))) (sRet (vCst (.bool false))) sNil)
  (sSeq (sIf (bOr (bNot (bVal (vCall φ__law_same (aCons (vCall φ_dual_word (aCons (vVar 3) aNil)) (aCons (vCall φ__law_dual (aCons (vVar 3) aNil)) aNil))))) (bNot (bVal (vCall φ__law_same (aCons (vCall φ_dual_word (aCons (vCall φ_dual_word (aCons (vVar 3) aNil)) aNil)) (aCons (vVar 3) aNil)))))) (sRet (vCst (.bool false))) sNil)
  (sIf (bNot (bVal (vCall φ__law_refused_right (aCons (vVar 1) (aCons (vVar 3) aNil))))) (sRet (vCst (.bool false))) sNil)))))
  (sRet (vCall φ__law_bounds_right (aCons (vVar 1) aNil))))
theorem sc_law : FnScope ["script", "m", "turn", "word"] ["script"] (defScope s_law) := ⟨rfl, rfl, rfl, by decide +kernel, rfl, by decide +kernel, by decide +kernel⟩
theorem b_law {P : Program} {w : World} {K : PySem.W.Frag} {mg : Str → Option Value} {base : Heap} {qual : Str} {f : Addr} {cdv : Value} {A : Around} {outer : List Env} {s : Shared} {H : Hp} {E : XK} {S : Scr} {am gl : Addr} {cls : Xc} {k : Nat} (hr : Room k (A.deeper (envOfC qual (defScope s_law) s.heap.objs.size f cdv)))
    (g_len : mg "len" = none)
    (g_min : mg "min" = none)
    (g_range : mg "range" = none)
    {φ__law_next : List D → MS → Rs MS D} (h__law_next : Df P w K mg base (wDr K S am gl) cls k "_law_next" ["m", "many"] φ__law_next)
    {φ__law_word : List D → MS → Rs MS D} (h__law_word : Df P w K mg base (wDr K S am gl) cls k "_law_word" ["m", "many", "names"] φ__law_word)
    {φ__law_same : List D → MS → Rs MS D} (h__law_same : Df P w K mg base (wDr K S am gl) cls k "_law_same" ["one", "other"] φ__law_same)
    {φ__law_names : List D → MS → Rs MS D} (h__law_names : Df P w K mg base (wDr K S am gl) cls k "_law_names" ["word"] φ__law_names)
    {φ__law_dual : List D → MS → Rs MS D} (h__law_dual : Df P w K mg base (wDr K S am gl) cls k "_law_dual" ["word"] φ__law_dual)
    {φ_dual_word : List D → MS → Rs MS D} (h_dual_word : Df P w K mg base (wDr K S am gl) cls k "dual_word" ["word"] φ_dual_word)
    {φ__law_refused_right : List D → MS → Rs MS D} (h__law_refused_right : Df P w K mg base (wDr K S am gl) cls k "_law_refused_right" ["m", "word"] φ__law_refused_right)
    {φ__law_bounds_right : List D → MS → Rs MS D} (h__law_bounds_right : Df P w K mg base (wDr K S am gl) cls k "_law_bounds_right" ["m"] φ__law_bounds_right)
    {φ_need_named_word : List D → MS → Rs MS D} (k_need_named_word : DfK P w K mg base (wDr K S am gl) cls k "need_named_word" ["word"] φ_need_named_word)
    {φ_how_many_cables : List D → MS → Rs MS D} (k_how_many_cables : DfK P w K mg base (wDr K S am gl) cls k "how_many_cables" ["word"] φ_how_many_cables)
    (k_dual_word : DfK P w K mg base (wDr K S am gl) cls k "dual_word" ["word"] φ_dual_word) :
    PSs (cxOf (L2.CX P w) P w K mg base ["script", "m", "turn", "word"] qual (defScope s_law) f cdv A outer s H E) ((defBody s_law).drop 1) (TSv K (wDr K S am gl) cls (fun c d _ H' => E c d H') (F_law S am gl φ__law_next φ__law_word φ__law_same φ__law_names φ__law_dual φ_dual_word φ__law_refused_right φ__law_bounds_right φ_need_named_word φ_how_many_cables)) := (rs_cons (rs_for (passes_of rfl) rfl (ri_range rfl g_range (rv_add rv_int (rv_blt (call_min2 rfl) oA_min2 rfl g_min (by decide +kernel) (ra_cons (rv_scrlen (i := 0) wDr_scr rfl (by first | exact Or.inl rfl | exact Or.inr (Or.inl rfl) | exact Or.inr (Or.inr rfl)) rfl g_len) (ra_cons rv_int ra_nil))))) (rg_name (i := 2) sc_law.nd rfl (by first | exact Or.inl rfl | exact Or.inr rfl)) (rs_cons (rs_set (i := 3) sc_law.nd rfl (by first | exact Or.inl rfl | exact Or.inr rfl) (rv_callD h__law_word hr (Nat.le_refl _) takes_def rfl (ra_cons (rv_var 1) (ra_cons (rv_add rv_int (rv_callD h__law_next hr (Nat.le_refl _) takes_def rfl (ra_cons (rv_var 1) (ra_cons rv_int ra_nil)))) (ra_cons rv_int ra_nil)))))
  (rs_cons (rs_if (rb_w (rw_or (rb_not (rb_val (rv_callD h__law_same hr (Nat.le_refl _) takes_def rfl (ra_cons (rv_callKw k_need_named_word hr (Nat.le_refl _) takes_def rfl (rk_cons (rv_var 3) rk_nil)) (ra_cons (rv_var 3) ra_nil))))) (rw_or1 (rb_not (rb_val (rv_callD h__law_same hr (Nat.le_refl _) takes_def rfl (ra_cons (rv_callKw k_how_many_cables hr (Nat.le_refl _) takes_def rfl (rk_cons (rv_var 3) rk_nil)) (ra_cons (rv_blt call_len_seq oA_len rfl g_len PySem.boot_len (ra_cons (rv_callD h__law_names hr (Nat.le_refl _) takes_def rfl (ra_cons (rv_var 3) ra_nil)) ra_nil)) ra_nil)))))))) (rs_one (rs_ret rv_bool)) rs_nil)
  (rs_cons (rs_if (rb_w (rw_or (rb_not (rb_val (rv_callD h__law_same hr (Nat.le_refl _) takes_def rfl (ra_cons (rv_callKw k_dual_word hr (Nat.le_refl _) takes_def rfl (rk_cons (rv_var 3) rk_nil)) (ra_cons (rv_callD h__law_dual hr (Nat.le_refl _) takes_def rfl (ra_cons (rv_var 3) ra_nil)) ra_nil))))) (rw_or1 (rb_not (rb_val (rv_callD h__law_same hr (Nat.le_refl _) takes_def rfl (ra_cons (rv_callD h_dual_word hr (Nat.le_refl _) takes_def rfl (ra_cons (rv_callD h_dual_word hr (Nat.le_refl _) takes_def rfl (ra_cons (rv_var 3) ra_nil)) ra_nil)) (ra_cons (rv_var 3) ra_nil)))))))) (rs_one (rs_ret rv_bool)) rs_nil)
  (rs_one (rs_if (rb_not (rb_val (rv_callD h__law_refused_right hr (Nat.le_refl _) takes_def rfl (ra_cons (rv_var 1) (ra_cons (rv_var 3) ra_nil))))) (rs_one (rs_ret rv_bool)) rs_nil))))))
  (rs_one (rs_ret (rv_callD h__law_bounds_right hr (Nat.le_refl _) takes_def rfl (ra_cons (rv_var 1) ra_nil)))))

end K54
end

section
set_option Elab.async false
set_option linter.all false
set_option maxRecDepth 100000
set_option maxHeartbeats 4000000
/-! B54c: k54: the draws' begin and the law itself, on the world of its run. -/
namespace K54
open PySem PySem.Spec PyProof.Rows L2 Rf Hd54

theorem begun_go (S : Scr) (am gl : Addr) : ∀ (ns : List Int) (x : Slot) (s : MS), ∃ (y : Slot) (s' : MS), forGo (gNm 2) (sMPut am 1 .mixed (v2 dMod (vA dInt (aCons (v2 dAdd (v2 dAdd (v2 dMul (vMGet am gl 1 .mixed) (vCst (.int 69069))) (v2 dMod (vA dInt (aCons (vVar 2) aNil)) (vCst (.int 2147483647)))) (vCst (.int 5))) aNil)) (vCst (.int 2147483647)))) (ns.map PyData.int) [.val (hnd S.scr), .val (hnd am), x] s = .ok (.nx [.val (hnd S.scr), .val (hnd am), y]) s'
  | [], x, s => ⟨x, s, rfl⟩
  | n :: r, x, s => by
    obtain ⟨y, s', h⟩ := begun_go S am gl r (.val (.int n)) { s with mixed := (s.mixed * 69069 + n % 2147483647 + 5) % 2147483647 }
    refine ⟨y, s', ?_⟩
    rw [← h]
    have e : sMPut am 1 .mixed (v2 dMod (vA dInt (aCons (v2 dAdd (v2 dAdd (v2 dMul (vMGet am gl 1 .mixed) (vCst (.int 69069))) (v2 dMod (vA dInt (aCons (vVar 2) aNil)) (vCst (.int 2147483647)))) (vCst (.int 5))) aNil)) (vCst (.int 2147483647))) [.val (hnd S.scr), .val (hnd am), .val (.int n)] s =
        .ok (.nx [.val (hnd S.scr), .val (hnd am), .val (.int n)]) { s with mixed := (s.mixed * 69069 + n % 2147483647 + 5) % 2147483647 } := by
      have hm : hAt am 1 [.val (hnd S.scr), .val (hnd am), .val (.int n)] = true := by
        unfold hAt
        exact isH_hnd am
      simp [sMPut, hm, v2, vA, aCons, aNil, vMGet, vVar, vCst, Rs.bind, Rs.ofO, dMul, dMod, dAdd, dInt, MS.get, MS.put]
    show (sMPut am 1 .mixed _ [.val (hnd S.scr), .val (hnd am), .val (.int n)] s).bind _ = _
    rw [e]
    rfl
theorem begun_rest (S : Scr) : RestOk S (F__law_begun S) := fun am gl s => by
  obtain ⟨y, s', h⟩ := begun_go S am gl S.ns .no s
  refine ⟨s', ?_⟩
  have h0 : iScr (St := MS) S.scr S.ns 0 [.val (hnd S.scr), .val (hnd am), .no] s = .ok (S.ns.map PyData.int) s := by
    unfold iScr
    rw [if_pos (show hAt S.scr 0 [.val (hnd S.scr), .val (hnd am), .no] = true from isH_hnd S.scr)]
  unfold F__law_begun sSeq sFor
  rw [h0, Rs.bind_ok, h]
  rfl
/-- the meaning of the law's body behind its first row -/
abbrev FL (S : Scr) (am gl : Addr) : Fs MS := F_law S am gl (φ__law_next am gl) (φ__law_word am gl 50) (φ__law_same 50) (φ__law_names 50) (φ__law_dual 50) φ_dual_word (φ__law_refused_right am gl) (φ__law_bounds_right am gl) φ_need_named_word φ_how_many_cables
def LawTrue : Prop := ∀ (S : Scr) (am gl : Addr) (s : MS), ∃ s', FL S am gl [.val (hnd S.scr), .val (hnd am), .no, .no] s = .ok (.rt (.bool true)) s'
section
variable {P : Program} {w : World} {K : PySem.W.Frag} {mg : Str → Option Value} {base : Heap} {C I : Addr}
theorem begun_fn (x : Fx P K mg C I) (S : Scr) : ∃ f fd, mg "_law_begun" = some (.ref f) ∧ PySem.W.keepIn K (.ref f) = true ∧ Binds K fd ["script"] [] ∧ FnOk P w K mg base (L2.CX P w) 2 f fd ["script"] (spBegun K S) := by
  obtain ⟨f, fd, hm, FD⟩ := x.f__law_begun
  refine ⟨f, fd, hm, FD.kp, FD.bindsN (fun _ _ _ _ _ _ us hl => match us, hl with | [_], _ => rfl), ?_⟩
  refine FD.ok sc__law_begun (fun vs H Q E h => ?_) (fun cdv A outer s H vs Q E hr h => ?_)
  · obtain ⟨rfl, _⟩ := h
    rfl
  · have hv : vs = [.ref S.scr] := h.1
    have t := begun_tree (cls := clsX C) (Wx := fun c d _ H' => E c d H') h (begun_rest S)
    subst hv
    have ps1 : PS (cxOf (L2.CX P w) P w K mg base ["script", "m", "cell"] "_law_begun" (defScope s__law_begun) f cdv A outer s H E) ((defBody s__law_begun).getD 0 (.Pass ⟨0, 0, 0, 0⟩))
        (tAsg (tDisp [(tC (.str "great"), TOv K (wScr K S) (clsX C) (fun _ _ _ _ => False) (fLc S)), (tC (.str "mixed"), tC (.int 50021)), (tC (.str "drawn"), tC (.int 0))]) (gName 1)) := by
      refine ps_set (i := 1) sc__law_begun.nd rfl (Or.inl rfl) (pe_disp ?pp rfl rfl ?ne ?le)
      case pp =>
        refine pps_cons pe_str ?lc (pps_cons pe_str pe_int (pps_cons pe_str pe_int pps_nil))
        case lc =>
          exact ro_lc (own := [("cell", 2)]) rfl sc__law_begun.nd (ri_scr (i := 0) wScr_scr rfl (Or.inl rfl)) (blkOk_by (by first | rfl | decide +kernel)) (fun _ _ _ _ _ => (rg_name (i := 2) sc__law_begun.nd rfl (by first | exact Or.inl rfl | exact Or.inr rfl))) (by decide)
            (fun _ _ _ _ _ => (rt_one (rb_ge (rv_blt call_abs oA_abs rfl x.g_abs (by decide +kernel) (ra_cons (rv_var 2) ra_nil)) (rv_pow rv_int rv_int)))) (fun _ _ _ _ _ => (rv_blt call_abs oA_abs rfl x.g_abs (by decide +kernel) (ra_cons (rv_var 2) ra_nil)))
      case ne => simp
      case le => decide
    exact ⟨_, pss_cons ps1 (pss_ex (ι := Addr × Addr) fun i => b__law_begun (S := S) (am := i.1) (gl := i.2) (cls := clsX C) hr x.g_int), t⟩
/-- what is promised of the law -/
def spLaw (K : PySem.W.Frag) (T : List (Addr × Str)) : Sp := fun vs H Q _ => ∃ S : Scr, S.T = T ∧ vs = [.ref S.scr] ∧ S.R K H ∧ S.ns.length ≤ line ∧ ∀ H', Q (.bl true) H'
def q1 : Str := (("_law_refused_right" : Str) ++ ".<locals>.") ++ "<lambda>"
def q2 : Str := (("_law_bounds_right" : Str) ++ ".<locals>.") ++ "<lambda>"
theorem said (x : Fx P K mg C I) : SaidD P K mg "_law_said" "call" "error" "BadWord" "answer" "word" C := by
  obtain ⟨f, fd, hm, FD⟩ := x.f__law_said
  exact ⟨f, fd, _, _, _, _, _, _, _, _, _, _, _, _, _, _, _, _, _, _, _, hm, FD, FD.bindsN (fun _ _ _ _ _ _ us hl => match us, hl with | [_], _ => rfl), ⟨rfl, rfl, rfl, by decide +kernel, rfl, by decide +kernel, by decide +kernel⟩, rfl, rfl⟩
theorem law_fn (hLaw : LawTrue) (x : Fx P K mg C I) {c1 P1 c2 P2 : Addr} (n12 : P1 ≠ P2) (TB1 : LamX.TabB base mg c1 P1) (TB2 : LamX.TabB base mg c2 P2)
    (hc1 : ∀ f fd, mg "_law_refused_right" = some (.ref f) → FunD K "_law_refused_right" "_law_refused_right" (defArgs s__law_refused_right) (defBody s__law_refused_right) (defScope s__law_refused_right) [] [] f fd → fd.code = .ref c1)
    (hc2 : ∀ f fd, mg "_law_bounds_right" = some (.ref f) → FunD K "_law_bounds_right" "_law_bounds_right" (defArgs s__law_bounds_right) (defBody s__law_bounds_right) (defScope s__law_bounds_right) [] [] f fd → fd.code = .ref c2) :
    ∀ f fd, mg "law" = some (.ref f) → FunD K "law" "law" (defArgs s_law) (defBody s_law) (defScope s_law) [] [] f fd → FnOk P w K mg base (L2.CX P w) 60 f fd ["script"] (spLaw K [(P1, q1), (P2, q2)]) := by
  intro f fd hm FD
  refine FD.ok (k := 59) sc_law (fun vs H Q E h => ?_) (fun cdv A outer s H vs Q E hr h => ?_)
  · obtain ⟨S, _, rfl, _⟩ := h
    rfl
  · obtain ⟨S, hT, rfl, hR, hln, hq⟩ := h
    obtain ⟨fb, fdb, hmb, kpb, bb, Fb⟩ := begun_fn (w := w) (base := base) x S
    have hW1 : ∀ i : Addr × Addr, WTab (wDr K S i.1 i.2) P1 q1 := fun i => wDr_tab (by rw [hT]; simp) (by
      rw [hT]
      intro p hp e
      rcases List.mem_cons.mp hp with rfl | hp
      · rfl
      · obtain rfl := List.mem_singleton.mp hp
        exact absurd e.symm n12)
    have hW2 : ∀ i : Addr × Addr, WTab (wDr K S i.1 i.2) P2 q2 := fun i => wDr_tab (by rw [hT]; simp) (by
      rw [hT]
      intro p hp e
      rcases List.mem_cons.mp hp with rfl | hp
      · exact absurd e n12
      · obtain rfl := List.mem_singleton.mp hp
        rfl)
    refine ⟨_, pss_cons (ps_set (i := 1) sc_law.nd rfl (Or.inl rfl) (pe_callS (Fb.mono (by decide : 2 ≤ 59)) hr rfl hmb kpb bb (E := WE (fun _ _ _ _ => False)) (fun σ => passAt takes_none σ) (pa_cons (pe_var (i := 0) rfl (Or.inl rfl) (by decide) (by decide)) pa_nil)))
      (pss_ex (ι := Addr × Addr) fun i => b_law (S := S) (am := i.1) (gl := i.2) (cls := clsX C) hr x.g_len x.g_min x.g_range ((df__law_next x).mono (by decide)) ((df__law_word x 50).mono (by decide)) ((df__law_same x 50).mono (by decide)) ((df__law_names x 50).mono (by decide)) ((df__law_dual x 50).mono (by decide)) ((df_dual_word x).mono (by decide))
        ((df__law_refused_right x (said x) TB1 hc1 (hW1 i)).mono (by decide)) ((df__law_bounds_right x (said x) TB2 hc2 (hW2 i)).mono (by decide)) ((dk_need_named_word x).mono (by decide)) ((dk_how_many_cables x).mono (by decide)) ((dk_dual_word x).mono (by decide))), ?_⟩
    · refine ⟨.ref S.scr, rfl, rfl, hR, hln, fun am gl s1 H1 k hDr => ⟨(am, gl), ?_⟩⟩
      obtain ⟨s', hF⟩ := hLaw S am gl s1
      refine ⟨⟨(wDr K S am gl).M, fun _ _ => False⟩, [.val (hnd S.scr), .val (hnd am), .no, .no], [none, none, none, none], s1, ⟨.val (Rep.hnd S.scr) (.val (Rep.hnd am) (.no (.no .nil))), fun i j b hi => ?_, fun _ _ z => z.elim, fun b z => by simp at z, fun b m => (wDr K S am gl).there _ _ b hDr m, fun b m => m, fun _ _ z => z.elim, hDr⟩, ?_⟩
      · have := List.mem_of_getElem? hi
        simp at this
      · show PostS K (wDr K S am gl) (clsX C) _ _ _ (FL S am gl [.val (hnd S.scr), .val (hnd am), .no, .no] s1)
        rw [hF]
        intro v H2 k r rv
        obtain rfl := rv.bool_inv
        exact hq H2
end
end K54
end

section
set_option Elab.async false
set_option linter.all false
set_option maxRecDepth 100000
set_option maxHeartbeats 4000000
namespace K54
open PySem PySem.Spec PyProof.Rows L2 Rf Hd54
def cN {S : Type} : Fb S := bEmp true 2
def bN {S : Type} : Fs S := (sSeq (sPop 2 (gTp [(gNm 3), (gNm 4)]))
  (sSeq (sIf (bOr (bVal (v2 dGt (vA dLen (aCons (vVar 3) aNil)) (vCst (.int 40)))) (bAnd (bNot (bVal (vCall φ_is_inner (aCons (vVar 4) aNil)))) (bNot (bVal (vCall φ_is_leaf (aCons (vVar 4) aNil)))))) (sRaise "BadWord" (vVar 3)) sNil)
  (sIf (bVal (vCall φ_is_inner (aCons (vVar 4) aNil))) (sSeq (sApp 2 (vA dTup (aCons (v2 dAdd (vVar 3) (vA dTup (aCons (vCst (.int 2)) aNil))) (aCons (v2 dItem (vVar 4) (vCst (.int 2))) aNil))))
  (sApp 2 (vA dTup (aCons (v2 dAdd (vVar 3) (vA dTup (aCons (vCst (.int 1)) aNil))) (aCons (v2 dItem (vVar 4) (vCst (.int 1))) aNil))))) (sSeq (sApp 1 (v2 dItem (vVar 4) (vCst (.int 1))))
  (sIf (bVal (v2 dGt (vLenO 1) (vCst (.int 40)))) (sRaise "BadWord" (vCst (.str "many"))) sNil)))))
theorem FN {S : Type} (n : Nat) : F_names_of (S := S) φ_is_inner φ_is_leaf n = sSeq (sPar 1 2 (cNew aNil) (cNew (aCons (vA dTup (aCons (vA dTup aNil) (aCons (vVar 0) aNil))) aNil))) (sSeq (sWhile n cN bN) (sSeq (sFrz 1) (sRet (vVar 1)))) := rfl
abbrev eN (w : D) (found wait : List D) (x y : Slot) : En := [.val w, .own found, .own wait, x, y]
abbrev pr (way : List D) (d : D) : D := .tuple [.tuple way, d]
theorem lin1 {n : Nat} (h : n ≤ 1000) : n + 1 ≤ line := by unfold line; omega
theorem step_inner {S : Type} (w k l r : D) (found rest way : List D) (x y : Slot) (s : S) (hi : ∀ s : S, φ_is_inner [.tuple [k, l, r]] s = .ok (.bool true) s) (hw : way.length ≤ 40) (hr : rest.length ≤ 1000) :
    bN (eN w found (rest ++ [pr way (.tuple [k, l, r])]) x y) s = .ok (.nx (eN w found (rest ++ [pr (way ++ [.int 2]) r, pr (way ++ [.int 1]) l]) (.val (.tuple way)) (.val (.tuple [k, l, r])))) s := by
  have h1 : way.length + 1 ≤ line := lin1 (by omega)
  have h2 : (2 : Nat) ≤ line := by decide
  have h3 : rest.length < line := lin1 hr
  have h4 : rest.length + 1 < line := by unfold line; omega
  have h5 : (1 : Nat) ≤ line := by decide
  have h6 : ¬ (40 : Int) < way.length := by omega
  simp [Rf.run, Rf.start, sSeq, sSet, sRet, sDrop, sIf, sBrk, sCnt, sRaise, sFrz, frzS, ownAt, sApp, gNm, gTps, gTp, sUnp, sSetC, sPar, cVal, cNew, bEmp, vLenO, vIxO, vTupO, sPop, sSetIx, vVar, vCst, v1, v2, aNil, aCons, vA, vCall, vIte, bVal, bAnd, bOr, bNot, vB, dTup, dLst, dAdd, dSub, dIx, dItem, dLen, dCmp, Rs.bind, Rs.ofO, sNil, bN, eN, pr, hi, h1, h2, h3, h4, h5, h6]
theorem step_leaf {S : Type} (w z : D) (found rest way : List D) (c : D) (x y : Slot) (s : S) (hi : ∀ s : S, φ_is_inner [.tuple [c, z]] s = .ok (.bool false) s) (hl : ∀ s : S, φ_is_leaf [.tuple [c, z]] s = .ok (.bool true) s) (hw : way.length ≤ 40) (hf : found.length + 1 ≤ 40) :
    bN (eN w found (rest ++ [pr way (.tuple [c, z])]) x y) s = .ok (.nx (eN w (found ++ [z]) rest (.val (.tuple way)) (.val (.tuple [c, z])))) s := by
  have h3 : found.length < line := lin1 (by omega)
  have h6 : ¬ (40 : Int) < way.length := by omega
  have h7 : ¬ (40 : Int) < (found.length : Int) + 1 := by omega
  simp [Rf.run, Rf.start, sSeq, sSet, sRet, sDrop, sIf, sBrk, sCnt, sRaise, sFrz, frzS, ownAt, sApp, gNm, gTps, gTp, sUnp, sSetC, sPar, cVal, cNew, bEmp, vLenO, vIxO, vTupO, sPop, sSetIx, vVar, vCst, v1, v2, aNil, aCons, vA, vCall, vIte, bVal, bAnd, bOr, bNot, vB, dTup, dLst, dAdd, dSub, dIx, dItem, dLen, dCmp, Rs.bind, Rs.ofO, sNil, bN, eN, pr, hi, hl, h3, h6, h7]
theorem step_many {S : Type} (w z : D) (found rest way : List D) (c : D) (x y : Slot) (s : S) (hi : ∀ s : S, φ_is_inner [.tuple [c, z]] s = .ok (.bool false) s) (hl : ∀ s : S, φ_is_leaf [.tuple [c, z]] s = .ok (.bool true) s) (hw : way.length ≤ 40) (hf : found.length = 40) :
    bN (eN w found (rest ++ [pr way (.tuple [c, z])]) x y) s = .exc "BadWord" (.str "many") s := by
  have h3 : found.length < line := lin1 (by omega)
  have h6 : ¬ (40 : Int) < way.length := by omega
  have h7 : (40 : Int) < (found.length : Int) + 1 := by omega
  simp [Rf.run, Rf.start, sSeq, sSet, sRet, sDrop, sIf, sBrk, sCnt, sRaise, sFrz, frzS, ownAt, sApp, gNm, gTps, gTp, sUnp, sSetC, sPar, cVal, cNew, bEmp, vLenO, vIxO, vTupO, sPop, sSetIx, vVar, vCst, v1, v2, aNil, aCons, vA, vCall, vIte, bVal, bAnd, bOr, bNot, vB, dTup, dLst, dAdd, dSub, dIx, dItem, dLen, dCmp, Rs.bind, Rs.ofO, sNil, bN, eN, pr, hi, hl, h3, h6, h7]
theorem step_bad {S : Type} (w d : D) (found rest way : List D) (x y : Slot) (s : S) (hi : ∀ s : S, φ_is_inner [d] s = .ok (.bool false) s) (hl : ∀ s : S, φ_is_leaf [d] s = .ok (.bool false) s) (hw : way.length ≤ 40) :
    bN (eN w found (rest ++ [pr way d]) x y) s = .exc "BadWord" (.tuple way) s := by
  have h6 : ¬ (40 : Int) < way.length := by omega
  simp [Rf.run, Rf.start, sSeq, sSet, sRet, sDrop, sIf, sBrk, sCnt, sRaise, sFrz, frzS, ownAt, sApp, gNm, gTps, gTp, sUnp, sSetC, sPar, cVal, cNew, bEmp, vLenO, vIxO, vTupO, sPop, sSetIx, vVar, vCst, v1, v2, aNil, aCons, vA, vCall, vIte, bVal, bAnd, bOr, bNot, vB, dTup, dLst, dAdd, dSub, dIx, dItem, dLen, dCmp, Rs.bind, Rs.ofO, sNil, bN, eN, pr, hi, hl, h6]
theorem step_deep {S : Type} (w d : D) (found rest way : List D) (x y : Slot) (s : S) (hw : 40 < way.length) :
    bN (eN w found (rest ++ [pr way d]) x y) s = .exc "BadWord" (.tuple way) s := by
  have h6 : (40 : Int) < way.length := by omega
  simp [Rf.run, Rf.start, sSeq, sSet, sRet, sDrop, sIf, sBrk, sCnt, sRaise, sFrz, frzS, ownAt, sApp, gNm, gTps, gTp, sUnp, sSetC, sPar, cVal, cNew, bEmp, vLenO, vIxO, vTupO, sPop, sSetIx, vVar, vCst, v1, v2, aNil, aCons, vA, vCall, vIte, bVal, bAnd, bOr, bNot, vB, dTup, dLst, dAdd, dSub, dIx, dItem, dLen, dCmp, Rs.bind, Rs.ofO, sNil, bN, eN, pr, h6]
/-! ### words -/
inductive Wt where
  | lf (d : D)
  | nd (k : Str) (l r : Wt)
def Wt.toD : Wt → D
  | .lf d => d
  | .nd k l r => .tuple [.str k, l.toD, r.toD]
def Wt.size : Wt → Nat
  | .lf _ => 1
  | .nd _ l r => 1 + l.size + r.size
/-- a good leaf -/
def cab (i : Int) : D := .tuple [.str "cable", .int i]
def okLf (d : D) : Prop := ∃ i : Int, 0 ≤ i ∧ i ≤ 5 ∧ d = cab i
/-- a datum that is neither -/
def badLf (d : D) : Prop := ∀ (S : Type) (s : S), φ_is_inner [d] s = .ok (.bool false) s ∧ φ_is_leaf [d] s = .ok (.bool false) s
def Wt.wf : Wt → Prop
  | .lf d => okLf d ∨ badLf d
  | .nd k l r => (k = "row" ∨ k = "side") ∧ l.wf ∧ r.wf
inductive Ans where
  | ok (f : List D)
  | no (d : D)
def nmOf : D → D
  | .tuple [_, z] => z
  | _ => .none
open Classical in
noncomputable def scan : Wt → List D → List D → Ans
  | .lf d, way, found => if 40 < way.length ∨ ¬ okLf d then .no (.tuple way) else if found.length + 1 ≤ 40 then .ok (found ++ [nmOf d]) else .no (.str "many")
  | .nd _ l r, way, found => if 40 < way.length then .no (.tuple way) else match scan l (way ++ [.int 1]) found with
    | .ok f => scan r (way ++ [.int 2]) f
    | .no d => .no d
theorem scan_nd (k : Str) (l r : Wt) (way found : List D) : scan (.nd k l r) way found = if 40 < way.length then .no (.tuple way) else match scan l (way ++ [.int 1]) found with
    | .ok f => scan r (way ++ [.int 2]) f
    | .no d => .no d := by rw [scan]
theorem cab_leaf {S : Type} {i : Int} (h0 : 0 ≤ i) (h5 : i ≤ 5) (s : S) : φ_is_inner [cab i] s = .ok (.bool false) s ∧ φ_is_leaf [cab i] s = .ok (.bool true) s := by
  have : i = 0 ∨ i = 1 ∨ i = 2 ∨ i = 3 ∨ i = 4 ∨ i = 5 := by omega
  rcases this with rfl | rfl | rfl | rfl | rfl | rfl <;> exact ⟨by kernel_rfl, by kernel_rfl⟩
theorem in_nd {S : Type} {k : Str} (hk : k = "row" ∨ k = "side") (l r : D) (s : S) : φ_is_inner [.tuple [.str k, l, r]] s = .ok (.bool true) s := by
  rcases hk with rfl | rfl <;> rfl
theorem not_bad {d : D} (h : okLf d) : ¬ badLf d := fun b => by
  obtain ⟨i, h0, h5, rfl⟩ := h
  have h1 := (b Unit ()).2
  rw [(cab_leaf h0 h5 ()).2] at h1
  cases h1
theorem wh_true {S : Type} {c : Fb S} {b : Fs S} {n : Nat} {e : En} {s : S} (hc : c e s = .ok true s) : whGo c b (n + 1) e s = (b e s).bind fun o s2 => match o with
      | .nx e2 => whGo c b n e2 s2
      | .ct e2 => whGo c b n e2 s2
      | .bk e2 => .ok (.nx e2) s2
      | .rt d => .ok (.rt d) s2 := by
  show (c e s).bind _ = _
  rw [hc]
  rfl
theorem wh_false {S : Type} {c : Fb S} {b : Fs S} {n : Nat} {e : En} {s : S} (hc : c e s = .ok false s) : whGo c b (n + 1) e s = .ok (.nx e) s := by
  show (c e s).bind _ = _
  rw [hc]
  rfl
theorem cN_true {S : Type} (w : D) (found rest : List D) (t : D) (x y : Slot) (s : S) : cN (eN w found (rest ++ [t]) x y) s = .ok true s := by
  simp [Rf.run, Rf.start, sSeq, sSet, sRet, sDrop, sIf, sBrk, sCnt, sRaise, sFrz, frzS, ownAt, sApp, gNm, gTps, gTp, sUnp, sSetC, sPar, cVal, cNew, bEmp, vLenO, vIxO, vTupO, sPop, sSetIx, vVar, vCst, v1, v2, aNil, aCons, vA, vCall, vIte, bVal, bAnd, bOr, bNot, vB, dTup, dLst, dAdd, dSub, dIx, dItem, dLen, dCmp, Rs.bind, Rs.ofO, sNil, cN, eN]
theorem cN_false {S : Type} (w : D) (found : List D) (x y : Slot) (s : S) : cN (eN w found [] x y) s = .ok false s := by
  simp [Rf.run, Rf.start, sSeq, sSet, sRet, sDrop, sIf, sBrk, sCnt, sRaise, sFrz, frzS, ownAt, sApp, gNm, gTps, gTp, sUnp, sSetC, sPar, cVal, cNew, bEmp, vLenO, vIxO, vTupO, sPop, sSetIx, vVar, vCst, v1, v2, aNil, aCons, vA, vCall, vIte, bVal, bAnd, bOr, bNot, vB, dTup, dLst, dAdd, dSub, dIx, dItem, dLen, dCmp, Rs.bind, Rs.ofO, sNil, cN, eN]
theorem scan_len : ∀ (t : Wt) (way found f : List D), found.length ≤ 40 → scan t way found = .ok f → f.length ≤ 40
  | .lf d, way, found, f, hf, h => by
    unfold scan at h
    split at h
    · cases h
    · split at h
      · rename_i q
        cases h
        rw [List.length_append]
        exact q
      · cases h
  | .nd k l r, way, found, f, hf, h => by
    rw [scan_nd] at h
    split at h
    · cases h
    · cases e : scan l (way ++ [.int 1]) found with
      | no d => rw [e] at h; cases h
      | ok f1 =>
        rw [e] at h
        exact scan_len r _ f1 f (scan_len l _ found f1 hf e) h
/-- the loop reads a word -/
theorem loop {S : Type} (w : D) (s : S) : ∀ (t : Wt), t.wf → ∀ (n : Nat) (rest way found : List D) (x y : Slot), found.length ≤ 40 → rest.length + 2 * t.size ≤ 1000 →
    (∀ f, scan t way found = .ok f → ∃ x' y', whGo cN bN (n + t.size) (eN w found (rest ++ [pr way t.toD]) x y) s = whGo cN bN n (eN w f rest x' y') s) ∧
    (∀ d, scan t way found = .no d → whGo cN bN (n + t.size) (eN w found (rest ++ [pr way t.toD]) x y) s = .exc "BadWord" d s)
  | .lf d, hw, n, rest, way, found, x, y, hf, hs => by
    have c := cN_true w found rest (pr way d) x y s
    have e : whGo cN bN (n + (Wt.lf d).size) (eN w found (rest ++ [pr way (Wt.lf d).toD]) x y) s = _ := wh_true (n := n) c
    by_cases hd : 40 < way.length
    · have st := step_deep w d found rest way x y s hd
      have sc : scan (.lf d) way found = .no (.tuple way) := by unfold scan; rw [if_pos (.inl hd)]
      refine ⟨fun f h => ?_, fun d' h => ?_⟩
      · rw [sc] at h; cases h
      · rw [sc] at h
        cases h
        rw [e]
        show (bN (eN w found (rest ++ [pr way d]) x y) s).bind _ = _
        rw [st]
        rfl
    · by_cases hl : okLf d
      · obtain ⟨i, h0, h5, rfl⟩ := hl
        have hl : okLf (cab i) := ⟨i, h0, h5, rfl⟩
        by_cases hq : found.length + 1 ≤ 40
        · have st := step_leaf w (.int i) found rest way (.str "cable") x y s (fun s => (cab_leaf h0 h5 s).1) (fun s => (cab_leaf h0 h5 s).2) (by omega) hq
          have sc : scan (.lf (cab i)) way found = .ok (found ++ [.int i]) := by
            unfold scan
            rw [if_neg (fun z => z.elim hd fun z => z hl), if_pos hq]
            rfl
          refine ⟨fun f h => ?_, fun d' h => ?_⟩
          · rw [sc] at h
            cases h
            refine ⟨.val (.tuple way), .val (.tuple [.str "cable", .int i]), ?_⟩
            rw [e]
            show (bN (eN w found (rest ++ [pr way (.tuple [.str "cable", .int i])]) x y) s).bind _ = _
            rw [st]
            rfl
          · rw [sc] at h; cases h
        · have st := step_many w (.int i) found rest way (.str "cable") x y s (fun s => (cab_leaf h0 h5 s).1) (fun s => (cab_leaf h0 h5 s).2) (by omega) (by omega)
          have sc : scan (.lf (cab i)) way found = .no (.str "many") := by
            unfold scan
            rw [if_neg (fun z => z.elim hd fun z => z hl), if_neg hq]
          refine ⟨fun f h => ?_, fun d' h => ?_⟩
          · rw [sc] at h; cases h
          · rw [sc] at h
            cases h
            rw [e]
            show (bN (eN w found (rest ++ [pr way (.tuple [.str "cable", .int i])]) x y) s).bind _ = _
            rw [st]
            rfl
      · have hb : badLf d := hw.elim (fun z => absurd z hl) id
        have st := step_bad w d found rest way x y s (fun s => (hb S s).1) (fun s => (hb S s).2) (by omega)
        have sc : scan (.lf d) way found = .no (.tuple way) := by unfold scan; rw [if_pos (.inr hl)]
        refine ⟨fun f h => ?_, fun d' h => ?_⟩
        · rw [sc] at h; cases h
        · rw [sc] at h
          cases h
          rw [e]
          show (bN (eN w found (rest ++ [pr way d]) x y) s).bind _ = _
          rw [st]
          rfl
  | .nd k l r, hw, n, rest, way, found, x, y, hf, hs => by
    obtain ⟨hk, hl, hr⟩ := hw
    have sz : (Wt.nd k l r).size = 1 + l.size + r.size := rfl
    have c := cN_true w found rest (pr way (Wt.nd k l r).toD) x y s
    have e : whGo cN bN (n + r.size + l.size + 1) (eN w found (rest ++ [pr way (Wt.nd k l r).toD]) x y) s = _ := wh_true (n := n + r.size + l.size) c
    have en : n + (Wt.nd k l r).size = n + r.size + l.size + 1 := by rw [sz]; omega
    rw [en]
    by_cases hd : 40 < way.length
    · have st := step_deep w (Wt.nd k l r).toD found rest way x y s hd
      have sc : scan (.nd k l r) way found = .no (.tuple way) := by unfold scan; rw [if_pos hd]
      refine ⟨fun f h => ?_, fun d' h => ?_⟩
      · rw [sc] at h; cases h
      · rw [sc] at h
        cases h
        rw [e, st]
        rfl
    · have st := step_inner w (.str k) l.toD r.toD found rest way x y s (fun s => in_nd hk _ _ s) (by omega) (by omega)
      have e2 : whGo cN bN (n + r.size + l.size + 1) (eN w found (rest ++ [pr way (Wt.nd k l r).toD]) x y) s = whGo cN bN (n + r.size + l.size) (eN w found ((rest ++ [pr (way ++ [.int 2]) r.toD]) ++ [pr (way ++ [.int 1]) l.toD]) (.val (.tuple way)) (.val (.tuple [.str k, l.toD, r.toD]))) s := by
        rw [e]
        show (bN (eN w found (rest ++ [pr way (.tuple [.str k, l.toD, r.toD])]) x y) s).bind _ = _
        rw [st]
        rw [List.append_assoc]
        rfl
      have r1 : 1 ≤ r.size := by
        cases r with
        | lf d => exact Nat.le_refl 1
        | nd k a b =>
          show 1 ≤ 1 + a.size + b.size
          omega
      have hs1 : (rest ++ [pr (way ++ [.int 2]) r.toD]).length + 2 * l.size ≤ 1000 := by
        rw [List.length_append, List.length_singleton]
        rw [sz] at hs
        omega
      have ih := loop w s l hl (n + r.size) (rest ++ [pr (way ++ [.int 2]) r.toD]) (way ++ [.int 1]) found (.val (.tuple way)) (.val (.tuple [.str k, l.toD, r.toD])) hf hs1
      have sc : scan (.nd k l r) way found = match scan l (way ++ [.int 1]) found with
        | .ok f => scan r (way ++ [.int 2]) f
        | .no d => .no d := by
        rw [scan_nd, if_neg hd]
      rw [sc]
      cases q : scan l (way ++ [.int 1]) found with
      | no d0 =>
        refine ⟨fun f h => (by cases h), fun d' h => ?_⟩
        cases h
        rw [e2]
        exact ih.2 _ q
      | ok f1 =>
        obtain ⟨x', y', e3⟩ := ih.1 _ q
        have ih2 := loop w s r hr n rest (way ++ [.int 2]) f1 x' y' (scan_len l _ found f1 hf q) (by rw [sz] at hs; omega)
        refine ⟨fun f h => ?_, fun d' h => ?_⟩
        · rw [e2, e3]
          exact ih2.1 f h
        · rw [e2, e3]
          exact ih2.2 d' h
theorem names_of {S : Type} (t : Wt) (hw : t.wf) (hs : t.size ≤ 400) (s : S) : (∀ f, scan t [] [] = .ok f → φ_names_of [t.toD] s = .ok (.list f) s) ∧ (∀ d, scan t [] [] = .no d → φ_names_of [t.toD] s = .exc "BadWord" d s) := by
  have base : φ_names_of [t.toD] s = ((whGo cN bN 1000 (eN t.toD [] ([] ++ [pr [] t.toD]) .no .no) s).bind fun o s1 => match o with
      | .nx e1 => (sSeq (sFrz 1) (sRet (vVar 1))) e1 s1
      | o => .ok o s1).bind fun o s1 => match o with
      | .nx _ => .ok .none s1
      | .rt d => .ok d s1
      | _ => .stuck := by
    rfl
  have l := loop t.toD s t hw (1000 - t.size) [] [] [] .no .no (by simp) (by simp; omega)
  have e1 : 1000 - t.size + t.size = 1000 := by omega
  rw [e1] at l
  refine ⟨fun f h => ?_, fun d h => ?_⟩
  · obtain ⟨x', y', e2⟩ := l.1 f h
    rw [base, e2]
    obtain ⟨m, hm⟩ : ∃ m, 1000 - t.size = m + 1 := ⟨999 - t.size, by omega⟩
    rw [hm]
    have c := cN_false t.toD f x' y' s
    have e3 : whGo cN bN (m + 1) (eN t.toD f [] x' y') s = .ok (.nx (eN t.toD f [] x' y')) s := wh_false c
    rw [e3]
    simp [Rf.run, Rf.start, sSeq, sSet, sRet, sDrop, sIf, sBrk, sCnt, sRaise, sFrz, frzS, ownAt, sApp, gNm, gTps, gTp, sUnp, sSetC, sPar, cVal, cNew, bEmp, vLenO, vIxO, vTupO, sPop, sSetIx, vVar, vCst, v1, v2, aNil, aCons, vA, vCall, vIte, bVal, bAnd, bOr, bNot, vB, dTup, dLst, dAdd, dSub, dIx, dItem, dLen, dCmp, Rs.bind, Rs.ofO, sNil, eN]
  · rw [base, l.2 d h]
    rfl
end K54
end

section
set_option Elab.async false
set_option linter.all false
set_option maxRecDepth 100000
set_option maxHeartbeats 4000000
namespace K54
open PySem PySem.Spec PyProof.Rows L2 Rf Hd54
/-! ### what a bad word makes of the tellers, what a good one -/
section
variable {S : Type} {b g d : D} {f : List D}
theorem need_bad (hb : ∀ s : S, φ_names_of [b] s = .exc "BadWord" d s) (s : S) : φ_need_named_word [b] s = .exc "BadWord" d s := by
  unfold φ_need_named_word
  rw [fnφ_eq (n := 1) (ds := [b]) rfl]
  simp [Rf.run, Rf.start, sSeq, sSet, sRet, sDrop, sIf, sBrk, sCnt, sRaise, sFrz, frzS, ownAt, sApp, gNm, gTps, gTp, sUnp, sSetC, sPar, cVal, cNew, bEmp, vLenO, vIxO, vTupO, sPop, sSetIx, vVar, vCst, v1, v2, aNil, aCons, vA, vCall, vIte, bVal, bAnd, bOr, bNot, vB, dTup, dLst, dAdd, dSub, dIx, dItem, dLen, dCmp, Rs.bind, Rs.ofO, sNil, F_need_named_word, hb]
theorem need_good (hg : ∀ s : S, φ_names_of [g] s = .ok (.list f) s) (s : S) : φ_need_named_word [g] s = .ok g s := by
  unfold φ_need_named_word
  rw [fnφ_eq (n := 1) (ds := [g]) rfl]
  simp [Rf.run, Rf.start, sSeq, sSet, sRet, sDrop, sIf, sBrk, sCnt, sRaise, sFrz, frzS, ownAt, sApp, gNm, gTps, gTp, sUnp, sSetC, sPar, cVal, cNew, bEmp, vLenO, vIxO, vTupO, sPop, sSetIx, vVar, vCst, v1, v2, aNil, aCons, vA, vCall, vIte, bVal, bAnd, bOr, bNot, vB, dTup, dLst, dAdd, dSub, dIx, dItem, dLen, dCmp, Rs.bind, Rs.ofO, sNil, F_need_named_word, hg]
theorem many_bad (hb : ∀ s : S, φ_names_of [b] s = .exc "BadWord" d s) (s : S) : φ_how_many_cables [b] s = .exc "BadWord" d s := by
  unfold φ_how_many_cables
  rw [fnφ_eq (n := 1) (ds := [b]) rfl]
  simp [Rf.run, Rf.start, sSeq, sSet, sRet, sDrop, sIf, sBrk, sCnt, sRaise, sFrz, frzS, ownAt, sApp, gNm, gTps, gTp, sUnp, sSetC, sPar, cVal, cNew, bEmp, vLenO, vIxO, vTupO, sPop, sSetIx, vVar, vCst, v1, v2, aNil, aCons, vA, vCall, vIte, bVal, bAnd, bOr, bNot, vB, dTup, dLst, dAdd, dSub, dIx, dItem, dLen, dCmp, Rs.bind, Rs.ofO, sNil, F_how_many_cables, hb]
theorem many_good (hg : ∀ s : S, φ_names_of [g] s = .ok (.list f) s) (s : S) : φ_how_many_cables [g] s = .ok (.int f.length) s := by
  unfold φ_how_many_cables
  rw [fnφ_eq (n := 1) (ds := [g]) rfl]
  simp [Rf.run, Rf.start, sSeq, sSet, sRet, sDrop, sIf, sBrk, sCnt, sRaise, sFrz, frzS, ownAt, sApp, gNm, gTps, gTp, sUnp, sSetC, sPar, cVal, cNew, bEmp, vLenO, vIxO, vTupO, sPop, sSetIx, vVar, vCst, v1, v2, aNil, aCons, vA, vCall, vIte, bVal, bAnd, bOr, bNot, vB, dTup, dLst, dAdd, dSub, dIx, dItem, dLen, dCmp, Rs.bind, Rs.ofO, sNil, F_how_many_cables, hg]
theorem dual_bad (hb : ∀ s : S, φ_names_of [b] s = .exc "BadWord" d s) (s : S) : φ_dual_word [b] s = .exc "BadWord" d s := by
  unfold φ_dual_word
  rw [fnφ_eq (n := 1) (ds := [b]) rfl]
  simp [Rf.run, Rf.start, sSeq, sSet, sRet, sDrop, sIf, sBrk, sCnt, sRaise, sFrz, frzS, ownAt, sApp, gNm, gTps, gTp, sUnp, sSetC, sPar, cVal, cNew, bEmp, vLenO, vIxO, vTupO, sPop, sSetIx, vVar, vCst, v1, v2, aNil, aCons, vA, vCall, vIte, bVal, bAnd, bOr, bNot, vB, dTup, dLst, dAdd, dSub, dIx, dItem, dLen, dCmp, Rs.bind, Rs.ofO, sNil, F_dual_word, need_bad hb]
theorem dual_good (hg : ∀ s : S, φ_names_of [g] s = .ok (.list f) s) {g' : D} (hd : ∀ s : S, φ_dual_of 50 [g] s = .ok g' s) (s : S) : φ_dual_word [g] s = .ok g' s := by
  unfold φ_dual_word
  rw [fnφ_eq (n := 1) (ds := [g]) rfl]
  simp [Rf.run, Rf.start, sSeq, sSet, sRet, sDrop, sIf, sBrk, sCnt, sRaise, sFrz, frzS, ownAt, sApp, gNm, gTps, gTp, sUnp, sSetC, sPar, cVal, cNew, bEmp, vLenO, vIxO, vTupO, sPop, sSetIx, vVar, vCst, v1, v2, aNil, aCons, vA, vCall, vIte, bVal, bAnd, bOr, bNot, vB, dTup, dLst, dAdd, dSub, dIx, dItem, dLen, dCmp, Rs.bind, Rs.ofO, sNil, F_dual_word, need_good hg, hd]
theorem plain_bad (hb : ∀ s : S, φ_names_of [b] s = .exc "BadWord" d s) (s : S) : φ_plain_word [b] s = .exc "BadWord" d s := by
  unfold φ_plain_word
  rw [fnφ_eq (n := 1) (ds := [b]) rfl]
  simp [Rf.run, Rf.start, sSeq, sSet, sRet, sDrop, sIf, sBrk, sCnt, sRaise, sFrz, frzS, ownAt, sApp, gNm, gTps, gTp, sUnp, sSetC, sPar, cVal, cNew, bEmp, vLenO, vIxO, vTupO, sPop, sSetIx, vVar, vCst, v1, v2, aNil, aCons, vA, vCall, vIte, bVal, bAnd, bOr, bNot, vB, dTup, dLst, dAdd, dSub, dIx, dItem, dLen, dCmp, Rs.bind, Rs.ofO, sNil, F_plain_word, hb]
theorem corners_bad (hb : ∀ s : S, φ_names_of [b] s = .exc "BadWord" d s) (s : S) : φ_word_corners [b] s = .exc "BadWord" d s := by
  unfold φ_word_corners
  rw [fnφ_eq (n := 1) (ds := [b]) rfl]
  simp [Rf.run, Rf.start, sSeq, sSet, sRet, sDrop, sIf, sBrk, sCnt, sRaise, sFrz, frzS, ownAt, sApp, gNm, gTps, gTp, sUnp, sSetC, sPar, cVal, cNew, bEmp, vLenO, vIxO, vTupO, sPop, sSetIx, vVar, vCst, v1, v2, aNil, aCons, vA, vCall, vIte, bVal, bAnd, bOr, bNot, vB, dTup, dLst, dAdd, dSub, dIx, dItem, dLen, dCmp, Rs.bind, Rs.ofO, sNil, F_word_corners, need_bad hb]
theorem values_bad (hb : ∀ s : S, φ_names_of [b] s = .exc "BadWord" d s) (x y : D) (s : S) : φ_word_values [b, x, y] s = .exc "BadWord" d s := by
  unfold φ_word_values
  rw [fnφ_eq (n := 3) (ds := [b, x, y]) rfl]
  simp [Rf.run, Rf.start, sSeq, sSet, sRet, sDrop, sIf, sBrk, sCnt, sRaise, sFrz, frzS, ownAt, sApp, gNm, gTps, gTp, sUnp, sSetC, sPar, cVal, cNew, bEmp, vLenO, vIxO, vTupO, sPop, sSetIx, vVar, vCst, v1, v2, aNil, aCons, vA, vCall, vIte, bVal, bAnd, bOr, bNot, vB, dTup, dLst, dAdd, dSub, dIx, dItem, dLen, dCmp, Rs.bind, Rs.ofO, sNil, F_word_values, need_bad hb]
theorem words_bad1 (hb : ∀ s : S, φ_names_of [b] s = .exc "BadWord" d s) (x : D) (s : S) : φ_need_words [b, x] s = .exc "BadWord" d s := by
  unfold φ_need_words
  rw [fnφ_eq (n := 2) (ds := [b, x]) rfl]
  simp [Rf.run, Rf.start, sSeq, sSet, sRet, sDrop, sIf, sBrk, sCnt, sRaise, sFrz, frzS, ownAt, sApp, gNm, gTps, gTp, sUnp, sSetC, sPar, cVal, cNew, bEmp, vLenO, vIxO, vTupO, sPop, sSetIx, vVar, vCst, v1, v2, aNil, aCons, vA, vCall, vIte, bVal, bAnd, bOr, bNot, vB, dTup, dLst, dAdd, dSub, dIx, dItem, dLen, dCmp, Rs.bind, Rs.ofO, sNil, F_need_words, need_bad hb]
theorem words_bad2 (hg : ∀ s : S, φ_names_of [g] s = .ok (.list f) s) (hb : ∀ s : S, φ_names_of [b] s = .exc "BadWord" d s) (s : S) : φ_need_words [g, b] s = .exc "BadWord" d s := by
  unfold φ_need_words
  rw [fnφ_eq (n := 2) (ds := [g, b]) rfl]
  simp [Rf.run, Rf.start, sSeq, sSet, sRet, sDrop, sIf, sBrk, sCnt, sRaise, sFrz, frzS, ownAt, sApp, gNm, gTps, gTp, sUnp, sSetC, sPar, cVal, cNew, bEmp, vLenO, vIxO, vTupO, sPop, sSetIx, vVar, vCst, v1, v2, aNil, aCons, vA, vCall, vIte, bVal, bAnd, bOr, bNot, vB, dTup, dLst, dAdd, dSub, dIx, dItem, dLen, dCmp, Rs.bind, Rs.ofO, sNil, F_need_words, need_bad hb, need_good hg]
theorem paper_bad {x y : D} (h : ∀ s : S, φ_need_words [x, y] s = .exc "BadWord" d s) (s : S) : φ_word_paper [x, y] s = .exc "BadWord" d s := by
  unfold φ_word_paper
  rw [fnφ_eq (n := 2) (ds := [x, y]) rfl]
  simp [Rf.run, Rf.start, sSeq, sSet, sRet, sDrop, sIf, sBrk, sCnt, sRaise, sFrz, frzS, ownAt, sApp, gNm, gTps, gTp, sUnp, sSetC, sPar, cVal, cNew, bEmp, vLenO, vIxO, vTupO, sPop, sSetIx, vVar, vCst, v1, v2, aNil, aCons, vA, vCall, vIte, bVal, bAnd, bOr, bNot, vB, dTup, dLst, dAdd, dSub, dIx, dItem, dLen, dCmp, Rs.bind, Rs.ofO, sNil, F_word_paper, h]
theorem check_bad {x y z : D} (h : ∀ s : S, φ_need_words [x, y] s = .exc "BadWord" d s) (s : S) : φ_check_word_paper [x, y, z] s = .exc "BadWord" d s := by
  unfold φ_check_word_paper
  rw [fnφ_eq (n := 3) (ds := [x, y, z]) rfl]
  simp [Rf.run, Rf.start, sSeq, sSet, sRet, sDrop, sIf, sBrk, sCnt, sRaise, sFrz, frzS, ownAt, sApp, gNm, gTps, gTp, sUnp, sSetC, sPar, cVal, cNew, bEmp, vLenO, vIxO, vTupO, sPop, sSetIx, vVar, vCst, v1, v2, aNil, aCons, vA, vCall, vIte, bVal, bAnd, bOr, bNot, vB, dTup, dLst, dAdd, dSub, dIx, dItem, dLen, dCmp, Rs.bind, Rs.ofO, sNil, F_check_word_paper, h]
theorem weaker_bad {x y : D} (h : ∀ s : S, φ_need_words [x, y] s = .exc "BadWord" d s) (s : S) : φ_is_word_never_weaker [x, y] s = .exc "BadWord" d s := by
  unfold φ_is_word_never_weaker
  rw [fnφ_eq (n := 2) (ds := [x, y]) rfl]
  simp [Rf.run, Rf.start, sSeq, sSet, sRet, sDrop, sIf, sBrk, sCnt, sRaise, sFrz, frzS, ownAt, sApp, gNm, gTps, gTp, sUnp, sSetC, sPar, cVal, cNew, bEmp, vLenO, vIxO, vTupO, sPop, sSetIx, vVar, vCst, v1, v2, aNil, aCons, vA, vCall, vIte, bVal, bAnd, bOr, bNot, vB, dTup, dLst, dAdd, dSub, dIx, dItem, dLen, dCmp, Rs.bind, Rs.ofO, sNil, F_is_word_never_weaker, paper_bad h]
theorem one_bad {x y : D} (h : ∀ s : S, φ_need_words [x, y] s = .exc "BadWord" d s) (s : S) : φ_are_words_one [x, y] s = .exc "BadWord" d s := by
  unfold φ_are_words_one
  rw [fnφ_eq (n := 2) (ds := [x, y]) rfl]
  simp [Rf.run, Rf.start, sSeq, sSet, sRet, sDrop, sIf, sBrk, sCnt, sRaise, sFrz, frzS, ownAt, sApp, gNm, gTps, gTp, sUnp, sSetC, sPar, cVal, cNew, bEmp, vLenO, vIxO, vTupO, sPop, sSetIx, vVar, vCst, v1, v2, aNil, aCons, vA, vCall, vIte, bVal, bAnd, bOr, bNot, vB, dTup, dLst, dAdd, dSub, dIx, dItem, dLen, dCmp, Rs.bind, Rs.ofO, sNil, F_are_words_one, h]
end
/-! ### good words -/
def Wt.good : Wt → Prop
  | .lf d => okLf d
  | .nd k l r => (k = "row" ∨ k = "side") ∧ l.good ∧ r.good
def Wt.lv : Wt → Nat
  | .lf _ => 1
  | .nd _ l r => l.lv + r.lv
def Wt.dp : Wt → Nat
  | .lf _ => 0
  | .nd _ l r => 1 + max l.dp r.dp
def Wt.names : Wt → List D
  | .lf d => [nmOf d]
  | .nd _ l r => l.names ++ r.names
def Wt.dual : Wt → Wt
  | .lf d => .lf d
  | .nd k l r => .nd (if k = "row" then "side" else "row") l.dual r.dual
theorem good_wf : ∀ {t : Wt}, t.good → t.wf
  | .lf d, h => .inl h
  | .nd k l r, h => ⟨h.1, good_wf h.2.1, good_wf h.2.2⟩
theorem names_len : ∀ t : Wt, t.names.length = t.lv
  | .lf d => rfl
  | .nd k l r => by
    show (l.names ++ r.names).length = l.lv + r.lv
    rw [List.length_append, names_len l, names_len r]
theorem lv_pos : ∀ t : Wt, 1 ≤ t.lv
  | .lf d => Nat.le_refl 1
  | .nd k l r => by
    have := lv_pos l
    show 1 ≤ l.lv + r.lv
    omega
theorem size_lv : ∀ t : Wt, t.size + 1 = 2 * t.lv
  | .lf d => rfl
  | .nd k l r => by
    have h1 := size_lv l
    have h2 := size_lv r
    show 1 + l.size + r.size + 1 = 2 * (l.lv + r.lv)
    omega
theorem dp_lv : ∀ t : Wt, t.dp + 1 ≤ t.lv
  | .lf d => Nat.le_refl 1
  | .nd k l r => by
    have h1 := dp_lv l
    have h2 := dp_lv r
    show 1 + max l.dp r.dp + 1 ≤ l.lv + r.lv
    omega
theorem scan_good : ∀ (t : Wt) (way found : List D), t.good → way.length + t.dp ≤ 40 → found.length + t.lv ≤ 40 → scan t way found = .ok (found ++ t.names)
  | .lf d, way, found, hg, hw, hf => by
    have hw' : way.length ≤ 40 := by simpa [Wt.dp] using hw
    have hf' : found.length + 1 ≤ 40 := hf
    unfold scan
    rw [if_neg (fun z => z.elim (fun z => by omega) fun z => z hg), if_pos hf']
    rfl
  | .nd k l r, way, found, hg, hw, hf => by
    have hw' : way.length + (1 + max l.dp r.dp) ≤ 40 := hw
    have hf' : found.length + (l.lv + r.lv) ≤ 40 := hf
    have lp := lv_pos r
    rw [scan_nd, if_neg (by omega), scan_good l (way ++ [PyData.int 1]) found hg.2.1 (by rw [List.length_append, List.length_singleton]; omega) (by omega)]
    dsimp only
    rw [scan_good r (way ++ [PyData.int 2]) (found ++ l.names) hg.2.2 (by rw [List.length_append, List.length_singleton]; omega) (by rw [List.length_append, names_len]; omega), List.append_assoc]
    rfl
theorem scan_many : ∀ (t : Wt) (way found : List D), t.good → way.length + t.dp ≤ 40 → found.length ≤ 40 → 40 < found.length + t.lv → scan t way found = .no (.str "many")
  | .lf d, way, found, hg, hw, hf, hm => by
    have hw' : way.length ≤ 40 := by simpa [Wt.dp] using hw
    have hm' : 40 < found.length + 1 := hm
    unfold scan
    rw [if_neg (fun z => z.elim (fun z => by omega) fun z => z hg), if_neg (by omega)]
  | .nd k l r, way, found, hg, hw, hf, hm => by
    have hw' : way.length + (1 + max l.dp r.dp) ≤ 40 := hw
    have hm' : 40 < found.length + (l.lv + r.lv) := hm
    rw [scan_nd, if_neg (by omega)]
    by_cases h : found.length + l.lv ≤ 40
    · rw [scan_good l (way ++ [PyData.int 1]) found hg.2.1 (by rw [List.length_append, List.length_singleton]; omega) h]
      dsimp only
      exact scan_many r (way ++ [PyData.int 2]) (found ++ l.names) hg.2.2 (by rw [List.length_append, List.length_singleton]; omega) (by rw [List.length_append, names_len]; omega) (by rw [List.length_append, names_len]; omega)
    · rw [scan_many l (way ++ [PyData.int 1]) found hg.2.1 (by rw [List.length_append, List.length_singleton]; omega) hf (by omega)]
/-! ### equality of what is compared -/
theorem side_ne : ¬ (Str.ofString "side" = Str.ofString "row") := by decide
theorem eq_cable : dEq (.str "cable") (.str "cable") = some (.bool true) := by kernel_rfl
theorem eq_row : dEq (.str "row") (.str "cable") = some (.bool false) := by kernel_rfl
theorem eq_side : dEq (.str "side") (.str "cable") = some (.bool false) := by kernel_rfl
theorem eq_rr : dEq (.str "row") (.str "row") = some (.bool true) := by kernel_rfl
theorem eq_sr : dEq (.str "side") (.str "row") = some (.bool false) := by kernel_rfl
theorem eq_int (i j : Int) : dEq (.int i) (.int j) = some (.bool (i == j)) := by
  unfold dEq
  simp [SeqAt.shaped, PyData.canLay0, PyData.depth, PyData.eqv]
theorem eq_nd {k : Str} (h : k = "row" ∨ k = "side") : dEq (.str k) (.str "cable") = some (.bool false) := by
  rcases h with rfl | rfl
  · exact eq_row
  · exact eq_side
/-! ### the dual of a word, its names -/
theorem dual_of {S : Type} (s : S) : ∀ (t : Wt) (k : Nat), t.good → t.dp ≤ k → φ_dual_of (k + 1) [t.toD] s = .ok t.dual.toD s
  | .lf d, k, hg, hk => by
    obtain ⟨i, h0, h5, rfl⟩ := hg
    show fnφ 1 1 (F_dual_of (φ_dual_of k)) [cab i] s = _
    rw [fnφ_eq (n := 1) (ds := [cab i]) rfl]
    simp [Rf.run, Rf.start, sSeq, sSet, sRet, sDrop, sIf, sBrk, sCnt, sRaise, sFrz, frzS, ownAt, sApp, gNm, gTps, gTp, sUnp, sSetC, sPar, cVal, cNew, bEmp, vLenO, vIxO, vTupO, sPop, sSetIx, vVar, vCst, v1, v2, aNil, aCons, vA, vCall, vIte, bVal, bAnd, bOr, bNot, vB, dTup, dLst, dAdd, dSub, dIx, dItem, dLen, dCmp, Rs.bind, Rs.ofO, sNil, F_dual_of, cab, eq_cable, Wt.dual, Wt.toD]
  | .nd c l r, k, hg, hk => by
    have hk' : 1 + max l.dp r.dp ≤ k := hk
    obtain ⟨j, rfl⟩ : ∃ j, k = j + 1 := ⟨k - 1, by omega⟩
    have h1 := dual_of s l j hg.2.1 (by omega)
    have h2 := dual_of s r j hg.2.2 (by omega)
    show fnφ 1 1 (F_dual_of (φ_dual_of (j + 1))) [.tuple [.str c, l.toD, r.toD]] s = _
    rw [fnφ_eq (n := 1) (ds := [.tuple [.str c, l.toD, r.toD]]) rfl]
    have h3 : (3 : Nat) ≤ line := by decide
    rcases hg.1 with rfl | rfl
    · simp [Rf.run, Rf.start, sSeq, sSet, sRet, sDrop, sIf, sBrk, sCnt, sRaise, sFrz, frzS, ownAt, sApp, gNm, gTps, gTp, sUnp, sSetC, sPar, cVal, cNew, bEmp, vLenO, vIxO, vTupO, sPop, sSetIx, vVar, vCst, v1, v2, aNil, aCons, vA, vCall, vIte, bVal, bAnd, bOr, bNot, vB, dTup, dLst, dAdd, dSub, dIx, dItem, dLen, dCmp, Rs.bind, Rs.ofO, sNil, F_dual_of, eq_row, eq_rr, h1, h2, h3, Wt.dual, Wt.toD]
    · simp [Rf.run, Rf.start, sSeq, sSet, sRet, sDrop, sIf, sBrk, sCnt, sRaise, sFrz, frzS, ownAt, sApp, gNm, gTps, gTp, sUnp, sSetC, sPar, cVal, cNew, bEmp, vLenO, vIxO, vTupO, sPop, sSetIx, vVar, vCst, v1, v2, aNil, aCons, vA, vCall, vIte, bVal, bAnd, bOr, bNot, vB, dTup, dLst, dAdd, dSub, dIx, dItem, dLen, dCmp, Rs.bind, Rs.ofO, sNil, F_dual_of, eq_side, eq_sr, h1, h2, h3, Wt.dual, Wt.toD, side_ne]
theorem law_dual {S : Type} (s : S) : ∀ (t : Wt) (k : Nat), t.good → t.dp ≤ k → φ__law_dual (k + 1) [t.toD] s = .ok t.dual.toD s
  | .lf d, k, hg, hk => by
    obtain ⟨i, h0, h5, rfl⟩ := hg
    show fnφ 1 1 (F__law_dual (φ__law_dual k)) [cab i] s = _
    rw [fnφ_eq (n := 1) (ds := [cab i]) rfl]
    simp [Rf.run, Rf.start, sSeq, sSet, sRet, sDrop, sIf, sBrk, sCnt, sRaise, sFrz, frzS, ownAt, sApp, gNm, gTps, gTp, sUnp, sSetC, sPar, cVal, cNew, bEmp, vLenO, vIxO, vTupO, sPop, sSetIx, vVar, vCst, v1, v2, aNil, aCons, vA, vCall, vIte, bVal, bAnd, bOr, bNot, vB, dTup, dLst, dAdd, dSub, dIx, dItem, dLen, dCmp, Rs.bind, Rs.ofO, sNil, F__law_dual, cab, eq_cable, Wt.dual, Wt.toD]
  | .nd c l r, k, hg, hk => by
    have hk' : 1 + max l.dp r.dp ≤ k := hk
    obtain ⟨j, rfl⟩ : ∃ j, k = j + 1 := ⟨k - 1, by omega⟩
    have h1 := law_dual s l j hg.2.1 (by omega)
    have h2 := law_dual s r j hg.2.2 (by omega)
    show fnφ 1 1 (F__law_dual (φ__law_dual (j + 1))) [.tuple [.str c, l.toD, r.toD]] s = _
    rw [fnφ_eq (n := 1) (ds := [.tuple [.str c, l.toD, r.toD]]) rfl]
    have h3 : (3 : Nat) ≤ line := by decide
    rcases hg.1 with rfl | rfl
    · simp [Rf.run, Rf.start, sSeq, sSet, sRet, sDrop, sIf, sBrk, sCnt, sRaise, sFrz, frzS, ownAt, sApp, gNm, gTps, gTp, sUnp, sSetC, sPar, cVal, cNew, bEmp, vLenO, vIxO, vTupO, sPop, sSetIx, vVar, vCst, v1, v2, aNil, aCons, vA, vCall, vIte, bVal, bAnd, bOr, bNot, vB, dTup, dLst, dAdd, dSub, dIx, dItem, dLen, dCmp, Rs.bind, Rs.ofO, sNil, F__law_dual, eq_row, eq_rr, h1, h2, h3, Wt.dual, Wt.toD]
    · simp [Rf.run, Rf.start, sSeq, sSet, sRet, sDrop, sIf, sBrk, sCnt, sRaise, sFrz, frzS, ownAt, sApp, gNm, gTps, gTp, sUnp, sSetC, sPar, cVal, cNew, bEmp, vLenO, vIxO, vTupO, sPop, sSetIx, vVar, vCst, v1, v2, aNil, aCons, vA, vCall, vIte, bVal, bAnd, bOr, bNot, vB, dTup, dLst, dAdd, dSub, dIx, dItem, dLen, dCmp, Rs.bind, Rs.ofO, sNil, F__law_dual, eq_side, eq_sr, h1, h2, h3, Wt.dual, Wt.toD, side_ne]
theorem law_names {S : Type} (s : S) : ∀ (t : Wt) (k : Nat), t.good → t.dp ≤ k → t.lv ≤ 1000 → φ__law_names (k + 1) [t.toD] s = .ok (.list t.names) s
  | .lf d, k, hg, hk, _ => by
    obtain ⟨i, h0, h5, rfl⟩ := hg
    show fnφ 1 1 (F__law_names (φ__law_names k)) [cab i] s = _
    rw [fnφ_eq (n := 1) (ds := [cab i]) rfl]
    have h3 : (1 : Nat) ≤ line := by decide
    simp [Rf.run, Rf.start, sSeq, sSet, sRet, sDrop, sIf, sBrk, sCnt, sRaise, sFrz, frzS, ownAt, sApp, gNm, gTps, gTp, sUnp, sSetC, sPar, cVal, cNew, bEmp, vLenO, vIxO, vTupO, sPop, sSetIx, vVar, vCst, v1, v2, aNil, aCons, vA, vCall, vIte, bVal, bAnd, bOr, bNot, vB, dTup, dLst, dAdd, dSub, dIx, dItem, dLen, dCmp, Rs.bind, Rs.ofO, sNil, F__law_names, cab, eq_cable, h3, Wt.names, nmOf]
  | .nd c l r, k, hg, hk, hl => by
    have hk' : 1 + max l.dp r.dp ≤ k := hk
    have hl' : l.lv + r.lv ≤ 1000 := hl
    obtain ⟨j, rfl⟩ : ∃ j, k = j + 1 := ⟨k - 1, by omega⟩
    have h1 := law_names s l j hg.2.1 (by omega) (by omega)
    have h2 := law_names s r j hg.2.2 (by omega) (by omega)
    show fnφ 1 1 (F__law_names (φ__law_names (j + 1))) [.tuple [.str c, l.toD, r.toD]] s = _
    rw [fnφ_eq (n := 1) (ds := [.tuple [.str c, l.toD, r.toD]]) rfl]
    have h3 : l.names.length + r.names.length ≤ line := by rw [names_len, names_len]; unfold line; omega
    simp [Rf.run, Rf.start, sSeq, sSet, sRet, sDrop, sIf, sBrk, sCnt, sRaise, sFrz, frzS, ownAt, sApp, gNm, gTps, gTp, sUnp, sSetC, sPar, cVal, cNew, bEmp, vLenO, vIxO, vTupO, sPop, sSetIx, vVar, vCst, v1, v2, aNil, aCons, vA, vCall, vIte, bVal, bAnd, bOr, bNot, vB, dTup, dLst, dAdd, dSub, dIx, dItem, dLen, dCmp, Rs.bind, Rs.ofO, sNil, F__law_names, eq_nd hg.1, h1, h2, h3, Wt.names]
theorem dual_good_ : ∀ {t : Wt}, t.good → t.dual.good ∧ t.dual.lv = t.lv ∧ t.dual.dp = t.dp ∧ t.dual.dual = t
  | .lf d, h => ⟨h, rfl, rfl, rfl⟩
  | .nd k l r, h => by
    obtain ⟨a1, a2, a3, a4⟩ := dual_good_ h.2.1
    obtain ⟨b1, b2, b3, b4⟩ := dual_good_ h.2.2
    refine ⟨⟨?_, a1, b1⟩, ?_, ?_, ?_⟩
    · by_cases e : k = "row"
      · exact .inr (if_pos e)
      · exact .inl (if_neg e)
    · show l.dual.lv + r.dual.lv = l.lv + r.lv
      rw [a2, b2]
    · show 1 + max l.dual.dp r.dual.dp = 1 + max l.dp r.dp
      rw [a3, b3]
    · show Wt.nd _ l.dual.dual r.dual.dual = _
      rw [a4, b4]
      rcases h.1 with rfl | rfl <;> rfl
end K54
end

section
set_option Elab.async false
set_option linter.all false
set_option maxRecDepth 100000
set_option maxHeartbeats 4000000
namespace K54
open PySem PySem.Spec PyProof.Rows L2 Rf Hd54
/-! ### _law_same -/
theorem eq_refl_ {d : D} (h : SeqAt.shaped d = true) : dEq d d = some (.bool true) := by
  unfold dEq
  rw [if_pos ⟨h, h⟩, SeqAt.eqv_refl d (SeqAt.canLay_of_shaped h)]
def plF : Nat → D → Prop
  | 0, _ => False
  | k + 1, d => d = .none ∨ (∃ b, d = .bool b) ∨ (∃ i, d = .int i) ∨ (∃ x, d = .str x ∧ dEq (.str x) (.str x) = some (.bool true)) ∨ ∃ ds, d = .tuple ds ∧ ds.length ≤ 1000 ∧ ∀ e ∈ ds, plF k e
theorem eq_nil : dEq (.list []) (.list []) = some (.bool true) := by kernel_rfl
theorem same_lc {S : Type} {φ : List D → S → Rs S D} (s : S) (a b x y : Slot) : ∀ ds : List D, (∀ e ∈ ds, φ [e, e] s = .ok (.bool true) s) →
    lcGo (gTp [(gNm 2), (gNm 3)]) (bNot (bVal (vCall φ (aCons (vVar 2) (aCons (vVar 3) aNil))))) (vCst (.int 1)) [a, b, x, y] (List.zipWith pairD ds ds) s = .ok [] s
  | [], _ => rfl
  | d :: r, h => by
    have ih := same_lc s a b x y r fun e he => h e (List.mem_cons_of_mem _ he)
    have h0 := h d List.mem_cons_self
    have step : lcGo (gTp [(gNm 2), (gNm 3)]) (bNot (bVal (vCall φ (aCons (vVar 2) (aCons (vVar 3) aNil))))) (vCst (.int 1)) [a, b, x, y] (List.zipWith pairD (d :: r) (d :: r)) s =
      (bNot (bVal (vCall φ (aCons (vVar 2) (aCons (vVar 3) aNil)))) [a, b, .val d, .val d] s).nox.bind fun t s1 => match t with
      | true => ((vCst (.int 1)) [a, b, .val d, .val d] s1).nox.bind fun y' s2 => (lcGo (gTp [(gNm 2), (gNm 3)]) (bNot (bVal (vCall φ (aCons (vVar 2) (aCons (vVar 3) aNil))))) (vCst (.int 1)) [a, b, x, y] (List.zipWith pairD r r) s2).bind fun ys s3 => .ok (y' :: ys) s3
      | false => lcGo (gTp [(gNm 2), (gNm 3)]) (bNot (bVal (vCall φ (aCons (vVar 2) (aCons (vVar 3) aNil))))) (vCst (.int 1)) [a, b, x, y] (List.zipWith pairD r r) s1 := rfl
    have t0 : bNot (bVal (vCall φ (aCons (vVar 2) (aCons (vVar 3) aNil)))) [a, b, .val d, .val d] s = .ok false s := by
      simp [Rf.run, Rf.start, sSeq, sSet, sRet, sDrop, sIf, sBrk, sCnt, sRaise, sFrz, frzS, ownAt, sApp, gNm, gTps, gTp, sUnp, sSetC, sPar, cVal, cNew, bEmp, vLenO, vIxO, vTupO, sPop, sSetIx, vVar, vCst, v1, v2, aNil, aCons, vA, vCall, vIte, bVal, bAnd, bOr, bNot, vB, dTup, dLst, dAdd, dSub, dIx, dItem, dLen, dCmp, Rs.bind, Rs.ofO, sNil, h0]
    rw [step, t0]
    exact ih
theorem isi1 (i : Int) : dIsi .bool (.int i) = some (.bool false) ∧ dIsi .tuple (.int i) = some (.bool false) ∧ dIsi .str (.int i) = some (.bool false) ∧ dIsi .int (.int i) = some (.bool true) := ⟨rfl, rfl, rfl, rfl⟩
theorem isi2 (x : Str) : dIsi .bool (.str x) = some (.bool false) ∧ dIsi .tuple (.str x) = some (.bool false) ∧ dIsi .str (.str x) = some (.bool true) ∧ dIsi .int (.str x) = some (.bool false) := ⟨rfl, rfl, rfl, rfl⟩
theorem isi3 (b : Bool) : dIsi .bool (.bool b) = some (.bool true) := rfl
theorem isi4 (ds : List D) : dIsi .bool (.tuple ds) = some (.bool false) ∧ dIsi .tuple (.tuple ds) = some (.bool true) := ⟨rfl, rfl⟩
theorem same_refl {S : Type} (s : S) : ∀ (k : Nat) (d : D), plF k d → φ__law_same k [d, d] s = .ok (.bool true) s
  | 0, d, h => h.elim
  | k + 1, d, h => by
    show fnφ 2 4 (F__law_same (φ__law_same k)) [d, d] s = _
    rw [fnφ_eq (n := 2) (ds := [d, d]) rfl]
    rcases h with rfl | ⟨b, rfl⟩ | ⟨i, rfl⟩ | ⟨x, rfl, hx⟩ | ⟨ds, rfl, hl, he⟩
    · simp [Rf.run, Rf.start, sSeq, sSet, sRet, sDrop, sIf, sBrk, sCnt, sRaise, sFrz, frzS, ownAt, sApp, gNm, gTps, gTp, sUnp, sSetC, sPar, cVal, cNew, bEmp, vLenO, vIxO, vTupO, sPop, sSetIx, vVar, vCst, v1, v2, aNil, aCons, vA, vCall, vIte, bVal, bAnd, bOr, bNot, vB, dTup, dLst, dAdd, dSub, dIx, dItem, dLen, dCmp, Rs.bind, Rs.ofO, sNil, F__law_same, dIsN, isNone]
    · have hb : dEq (.bool b) (.bool b) = some (.bool true) := by cases b <;> kernel_rfl
      simp [Rf.run, Rf.start, sSeq, sSet, sRet, sDrop, sIf, sBrk, sCnt, sRaise, sFrz, frzS, ownAt, sApp, gNm, gTps, gTp, sUnp, sSetC, sPar, cVal, cNew, bEmp, vLenO, vIxO, vTupO, sPop, sSetIx, vVar, vCst, v1, v2, aNil, aCons, vA, vCall, vIte, bVal, bAnd, bOr, bNot, vB, dTup, dLst, dAdd, dSub, dIx, dItem, dLen, dCmp, Rs.bind, Rs.ofO, sNil, F__law_same, dIsN, isNone, isi3, hb]
    · have hi : dEq (.int i) (.int i) = some (.bool true) := by rw [eq_int]; simp
      simp [Rf.run, Rf.start, sSeq, sSet, sRet, sDrop, sIf, sBrk, sCnt, sRaise, sFrz, frzS, ownAt, sApp, gNm, gTps, gTp, sUnp, sSetC, sPar, cVal, cNew, bEmp, vLenO, vIxO, vTupO, sPop, sSetIx, vVar, vCst, v1, v2, aNil, aCons, vA, vCall, vIte, bVal, bAnd, bOr, bNot, vB, dTup, dLst, dAdd, dSub, dIx, dItem, dLen, dCmp, Rs.bind, Rs.ofO, sNil, F__law_same, dIsN, isNone, isi1, hi]
    · simp [Rf.run, Rf.start, sSeq, sSet, sRet, sDrop, sIf, sBrk, sCnt, sRaise, sFrz, frzS, ownAt, sApp, gNm, gTps, gTp, sUnp, sSetC, sPar, cVal, cNew, bEmp, vLenO, vIxO, vTupO, sPop, sSetIx, vVar, vCst, v1, v2, aNil, aCons, vA, vCall, vIte, bVal, bAnd, bOr, bNot, vB, dTup, dLst, dAdd, dSub, dIx, dItem, dLen, dCmp, Rs.bind, Rs.ofO, sNil, F__law_same, dIsN, isNone, isi2, hx]
    · have h1 : dEq (.int ds.length) (.int ds.length) = some (.bool true) := by rw [eq_int]; simp
      have h2 := same_lc (φ := φ__law_same k) s (.val (.tuple ds)) (.val (.tuple ds)) .no .no ds fun e he' => same_refl s k e (he e he')
      have h3 : (List.zipWith pairD ds ds).length ≤ line := by rw [List.length_zipWith]; unfold line; omega
      have h4 : iZip (S := S) (vVar 0) (vVar 1) [.val (.tuple ds), .val (.tuple ds), .no, .no] s = .ok (List.zipWith pairD ds ds) s := rfl
      have h5 : vLc [2, 3] (gTp [(gNm 2), (gNm 3)]) (iZip (vVar 0) (vVar 1)) (bNot (bVal (vCall (φ__law_same k) (aCons (vVar 2) (aCons (vVar 3) aNil))))) (vCst (.int 1)) [.val (.tuple ds), .val (.tuple ds), .no, .no] s = .ok [] s := by
        unfold vLc
        rw [h4, Rs.bind_ok, if_pos h3]
        show (lcGo _ _ _ [.val (.tuple ds), .val (.tuple ds), .no, .no] (List.zipWith pairD ds ds) s).bind _ = _
        rw [h2]
        rfl
      have h6 : (0 : Nat) ≤ line := Nat.zero_le _
      simp [Rf.run, Rf.start, sSeq, sSet, sRet, sDrop, sIf, sBrk, sCnt, sRaise, sFrz, frzS, ownAt, sApp, gNm, gTps, gTp, sUnp, sSetC, sPar, cVal, cNew, bEmp, vLenO, vIxO, vTupO, sPop, sSetIx, vVar, vCst, v1, v2, aNil, aCons, vA, vCall, vIte, bVal, bAnd, bOr, bNot, vB, dTup, dLst, dAdd, dSub, dIx, dItem, dLen, dCmp, Rs.bind, Rs.ofO, sNil, F__law_same, dIsN, isNone, isi4, h1, vNew, h5, eq_nil]
theorem pl_mono : ∀ {k j : Nat} {d : D}, plF k d → k ≤ j → plF j d
  | 0, _, _, h, _ => h.elim
  | k + 1, 0, _, _, hj => by omega
  | k + 1, j + 1, d, h, hj => by
    rcases h with h | h | h | h | ⟨ds, e, hl, he⟩
    · exact .inl h
    · exact .inr (.inl h)
    · exact .inr (.inr (.inl h))
    · exact .inr (.inr (.inr (.inl h)))
    · exact .inr (.inr (.inr (.inr ⟨ds, e, hl, fun x hx => pl_mono (he x hx) (by omega)⟩)))
theorem pl_int (k : Nat) (i : Int) : plF (k + 1) (.int i) := .inr (.inr (.inl ⟨i, rfl⟩))
theorem pl_str (k : Nat) {x : Str} (h : dEq (.str x) (.str x) = some (.bool true)) : plF (k + 1) (.str x) := .inr (.inr (.inr (.inl ⟨x, rfl, h⟩)))
theorem pl_tup (k : Nat) {ds : List D} (hl : ds.length ≤ 1000) (he : ∀ e ∈ ds, plF k e) : plF (k + 1) (.tuple ds) := .inr (.inr (.inr (.inr ⟨ds, rfl, hl, he⟩)))
theorem eq_ss : dEq (.str "side") (.str "side") = some (.bool true) := by kernel_rfl
theorem eq_ww : dEq (.str "word") (.str "word") = some (.bool true) := by kernel_rfl
theorem pl_word : ∀ (t : Wt), t.good → plF (t.dp + 2) t.toD
  | .lf d, h => by
    obtain ⟨i, h0, h5, rfl⟩ := h
    exact pl_tup 1 (by simp) fun e he => by
      rcases List.mem_cons.mp he with rfl | he
      · exact pl_str 0 eq_cable
      · obtain rfl := List.mem_singleton.mp he
        exact pl_int 0 i
  | .nd k l r, h => by
    have h1 := pl_word l h.2.1
    have h2 := pl_word r h.2.2
    have e : (Wt.nd k l r).dp + 2 = (max l.dp r.dp + 2) + 1 := by show 1 + max l.dp r.dp + 2 = _; omega
    rw [e]
    refine pl_tup _ (by simp) fun e he => ?_
    rcases List.mem_cons.mp he with rfl | he
    · rcases h.1 with rfl | rfl
      · exact pl_str _ eq_rr
      · exact pl_str _ eq_ss
    · rcases List.mem_cons.mp he with rfl | he
      · exact pl_mono h1 (by omega)
      · obtain rfl := List.mem_singleton.mp he
        exact pl_mono h2 (by omega)
/-! ### draws -/
section
variable (am gl : Addr)
theorem hAt0 (r : En) : hAt am 0 (.val (hnd am) :: r) = true := by unfold hAt; exact isH_hnd am
theorem next_ok (s : MS) (many : Int) (h0 : 0 < many) (h1 : many < 1073741824) : ∃ (v : Int) (s' : MS), φ__law_next am gl [hnd am, .int many] s = .ok (.int v) s' ∧ 0 ≤ v ∧ v < many := by
  have hA := hAt0 am
  have hL : ∀ (m x a c : Slot), hAt gl 2 [m, x, .val (hnd gl), a, c] = true := fun m x a c => by unfold hAt; exact isH_hnd gl
  have mix : ∀ (a c : Slot) (s : MS), ∃ (v : Int) (s' : MS), (sSeq (sMPut am 0 .mixed (v2 dMod (vA dInt (aCons (v2 dAdd (v2 dAdd (v2 dMul (vMGet am gl 0 .mixed) (vCst (.int 48271))) (v2 dMul (vCst (.int 7907)) (vMGet am gl 0 .drawn))) (vCst (.int 13))) aNil)) (vCst (.int 2147483647))))
      (sRet (v2 dMod (vA dInt (aCons (v2 dFdiv (vMGet am gl 0 .mixed) (vCst (.int 11))) aNil)) (vVar 1)))) [.val (hnd am), .val (.int many), .val (hnd gl), a, c] s = .ok (.rt (.int v)) s' ∧ 0 ≤ v ∧ v < many := fun a c s => by
    refine ⟨((s.mixed * 48271 + 7907 * s.drawn + 13) % 2147483647 / 11) % many, { s with mixed := (s.mixed * 48271 + 7907 * s.drawn + 13) % 2147483647 }, ?_, Int.emod_nonneg _ (by omega), Int.emod_lt_of_pos _ h0⟩
    simp [Rf.run, Rf.start, sSeq, sSet, sRet, sDrop, sIf, sBrk, sCnt, sRaise, sFrz, frzS, ownAt, sApp, gNm, gTps, gTp, sUnp, sSetC, sPar, cVal, cNew, bEmp, vLenO, vIxO, vTupO, sPop, sSetIx, vVar, vCst, v1, v2, aNil, aCons, vA, vCall, vIte, bVal, bAnd, bOr, bNot, vB, dTup, dLst, dAdd, dSub, dIx, dItem, dLen, dCmp, Rs.bind, Rs.ofO, sNil, sMPut, vMGet, hA, dMul, dMod, dInt, dFdiv, MS.get, MS.put, h0]
  have sp : ∀ (F : Fs MS), fnφ 2 5 F [hnd am, .int many] s = (F [.val (hnd am), .val (.int many), .no, .no, .no] s).bind fun o s1 => match o with
    | .nx _ => .ok .none s1
    | .rt d => .ok d s1
    | _ => .stuck := fun F => rfl
  unfold φ__law_next
  rw [sp]
  unfold F__law_next
  by_cases hg : s.great = []
  · obtain ⟨v, s', hv, r0, r1⟩ := mix (.val (.int 0)) .no { s with drawn := s.drawn + 1 }
    refine ⟨v, s', ?_, r0, r1⟩
    have e1 : sMPut am 0 .drawn (v2 dAdd (vMGet am gl 0 .drawn) (vCst (.int 1))) [.val (hnd am), .val (.int many), .no, .no, .no] s = .ok (.nx [.val (hnd am), .val (.int many), .no, .no, .no]) { s with drawn := s.drawn + 1 } := by
      simp [Rf.run, Rf.start, sSeq, sSet, sRet, sDrop, sIf, sBrk, sCnt, sRaise, sFrz, frzS, ownAt, sApp, gNm, gTps, gTp, sUnp, sSetC, sPar, cVal, cNew, bEmp, vLenO, vIxO, vTupO, sPop, sSetIx, vVar, vCst, v1, v2, aNil, aCons, vA, vCall, vIte, bVal, bAnd, bOr, bNot, vB, dTup, dLst, dAdd, dSub, dIx, dItem, dLen, dCmp, Rs.bind, Rs.ofO, sNil, sMPut, vMGet, hA, MS.get, MS.put]
    have e2 : sPar 2 3 (cVal (vMGet am gl 0 .great)) (cVal (vCst (.int 0))) [.val (hnd am), .val (.int many), .no, .no, .no] { s with drawn := s.drawn + 1 } = .ok (.nx [.val (hnd am), .val (.int many), .val (hnd gl), .val (.int 0), .no]) { s with drawn := s.drawn + 1 } := by
      simp [Rf.run, Rf.start, sSeq, sSet, sRet, sDrop, sIf, sBrk, sCnt, sRaise, sFrz, frzS, ownAt, sApp, gNm, gTps, gTp, sUnp, sSetC, sPar, cVal, cNew, bEmp, vLenO, vIxO, vTupO, sPop, sSetIx, vVar, vCst, v1, v2, aNil, aCons, vA, vCall, vIte, bVal, bAnd, bOr, bNot, vB, dTup, dLst, dAdd, dSub, dIx, dItem, dLen, dCmp, Rs.bind, Rs.ofO, sNil, vMGet, hA, MS.get]
    have e3 : bLNe gl 2 [.val (hnd am), .val (.int many), .val (hnd gl), .val (.int 0), .no] { s with drawn := s.drawn + 1 } = .ok false { s with drawn := s.drawn + 1 } := by
      unfold bLNe
      rw [if_pos (hL _ _ _ _)]
      simp [hg]
    rw [sSeq, e1]
    simp only [Rs.bind]
    rw [sSeq, e2]
    simp only [Rs.bind]
    rw [sSeq, sIf, e3]
    simp only [Rs.bind, sNil]
    rw [hv]
  · have hn : 0 < s.great.length := List.length_pos_iff.mpr hg
    have hi0 : 0 ≤ (s.drawn + 1) % (s.great.length : Int) := Int.emod_nonneg _ (by omega)
    have hi1 : (s.drawn + 1) % (s.great.length : Int) < s.great.length := Int.emod_lt_of_pos _ (by omega)
    have hi2 : ((s.drawn + 1) % (s.great.length : Int)).toNat < s.great.length := by omega
    have e1 : sMPut am 0 .drawn (v2 dAdd (vMGet am gl 0 .drawn) (vCst (.int 1))) [.val (hnd am), .val (.int many), .no, .no, .no] s = .ok (.nx [.val (hnd am), .val (.int many), .no, .no, .no]) { s with drawn := s.drawn + 1 } := by
      simp [Rf.run, Rf.start, sSeq, sSet, sRet, sDrop, sIf, sBrk, sCnt, sRaise, sFrz, frzS, ownAt, sApp, gNm, gTps, gTp, sUnp, sSetC, sPar, cVal, cNew, bEmp, vLenO, vIxO, vTupO, sPop, sSetIx, vVar, vCst, v1, v2, aNil, aCons, vA, vCall, vIte, bVal, bAnd, bOr, bNot, vB, dTup, dLst, dAdd, dSub, dIx, dItem, dLen, dCmp, Rs.bind, Rs.ofO, sNil, sMPut, vMGet, hA, MS.get, MS.put]
    have e2 : sPar 2 3 (cVal (vMGet am gl 0 .great)) (cVal (vCst (.int 0))) [.val (hnd am), .val (.int many), .no, .no, .no] { s with drawn := s.drawn + 1 } = .ok (.nx [.val (hnd am), .val (.int many), .val (hnd gl), .val (.int 0), .no]) { s with drawn := s.drawn + 1 } := by
      simp [Rf.run, Rf.start, sSeq, sSet, sRet, sDrop, sIf, sBrk, sCnt, sRaise, sFrz, frzS, ownAt, sApp, gNm, gTps, gTp, sUnp, sSetC, sPar, cVal, cNew, bEmp, vLenO, vIxO, vTupO, sPop, sSetIx, vVar, vCst, v1, v2, aNil, aCons, vA, vCall, vIte, bVal, bAnd, bOr, bNot, vB, dTup, dLst, dAdd, dSub, dIx, dItem, dLen, dCmp, Rs.bind, Rs.ofO, sNil, vMGet, hA, MS.get]
    have e3 : bLNe gl 2 [.val (hnd am), .val (.int many), .val (hnd gl), .val (.int 0), .no] { s with drawn := s.drawn + 1 } = .ok true { s with drawn := s.drawn + 1 } := by
      unfold bLNe
      rw [if_pos (hL _ _ _ _)]
      cases q : s.great with
      | nil => exact absurd q hg
      | cons a b => rfl
    have e4 : sSet 3 (v2 dMod (vA dInt (aCons (vMGet am gl 0 .drawn) aNil)) (vLLen gl 2)) [.val (hnd am), .val (.int many), .val (hnd gl), .val (.int 0), .no] { s with drawn := s.drawn + 1 } = .ok (.nx [.val (hnd am), .val (.int many), .val (hnd gl), .val (.int ((s.drawn + 1) % (s.great.length : Int))), .no]) { s with drawn := s.drawn + 1 } := by
      have hn' : (0 : Int) < s.great.length := by omega
      simp [Rf.run, Rf.start, sSeq, sSet, sRet, sDrop, sIf, sBrk, sCnt, sRaise, sFrz, frzS, ownAt, sApp, gNm, gTps, gTp, sUnp, sSetC, sPar, cVal, cNew, bEmp, vLenO, vIxO, vTupO, sPop, sSetIx, vVar, vCst, v1, v2, aNil, aCons, vA, vCall, vIte, bVal, bAnd, bOr, bNot, vB, dTup, dLst, dAdd, dSub, dIx, dItem, dLen, dCmp, Rs.bind, Rs.ofO, sNil, vMGet, hA, MS.get, vLLen, hL, dInt, dMod, hn, hg]
    have e5 : sSet 4 (vLIx gl 2 (vVar 3)) [.val (hnd am), .val (.int many), .val (hnd gl), .val (.int ((s.drawn + 1) % (s.great.length : Int))), .no] { s with drawn := s.drawn + 1 } = .ok (.nx [.val (hnd am), .val (.int many), .val (hnd gl), .val (.int ((s.drawn + 1) % (s.great.length : Int))), .val (.int s.great[((s.drawn + 1) % (s.great.length : Int)).toNat])]) { s with drawn := s.drawn + 1 } := by
      simp [Rf.run, Rf.start, sSeq, sSet, sRet, sDrop, sIf, sBrk, sCnt, sRaise, sFrz, frzS, ownAt, sApp, gNm, gTps, gTp, sUnp, sSetC, sPar, cVal, cNew, bEmp, vLenO, vIxO, vTupO, sPop, sSetIx, vVar, vCst, v1, v2, aNil, aCons, vA, vCall, vIte, bVal, bAnd, bOr, bNot, vB, dTup, dLst, dAdd, dSub, dIx, dItem, dLen, dCmp, Rs.bind, Rs.ofO, sNil, vLIx, hL, hi0, List.getElem?_eq_getElem hi2]
    by_cases hc : 0 < s.great[((s.drawn + 1) % (s.great.length : Int)).toNat]
    · refine ⟨s.great[((s.drawn + 1) % (s.great.length : Int)).toNat] % many, { s with drawn := s.drawn + 1, great := s.great.set ((s.drawn + 1) % (s.great.length : Int)).toNat (s.great[((s.drawn + 1) % (s.great.length : Int)).toNat] / many) }, ?_, Int.emod_nonneg _ (by omega), Int.emod_lt_of_pos _ h0⟩
      rw [sSeq, e1]
      simp only [Rs.bind]
      rw [sSeq, e2]
      simp only [Rs.bind]
      rw [sSeq, sIf, e3]
      simp only [Rs.bind]
      rw [sSeq, e4]
      simp only [Rs.bind]
      rw [sSeq, e5]
      simp [Rf.run, Rf.start, sSeq, sSet, sRet, sDrop, sIf, sBrk, sCnt, sRaise, sFrz, frzS, ownAt, sApp, gNm, gTps, gTp, sUnp, sSetC, sPar, cVal, cNew, bEmp, vLenO, vIxO, vTupO, sPop, sSetIx, vVar, vCst, v1, v2, aNil, aCons, vA, vCall, vIte, bVal, bAnd, bOr, bNot, vB, dTup, dLst, dAdd, dSub, dIx, dItem, dLen, dCmp, Rs.bind, Rs.ofO, sNil, sLSet, hL, dFdiv, dMod, dInt, h0, h1, hc, hi0, hi1]
    · obtain ⟨v, s', hv, r0, r1⟩ := mix (.val (.int ((s.drawn + 1) % (s.great.length : Int)))) (.val (.int s.great[((s.drawn + 1) % (s.great.length : Int)).toNat])) { s with drawn := s.drawn + 1 }
      refine ⟨v, s', ?_, r0, r1⟩
      rw [sSeq, e1]
      simp only [Rs.bind]
      rw [sSeq, e2]
      simp only [Rs.bind]
      rw [sSeq, sIf, e3]
      simp only [Rs.bind]
      rw [sSeq, e4]
      simp only [Rs.bind]
      rw [sSeq, e5]
      have e6 : bVal (v2 dGt (vVar 4) (vCst (.int 0))) [.val (hnd am), .val (.int many), .val (hnd gl), .val (.int ((s.drawn + 1) % (s.great.length : Int))), .val (.int s.great[((s.drawn + 1) % (s.great.length : Int)).toNat])] { s with drawn := s.drawn + 1 } = .ok false { s with drawn := s.drawn + 1 } := by
        simp [Rf.run, Rf.start, sSeq, sSet, sRet, sDrop, sIf, sBrk, sCnt, sRaise, sFrz, frzS, ownAt, sApp, gNm, gTps, gTp, sUnp, sSetC, sPar, cVal, cNew, bEmp, vLenO, vIxO, vTupO, sPop, sSetIx, vVar, vCst, v1, v2, aNil, aCons, vA, vCall, vIte, bVal, bAnd, bOr, bNot, vB, dTup, dLst, dAdd, dSub, dIx, dItem, dLen, dCmp, Rs.bind, Rs.ofO, sNil, hc]
      simp only [Rs.bind]
      rw [sIf, e6]
      simp only [Rs.bind, sNil]
      rw [hv]
theorem of_ok (s : MS) (xs : List D) (h0 : xs ≠ []) (h1 : xs.length ≤ 1000) : ∃ (d : D) (s' : MS), φ__law_of am gl [hnd am, .list xs] s = .ok d s' ∧ d ∈ xs := by
  have hn : 0 < xs.length := List.length_pos_iff.mpr h0
  obtain ⟨v, s', e, r0, r1⟩ := next_ok am gl s xs.length (by omega) (by omega)
  have hv : v.toNat < xs.length := by omega
  refine ⟨xs[v.toNat], s', ?_, List.getElem_mem hv⟩
  unfold φ__law_of
  rw [fnφ_eq (n := 2) (ds := [hnd am, .list xs]) rfl]
  simp [Rf.run, Rf.start, sSeq, sSet, sRet, sDrop, sIf, sBrk, sCnt, sRaise, sFrz, frzS, ownAt, sApp, gNm, gTps, gTp, sUnp, sSetC, sPar, cVal, cNew, bEmp, vLenO, vIxO, vTupO, sPop, sSetIx, vVar, vCst, v1, v2, aNil, aCons, vA, vCall, vIte, bVal, bAnd, bOr, bNot, vB, dTup, dLst, dAdd, dSub, dIx, dItem, dLen, dCmp, Rs.bind, Rs.ofO, sNil, F__law_of, e, r0, List.getElem?_eq_getElem hv]
end
end K54
end

section
set_option Elab.async false
set_option linter.all false
set_option maxRecDepth 100000
set_option maxHeartbeats 4000000
namespace K54
open PySem PySem.Spec PyProof.Rows L2 Rf Hd54
/-! ### a word is drawn -/
theorem le3 : (3 : Nat) ≤ line := by decide
theorem le2 : (2 : Nat) ≤ line := by decide
theorem le1 : (1 : Nat) ≤ line := by decide
theorem word_ok (am gl : Addr) : ∀ (k : Nat) (many : Int) (s : MS), 1 ≤ many → many ≤ k → many ≤ 1000 → ∃ (t : Wt) (s' : MS), φ__law_word am gl k [hnd am, .int many, .int 6] s = .ok t.toD s' ∧ t.good ∧ (t.lv : Int) = many
  | 0, many, s, h0, h1, _ => by omega
  | k + 1, many, s, h0, h1, h2 => by
    show ∃ (t : Wt) (s' : MS), fnφ 3 4 (F__law_word (φ__law_next am gl) (φ__law_word am gl k) (φ__law_of am gl)) [hnd am, .int many, .int 6] s = .ok t.toD s' ∧ _
    rw [fnφ_eq (n := 3) (ds := [hnd am, .int many, .int 6]) rfl]
    by_cases hm : many = 1
    · subst hm
      obtain ⟨v, s', e, r0, r1⟩ := next_ok am gl s 6 (by omega) (by omega)
      refine ⟨.lf (cab v), s', ?_, ⟨v, r0, by omega, rfl⟩, rfl⟩
      have h3 : dEq (.int 1) (.int 1) = some (.bool true) := by rw [eq_int]; simp
      simp [Rf.run, Rf.start, sSeq, sSet, sRet, sDrop, sIf, sBrk, sCnt, sRaise, sFrz, frzS, ownAt, sApp, gNm, gTps, gTp, sUnp, sSetC, sPar, cVal, cNew, bEmp, vLenO, vIxO, vTupO, sPop, sSetIx, vVar, vCst, v1, v2, aNil, aCons, vA, vCall, vIte, bVal, bAnd, bOr, bNot, vB, dTup, dLst, dAdd, dSub, dIx, dItem, dLen, dCmp, Rs.bind, Rs.ofO, sNil, F__law_word, h3, e, le2, Wt.toD, cab]
    · have h3 : dEq (.int many) (.int 1) = some (.bool false) := by rw [eq_int]; simp [hm]
      obtain ⟨v, s1, e1, r0, r1⟩ := next_ok am gl s (many - 1) (by omega) (by omega)
      obtain ⟨c, s2, e2, hc⟩ := of_ok am gl s1 [.str "row", .str "side"] (by simp) (by simp)
      obtain ⟨a, s3, e3, ga, la⟩ := word_ok am gl k (1 + v) s2 (by omega) (by omega) (by omega)
      obtain ⟨b, s4, e4, gb, lb⟩ := word_ok am gl k (many - (1 + v)) s3 (by omega) (by omega) (by omega)
      obtain ⟨x, hx, rfl⟩ : ∃ x : Str, (x = "row" ∨ x = "side") ∧ c = .str x := by
        rcases List.mem_cons.mp hc with rfl | hc
        · exact ⟨_, .inl rfl, rfl⟩
        · obtain rfl := List.mem_singleton.mp hc
          exact ⟨_, .inr rfl, rfl⟩
      refine ⟨.nd x a b, s4, ?_, ⟨hx, ga, gb⟩, ?_⟩
      · simp [Rf.run, Rf.start, sSeq, sSet, sRet, sDrop, sIf, sBrk, sCnt, sRaise, sFrz, frzS, ownAt, sApp, gNm, gTps, gTp, sUnp, sSetC, sPar, cVal, cNew, bEmp, vLenO, vIxO, vTupO, sPop, sSetIx, vVar, vCst, v1, v2, aNil, aCons, vA, vCall, vIte, bVal, bAnd, bOr, bNot, vB, dTup, dLst, dAdd, dSub, dIx, dItem, dLen, dCmp, Rs.bind, Rs.ofO, sNil, F__law_word, h3, e1, e2, e3, e4, le2, le3, Wt.toD]
      · show ((a.lv + b.lv : Nat) : Int) = many
        omega
/-! ### the ways in a word, a word with one part put in -/
def dr (b : Bool) : D := .int (if b then 2 else 1)
def pth : Wt → List (List Bool)
  | .lf _ => [[]]
  | .nd _ l r => [[]] ++ (pth l).map (false :: ·) ++ (pth r).map (true :: ·)
def setW : Wt → List Bool → D → Wt
  | _, [], d => .lf d
  | .lf x, _ :: _, d => .lf x
  | .nd k l r, false :: p, d => .nd k (setW l p d) r
  | .nd k l r, true :: p, d => .nd k l (setW r p d)
theorem pth_len : ∀ t : Wt, (pth t).length = t.size
  | .lf d => rfl
  | .nd k l r => by
    show ([[]] ++ (pth l).map (false :: ·) ++ (pth r).map (true :: ·)).length = 1 + l.size + r.size
    rw [List.length_append, List.length_append, List.length_map, List.length_map, pth_len l, pth_len r]
    rfl
theorem pth_dp : ∀ {t : Wt} {p : List Bool}, p ∈ pth t → p.length ≤ t.dp
  | .lf d, p, h => by
    obtain rfl := List.mem_singleton.mp h
    exact Nat.le_refl 0
  | .nd k l r, p, h => by
    have h : p ∈ [[]] ++ (pth l).map (false :: ·) ++ (pth r).map (true :: ·) := h
    show p.length ≤ 1 + max l.dp r.dp
    rcases List.mem_append.mp h with h | h
    · rcases List.mem_append.mp h with h | h
      · obtain rfl := List.mem_singleton.mp h
        exact Nat.zero_le _
      · obtain ⟨q, hq, rfl⟩ := List.mem_map.mp h
        have := pth_dp hq
        rw [List.length_cons]
        omega
    · obtain ⟨q, hq, rfl⟩ := List.mem_map.mp h
      have := pth_dp hq
      rw [List.length_cons]
      omega
theorem law_ways {S : Type} (s : S) : ∀ (t : Wt) (k : Nat) (way : List D), t.good → t.dp ≤ k → t.size ≤ 1000 → way.length + t.dp ≤ 1000 → φ__law_ways (k + 1) [t.toD, .tuple way] s = .ok (.list ((pth t).map fun p => .tuple (way ++ p.map dr))) s
  | .lf d, k, way, hg, hk, _, _ => by
    obtain ⟨i, h0, h5, rfl⟩ := hg
    show fnφ 2 2 (F__law_ways (φ__law_ways k)) [cab i, .tuple way] s = _
    rw [fnφ_eq (n := 2) (ds := [cab i, .tuple way]) rfl]
    simp [Rf.run, Rf.start, sSeq, sSet, sRet, sDrop, sIf, sBrk, sCnt, sRaise, sFrz, frzS, ownAt, sApp, gNm, gTps, gTp, sUnp, sSetC, sPar, cVal, cNew, bEmp, vLenO, vIxO, vTupO, sPop, sSetIx, vVar, vCst, v1, v2, aNil, aCons, vA, vCall, vIte, bVal, bAnd, bOr, bNot, vB, dTup, dLst, dAdd, dSub, dIx, dItem, dLen, dCmp, Rs.bind, Rs.ofO, sNil, F__law_ways, cab, eq_cable, le1, pth]
  | .nd c l r, k, way, hg, hk, hs, hw => by
    have hk' : 1 + max l.dp r.dp ≤ k := hk
    have hw' : way.length + (1 + max l.dp r.dp) ≤ 1000 := hw
    have hs' : 1 + l.size + r.size ≤ 1000 := hs
    obtain ⟨j, rfl⟩ : ∃ j, k = j + 1 := ⟨k - 1, by omega⟩
    have h1 := law_ways s l j (way ++ [PyData.int 1]) hg.2.1 (by omega) (by omega) (by rw [List.length_append, List.length_singleton]; omega)
    have h2 := law_ways s r j (way ++ [PyData.int 2]) hg.2.2 (by omega) (by omega) (by rw [List.length_append, List.length_singleton]; omega)
    show fnφ 2 2 (F__law_ways (φ__law_ways (j + 1))) [.tuple [.str c, l.toD, r.toD], .tuple way] s = _
    rw [fnφ_eq (n := 2) (ds := [.tuple [.str c, l.toD, r.toD], .tuple way]) rfl]
    have h3 : way.length + 1 ≤ line := by unfold line; omega
    have h4 : (pth l).length + 1 ≤ line := by rw [pth_len]; unfold line; omega
    have h5 : (pth l).length + 1 + (pth r).length ≤ line := by rw [pth_len, pth_len]; unfold line; omega
    have h6 : 1 + (pth l).length ≤ line := by omega
    have h7 : 1 + (pth l).length + (pth r).length ≤ line := by omega
    simp [Rf.run, Rf.start, sSeq, sSet, sRet, sDrop, sIf, sBrk, sCnt, sRaise, sFrz, frzS, ownAt, sApp, gNm, gTps, gTp, sUnp, sSetC, sPar, cVal, cNew, bEmp, vLenO, vIxO, vTupO, sPop, sSetIx, vVar, vCst, v1, v2, aNil, aCons, vA, vCall, vIte, bVal, bAnd, bOr, bNot, vB, dTup, dLst, dAdd, dSub, dIx, dItem, dLen, dCmp, Rs.bind, Rs.ofO, sNil, F__law_ways, eq_nd hg.1, h1, h2, h3, h4, h5, h6, h7, le1, pth, dr, List.map_map, Function.comp_def]
theorem lay_dr : ∀ p : List Bool, PyData.canLayAll0 (p.map dr) = true ∧ PyData.depthAll (p.map dr) ≤ 1
  | [] => ⟨rfl, by simp [PyData.depthAll]⟩
  | b :: p => by
    obtain ⟨h1, h2⟩ := lay_dr p
    refine ⟨?_, ?_⟩
    · show (PyData.canLay0 (dr b) && PyData.canLayAll0 (p.map dr)) = true
      rw [h1]
      rfl
    · show max (PyData.depth (dr b)) (PyData.depthAll (p.map dr)) ≤ 1
      have : PyData.depth (dr b) ≤ 1 := by simp [dr, PyData.depth]
      omega
theorem shaped_dr (p : List Bool) : SeqAt.shaped (.tuple (p.map dr)) = true := by
  obtain ⟨h1, h2⟩ := lay_dr p
  unfold SeqAt.shaped
  rw [Bool.and_eq_true]
  refine ⟨h1, decide_eq_true ?_⟩
  have : PyData.depth (.tuple (p.map dr)) = PyData.depthAll (p.map dr) + 1 := by first | rfl | (simp [PyData.depth]) | (simp [PyData.depth]; omega)
  omega
theorem eq_way0 : dEq (.tuple []) (.tuple []) = some (.bool true) := by kernel_rfl
theorem eq_way (b : Bool) (p : List Bool) : dEq (.tuple (dr b :: p.map dr)) (.tuple []) = some (.bool false) := by
  unfold dEq
  rw [if_pos ⟨shaped_dr (b :: p), by kernel_rfl⟩]
  simp [PyData.eqv, PyData.eqvAll]
theorem cut1 (x : D) (r : List D) : Rf.cutD (x :: r) (some 1) none = r := by
  unfold Rf.cutD HT.sIx
  simp
theorem law_set {S : Type} (s : S) (d : D) : ∀ (t : Wt) (p : List Bool) (k : Nat), t.good → p ∈ pth t → p.length ≤ k → φ__law_set (k + 1) [t.toD, .tuple (p.map dr), d] s = .ok (setW t p d).toD s
  | t, [], k, _, _, _ => by
    show fnφ 3 4 (F__law_set (φ__law_set k)) [t.toD, .tuple [], d] s = _
    rw [fnφ_eq (n := 3) (ds := [t.toD, .tuple [], d]) rfl]
    have e : setW t [] d = .lf d := by cases t <;> rfl
    simp [Rf.run, Rf.start, sSeq, sSet, sRet, sDrop, sIf, sBrk, sCnt, sRaise, sFrz, frzS, ownAt, sApp, gNm, gTps, gTp, sUnp, sSetC, sPar, cVal, cNew, bEmp, vLenO, vIxO, vTupO, sPop, sSetIx, vVar, vCst, v1, v2, aNil, aCons, vA, vCall, vIte, bVal, bAnd, bOr, bNot, vB, dTup, dLst, dAdd, dSub, dIx, dItem, dLen, dCmp, Rs.bind, Rs.ofO, sNil, F__law_set, eq_way0, e, Wt.toD]
  | .lf x, b :: p, k, _, h, _ => by
    have := List.mem_singleton.mp h
    cases this
  | .nd c l r, b :: p, k, hg, h, hk => by
    have hk' : p.length + 1 ≤ k := hk
    obtain ⟨j, rfl⟩ : ∃ j, k = j + 1 := ⟨k - 1, by omega⟩
    have h : (b :: p) ∈ [[]] ++ (pth l).map (false :: ·) ++ (pth r).map (true :: ·) := h
    show fnφ 3 4 (F__law_set (φ__law_set (j + 1))) [.tuple [.str c, l.toD, r.toD], .tuple (dr b :: p.map dr), d] s = _
    rw [fnφ_eq (n := 3) (ds := [.tuple [.str c, l.toD, r.toD], .tuple (dr b :: p.map dr), d]) rfl]
    have hp : (b = false ∧ p ∈ pth l) ∨ (b = true ∧ p ∈ pth r) := by
      rcases List.mem_append.mp h with h | h
      · rcases List.mem_append.mp h with h | h
        · cases List.mem_singleton.mp h
        · obtain ⟨q, hq, e⟩ := List.mem_map.mp h
          cases e
          exact .inl ⟨rfl, hq⟩
      · obtain ⟨q, hq, e⟩ := List.mem_map.mp h
        cases e
        exact .inr ⟨rfl, hq⟩
    have ew := eq_way b p
    rcases hp with ⟨rfl, hp⟩ | ⟨rfl, hp⟩
    · have ih := law_set s d l p j hg.2.1 hp (by omega)
      have ew' : dEq (.tuple (.int 1 :: p.map dr)) (.tuple []) = some (.bool false) := ew
      simp [Rf.run, Rf.start, sSeq, sSet, sRet, sDrop, sIf, sBrk, sCnt, sRaise, sFrz, frzS, ownAt, sApp, gNm, gTps, gTp, sUnp, sSetC, sPar, cVal, cNew, bEmp, vLenO, vIxO, vTupO, sPop, sSetIx, vVar, vCst, v1, v2, aNil, aCons, vA, vCall, vIte, bVal, bAnd, bOr, bNot, vB, dTup, dLst, dAdd, dSub, dIx, dItem, dLen, dCmp, Rs.bind, Rs.ofO, sNil, F__law_set, ew', ih, oList, le3, vCut, oPart, dCut, cut1, dr, setW, Wt.toD]
    · have ih := law_set s d r p j hg.2.2 hp (by omega)
      have ew' : dEq (.tuple (.int 2 :: p.map dr)) (.tuple []) = some (.bool false) := ew
      simp [Rf.run, Rf.start, sSeq, sSet, sRet, sDrop, sIf, sBrk, sCnt, sRaise, sFrz, frzS, ownAt, sApp, gNm, gTps, gTp, sUnp, sSetC, sPar, cVal, cNew, bEmp, vLenO, vIxO, vTupO, sPop, sSetIx, vVar, vCst, v1, v2, aNil, aCons, vA, vCall, vIte, bVal, bAnd, bOr, bNot, vB, dTup, dLst, dAdd, dSub, dIx, dItem, dLen, dCmp, Rs.bind, Rs.ofO, sNil, F__law_set, ew', ih, oList, le3, vCut, oPart, dCut, cut1, dr, setW, Wt.toD]
/-! ### a word with a bad part -/
theorem set_wf {d : D} (hd : badLf d) : ∀ (t : Wt) (p : List Bool), t.good → (setW t p d).wf ∧ (setW t p d).size ≤ t.size
  | t, [], hg => by
    have e : setW t [] d = .lf d := by cases t <;> rfl
    rw [e]
    refine ⟨.inr hd, ?_⟩
    have := size_lv t
    have := lv_pos t
    show 1 ≤ t.size
    omega
  | .lf x, b :: p, hg => ⟨.inl hg, Nat.le_refl _⟩
  | .nd k l r, false :: p, hg => by
    obtain ⟨h1, h2⟩ := set_wf hd l p hg.2.1
    refine ⟨⟨hg.1, h1, good_wf hg.2.2⟩, ?_⟩
    show 1 + (setW l p d).size + r.size ≤ 1 + l.size + r.size
    omega
  | .nd k l r, true :: p, hg => by
    obtain ⟨h1, h2⟩ := set_wf hd r p hg.2.2
    refine ⟨⟨hg.1, good_wf hg.2.1, h1⟩, ?_⟩
    show 1 + l.size + (setW r p d).size ≤ 1 + l.size + r.size
    omega
theorem scan_bad {d : D} (hd : badLf d) (way found : List D) : scan (.lf d) way found = .no (.tuple way) := by
  unfold scan
  rw [if_pos (.inr fun z => not_bad z hd)]
theorem scan_set {d : D} (hd : badLf d) : ∀ (t : Wt) (p : List Bool) (way found : List D), t.good → p ∈ pth t → way.length + t.dp ≤ 40 → found.length + t.lv ≤ 40 → scan (setW t p d) way found = .no (.tuple (way ++ p.map dr))
  | t, [], way, found, hg, _, _, _ => by
    have e : setW t [] d = .lf d := by cases t <;> rfl
    rw [e, scan_bad hd]
    simp
  | .lf x, b :: p, _, _, _, h, _, _ => by
    have := List.mem_singleton.mp h
    cases this
  | .nd k l r, b :: p, way, found, hg, h, hw, hf => by
    have hw' : way.length + (1 + max l.dp r.dp) ≤ 40 := hw
    have hf' : found.length + (l.lv + r.lv) ≤ 40 := hf
    have h : (b :: p) ∈ [[]] ++ (pth l).map (false :: ·) ++ (pth r).map (true :: ·) := h
    have hp : (b = false ∧ p ∈ pth l) ∨ (b = true ∧ p ∈ pth r) := by
      rcases List.mem_append.mp h with h | h
      · rcases List.mem_append.mp h with h | h
        · cases List.mem_singleton.mp h
        · obtain ⟨q, hq, e⟩ := List.mem_map.mp h
          cases e
          exact .inl ⟨rfl, hq⟩
      · obtain ⟨q, hq, e⟩ := List.mem_map.mp h
        cases e
        exact .inr ⟨rfl, hq⟩
    rcases hp with ⟨rfl, hp⟩ | ⟨rfl, hp⟩
    · show scan (.nd k (setW l p d) r) way found = _
      rw [scan_nd, if_neg (by omega), scan_set hd l p (way ++ [PyData.int 1]) found hg.2.1 hp (by rw [List.length_append, List.length_singleton]; omega) (by omega)]
      simp [dr]
    · show scan (.nd k l (setW r p d)) way found = _
      rw [scan_nd, if_neg (by omega), scan_good l (way ++ [PyData.int 1]) found hg.2.1 (by rw [List.length_append, List.length_singleton]; omega) (by omega)]
      dsimp only
      rw [scan_set hd r p (way ++ [PyData.int 2]) (found ++ l.names) hg.2.2 hp (by rw [List.length_append, List.length_singleton]; omega) (by rw [List.length_append, names_len]; omega)]
      simp [dr]
end K54
end

section
set_option Elab.async false
set_option linter.all false
set_option maxRecDepth 100000
set_option maxHeartbeats 4000000
namespace K54
open PySem PySem.Spec PyProof.Rows L2 Rf Hd54
/-! ### what is no part of a word -/
def gd : D := .tuple [.str "cable", .int 0]
def odds : List D := [.none, .tuple [], .str "cable", .int 5, .tuple [.str "cable"], .tuple [.str "cable", .int 6], .tuple [.str "cable", .int (-1)], .tuple [.str "cable", .bool true], .tuple [.str "cable", .none], .tuple [.str "cable", .str "0"], .tuple [.str "cable", .int 0, .int 0], .list [.str "cable", .int 0],
  .tuple [.str "row", gd], .tuple [.str "side", gd, gd, gd], .tuple [.str "Row", gd, gd], .tuple [.list [], gd, gd], .tuple [.dict [], .int 0], .tuple [.none, gd, gd], .list [.str "row", gd, gd], .tuple [.int 0, .int 0],
  .tuple [.str "row", .int 0], .tuple [.str "cable", gd, gd], .tuple [.str "side"], .dict []]
theorem odds_bad : ∀ d ∈ odds, badLf d := by
  intro d hd
  unfold odds at hd
  simp only [List.mem_cons, List.not_mem_nil, or_false] at hd
  rcases hd with rfl | rfl | rfl | rfl | rfl | rfl | rfl | rfl | rfl | rfl | rfl | rfl | rfl | rfl | rfl | rfl | rfl | rfl | rfl | rfl | rfl | rfl | rfl | rfl <;> exact fun S s => ⟨by kernel_rfl, by kernel_rfl⟩
theorem none_bad : badLf .none := odds_bad _ List.mem_cons_self
theorem odd_ok (am gl : Addr) (s : MS) : ∃ (d : D) (s' : MS), φ__law_odd am gl [hnd am] s = .ok d s' ∧ badLf d := by
  obtain ⟨d, s', e, hd⟩ := of_ok am gl s odds (by unfold odds; simp) (by unfold odds; simp)
  refine ⟨d, s', ?_, odds_bad d hd⟩
  have h : φ__law_odd am gl [hnd am] s = (φ__law_of am gl [hnd am, .list odds] s).bind fun d s1 => .ok d s1 := by
    unfold φ__law_odd
    rw [fnφ_eq (n := 1) (ds := [hnd am]) rfl]
    have l12 : (12 : Nat) ≤ line := by decide
    have l8 : (8 : Nat) ≤ line := by decide
    have l20 : (20 : Nat) ≤ line := by decide
    have l24 : (24 : Nat) ≤ line := by decide
    have l4 : (4 : Nat) ≤ line := by decide
    simp [Rf.run, Rf.start, sSeq, sSet, sRet, sDrop, sIf, sBrk, sCnt, sRaise, sFrz, frzS, ownAt, sApp, gNm, gTps, gTp, sUnp, sSetC, sPar, cVal, cNew, bEmp, vLenO, vIxO, vTupO, sPop, sSetIx, vVar, vCst, v1, v2, aNil, aCons, vA, vCall, vIte, bVal, bAnd, bOr, bNot, vB, dTup, dLst, dAdd, dSub, dIx, dItem, dLen, dCmp, Rs.bind, Rs.ofO, sNil, F__law_odd, dNeg, le1, le2, le3, l4, l8, l12, l20, l24, odds, gd]
    cases φ__law_of am gl _ s <;> rfl
  rw [h, e]
  rfl
/-! ### bad words are refused, everywhere, with the place -/
def tolds (pl : D) : List D := List.replicate 11 (.tuple [.str "word", pl])
def bodyR (am gl : Addr) : Fs MS := (sSeq (sSet 9 (vA dLst (aCons (vSaid "BadWord" "answer" "word" (vCall φ_need_named_word (aCons (vVar 7) aNil))) (aCons (vSaid "BadWord" "answer" "word" (vCall φ_how_many_cables (aCons (vVar 7) aNil))) (aCons (vSaid "BadWord" "answer" "word" (vCall φ_dual_word (aCons (vVar 7) aNil))) aNil)))))
  (sSeq (sSet 9 (v2 dAdd (vVar 9) (vA dLst (aCons (vSaid "BadWord" "answer" "word" (vCall φ_plain_word (aCons (vVar 7) aNil))) (aCons (vSaid "BadWord" "answer" "word" (vCall φ_word_corners (aCons (vVar 7) aNil))) (aCons (vSaid "BadWord" "answer" "word" (vCall φ_word_values (aCons (vVar 7) (aCons (vCst .none) (aCons (vCst .none) aNil))))) aNil))))))
  (sSeq (sSet 9 (v2 dAdd (vVar 9) (vA dLst (aCons (vSaid "BadWord" "answer" "word" (vCall φ_is_word_never_weaker (aCons (vVar 7) (aCons (vCst .none) aNil)))) (aCons (vSaid "BadWord" "answer" "word" (vCall φ_are_words_one (aCons (vVar 6) (aCons (vVar 7) aNil)))) (aCons (vSaid "BadWord" "answer" "word" (vCall φ_word_paper (aCons (vVar 7) (aCons (vCst .none) aNil)))) aNil))))))
  (sSeq (sSet 9 (v2 dAdd (vVar 9) (vA dLst (aCons (vSaid "BadWord" "answer" "word" (vCall φ_check_word_paper (aCons (vVar 7) (aCons (vCst .none) (aCons (vCst .none) aNil))))) (aCons (vSaid "BadWord" "answer" "word" (vCall φ_check_word_paper (aCons (vVar 6) (aCons (vVar 7) (aCons (vCst .none) aNil))))) aNil)))))
  (sIf (bNot (bVal (vCall (φ__law_same 50) (aCons (vA dTuple (aCons (vVar 9) aNil)) (aCons (v2 dMul (vA dTup (aCons (vA dTup (aCons (vCst (.str "word")) (aCons (vVar 8) aNil))) aNil)) (vCst (.int 11))) aNil))))) (sRet (vCst (.bool false))) sNil)))))
theorem names_cab (s : MS) : φ_names_of [cab 1] s = .ok (.list [.int 1]) s := (names_of (.lf (cab 1)) (.inl ⟨1, by omega, by omega, rfl⟩) (by show 1 ≤ 400; omega) s).1 _ (scan_good (.lf (cab 1)) [] [] ⟨1, by omega, by omega, rfl⟩ (by decide) (by decide))
theorem body_ok (am gl : Addr) (b pl : D) (hb : ∀ s : MS, φ_names_of [b] s = .exc "BadWord" pl s) (hp : plF 48 pl) (a0 a1 a2 a3 a4 a5 a9 : Slot) (s : MS) :
    ∃ y : Slot, bodyR am gl [a0, a1, a2, a3, a4, a5, .val (cab 1), .val b, .val pl, a9] s = .ok (.nx [a0, a1, a2, a3, a4, a5, .val (cab 1), .val b, .val pl, y]) s := by
  have w1 := words_bad1 hb
  have w2 := words_bad2 names_cab hb
  have l6 : (6 : Nat) ≤ line := by decide
  have l9 : (9 : Nat) ≤ line := by decide
  have l11 : (11 : Nat) ≤ line := by decide
  have pw : plF 49 (.tuple [.str "word", pl]) := pl_tup 48 (by simp) fun e he => by
    rcases List.mem_cons.mp he with rfl | he
    · exact pl_str _ eq_ww
    · obtain rfl := List.mem_singleton.mp he
      exact hp
  have sm : φ__law_same 50 [.tuple (List.replicate 11 (.tuple [.str "word", pl])), .tuple (List.replicate 11 (.tuple [.str "word", pl]))] s = .ok (.bool true) s := same_refl s 50 _ (pl_tup 49 (by simp) fun e he => by
    rw [List.eq_of_mem_replicate he]
    exact pw)
  have sm' : φ__law_same 50 [.tuple [.tuple [.str "word", pl], .tuple [.str "word", pl], .tuple [.str "word", pl], .tuple [.str "word", pl], .tuple [.str "word", pl], .tuple [.str "word", pl], .tuple [.str "word", pl], .tuple [.str "word", pl], .tuple [.str "word", pl], .tuple [.str "word", pl], .tuple [.str "word", pl]],
    .tuple [.tuple [.str "word", pl], .tuple [.str "word", pl], .tuple [.str "word", pl], .tuple [.str "word", pl], .tuple [.str "word", pl], .tuple [.str "word", pl], .tuple [.str "word", pl], .tuple [.str "word", pl], .tuple [.str "word", pl], .tuple [.str "word", pl], .tuple [.str "word", pl]]] s = .ok (.bool true) s := sm
  refine ⟨.val (.list (tolds pl)), ?_⟩
  simp [Rf.run, Rf.start, sSeq, sSet, sRet, sDrop, sIf, sBrk, sCnt, sRaise, sFrz, frzS, ownAt, sApp, gNm, gTps, gTp, sUnp, sSetC, sPar, cVal, cNew, bEmp, vLenO, vIxO, vTupO, sPop, sSetIx, vVar, vCst, v1, v2, aNil, aCons, vA, vCall, vIte, bVal, bAnd, bOr, bNot, vB, dTup, dLst, dAdd, dSub, dIx, dItem, dLen, dCmp, Rs.bind, Rs.ofO, sNil, bodyR, vSaid, need_bad hb, many_bad hb, dual_bad hb, plain_bad hb, corners_bad hb, values_bad hb, weaker_bad (w1 .none), one_bad w2, paper_bad (w1 .none), check_bad (w1 .none), check_bad w2, le1, le2, le3, l6, l9, l11, dTuple, dMul, List.replicate, sm', tolds]
def plF_way (p : List Bool) (h : p.length ≤ 1000) : plF 48 (.tuple (p.map dr)) := pl_tup 47 (by rw [List.length_map]; exact h) fun e he => by
  obtain ⟨b, _, rfl⟩ := List.mem_map.mp he
  exact pl_int 46 _
theorem refused_ok (am gl : Addr) (t : Wt) (hg : t.good) (hl : t.lv ≤ 12) (s : MS) : ∃ s', φ__law_refused_right am gl [hnd am, t.toD] s = .ok (.bool true) s' := by
  have hdp := dp_lv t
  have hsz := size_lv t
  have e1 := law_ways s t 49 [] hg (by omega) (by omega) (by simp; omega)
  obtain ⟨w, s1, e2, hw⟩ := of_ok am gl s ((pth t).map fun p => .tuple ([] ++ p.map dr)) (by
    intro z
    have h1 := congrArg List.length z
    rw [List.length_map, pth_len] at h1
    have h2 := lv_pos t
    have h3 : t.size = 0 := h1
    omega) (by rw [List.length_map, pth_len]; omega)
  obtain ⟨p, hp, rfl⟩ := List.mem_map.mp hw
  rw [List.nil_append] at e2
  obtain ⟨d1, s2, e3, b1⟩ := odd_ok am gl s1
  obtain ⟨d2, s3, e4, b2⟩ := odd_ok am gl s2
  have pl := pth_dp hp
  have e5 := law_set s2 d1 t p 49 hg hp (by omega)
  have ⟨wf1, sz1⟩ := set_wf b1 t p hg
  -- the three bad words
  have n1 : ∀ s : MS, φ_names_of [(setW t p d1).toD] s = .exc "BadWord" (.tuple (p.map dr)) s := fun s => by
    have := (names_of (setW t p d1) wf1 (by omega) s).2 _ (scan_set b1 t p [] [] hg hp (by simp; omega) (by simp; omega))
    simpa using this
  have n2 : ∀ s : MS, φ_names_of [.tuple [.str "row", (setW t p d1).toD, d2]] s = .exc "BadWord" (.tuple (.int 1 :: p.map dr)) s := fun s => by
    refine (names_of (.nd "row" (setW t p d1) (.lf d2)) ⟨.inl rfl, wf1, .inr b2⟩ (by show 1 + (setW t p d1).size + 1 ≤ 400; omega) s).2 _ ?_
    rw [scan_nd, if_neg (by simp), scan_set b1 t p ([] ++ [PyData.int 1]) [] hg hp (by simp; omega) (by simp; omega)]
    simp
  have n3 : ∀ s : MS, φ_names_of [.tuple [.str "side", cab 1, (setW t p d1).toD]] s = .exc "BadWord" (.tuple (.int 2 :: p.map dr)) s := fun s => by
    refine (names_of (.nd "side" (.lf (cab 1)) (setW t p d1)) ⟨.inr rfl, .inl ⟨1, by omega, by omega, rfl⟩, wf1⟩ (by show 1 + 1 + (setW t p d1).size ≤ 400; omega) s).2 _ ?_
    rw [scan_nd, if_neg (by simp), scan_good (.lf (cab 1)) ([] ++ [PyData.int 1]) [] ⟨1, by omega, by omega, rfl⟩ (by decide) (by decide)]
    dsimp only
    rw [scan_set b1 t p ([] ++ [PyData.int 2]) ([] ++ (Wt.lf (cab 1)).names) hg hp (by simp; omega) (by simp [Wt.names]; omega)]
    simp
  have q1 : plF 48 (.tuple (p.map dr)) := plF_way p (by omega)
  have q2 : plF 48 (.tuple (.int 1 :: p.map dr)) := plF_way (false :: p) (by rw [List.length_cons]; omega)
  have q3 : plF 48 (.tuple (.int 2 :: p.map dr)) := plF_way (true :: p) (by rw [List.length_cons]; omega)
  have lp : 1 + p.length ≤ line := by unfold line; omega
  have ln : p.length + 1 ≤ line := by unfold line; omega
  refine ⟨s3, ?_⟩
  unfold φ__law_refused_right
  rw [fnφ_eq (n := 2) (ds := [hnd am, t.toD]) rfl]
  have hF : F__law_refused_right (φ__law_ways 50) (φ__law_of am gl) (φ__law_odd am gl) (φ__law_set 50) φ_dual_word φ_how_many_cables φ_need_named_word φ_word_values φ_word_corners φ_plain_word φ_word_paper φ_are_words_one φ_is_word_never_weaker φ_check_word_paper (φ__law_same 50) =
    (sSeq (sSet 2 (vCall (φ__law_ways 50) (aCons (vVar 1) (aCons (vA dTup aNil) aNil))))
    (sSeq (sSet 3 (vCall (φ__law_of am gl) (aCons (vVar 0) (aCons (vVar 2) aNil))))
    (sSeq (sUnp (gTp [(gNm 5), (gNm 6)]) (vA dTup (aCons (vCall (φ__law_set 50) (aCons (vVar 1) (aCons (vVar 3) (aCons (vCall (φ__law_odd am gl) (aCons (vVar 0) aNil)) aNil)))) (aCons (vA dTup (aCons (vCst (.str "cable")) (aCons (vCst (.int 1)) aNil))) aNil))))
    (sSeq (sSet 4 (vA dTup (aCons (vCst (.str "row")) (aCons (vVar 5) (aCons (vCall (φ__law_odd am gl) (aCons (vVar 0) aNil)) aNil)))))
    (sSeq (sFor (gTp [(gNm 7), (gNm 8)]) (iTp (vA dTup (aCons (vA dTup (aCons (vVar 5) (aCons (vVar 3) aNil))) (aCons (vA dTup (aCons (vVar 4) (aCons (v2 dAdd (vA dTup (aCons (vCst (.int 1)) aNil)) (vVar 3)) aNil))) (aCons (vA dTup (aCons (vA dTup (aCons (vCst (.str "side")) (aCons (vVar 6) (aCons (vVar 5) aNil)))) (aCons (v2 dAdd (vA dTup (aCons (vCst (.int 2)) aNil)) (vVar 3)) aNil))) aNil))))) (bodyR am gl))
    (sRet (vCst (.bool true)))))))) := rfl
  rw [hF]
  -- up to the loop
  have lc : (PyData.tuple [PyData.str "cable", PyData.int 1] : D) = cab 1 := rfl
  obtain ⟨y1, f1⟩ := body_ok am gl _ _ n1 q1 (.val (hnd am)) (.val t.toD) (.val (.list ((pth t).map fun p => .tuple (p.map dr)))) (.val (.tuple (p.map dr))) (.val (.tuple [.str "row", (setW t p d1).toD, d2])) (.val (setW t p d1).toD) .no s3
  obtain ⟨y2, f2⟩ := body_ok am gl _ _ n2 q2 (.val (hnd am)) (.val t.toD) (.val (.list ((pth t).map fun p => .tuple (p.map dr)))) (.val (.tuple (p.map dr))) (.val (.tuple [.str "row", (setW t p d1).toD, d2])) (.val (setW t p d1).toD) y1 s3
  obtain ⟨y3, f3⟩ := body_ok am gl _ _ n3 q3 (.val (hnd am)) (.val t.toD) (.val (.list ((pth t).map fun p => .tuple (p.map dr)))) (.val (.tuple (p.map dr))) (.val (.tuple [.str "row", (setW t p d1).toD, d2])) (.val (setW t p d1).toD) y2 s3
  simp only [List.nil_append] at e1 e2
  simp [Rf.run, Rf.start, sSeq, sSet, sRet, sDrop, sIf, sBrk, sCnt, sRaise, sFrz, frzS, ownAt, sApp, gNm, gTps, gTp, sUnp, sSetC, sPar, cVal, cNew, bEmp, vLenO, vIxO, vTupO, sPop, sSetIx, vVar, vCst, v1, v2, aNil, aCons, vA, vCall, vIte, bVal, bAnd, bOr, bNot, vB, dTup, dLst, dAdd, dSub, dIx, dItem, dLen, dCmp, Rs.bind, Rs.ofO, sNil, e1, e2, e3, e4, e5, le1, le2, le3, lp, ln, lc, sFor, iTp, forGo, f1, f2, f3]
end K54
end

section
set_option Elab.async false
set_option linter.all false
set_option maxRecDepth 100000
set_option maxHeartbeats 4000000
namespace K54
open PySem PySem.Spec PyProof.Rows L2 Rf Hd54
/-! ### words compared -/
theorem word_shape : ∀ (t : Wt), t.good → PyData.canLay0 t.toD = true ∧ PyData.depth t.toD ≤ t.dp + 1
  | .lf d, h => by
    obtain ⟨i, h0, h5, rfl⟩ := h
    exact ⟨by kernel_rfl, by show PyData.depth (.tuple [.str "cable", .int i]) ≤ 1; simp [PyData.depth, PyData.depthAll]⟩
  | .nd k l r, h => by
    obtain ⟨a1, a2⟩ := word_shape l h.2.1
    obtain ⟨b1, b2⟩ := word_shape r h.2.2
    have hk : PyData.canLay0 (.str k) = true := by rcases h.1 with rfl | rfl <;> kernel_rfl
    refine ⟨?_, ?_⟩
    · show (PyData.canLay0 (.str k) && (PyData.canLay0 l.toD && (PyData.canLay0 r.toD && true))) = true
      rw [hk, a1, b1]
      rfl
    · have : PyData.depth (Wt.nd k l r).toD = max 0 (max (PyData.depth l.toD) (max (PyData.depth r.toD) 0)) + 1 := by
        show PyData.depth (.tuple [.str k, l.toD, r.toD]) = _
        simp [PyData.depth, PyData.depthAll]
      rw [this]
      show _ ≤ (1 + max l.dp r.dp) + 1
      omega
theorem word_shaped {t : Wt} (h : t.good) (hd : t.dp ≤ 60) : SeqAt.shaped t.toD = true := by
  obtain ⟨h1, h2⟩ := word_shape t h
  unfold SeqAt.shaped
  rw [h1]
  exact decide_eq_true (by omega)
theorem ne_refl_ {d : D} (h : SeqAt.shaped d = true) : dNe d d = some (.bool false) := by
  unfold dNe
  rw [if_pos ⟨h, h⟩, SeqAt.eqv_refl d (SeqAt.canLay_of_shaped h)]
  rfl
theorem ne_int (i : Int) : dNe (.int i) (.int i) = some (.bool false) := ne_refl_ rfl
/-! ### deep words -/
def lcomb : Nat → Wt
  | 0 => .lf (cab 0)
  | n + 1 => .nd (if n % 2 = 0 then "row" else "side") (lcomb n) (.lf (cab 1))
def rcomb : Nat → Wt
  | 0 => .lf (cab 0)
  | n + 1 => .nd (if n % 2 = 0 then "side" else "row") (.lf (cab 2)) (rcomb n)
theorem cab_ok {i : Int} (h0 : 0 ≤ i) (h5 : i ≤ 5) : (Wt.lf (cab i)).good := ⟨i, h0, h5, rfl⟩
theorem lcomb_good : ∀ n, (lcomb n).good ∧ (lcomb n).lv = n + 1 ∧ (lcomb n).dp = n
  | 0 => ⟨cab_ok (by omega) (by omega), rfl, rfl⟩
  | n + 1 => by
    obtain ⟨h1, h2, h3⟩ := lcomb_good n
    refine ⟨⟨?_, h1, cab_ok (by omega) (by omega)⟩, ?_, ?_⟩
    · by_cases e : n % 2 = 0
      · exact .inl (if_pos e)
      · exact .inr (if_neg e)
    · show (lcomb n).lv + 1 = _
      omega
    · show 1 + max (lcomb n).dp 0 = _
      omega
theorem rcomb_good : ∀ n, (rcomb n).good ∧ (rcomb n).lv = n + 1 ∧ (rcomb n).dp = n
  | 0 => ⟨cab_ok (by omega) (by omega), rfl, rfl⟩
  | n + 1 => by
    obtain ⟨h1, h2, h3⟩ := rcomb_good n
    refine ⟨⟨?_, cab_ok (by omega) (by omega), h1⟩, ?_, ?_⟩
    · by_cases e : n % 2 = 0
      · exact .inr (if_pos e)
      · exact .inl (if_neg e)
    · show 1 + (rcomb n).lv = _
      omega
    · show 1 + max 0 (rcomb n).dp = _
      omega
def bodyD {S : Type} : Fs S := (sSet 2 (vIte (bVal (vVar 1)) (vA dTup (aCons (v2 dItem (vA dTup (aCons (vCst (.str "row")) (aCons (vCst (.str "side")) aNil))) (v2 dMod (vA dInt (aCons (vVar 3) aNil)) (vCst (.int 2)))) (aCons (vVar 2) (aCons (vA dTup (aCons (vCst (.str "cable")) (aCons (vCst (.int 1)) aNil))) aNil)))) (vA dTup (aCons (v2 dItem (vA dTup (aCons (vCst (.str "side")) (aCons (vCst (.str "row")) aNil))) (v2 dMod (vA dInt (aCons (vVar 3) aNil)) (vCst (.int 2)))) (aCons (vA dTup (aCons (vCst (.str "cable")) (aCons (vCst (.int 2)) aNil))) (aCons (vVar 2) aNil))))))
def comb (left : Bool) (n : Nat) : Wt := if left then lcomb n else rcomb n
theorem bodyD_ok {S : Type} (left : Bool) (n : Nat) (a x : Slot) (s : S) : bodyD [a, .val (.bool left), .val (comb left n).toD, .val (.int n)] s = .ok (.nx [a, .val (.bool left), .val (comb left (n + 1)).toD, .val (.int n)]) s := by
  have h : n % 2 = 0 ∨ n % 2 = 1 := by omega
  cases left with
  | true =>
    rcases h with h | h
    · have e : ((n : Int) % 2) = 0 := by omega
      simp [Rf.run, Rf.start, sSeq, sSet, sRet, sDrop, sIf, sBrk, sCnt, sRaise, sFrz, frzS, ownAt, sApp, gNm, gTps, gTp, sUnp, sSetC, sPar, cVal, cNew, bEmp, vLenO, vIxO, vTupO, sPop, sSetIx, vVar, vCst, v1, v2, aNil, aCons, vA, vCall, vIte, bVal, bAnd, bOr, bNot, vB, dTup, dLst, dAdd, dSub, dIx, dItem, dLen, dCmp, Rs.bind, Rs.ofO, sNil, bodyD, dInt, dMod, e, h, le2, le3, comb, lcomb, Wt.toD, cab]
    · have e : ((n : Int) % 2) = 1 := by omega
      simp [Rf.run, Rf.start, sSeq, sSet, sRet, sDrop, sIf, sBrk, sCnt, sRaise, sFrz, frzS, ownAt, sApp, gNm, gTps, gTp, sUnp, sSetC, sPar, cVal, cNew, bEmp, vLenO, vIxO, vTupO, sPop, sSetIx, vVar, vCst, v1, v2, aNil, aCons, vA, vCall, vIte, bVal, bAnd, bOr, bNot, vB, dTup, dLst, dAdd, dSub, dIx, dItem, dLen, dCmp, Rs.bind, Rs.ofO, sNil, bodyD, dInt, dMod, e, h, le2, le3, comb, lcomb, Wt.toD, cab]
  | false =>
    rcases h with h | h
    · have e : ((n : Int) % 2) = 0 := by omega
      simp [Rf.run, Rf.start, sSeq, sSet, sRet, sDrop, sIf, sBrk, sCnt, sRaise, sFrz, frzS, ownAt, sApp, gNm, gTps, gTp, sUnp, sSetC, sPar, cVal, cNew, bEmp, vLenO, vIxO, vTupO, sPop, sSetIx, vVar, vCst, v1, v2, aNil, aCons, vA, vCall, vIte, bVal, bAnd, bOr, bNot, vB, dTup, dLst, dAdd, dSub, dIx, dItem, dLen, dCmp, Rs.bind, Rs.ofO, sNil, bodyD, dInt, dMod, e, h, le2, le3, comb, rcomb, Wt.toD, cab]
    · have e : ((n : Int) % 2) = 1 := by omega
      simp [Rf.run, Rf.start, sSeq, sSet, sRet, sDrop, sIf, sBrk, sCnt, sRaise, sFrz, frzS, ownAt, sApp, gNm, gTps, gTp, sUnp, sSetC, sPar, cVal, cNew, bEmp, vLenO, vIxO, vTupO, sPop, sSetIx, vVar, vCst, v1, v2, aNil, aCons, vA, vCall, vIte, bVal, bAnd, bOr, bNot, vB, dTup, dLst, dAdd, dSub, dIx, dItem, dLen, dCmp, Rs.bind, Rs.ofO, sNil, bodyD, dInt, dMod, e, h, le2, le3, comb, rcomb, Wt.toD, cab]
theorem forD {S : Type} (left : Bool) (a : Slot) (s : S) : ∀ (m i : Nat) (x : Slot), ∃ y, forGo (gNm 3) bodyD ((List.range' i m).map fun (j : Nat) => PyData.int (j : Int)) [a, .val (.bool left), .val (comb left i).toD, x] s = .ok (.nx [a, .val (.bool left), .val (comb left (i + m)).toD, y]) s
  | 0, i, x => ⟨x, rfl⟩
  | m + 1, i, x => by
    obtain ⟨y, h⟩ := forD left a s m (i + 1) (.val (.int i))
    refine ⟨y, ?_⟩
    rw [show i + (m + 1) = i + 1 + m by omega, ← h]
    show (bodyD [a, .val (.bool left), .val (comb left i).toD, .val (.int i)] s).bind _ = _
    rw [bodyD_ok left i a x s]
    rfl
theorem deep_ok {S : Type} (left : Bool) (n : Nat) (hn : n ≤ 1000) (s : S) : φ__law_deep [.int n, .bool left] s = .ok (comb left n).toD s := by
  unfold φ__law_deep
  rw [fnφ_eq (n := 2) (ds := [.int n, .bool left]) rfl]
  obtain ⟨y, h⟩ := forD left (.val (.int n)) s n 0 .no
  have hF : F__law_deep (S := S) = (sSeq (sSet 2 (vA dTup (aCons (vCst (.str "cable")) (aCons (vCst (.int 0)) aNil)))) (sSeq (sFor (gNm 3) (iRng (vVar 0)) bodyD) (sRet (vVar 2)))) := rfl
  have hr : rng 0 n = (List.range' 0 n).map fun (j : Nat) => PyData.int (j : Int) := by
    unfold rng
    rw [List.range_eq_range']
    simp
  have hc : (comb left 0).toD = .tuple [.str "cable", .int 0] := by cases left <;> rfl
  have hl : -(line : Int) ≤ (n : Int) ∧ (n : Int) ≤ line := by unfold line; omega
  rw [hc, Nat.zero_add] at h
  rw [hF]
  simp [Rf.run, Rf.start, sSeq, sSet, sRet, sDrop, sIf, sBrk, sCnt, sRaise, sFrz, frzS, ownAt, sApp, gNm, gTps, gTp, sUnp, sSetC, sPar, cVal, cNew, bEmp, vLenO, vIxO, vTupO, sPop, sSetIx, vVar, vCst, v1, v2, aNil, aCons, vA, vCall, vIte, bVal, bAnd, bOr, bNot, vB, dTup, dLst, dAdd, dSub, dIx, dItem, dLen, dCmp, Rs.bind, Rs.ofO, sNil, sFor, iRng, hl, hr, h, le2]
theorem scan_far (t : Wt) (way found : List D) (h : 40 < way.length) : scan t way found = .no (.tuple way) := by
  cases t with
  | lf d =>
    unfold scan
    rw [if_pos (.inl h)]
  | nd k l r => rw [scan_nd, if_pos h]
theorem scan_l : ∀ (n : Nat) (way found : List D), way.length ≤ 40 → 40 < way.length + n → scan (lcomb n) way found = .no (.tuple (way ++ List.replicate (41 - way.length) (.int 1)))
  | 0, way, found, h, h2 => by omega
  | n + 1, way, found, h, h2 => by
    show scan (.nd _ (lcomb n) (.lf (cab 1))) way found = _
    rw [scan_nd, if_neg (by omega)]
    by_cases e : way.length = 40
    · rw [scan_far (lcomb n) (way ++ [PyData.int 1]) found (by rw [List.length_append, List.length_singleton]; omega), e]
      rfl
    · rw [scan_l n (way ++ [PyData.int 1]) found (by rw [List.length_append, List.length_singleton]; omega) (by rw [List.length_append, List.length_singleton]; omega)]
      have e2 : 41 - way.length = (41 - (way ++ [PyData.int 1]).length) + 1 := by rw [List.length_append, List.length_singleton]; omega
      rw [e2, List.replicate_succ]
      simp
theorem scan_r : ∀ (n : Nat) (way found : List D), way.length ≤ 40 → found.length = way.length → 40 < way.length + n → scan (rcomb n) way found = .no (.tuple (way ++ (List.replicate (40 - way.length) (.int 2) ++ [.int 1])))
  | 0, way, found, h, h1, h2 => by omega
  | n + 1, way, found, h, h1, h2 => by
    show scan (.nd _ (.lf (cab 2)) (rcomb n)) way found = _
    rw [scan_nd, if_neg (by omega)]
    by_cases e : way.length = 40
    · rw [scan_far (.lf (cab 2)) (way ++ [PyData.int 1]) found (by rw [List.length_append, List.length_singleton]; omega), e]
      rfl
    · rw [scan_good (.lf (cab 2)) (way ++ [PyData.int 1]) found (cab_ok (by omega) (by omega)) (by rw [List.length_append, List.length_singleton]; show way.length + 1 + 0 ≤ 40; omega) (by show found.length + 1 ≤ 40; omega)]
      dsimp only
      rw [scan_r n (way ++ [PyData.int 2]) (found ++ (Wt.lf (cab 2)).names) (by rw [List.length_append, List.length_singleton]; omega) (by rw [List.length_append, List.length_append, List.length_singleton, h1]; rfl) (by rw [List.length_append, List.length_singleton]; omega)]
      have e2 : 40 - way.length = (40 - (way ++ [PyData.int 2]).length) + 1 := by rw [List.length_append, List.length_singleton]; omega
      rw [e2, List.replicate_succ]
      simp
/-! ### a word doubled -/
def tw : Nat → Wt
  | 0 => .lf (cab 0)
  | n + 1 => .nd "row" (tw n) (tw n)
theorem tw_good : ∀ n, (tw n).good ∧ (tw n).lv = 2 ^ n ∧ (tw n).dp = n
  | 0 => ⟨cab_ok (by omega) (by omega), rfl, rfl⟩
  | n + 1 => by
    obtain ⟨h1, h2, h3⟩ := tw_good n
    refine ⟨⟨.inl rfl, h1, h1⟩, ?_, ?_⟩
    · show (tw n).lv + (tw n).lv = _
      rw [h2, Nat.pow_succ]
      omega
    · show 1 + max (tw n).dp (tw n).dp = _
      omega
def bodyT {S : Type} : Fs S := (sSet 5 (vA dTup (aCons (vCst (.str "row")) (aCons (vVar 5) (aCons (vVar 5) aNil)))))
theorem forT {S : Type} (a b d e : Slot) (s : S) : ∀ (ds : List D) (n : Nat) (x : Slot), ∃ y, forGo (gNm 2) bodyT ds [a, b, x, d, e, .val (tw n).toD] s = .ok (.nx [a, b, y, d, e, .val (tw (n + ds.length)).toD]) s
  | [], n, x => ⟨x, rfl⟩
  | c :: r, n, x => by
    obtain ⟨y, h⟩ := forT a b d e s r (n + 1) (.val c)
    refine ⟨y, ?_⟩
    rw [List.length_cons, show n + (r.length + 1) = n + 1 + r.length by omega, ← h]
    have st : bodyT [a, b, .val c, d, e, .val (tw n).toD] s = .ok (.nx [a, b, .val c, d, e, .val (tw (n + 1)).toD]) s := by
      simp [Rf.run, Rf.start, sSeq, sSet, sRet, sDrop, sIf, sBrk, sCnt, sRaise, sFrz, frzS, ownAt, sApp, gNm, gTps, gTp, sUnp, sSetC, sPar, cVal, cNew, bEmp, vLenO, vIxO, vTupO, sPop, sSetIx, vVar, vCst, v1, v2, aNil, aCons, vA, vCall, vIte, bVal, bAnd, bOr, bNot, vB, dTup, dLst, dAdd, dSub, dIx, dItem, dLen, dCmp, Rs.bind, Rs.ofO, sNil, bodyT, le3, tw, Wt.toD]
    have step : forGo (gNm 2) bodyT (c :: r) [a, b, x, d, e, .val (tw n).toD] s = (bodyT [a, b, .val c, d, e, .val (tw n).toD] s).bind fun o s1 => match o with
      | .nx e2 => forGo (gNm 2) bodyT r e2 s1
      | .ct e2 => forGo (gNm 2) bodyT r e2 s1
      | .bk e2 => .ok (.nx e2) s1
      | .rt d => .ok (.rt d) s1 := rfl
    rw [step, st]
    rfl
/-! ### the word of forty cables -/
def bodyW (am gl : Addr) : Fs MS := (sSet 1 (vIte (bAnd (bVal (v2 dEq (vCall (φ__law_next am gl) (aCons (vVar 0) (aCons (vCst (.int 2)) aNil))) (vCst (.int 0)))) (bVal (v2 dLt (vVar 2) (vCst (.int 30))))) (vA dTup (aCons (vCst (.str "side")) (aCons (vVar 1) (aCons (vA dTup (aCons (vCst (.str "cable")) (aCons (vCst (.int 4)) aNil))) aNil)))) (vA dTup (aCons (vCst (.str "row")) (aCons (vA dTup (aCons (vCst (.str "cable")) (aCons (vCst (.int 5)) aNil))) (aCons (vVar 1) aNil))))))
theorem forW (am gl : Addr) (d e f : Slot) : ∀ (ns : List Int) (t : Wt) (x : Slot) (s : MS), t.good → ∃ (t' : Wt) (y : Slot) (s' : MS), forGo (gNm 2) (bodyW am gl) (ns.map PyData.int) [.val (hnd am), .val t.toD, x, d, e, f] s = .ok (.nx [.val (hnd am), .val t'.toD, y, d, e, f]) s' ∧ t'.good ∧ t'.lv = t.lv + ns.length
  | [], t, x, s, hg => ⟨t, x, s, rfl, hg, rfl⟩
  | z :: r, t, x, s, hg => by
    obtain ⟨v, s1, e1, r0, r1⟩ := next_ok am gl s 2 (by omega) (by omega)
    obtain ⟨t1, st, g1, l1⟩ : ∃ t1 : Wt, bodyW am gl [.val (hnd am), .val t.toD, .val (.int z), d, e, f] s = .ok (.nx [.val (hnd am), .val t1.toD, .val (.int z), d, e, f]) s1 ∧ t1.good ∧ t1.lv = t.lv + 1 := by
      have hv : dEq (.int v) (.int 0) = some (.bool (v == 0)) := eq_int v 0
      by_cases c : (v == 0) = true ∧ z < 30
      · refine ⟨.nd "side" t (.lf (cab 4)), ?_, ⟨.inr rfl, hg, cab_ok (by omega) (by omega)⟩, rfl⟩
        have c1 := c.1
        have c2 := c.2
        rw [c1] at hv
        simp [Rf.run, Rf.start, sSeq, sSet, sRet, sDrop, sIf, sBrk, sCnt, sRaise, sFrz, frzS, ownAt, sApp, gNm, gTps, gTp, sUnp, sSetC, sPar, cVal, cNew, bEmp, vLenO, vIxO, vTupO, sPop, sSetIx, vVar, vCst, v1, v2, aNil, aCons, vA, vCall, vIte, bVal, bAnd, bOr, bNot, vB, dTup, dLst, dAdd, dSub, dIx, dItem, dLen, dCmp, Rs.bind, Rs.ofO, sNil, bodyW, e1, hv, c2, le2, le3, Wt.toD, cab]
      · refine ⟨.nd "row" (.lf (cab 5)) t, ?_, ⟨.inl rfl, cab_ok (by omega) (by omega), hg⟩, ?_⟩
        · cases q : (v == 0) with
          | false =>
            rw [q] at hv
            simp [Rf.run, Rf.start, sSeq, sSet, sRet, sDrop, sIf, sBrk, sCnt, sRaise, sFrz, frzS, ownAt, sApp, gNm, gTps, gTp, sUnp, sSetC, sPar, cVal, cNew, bEmp, vLenO, vIxO, vTupO, sPop, sSetIx, vVar, vCst, v1, v2, aNil, aCons, vA, vCall, vIte, bVal, bAnd, bOr, bNot, vB, dTup, dLst, dAdd, dSub, dIx, dItem, dLen, dCmp, Rs.bind, Rs.ofO, sNil, bodyW, e1, hv, le2, le3, Wt.toD, cab]
          | true =>
            rw [q] at hv
            have c2 : ¬ z < 30 := fun h => c ⟨q, h⟩
            simp [Rf.run, Rf.start, sSeq, sSet, sRet, sDrop, sIf, sBrk, sCnt, sRaise, sFrz, frzS, ownAt, sApp, gNm, gTps, gTp, sUnp, sSetC, sPar, cVal, cNew, bEmp, vLenO, vIxO, vTupO, sPop, sSetIx, vVar, vCst, v1, v2, aNil, aCons, vA, vCall, vIte, bVal, bAnd, bOr, bNot, vB, dTup, dLst, dAdd, dSub, dIx, dItem, dLen, dCmp, Rs.bind, Rs.ofO, sNil, bodyW, e1, hv, c2, le2, le3, Wt.toD, cab]
        · show 1 + t.lv = _
          omega
    obtain ⟨t', y, s', h, g', l'⟩ := forW am gl d e f r t1 (.val (.int z)) s1 g1
    refine ⟨t', y, s', ?_, g', by rw [l', l1, List.length_cons]; omega⟩
    rw [← h]
    show (bodyW am gl [.val (hnd am), .val t.toD, .val (.int z), d, e, f] s).bind _ = _
    rw [st]
    rfl
end K54
end

section
set_option Elab.async false
set_option linter.all false
set_option maxRecDepth 100000
set_option maxHeartbeats 4000000
namespace K54
open PySem PySem.Spec PyProof.Rows L2 Rf Hd54
/-! ### the tellers of words, by scan -/
theorem said_bad {S : Type} {t : Wt} {d : D} (hw : t.wf) (hs : t.size ≤ 400) (h : scan t [] [] = .no d) : ∀ s : S, φ_names_of [t.toD] s = .exc "BadWord" d s := fun s => (names_of t hw hs s).2 d h
theorem said_good {S : Type} {t : Wt} (hg : t.good) (hl : t.lv ≤ 40) : ∀ s : S, φ_names_of [t.toD] s = .ok (.list t.names) s := fun s => by
  have h1 := size_lv t
  have h2 := dp_lv t
  have := (names_of t (good_wf hg) (by omega) s).1 _ (scan_good t [] [] hg (by simp; omega) (by simp; omega))
  simpa using this
def mny : D := .tuple [.str "word", .str "many"]
theorem ne_mny : dNe mny mny = some (.bool false) := by kernel_rfl
theorem eq_mny : dEq mny mny = some (.bool true) := by kernel_rfl
def w1 : D := .tuple [.str "word", .tuple [.int 1]]
theorem eq_w1 : dEq w1 w1 = some (.bool true) := by kernel_rfl
def w2 : D := .tuple [.str "word", .tuple [.int 2]]
theorem ne_w2 : dNe w2 w2 = some (.bool false) := by kernel_rfl
def d41 : D := .tuple [.str "word", .tuple (List.replicate 41 (.int 1))]
def d40 : D := .tuple [.str "word", .tuple (List.replicate 40 (.int 2) ++ [.int 1])]
def told3 : D := .list [mny, d41, d40]
theorem ne_told : dNe told3 told3 = some (.bool false) := by kernel_rfl
theorem mul41 : dMul (.tuple [.int 1]) (.int 41) = some (.tuple (List.replicate 41 (.int 1))) := by kernel_rfl
theorem mul40 : dMul (.tuple [.int 2]) (.int 40) = some (.tuple (List.replicate 40 (.int 2))) := by kernel_rfl
theorem F_bounds (am gl : Addr) : F__law_bounds_right (φ__law_next am gl) φ_how_many_cables φ_need_named_word φ__law_deep φ_dual_word =
  (sSeq (sSet 1 (vA dTup (aCons (vCst (.str "cable")) (aCons (vCst (.int 3)) aNil))))
  (sSeq (sFor (gNm 2) (iRng (vCst (.int 39))) (bodyW am gl))
  (sSeq (sIf (bOr (bVal (v2 dNe (vCall φ_how_many_cables (aCons (vVar 1) aNil)) (vCst (.int 40)))) (bVal (v2 dNe (vCall φ_need_named_word (aCons (vVar 1) aNil)) (vVar 1)))) (sRet (vCst (.bool false))) sNil)
  (sSeq (sIf (bVal (v2 dNe (vSaid "BadWord" "answer" "word" (vCall φ_need_named_word (aCons (vA dTup (aCons (vCst (.str "side")) (aCons (vVar 1) (aCons (vA dTup (aCons (vCst (.str "cable")) (aCons (vCst (.int 0)) aNil))) aNil)))) aNil))) (vA dTup (aCons (vCst (.str "word")) (aCons (vCst (.str "many")) aNil))))) (sRet (vCst (.bool false))) sNil)
  (sSeq (sIf (bOr (bVal (v2 dNe (vCall φ_how_many_cables (aCons (vCall φ__law_deep (aCons (vCst (.int 39)) (aCons (vCst (.bool true)) aNil))) aNil)) (vCst (.int 40)))) (bVal (v2 dNe (vCall φ_how_many_cables (aCons (vCall φ__law_deep (aCons (vCst (.int 39)) (aCons (vCst (.bool false)) aNil))) aNil)) (vCst (.int 40))))) (sRet (vCst (.bool false))) sNil)
  (sSeq (sSet 3 (vA dLst (aCons (vSaid "BadWord" "answer" "word" (vCall φ_need_named_word (aCons (vCall φ__law_deep (aCons (vCst (.int 40)) (aCons (vCst (.bool false)) aNil))) aNil))) (aCons (vSaid "BadWord" "answer" "word" (vCall φ_need_named_word (aCons (vCall φ__law_deep (aCons (vCst (.int 41)) (aCons (vCst (.bool true)) aNil))) aNil))) (aCons (vSaid "BadWord" "answer" "word" (vCall φ_need_named_word (aCons (vCall φ__law_deep (aCons (vCst (.int 41)) (aCons (vCst (.bool false)) aNil))) aNil))) aNil)))))
  (sSeq (sIf (bVal (v2 dNe (vVar 3) (vA dLst (aCons (vA dTup (aCons (vCst (.str "word")) (aCons (vCst (.str "many")) aNil))) (aCons (vA dTup (aCons (vCst (.str "word")) (aCons (v2 dMul (vA dTup (aCons (vCst (.int 1)) aNil)) (vCst (.int 41))) aNil))) (aCons (vA dTup (aCons (vCst (.str "word")) (aCons (v2 dAdd (v2 dMul (vA dTup (aCons (vCst (.int 2)) aNil)) (vCst (.int 40))) (vA dTup (aCons (vCst (.int 1)) aNil))) aNil))) aNil)))))) (sRet (vCst (.bool false))) sNil)
  (sSeq (sSet 4 (vA dTup (aCons (vCst (.str "row")) (aCons (vVar 1) (aCons (vA dTup (aCons (vCst (.str "row")) (aCons (vA dTup (aCons (vCst (.str "cable")) (aCons (vCst (.int 1)) aNil))) (aCons (vCst .none) aNil)))) aNil)))))
  (sSeq (sIf (bOr (bVal (v2 dNe (vSaid "BadWord" "answer" "word" (vCall φ_need_named_word (aCons (vVar 4) aNil))) (vA dTup (aCons (vCst (.str "word")) (aCons (vCst (.str "many")) aNil))))) (bVal (v2 dNe (vSaid "BadWord" "answer" "word" (vCall φ_dual_word (aCons (vA dTup (aCons (vCst (.str "row")) (aCons (vVar 1) (aCons (vCst .none) aNil)))) aNil))) (vA dTup (aCons (vCst (.str "word")) (aCons (vA dTup (aCons (vCst (.int 2)) aNil)) aNil)))))) (sRet (vCst (.bool false))) sNil)
  (sSeq (sSet 5 (vA dTup (aCons (vCst (.str "cable")) (aCons (vCst (.int 0)) aNil))))
  (sSeq (sFor (gNm 2) (iRng (vCst (.int 6))) bodyT)
  (sRet (vIte (bVal (v2 dEq (vSaid "BadWord" "answer" "word" (vCall φ_need_named_word (aCons (vVar 5) aNil))) (vA dTup (aCons (vCst (.str "word")) (aCons (vCst (.str "many")) aNil))))) (v2 dEq (vSaid "BadWord" "answer" "word" (vCall φ_how_many_cables (aCons (vA dTup (aCons (vCst (.str "side")) (aCons (vCst .none) (aCons (vVar 5) aNil)))) aNil))) (vA dTup (aCons (vCst (.str "word")) (aCons (vA dTup (aCons (vCst (.int 1)) aNil)) aNil)))) (vCst (.bool false))))))))))))))) := rfl
theorem seq_nx {S : Type} {a b : Fs S} {e e1 : En} {s s1 : S} (h : a e s = .ok (.nx e1) s1) : sSeq a b e s = b e1 s1 := by
  unfold sSeq
  rw [h]
  rfl
theorem bounds_ok (am gl : Addr) (s : MS) : ∃ s', φ__law_bounds_right am gl [hnd am] s = .ok (.bool true) s' := by
  obtain ⟨t, y, s1, eW, g, l⟩ := forW am gl .no .no .no ((List.range 39).map fun (i : Nat) => ((0 : Int) + (i : Int))) (.lf (cab 3)) .no s (cab_ok (by omega) (by omega))
  have hl : t.lv = 40 := by
    rw [l, List.length_map, List.length_range]
    rfl
  have hd := dp_lv t
  have hsz := size_lv t
  have r39 : rng 0 39 = ((List.range 39).map fun (i : Nat) => ((0 : Int) + (i : Int))).map PyData.int := by
    unfold rng
    rw [List.map_map]
    rfl
  rw [← r39] at eW
  obtain ⟨y2, eT⟩ := forT (.val (hnd am)) (.val t.toD) (.val told3) (.val (.tuple [.str "row", t.toD, .tuple [.str "row", cab 1, .none]])) s1 (rng 0 6) 0 y
  have r6 : (rng 0 6).length = 6 := rfl
  rw [r6, Nat.zero_add] at eT
  -- what the tellers say
  have m0 : ∀ s : MS, φ_how_many_cables [t.toD] s = .ok (.int 40) s := fun s => by
    have := many_good (said_good (S := MS) g (by omega)) s
    rw [names_len, hl] at this
    exact this
  have n0 : ∀ s : MS, φ_need_named_word [t.toD] s = .ok t.toD s := need_good (said_good g (by omega))
  have c0 : dNe t.toD t.toD = some (.bool false) := ne_refl_ (word_shaped g (by omega))
  have n1 : ∀ s : MS, φ_need_named_word [.tuple [.str "side", t.toD, .tuple [.str "cable", .int 0]]] s = .exc "BadWord" (.str "many") s := need_bad (said_bad (t := .nd "side" t (.lf (cab 0))) ⟨.inr rfl, good_wf g, good_wf (cab_ok (by omega) (by omega))⟩ (by show 1 + t.size + 1 ≤ 400; omega)
    (scan_many _ [] [] ⟨.inr rfl, g, cab_ok (by omega) (by omega)⟩ (by show 0 + (1 + max t.dp 0) ≤ 40; omega) (by simp) (by show 40 < 0 + (t.lv + 1); omega)))
  obtain ⟨lg, ll, ld⟩ := lcomb_good 39
  obtain ⟨rg, rl, rd⟩ := rcomb_good 39
  have m1 : ∀ s : MS, φ_how_many_cables [(comb true 39).toD] s = .ok (.int 40) s := fun s => by
    have := many_good (said_good (S := MS) lg (by omega)) s
    rw [names_len, ll] at this
    exact this
  have m2 : ∀ s : MS, φ_how_many_cables [(comb false 39).toD] s = .ok (.int 40) s := fun s => by
    have := many_good (said_good (S := MS) rg (by omega)) s
    rw [names_len, rl] at this
    exact this
  obtain ⟨rg4, rl4, rd4⟩ := rcomb_good 40
  obtain ⟨rg5, rl5, rd5⟩ := rcomb_good 41
  obtain ⟨lg5, ll5, ld5⟩ := lcomb_good 41
  have rs4 := size_lv (rcomb 40)
  have rs5 := size_lv (rcomb 41)
  have ls5 := size_lv (lcomb 41)
  have k1 : ∀ s : MS, φ_need_named_word [(comb false 40).toD] s = .exc "BadWord" (.str "many") s := need_bad (said_bad (t := rcomb 40) (good_wf rg4) (by omega) (scan_many _ [] [] rg4 (by simp; omega) (by simp) (by simp; omega)))
  have k2 : ∀ s : MS, φ_need_named_word [(comb true 41).toD] s = .exc "BadWord" (.tuple (List.replicate 41 (.int 1))) s := need_bad (said_bad (t := lcomb 41) (good_wf lg5) (by omega) (by
    have := scan_l 41 [] [] (by simp) (by simp)
    simpa using this))
  have k3 : ∀ s : MS, φ_need_named_word [(comb false 41).toD] s = .exc "BadWord" (.tuple (List.replicate 40 (.int 2) ++ [.int 1])) s := need_bad (said_bad (t := rcomb 41) (good_wf rg5) (by omega) (by
    have := scan_r 41 [] [] (by simp) rfl (by simp)
    simpa using this))
  have k4 : ∀ s : MS, φ_need_named_word [.tuple [.str "row", t.toD, .tuple [.str "row", cab 1, .none]]] s = .exc "BadWord" (.str "many") s := need_bad (said_bad (t := .nd "row" t (.nd "row" (.lf (cab 1)) (.lf .none))) ⟨.inl rfl, good_wf g, .inl rfl, good_wf (cab_ok (by omega) (by omega)), .inr none_bad⟩ (by show 1 + t.size + (1 + 1 + 1) ≤ 400; omega) (by
    rw [scan_nd, if_neg (by simp), scan_good t ([] ++ [PyData.int 1]) [] g (by simp; omega) (by simp; omega)]
    dsimp only
    rw [scan_nd, if_neg (by simp), scan_many (.lf (cab 1)) ([] ++ [PyData.int 2] ++ [PyData.int 1]) ([] ++ t.names) (cab_ok (by omega) (by omega)) (by decide) (by simp [names_len]; omega) (by simp [names_len, Wt.lv]; omega)]))
  have k5 : ∀ s : MS, φ_dual_word [.tuple [.str "row", t.toD, .none]] s = .exc "BadWord" (.tuple [.int 2]) s := dual_bad (said_bad (t := .nd "row" t (.lf .none)) ⟨.inl rfl, good_wf g, .inr none_bad⟩ (by show 1 + t.size + 1 ≤ 400; omega) (by
    rw [scan_nd, if_neg (by simp), scan_good t ([] ++ [PyData.int 1]) [] g (by simp; omega) (by simp; omega)]
    dsimp only
    rw [scan_bad none_bad]
    rfl))
  obtain ⟨tg, tl, td⟩ := tw_good 6
  have tl' : (tw 6).lv = 64 := tl
  have ts := size_lv (tw 6)
  have k6 : ∀ s : MS, φ_need_named_word [(tw 6).toD] s = .exc "BadWord" (.str "many") s := need_bad (said_bad (t := tw 6) (good_wf tg) (by omega) (scan_many _ [] [] tg (by simp; omega) (by simp) (by simp; omega)))
  have k7 : ∀ s : MS, φ_how_many_cables [.tuple [.str "side", .none, (tw 6).toD]] s = .exc "BadWord" (.tuple [.int 1]) s := many_bad (said_bad (t := .nd "side" (.lf .none) (tw 6)) ⟨.inr rfl, .inr none_bad, good_wf tg⟩ (by show 1 + 1 + (tw 6).size ≤ 400; omega) (by
    rw [scan_nd, if_neg (by simp), scan_bad none_bad]
    rfl))
  have d1 : ∀ s : MS, φ__law_deep [.int 39, .bool true] s = .ok (comb true 39).toD s := deep_ok true 39 (by omega)
  have d2 : ∀ s : MS, φ__law_deep [.int 39, .bool false] s = .ok (comb false 39).toD s := deep_ok false 39 (by omega)
  have d3 : ∀ s : MS, φ__law_deep [.int 40, .bool false] s = .ok (comb false 40).toD s := deep_ok false 40 (by omega)
  have d4 : ∀ s : MS, φ__law_deep [.int 41, .bool true] s = .ok (comb true 41).toD s := deep_ok true 41 (by omega)
  have d5 : ∀ s : MS, φ__law_deep [.int 41, .bool false] s = .ok (comb false 41).toD s := deep_ok false 41 (by omega)
  have i40 : dNe (.int 40) (.int 40) = some (.bool false) := ne_int 40
  have b39 : -(line : Int) ≤ 39 ∧ (39 : Int) ≤ line := by unfold line; omega
  have b6 : -(line : Int) ≤ 6 ∧ (6 : Int) ≤ line := by unfold line; omega
  have l41 : (List.replicate 40 (PyData.int 2)).length + 1 ≤ line := by rw [List.length_replicate]; decide
  have nm := ne_mny
  have em := eq_mny
  have nw := ne_w2
  have ew := eq_w1
  have nt := ne_told
  have u41 := mul41
  have u40 := mul40
  unfold mny at nm em
  unfold w2 at nw
  unfold w1 at ew
  unfold told3 mny d41 d40 at nt
  have ht3 : (told3 : D) = .list [.tuple [.str "word", .str "many"], .tuple [.str "word", .tuple (List.replicate 41 (.int 1))], .tuple [.str "word", .tuple (List.replicate 40 (.int 2) ++ [.int 1])]] := rfl
  rw [ht3] at eT
  obtain ⟨AA, hA⟩ : ∃ A : List D, A = List.replicate 41 (.int 1) := ⟨_, rfl⟩
  obtain ⟨BB, hB⟩ : ∃ B : List D, B = List.replicate 40 (.int 2) := ⟨_, rfl⟩
  rw [← hA] at eT k2 u41 nt
  rw [← hB] at eT k3 u40 nt l41
  clear hA hB ht3
  have tw0 : (tw 0).toD = .tuple [.str "cable", .int 0] := rfl
  rw [tw0] at eT
  have w0 : (Wt.lf (cab 3)).toD = .tuple [.str "cable", .int 3] := rfl
  rw [w0] at eW
  have c1 : (cab 1 : D) = .tuple [.str "cable", .int 1] := rfl
  rw [c1] at eT k4
  have t39 : Int.toNat 39 = 39 := rfl
  have t6 : Int.toNat 6 = 6 := rfl
  refine ⟨s1, ?_⟩
  unfold φ__law_bounds_right
  rw [fnφ_eq (n := 1) (ds := [hnd am]) rfl, F_bounds]
  have s0 : Rf.start 6 [hnd am] = [.val (hnd am), .no, .no, .no, .no, .no] := rfl
  unfold Rf.run
  rw [s0]
  have q1 : (sSet 1 (vA dTup (aCons (vCst (.str "cable")) (aCons (vCst (.int 3)) aNil)))) [.val (hnd am), .no, .no, .no, .no, .no] s = .ok (.nx [.val (hnd am), .val (.tuple [.str "cable", .int 3]), .no, .no, .no, .no]) s := by
    simp [Rf.run, Rf.start, sSeq, sSet, sRet, sDrop, sIf, sBrk, sCnt, sRaise, sFrz, frzS, ownAt, sApp, gNm, gTps, gTp, sUnp, sSetC, sPar, cVal, cNew, bEmp, vLenO, vIxO, vTupO, sPop, sSetIx, vVar, vCst, v1, v2, aNil, aCons, vA, vCall, vIte, bVal, bAnd, bOr, bNot, vB, dTup, dLst, dAdd, dSub, dIx, dItem, dLen, dCmp, Rs.bind, Rs.ofO, sNil, le2]
  have q2 : sFor (gNm 2) (iRng (vCst (.int 39))) (bodyW am gl) [.val (hnd am), .val (.tuple [.str "cable", .int 3]), .no, .no, .no, .no] s = .ok (.nx [.val (hnd am), .val t.toD, y, .no, .no, .no]) s1 := by
    have : iRng (S := MS) (vCst (.int 39)) [.val (hnd am), .val (.tuple [.str "cable", .int 3]), .no, .no, .no, .no] s = .ok (rng 0 39) s := by
      unfold iRng vCst
      simp only [Rs.bind]
      rw [if_pos b39, t39]
    unfold sFor
    rw [this, Rs.bind_ok]
    exact eW
  have q3 : sFor (gNm 2) (iRng (vCst (.int 6))) bodyT [.val (hnd am), .val t.toD, y, .val (.list [.tuple [.str "word", .str "many"], .tuple [.str "word", .tuple AA], .tuple [.str "word", .tuple (BB ++ [.int 1])]]), .val (.tuple [.str "row", t.toD, .tuple [.str "row", .tuple [.str "cable", .int 1], .none]]), .val (.tuple [.str "cable", .int 0])] s1 =
      .ok (.nx [.val (hnd am), .val t.toD, y2, .val (.list [.tuple [.str "word", .str "many"], .tuple [.str "word", .tuple AA], .tuple [.str "word", .tuple (BB ++ [.int 1])]]), .val (.tuple [.str "row", t.toD, .tuple [.str "row", .tuple [.str "cable", .int 1], .none]]), .val (tw 6).toD]) s1 := by
    have : iRng (S := MS) (vCst (.int 6)) [.val (hnd am), .val t.toD, y, .val (.list [.tuple [.str "word", .str "many"], .tuple [.str "word", .tuple AA], .tuple [.str "word", .tuple (BB ++ [.int 1])]]), .val (.tuple [.str "row", t.toD, .tuple [.str "row", .tuple [.str "cable", .int 1], .none]]), .val (.tuple [.str "cable", .int 0])] s1 = .ok (rng 0 6) s1 := by
      unfold iRng vCst
      simp only [Rs.bind]
      rw [if_pos b6, t6]
    unfold sFor
    rw [this, Rs.bind_ok]
    exact eT
  have q4 : (sIf (bOr (bVal (v2 dNe (vCall φ_how_many_cables (aCons (vVar 1) aNil)) (vCst (.int 40)))) (bVal (v2 dNe (vCall φ_need_named_word (aCons (vVar 1) aNil)) (vVar 1)))) (sRet (vCst (.bool false))) sNil) [.val (hnd am), .val t.toD, y, .no, .no, .no] s1 = .ok (.nx [.val (hnd am), .val t.toD, y, .no, .no, .no]) s1 := by
    simp [Rf.run, Rf.start, sSeq, sSet, sRet, sDrop, sIf, sBrk, sCnt, sRaise, sFrz, frzS, ownAt, sApp, gNm, gTps, gTp, sUnp, sSetC, sPar, cVal, cNew, bEmp, vLenO, vIxO, vTupO, sPop, sSetIx, vVar, vCst, v1, v2, aNil, aCons, vA, vCall, vIte, bVal, bAnd, bOr, bNot, vB, dTup, dLst, dAdd, dSub, dIx, dItem, dLen, dCmp, Rs.bind, Rs.ofO, sNil, m0, n0, i40, c0]
  have q5 : (sIf (bVal (v2 dNe (vSaid "BadWord" "answer" "word" (vCall φ_need_named_word (aCons (vA dTup (aCons (vCst (.str "side")) (aCons (vVar 1) (aCons (vA dTup (aCons (vCst (.str "cable")) (aCons (vCst (.int 0)) aNil))) aNil)))) aNil))) (vA dTup (aCons (vCst (.str "word")) (aCons (vCst (.str "many")) aNil))))) (sRet (vCst (.bool false))) sNil) [.val (hnd am), .val t.toD, y, .no, .no, .no] s1 = .ok (.nx [.val (hnd am), .val t.toD, y, .no, .no, .no]) s1 := by
    simp [Rf.run, Rf.start, sSeq, sSet, sRet, sDrop, sIf, sBrk, sCnt, sRaise, sFrz, frzS, ownAt, sApp, gNm, gTps, gTp, sUnp, sSetC, sPar, cVal, cNew, bEmp, vLenO, vIxO, vTupO, sPop, sSetIx, vVar, vCst, v1, v2, aNil, aCons, vA, vCall, vIte, bVal, bAnd, bOr, bNot, vB, dTup, dLst, dAdd, dSub, dIx, dItem, dLen, dCmp, Rs.bind, Rs.ofO, sNil, n1, nm, le2, le3, vSaid]
  have q6 : (sIf (bOr (bVal (v2 dNe (vCall φ_how_many_cables (aCons (vCall φ__law_deep (aCons (vCst (.int 39)) (aCons (vCst (.bool true)) aNil))) aNil)) (vCst (.int 40)))) (bVal (v2 dNe (vCall φ_how_many_cables (aCons (vCall φ__law_deep (aCons (vCst (.int 39)) (aCons (vCst (.bool false)) aNil))) aNil)) (vCst (.int 40))))) (sRet (vCst (.bool false))) sNil) [.val (hnd am), .val t.toD, y, .no, .no, .no] s1 = .ok (.nx [.val (hnd am), .val t.toD, y, .no, .no, .no]) s1 := by
    simp [Rf.run, Rf.start, sSeq, sSet, sRet, sDrop, sIf, sBrk, sCnt, sRaise, sFrz, frzS, ownAt, sApp, gNm, gTps, gTp, sUnp, sSetC, sPar, cVal, cNew, bEmp, vLenO, vIxO, vTupO, sPop, sSetIx, vVar, vCst, v1, v2, aNil, aCons, vA, vCall, vIte, bVal, bAnd, bOr, bNot, vB, dTup, dLst, dAdd, dSub, dIx, dItem, dLen, dCmp, Rs.bind, Rs.ofO, sNil, d1, d2, m1, m2, i40]
  have q7 : (sSet 3 (vA dLst (aCons (vSaid "BadWord" "answer" "word" (vCall φ_need_named_word (aCons (vCall φ__law_deep (aCons (vCst (.int 40)) (aCons (vCst (.bool false)) aNil))) aNil))) (aCons (vSaid "BadWord" "answer" "word" (vCall φ_need_named_word (aCons (vCall φ__law_deep (aCons (vCst (.int 41)) (aCons (vCst (.bool true)) aNil))) aNil))) (aCons (vSaid "BadWord" "answer" "word" (vCall φ_need_named_word (aCons (vCall φ__law_deep (aCons (vCst (.int 41)) (aCons (vCst (.bool false)) aNil))) aNil))) aNil))))) [.val (hnd am), .val t.toD, y, .no, .no, .no] s1 = .ok (.nx [.val (hnd am), .val t.toD, y, .val (.list [.tuple [.str "word", .str "many"], .tuple [.str "word", .tuple AA], .tuple [.str "word", .tuple (BB ++ [.int 1])]]), .no, .no]) s1 := by
    simp [Rf.run, Rf.start, sSeq, sSet, sRet, sDrop, sIf, sBrk, sCnt, sRaise, sFrz, frzS, ownAt, sApp, gNm, gTps, gTp, sUnp, sSetC, sPar, cVal, cNew, bEmp, vLenO, vIxO, vTupO, sPop, sSetIx, vVar, vCst, v1, v2, aNil, aCons, vA, vCall, vIte, bVal, bAnd, bOr, bNot, vB, dTup, dLst, dAdd, dSub, dIx, dItem, dLen, dCmp, Rs.bind, Rs.ofO, sNil, d3, d4, d5, k1, k2, k3, le3, vSaid]
  have q8 : (sIf (bVal (v2 dNe (vVar 3) (vA dLst (aCons (vA dTup (aCons (vCst (.str "word")) (aCons (vCst (.str "many")) aNil))) (aCons (vA dTup (aCons (vCst (.str "word")) (aCons (v2 dMul (vA dTup (aCons (vCst (.int 1)) aNil)) (vCst (.int 41))) aNil))) (aCons (vA dTup (aCons (vCst (.str "word")) (aCons (v2 dAdd (v2 dMul (vA dTup (aCons (vCst (.int 2)) aNil)) (vCst (.int 40))) (vA dTup (aCons (vCst (.int 1)) aNil))) aNil))) aNil)))))) (sRet (vCst (.bool false))) sNil) [.val (hnd am), .val t.toD, y, .val (.list [.tuple [.str "word", .str "many"], .tuple [.str "word", .tuple AA], .tuple [.str "word", .tuple (BB ++ [.int 1])]]), .no, .no] s1 = .ok (.nx [.val (hnd am), .val t.toD, y, .val (.list [.tuple [.str "word", .str "many"], .tuple [.str "word", .tuple AA], .tuple [.str "word", .tuple (BB ++ [.int 1])]]), .no, .no]) s1 := by
    simp [Rf.run, Rf.start, sSeq, sSet, sRet, sDrop, sIf, sBrk, sCnt, sRaise, sFrz, frzS, ownAt, sApp, gNm, gTps, gTp, sUnp, sSetC, sPar, cVal, cNew, bEmp, vLenO, vIxO, vTupO, sPop, sSetIx, vVar, vCst, v1, v2, aNil, aCons, vA, vCall, vIte, bVal, bAnd, bOr, bNot, vB, dTup, dLst, dAdd, dSub, dIx, dItem, dLen, dCmp, Rs.bind, Rs.ofO, sNil, u41, u40, l41, nt, le2, le3, le1]
  have q9 : (sSet 4 (vA dTup (aCons (vCst (.str "row")) (aCons (vVar 1) (aCons (vA dTup (aCons (vCst (.str "row")) (aCons (vA dTup (aCons (vCst (.str "cable")) (aCons (vCst (.int 1)) aNil))) (aCons (vCst .none) aNil)))) aNil))))) [.val (hnd am), .val t.toD, y, .val (.list [.tuple [.str "word", .str "many"], .tuple [.str "word", .tuple AA], .tuple [.str "word", .tuple (BB ++ [.int 1])]]), .no, .no] s1 = .ok (.nx [.val (hnd am), .val t.toD, y, .val (.list [.tuple [.str "word", .str "many"], .tuple [.str "word", .tuple AA], .tuple [.str "word", .tuple (BB ++ [.int 1])]]), .val (.tuple [.str "row", t.toD, .tuple [.str "row", .tuple [.str "cable", .int 1], .none]]), .no]) s1 := by
    simp [Rf.run, Rf.start, sSeq, sSet, sRet, sDrop, sIf, sBrk, sCnt, sRaise, sFrz, frzS, ownAt, sApp, gNm, gTps, gTp, sUnp, sSetC, sPar, cVal, cNew, bEmp, vLenO, vIxO, vTupO, sPop, sSetIx, vVar, vCst, v1, v2, aNil, aCons, vA, vCall, vIte, bVal, bAnd, bOr, bNot, vB, dTup, dLst, dAdd, dSub, dIx, dItem, dLen, dCmp, Rs.bind, Rs.ofO, sNil, le2, le3]
  have q10 : (sIf (bOr (bVal (v2 dNe (vSaid "BadWord" "answer" "word" (vCall φ_need_named_word (aCons (vVar 4) aNil))) (vA dTup (aCons (vCst (.str "word")) (aCons (vCst (.str "many")) aNil))))) (bVal (v2 dNe (vSaid "BadWord" "answer" "word" (vCall φ_dual_word (aCons (vA dTup (aCons (vCst (.str "row")) (aCons (vVar 1) (aCons (vCst .none) aNil)))) aNil))) (vA dTup (aCons (vCst (.str "word")) (aCons (vA dTup (aCons (vCst (.int 2)) aNil)) aNil)))))) (sRet (vCst (.bool false))) sNil) [.val (hnd am), .val t.toD, y, .val (.list [.tuple [.str "word", .str "many"], .tuple [.str "word", .tuple AA], .tuple [.str "word", .tuple (BB ++ [.int 1])]]), .val (.tuple [.str "row", t.toD, .tuple [.str "row", .tuple [.str "cable", .int 1], .none]]), .no] s1 = .ok (.nx [.val (hnd am), .val t.toD, y, .val (.list [.tuple [.str "word", .str "many"], .tuple [.str "word", .tuple AA], .tuple [.str "word", .tuple (BB ++ [.int 1])]]), .val (.tuple [.str "row", t.toD, .tuple [.str "row", .tuple [.str "cable", .int 1], .none]]), .no]) s1 := by
    simp [Rf.run, Rf.start, sSeq, sSet, sRet, sDrop, sIf, sBrk, sCnt, sRaise, sFrz, frzS, ownAt, sApp, gNm, gTps, gTp, sUnp, sSetC, sPar, cVal, cNew, bEmp, vLenO, vIxO, vTupO, sPop, sSetIx, vVar, vCst, v1, v2, aNil, aCons, vA, vCall, vIte, bVal, bAnd, bOr, bNot, vB, dTup, dLst, dAdd, dSub, dIx, dItem, dLen, dCmp, Rs.bind, Rs.ofO, sNil, k4, k5, nm, nw, le1, le2, le3, vSaid]
  have q11 : (sSet 5 (vA dTup (aCons (vCst (.str "cable")) (aCons (vCst (.int 0)) aNil)))) [.val (hnd am), .val t.toD, y, .val (.list [.tuple [.str "word", .str "many"], .tuple [.str "word", .tuple AA], .tuple [.str "word", .tuple (BB ++ [.int 1])]]), .val (.tuple [.str "row", t.toD, .tuple [.str "row", .tuple [.str "cable", .int 1], .none]]), .no] s1 = .ok (.nx [.val (hnd am), .val t.toD, y, .val (.list [.tuple [.str "word", .str "many"], .tuple [.str "word", .tuple AA], .tuple [.str "word", .tuple (BB ++ [.int 1])]]), .val (.tuple [.str "row", t.toD, .tuple [.str "row", .tuple [.str "cable", .int 1], .none]]), .val (.tuple [.str "cable", .int 0])]) s1 := by
    simp [Rf.run, Rf.start, sSeq, sSet, sRet, sDrop, sIf, sBrk, sCnt, sRaise, sFrz, frzS, ownAt, sApp, gNm, gTps, gTp, sUnp, sSetC, sPar, cVal, cNew, bEmp, vLenO, vIxO, vTupO, sPop, sSetIx, vVar, vCst, v1, v2, aNil, aCons, vA, vCall, vIte, bVal, bAnd, bOr, bNot, vB, dTup, dLst, dAdd, dSub, dIx, dItem, dLen, dCmp, Rs.bind, Rs.ofO, sNil, le2]
  have q12 : (sRet (vIte (bVal (v2 dEq (vSaid "BadWord" "answer" "word" (vCall φ_need_named_word (aCons (vVar 5) aNil))) (vA dTup (aCons (vCst (.str "word")) (aCons (vCst (.str "many")) aNil))))) (v2 dEq (vSaid "BadWord" "answer" "word" (vCall φ_how_many_cables (aCons (vA dTup (aCons (vCst (.str "side")) (aCons (vCst .none) (aCons (vVar 5) aNil)))) aNil))) (vA dTup (aCons (vCst (.str "word")) (aCons (vA dTup (aCons (vCst (.int 1)) aNil)) aNil)))) (vCst (.bool false)))) [.val (hnd am), .val t.toD, y2, .val (.list [.tuple [.str "word", .str "many"], .tuple [.str "word", .tuple AA], .tuple [.str "word", .tuple (BB ++ [.int 1])]]), .val (.tuple [.str "row", t.toD, .tuple [.str "row", .tuple [.str "cable", .int 1], .none]]), .val (tw 6).toD] s1 = .ok (.rt (.bool true)) s1 := by
    simp [Rf.run, Rf.start, sSeq, sSet, sRet, sDrop, sIf, sBrk, sCnt, sRaise, sFrz, frzS, ownAt, sApp, gNm, gTps, gTp, sUnp, sSetC, sPar, cVal, cNew, bEmp, vLenO, vIxO, vTupO, sPop, sSetIx, vVar, vCst, v1, v2, aNil, aCons, vA, vCall, vIte, bVal, bAnd, bOr, bNot, vB, dTup, dLst, dAdd, dSub, dIx, dItem, dLen, dCmp, Rs.bind, Rs.ofO, sNil, k6, k7, em, ew, le1, le2, le3, vSaid]
  rw [seq_nx q1, seq_nx q2, seq_nx q4, seq_nx q5, seq_nx q6, seq_nx q7, seq_nx q8, seq_nx q9, seq_nx q10, seq_nx q11, seq_nx q3, q12]
  rfl
end K54
end

section
set_option Elab.async false
set_option linter.all false
set_option maxRecDepth 100000
set_option maxHeartbeats 4000000
namespace K54
open PySem PySem.Spec PyProof.Rows L2 Rf Hd54
def bodyL (am gl : Addr) : Fs MS := (sSeq (sSet 3 (vCall (φ__law_word am gl 50) (aCons (vVar 1) (aCons (v2 dAdd (vCst (.int 1)) (vCall (φ__law_next am gl) (aCons (vVar 1) (aCons (vCst (.int 12)) aNil)))) (aCons (vCst (.int 6)) aNil)))))
  (sSeq (sIf (bOr (bNot (bVal (vCall (φ__law_same 50) (aCons (vCall φ_need_named_word (aCons (vVar 3) aNil)) (aCons (vVar 3) aNil))))) (bNot (bVal (vCall (φ__law_same 50) (aCons (vCall φ_how_many_cables (aCons (vVar 3) aNil)) (aCons (vA dLen (aCons (vCall (φ__law_names 50) (aCons (vVar 3) aNil)) aNil)) aNil)))))) (sRet (vCst (.bool false))) sNil)
  (sSeq (sIf (bOr (bNot (bVal (vCall (φ__law_same 50) (aCons (vCall φ_dual_word (aCons (vVar 3) aNil)) (aCons (vCall (φ__law_dual 50) (aCons (vVar 3) aNil)) aNil))))) (bNot (bVal (vCall (φ__law_same 50) (aCons (vCall φ_dual_word (aCons (vCall φ_dual_word (aCons (vVar 3) aNil)) aNil)) (aCons (vVar 3) aNil)))))) (sRet (vCst (.bool false))) sNil)
  (sIf (bNot (bVal (vCall (φ__law_refused_right am gl) (aCons (vVar 1) (aCons (vVar 3) aNil))))) (sRet (vCst (.bool false))) sNil))))
theorem bodyL_ok (am gl : Addr) (a x y : Slot) (s : MS) : ∃ (z : Slot) (s' : MS), bodyL am gl [a, .val (hnd am), x, y] s = .ok (.nx [a, .val (hnd am), x, z]) s' := by
  obtain ⟨v, s1, e1, r0, r1⟩ := next_ok am gl s 12 (by omega) (by omega)
  obtain ⟨t, s2, e2, g, l⟩ := word_ok am gl 50 (1 + v) s1 (by omega) (by omega) (by omega)
  have hl : t.lv ≤ 12 := by omega
  have hd := dp_lv t
  obtain ⟨dg, dl, dd, d2⟩ := dual_good_ g
  obtain ⟨s3, e3⟩ := refused_ok am gl t g hl s2
  have n0 : φ_need_named_word [t.toD] s2 = .ok t.toD s2 := need_good (said_good g (by omega)) s2
  have m0 : φ_how_many_cables [t.toD] s2 = .ok (.int t.names.length) s2 := many_good (said_good g (by omega)) s2
  have a0 : φ__law_names 50 [t.toD] s2 = .ok (.list t.names) s2 := law_names s2 t 49 g (by omega) (by omega)
  have u0 : φ_dual_word [t.toD] s2 = .ok t.dual.toD s2 := dual_good (said_good g (by omega)) (fun s => dual_of s t 49 g (by omega)) s2
  have u1 : φ_dual_word [t.dual.toD] s2 = .ok t.toD s2 := by
    have := dual_good (said_good dg (by omega)) (fun s => dual_of s t.dual 49 dg (by omega)) s2
    rw [d2] at this
    exact this
  have u2 : φ__law_dual 50 [t.toD] s2 = .ok t.dual.toD s2 := law_dual s2 t 49 g (by omega)
  have q0 : φ__law_same 50 [t.toD, t.toD] s2 = .ok (.bool true) s2 := same_refl s2 50 _ (pl_mono (pl_word t g) (by omega))
  have q1 : φ__law_same 50 [t.dual.toD, t.dual.toD] s2 = .ok (.bool true) s2 := same_refl s2 50 _ (pl_mono (pl_word t.dual dg) (by omega))
  have q2 : φ__law_same 50 [.int t.names.length, .int t.names.length] s2 = .ok (.bool true) s2 := same_refl s2 50 _ (pl_int 49 _)
  refine ⟨.val t.toD, s3, ?_⟩
  have p1 : (sSet 3 (vCall (φ__law_word am gl 50) (aCons (vVar 1) (aCons (v2 dAdd (vCst (.int 1)) (vCall (φ__law_next am gl) (aCons (vVar 1) (aCons (vCst (.int 12)) aNil)))) (aCons (vCst (.int 6)) aNil))))) [a, .val (hnd am), x, y] s = .ok (.nx [a, .val (hnd am), x, .val t.toD]) s2 := by
    simp [Rf.run, Rf.start, sSeq, sSet, sRet, sDrop, sIf, sBrk, sCnt, sRaise, sFrz, frzS, ownAt, sApp, gNm, gTps, gTp, sUnp, sSetC, sPar, cVal, cNew, bEmp, vLenO, vIxO, vTupO, sPop, sSetIx, vVar, vCst, v1, v2, aNil, aCons, vA, vCall, vIte, bVal, bAnd, bOr, bNot, vB, dTup, dLst, dAdd, dSub, dIx, dItem, dLen, dCmp, Rs.bind, Rs.ofO, sNil, e1, e2]
  have p2 : (sIf (bOr (bNot (bVal (vCall (φ__law_same 50) (aCons (vCall φ_need_named_word (aCons (vVar 3) aNil)) (aCons (vVar 3) aNil))))) (bNot (bVal (vCall (φ__law_same 50) (aCons (vCall φ_how_many_cables (aCons (vVar 3) aNil)) (aCons (vA dLen (aCons (vCall (φ__law_names 50) (aCons (vVar 3) aNil)) aNil)) aNil)))))) (sRet (vCst (.bool false))) sNil) [a, .val (hnd am), x, .val t.toD] s2 = .ok (.nx [a, .val (hnd am), x, .val t.toD]) s2 := by
    simp [Rf.run, Rf.start, sSeq, sSet, sRet, sDrop, sIf, sBrk, sCnt, sRaise, sFrz, frzS, ownAt, sApp, gNm, gTps, gTp, sUnp, sSetC, sPar, cVal, cNew, bEmp, vLenO, vIxO, vTupO, sPop, sSetIx, vVar, vCst, v1, v2, aNil, aCons, vA, vCall, vIte, bVal, bAnd, bOr, bNot, vB, dTup, dLst, dAdd, dSub, dIx, dItem, dLen, dCmp, Rs.bind, Rs.ofO, sNil, n0, m0, a0, q0, q2]
  have p3 : (sIf (bOr (bNot (bVal (vCall (φ__law_same 50) (aCons (vCall φ_dual_word (aCons (vVar 3) aNil)) (aCons (vCall (φ__law_dual 50) (aCons (vVar 3) aNil)) aNil))))) (bNot (bVal (vCall (φ__law_same 50) (aCons (vCall φ_dual_word (aCons (vCall φ_dual_word (aCons (vVar 3) aNil)) aNil)) (aCons (vVar 3) aNil)))))) (sRet (vCst (.bool false))) sNil) [a, .val (hnd am), x, .val t.toD] s2 = .ok (.nx [a, .val (hnd am), x, .val t.toD]) s2 := by
    simp [Rf.run, Rf.start, sSeq, sSet, sRet, sDrop, sIf, sBrk, sCnt, sRaise, sFrz, frzS, ownAt, sApp, gNm, gTps, gTp, sUnp, sSetC, sPar, cVal, cNew, bEmp, vLenO, vIxO, vTupO, sPop, sSetIx, vVar, vCst, v1, v2, aNil, aCons, vA, vCall, vIte, bVal, bAnd, bOr, bNot, vB, dTup, dLst, dAdd, dSub, dIx, dItem, dLen, dCmp, Rs.bind, Rs.ofO, sNil, u0, u1, u2, q0, q1]
  have p4 : (sIf (bNot (bVal (vCall (φ__law_refused_right am gl) (aCons (vVar 1) (aCons (vVar 3) aNil))))) (sRet (vCst (.bool false))) sNil) [a, .val (hnd am), x, .val t.toD] s2 = .ok (.nx [a, .val (hnd am), x, .val t.toD]) s3 := by
    simp [Rf.run, Rf.start, sSeq, sSet, sRet, sDrop, sIf, sBrk, sCnt, sRaise, sFrz, frzS, ownAt, sApp, gNm, gTps, gTp, sUnp, sSetC, sPar, cVal, cNew, bEmp, vLenO, vIxO, vTupO, sPop, sSetIx, vVar, vCst, v1, v2, aNil, aCons, vA, vCall, vIte, bVal, bAnd, bOr, bNot, vB, dTup, dLst, dAdd, dSub, dIx, dItem, dLen, dCmp, Rs.bind, Rs.ofO, sNil, e3]
  unfold bodyL
  rw [seq_nx p1, seq_nx p2, seq_nx p3, p4]
theorem forL (am gl : Addr) (a : Slot) : ∀ (ds : List D) (x y : Slot) (s : MS), ∃ (x' y' : Slot) (s' : MS), forGo (gNm 2) (bodyL am gl) ds [a, .val (hnd am), x, y] s = .ok (.nx [a, .val (hnd am), x', y']) s'
  | [], x, y, s => ⟨x, y, s, rfl⟩
  | d :: r, x, y, s => by
    obtain ⟨z, s1, e⟩ := bodyL_ok am gl a (.val d) y s
    obtain ⟨x', y', s', h⟩ := forL am gl a r (.val d) z s1
    refine ⟨x', y', s', ?_⟩
    rw [← h]
    have step : forGo (gNm 2) (bodyL am gl) (d :: r) [a, .val (hnd am), x, y] s = (bodyL am gl [a, .val (hnd am), .val d, y] s).bind fun o s1 => match o with
      | .nx e2 => forGo (gNm 2) (bodyL am gl) r e2 s1
      | .ct e2 => forGo (gNm 2) (bodyL am gl) r e2 s1
      | .bk e2 => .ok (.nx e2) s1
      | .rt d => .ok (.rt d) s1 := rfl
    rw [step, e]
    rfl
theorem law_true : LawTrue := by
  intro S am gl s
  have hF : FL S am gl = (sSeq (sFor (gNm 2) (iRng (v2 dAdd (vCst (.int 3)) (vA dMin2 (aCons (vScrLen S.scr S.ns 0) (aCons (vCst (.int 2)) aNil))))) (bodyL am gl)) (sRet (vCall (φ__law_bounds_right am gl) (aCons (vVar 1) aNil)))) := rfl
  have hA : hAt S.scr 0 [.val (hnd S.scr), .val (hnd am), .no, .no] = true := isH_hnd S.scr
  obtain ⟨j, hj, e0⟩ : ∃ j : Int, (-(line : Int) ≤ j ∧ j ≤ line) ∧ v2 dAdd (vCst (.int 3)) (vA dMin2 (aCons (vScrLen S.scr S.ns 0) (aCons (vCst (.int 2)) aNil))) [.val (hnd S.scr), .val (hnd am), .no, .no] s = .ok (.int j) s := by
    by_cases h : (2 : Int) < S.ns.length
    · refine ⟨5, by unfold line; omega, ?_⟩
      simp [Rf.run, Rf.start, sSeq, sSet, sRet, sDrop, sIf, sBrk, sCnt, sRaise, sFrz, frzS, ownAt, sApp, gNm, gTps, gTp, sUnp, sSetC, sPar, cVal, cNew, bEmp, vLenO, vIxO, vTupO, sPop, sSetIx, vVar, vCst, v1, v2, aNil, aCons, vA, vCall, vIte, bVal, bAnd, bOr, bNot, vB, dTup, dLst, dAdd, dSub, dIx, dItem, dLen, dCmp, Rs.bind, Rs.ofO, sNil, vScrLen, hA, dMin2, h]
    · refine ⟨3 + S.ns.length, by unfold line; omega, ?_⟩
      simp [Rf.run, Rf.start, sSeq, sSet, sRet, sDrop, sIf, sBrk, sCnt, sRaise, sFrz, frzS, ownAt, sApp, gNm, gTps, gTp, sUnp, sSetC, sPar, cVal, cNew, bEmp, vLenO, vIxO, vTupO, sPop, sSetIx, vVar, vCst, v1, v2, aNil, aCons, vA, vCall, vIte, bVal, bAnd, bOr, bNot, vB, dTup, dLst, dAdd, dSub, dIx, dItem, dLen, dCmp, Rs.bind, Rs.ofO, sNil, vScrLen, hA, dMin2, h]
  obtain ⟨x, y, s1, e1⟩ := forL am gl (.val (hnd S.scr)) (rng 0 j.toNat) .no .no s
  obtain ⟨s2, e2⟩ := bounds_ok am gl s1
  refine ⟨s2, ?_⟩
  have p1 : sFor (gNm 2) (iRng (v2 dAdd (vCst (.int 3)) (vA dMin2 (aCons (vScrLen S.scr S.ns 0) (aCons (vCst (.int 2)) aNil))))) (bodyL am gl) [.val (hnd S.scr), .val (hnd am), .no, .no] s = .ok (.nx [.val (hnd S.scr), .val (hnd am), x, y]) s1 := by
    have : iRng (v2 dAdd (vCst (.int 3)) (vA dMin2 (aCons (vScrLen S.scr S.ns 0) (aCons (vCst (.int 2)) aNil)))) [.val (hnd S.scr), .val (hnd am), .no, .no] s = .ok (rng 0 j.toNat) s := by
      unfold iRng
      rw [e0]
      simp only [Rs.bind]
      rw [if_pos hj]
    unfold sFor
    rw [this, Rs.bind_ok]
    exact e1
  rw [hF, seq_nx p1]
  simp [Rf.run, Rf.start, sSeq, sSet, sRet, sDrop, sIf, sBrk, sCnt, sRaise, sFrz, frzS, ownAt, sApp, gNm, gTps, gTp, sUnp, sSetC, sPar, cVal, cNew, bEmp, vLenO, vIxO, vTupO, sPop, sSetIx, vVar, vCst, v1, v2, aNil, aCons, vA, vCall, vIte, bVal, bAnd, bOr, bNot, vB, dTup, dLst, dAdd, dSub, dIx, dItem, dLen, dCmp, Rs.bind, Rs.ofO, sNil, e2]
end K54
end

section
set_option Elab.async false
set_option linter.all false
set_option maxRecDepth 100000
set_option maxHeartbeats 4000000
namespace K54
open PySem PySem.Spec PyProof.Rows L2 Rf Hd54
theorem fx {w : World} {h : Heap} {K : PySem.W.Frag} {mg : Str → Option Value} (X : K.In h) (G : h.Ns mainGlobals mg) (c : He.SaysX fa fn [] tf ex w h K) (ci : xs.map (He.initW K) = iv) : Fx Hd54.R.prog K mg (He.ga K "BadWord") (He.initA K "BadWord") where
  g_isinstance := He.free_ok X G (c.t.d.fact 44 (f := .free "isinstance") rfl)
  g_int := He.free_ok X G (c.t.d.fact 43 (f := .free "int") rfl)
  g_bool := He.free_ok X G (c.t.d.fact 42 (f := .free "bool") rfl)
  g_tuple := He.free_ok X G (c.t.d.fact 51 (f := .free "tuple") rfl)
  g_len := He.free_ok X G (c.t.d.fact 45 (f := .free "len") rfl)
  g_str := He.free_ok X G (c.t.d.fact 49 (f := .free "str") rfl)
  g_SIDE := He.str_ok X G (c.t.d.fact 40 (f := .str "SIDE" "side") rfl)
  g_ROW := He.str_ok X G (c.t.d.fact 39 (f := .str "ROW" "row") rfl)
  g_MOST_NAMES := He.int_ok X G (c.t.d.fact 36 (f := .int "MOST_NAMES" 6) rfl)
  g_MOST_DEEP := He.int_ok X G (c.t.d.fact 38 (f := .int "MOST_DEEP" 40) rfl)
  g_MOST_IN_WORD := He.int_ok X G (c.t.d.fact 37 (f := .int "MOST_IN_WORD" 40) rfl)
  g_zip := He.free_ok X G (c.t.d.fact 52 (f := .free "zip") rfl)
  g_list := He.free_ok X G (c.t.d.fact 46 (f := .free "list") rfl)
  g_range := He.free_ok X G (c.t.d.fact 48 (f := .free "range") rfl)
  g_min := He.free_ok X G (c.t.d.fact 47 (f := .free "min") rfl)
  g_abs := He.free_ok X G (c.t.d.fact 41 (f := .free "abs") rfl)
  f_is_number := by
    obtain ⟨fd, F⟩ := c.t.d.def_ 1 (d := d_is_number) rfl
    exact ⟨He.ga K "is_number", fd, He.glo_ok X G (c.t.d.fact 1 (f := .glo "is_number") rfl), F⟩
  f_is_among := by
    obtain ⟨fd, F⟩ := c.t.d.def_ 2 (d := d_is_among) rfl
    exact ⟨He.ga K "is_among", fd, He.glo_ok X G (c.t.d.fact 2 (f := .glo "is_among") rfl), F⟩
  f_is_tuple_of := by
    obtain ⟨fd, F⟩ := c.t.d.def_ 3 (d := d_is_tuple_of) rfl
    exact ⟨He.ga K "is_tuple_of", fd, He.glo_ok X G (c.t.d.fact 3 (f := .glo "is_tuple_of") rfl), F⟩
  f_is_inner := by
    obtain ⟨fd, F⟩ := c.t.d.def_ 4 (d := d_is_inner) rfl
    exact ⟨He.ga K "is_inner", fd, He.glo_ok X G (c.t.d.fact 4 (f := .glo "is_inner") rfl), F⟩
  f_is_leaf := by
    obtain ⟨fd, F⟩ := c.t.d.def_ 5 (d := d_is_leaf) rfl
    exact ⟨He.ga K "is_leaf", fd, He.glo_ok X G (c.t.d.fact 5 (f := .glo "is_leaf") rfl), F⟩
  f_names_of := by
    obtain ⟨fd, F⟩ := c.t.d.def_ 6 (d := d_names_of) rfl
    exact ⟨He.ga K "names_of", fd, He.glo_ok X G (c.t.d.fact 6 (f := .glo "names_of") rfl), F⟩
  f_need_named_word := by
    obtain ⟨fd, F⟩ := c.t.d.def_ 7 (d := d_need_named_word) rfl
    exact ⟨He.ga K "need_named_word", fd, He.glo_ok X G (c.t.d.fact 7 (f := .glo "need_named_word") rfl), F⟩
  f_how_many_cables := by
    obtain ⟨fd, F⟩ := c.t.d.def_ 8 (d := d_how_many_cables) rfl
    exact ⟨He.ga K "how_many_cables", fd, He.glo_ok X G (c.t.d.fact 8 (f := .glo "how_many_cables") rfl), F⟩
  f_dual_of := by
    obtain ⟨fd, F⟩ := c.t.d.def_ 9 (d := d_dual_of) rfl
    exact ⟨He.ga K "dual_of", fd, He.glo_ok X G (c.t.d.fact 9 (f := .glo "dual_of") rfl), F⟩
  f_dual_word := by
    obtain ⟨fd, F⟩ := c.t.d.def_ 10 (d := d_dual_word) rfl
    exact ⟨He.ga K "dual_word", fd, He.glo_ok X G (c.t.d.fact 10 (f := .glo "dual_word") rfl), F⟩
  f_plain_word := by
    obtain ⟨fd, F⟩ := c.t.d.def_ 11 (d := d_plain_word) rfl
    exact ⟨He.ga K "plain_word", fd, He.glo_ok X G (c.t.d.fact 11 (f := .glo "plain_word") rfl), F⟩
  f_word_corners := by
    obtain ⟨fd, F⟩ := c.t.d.def_ 12 (d := d_word_corners) rfl
    exact ⟨He.ga K "word_corners", fd, He.glo_ok X G (c.t.d.fact 12 (f := .glo "word_corners") rfl), F⟩
  f_word_values := by
    obtain ⟨fd, F⟩ := c.t.d.def_ 13 (d := d_word_values) rfl
    exact ⟨He.ga K "word_values", fd, He.glo_ok X G (c.t.d.fact 13 (f := .glo "word_values") rfl), F⟩
  f_need_words := by
    obtain ⟨fd, F⟩ := c.t.d.def_ 14 (d := d_need_words) rfl
    exact ⟨He.ga K "need_words", fd, He.glo_ok X G (c.t.d.fact 14 (f := .glo "need_words") rfl), F⟩
  f_word_paper := by
    obtain ⟨fd, F⟩ := c.t.d.def_ 15 (d := d_word_paper) rfl
    exact ⟨He.ga K "word_paper", fd, He.glo_ok X G (c.t.d.fact 15 (f := .glo "word_paper") rfl), F⟩
  f_check_word_paper := by
    obtain ⟨fd, F⟩ := c.t.d.def_ 16 (d := d_check_word_paper) rfl
    exact ⟨He.ga K "check_word_paper", fd, He.glo_ok X G (c.t.d.fact 16 (f := .glo "check_word_paper") rfl), F⟩
  f_is_word_never_weaker := by
    obtain ⟨fd, F⟩ := c.t.d.def_ 17 (d := d_is_word_never_weaker) rfl
    exact ⟨He.ga K "is_word_never_weaker", fd, He.glo_ok X G (c.t.d.fact 17 (f := .glo "is_word_never_weaker") rfl), F⟩
  f_are_words_one := by
    obtain ⟨fd, F⟩ := c.t.d.def_ 18 (d := d_are_words_one) rfl
    exact ⟨He.ga K "are_words_one", fd, He.glo_ok X G (c.t.d.fact 18 (f := .glo "are_words_one") rfl), F⟩
  f__law_next := by
    obtain ⟨fd, F⟩ := c.t.d.def_ 20 (d := d__law_next) rfl
    exact ⟨He.ga K "_law_next", fd, He.glo_ok X G (c.t.d.fact 20 (f := .glo "_law_next") rfl), F⟩
  f__law_of := by
    obtain ⟨fd, F⟩ := c.t.d.def_ 21 (d := d__law_of) rfl
    exact ⟨He.ga K "_law_of", fd, He.glo_ok X G (c.t.d.fact 21 (f := .glo "_law_of") rfl), F⟩
  f__law_same := by
    obtain ⟨fd, F⟩ := c.t.d.def_ 22 (d := d__law_same) rfl
    exact ⟨He.ga K "_law_same", fd, He.glo_ok X G (c.t.d.fact 22 (f := .glo "_law_same") rfl), F⟩
  f__law_word := by
    obtain ⟨fd, F⟩ := c.t.d.def_ 23 (d := d__law_word) rfl
    exact ⟨He.ga K "_law_word", fd, He.glo_ok X G (c.t.d.fact 23 (f := .glo "_law_word") rfl), F⟩
  f__law_names := by
    obtain ⟨fd, F⟩ := c.t.d.def_ 25 (d := d__law_names) rfl
    exact ⟨He.ga K "_law_names", fd, He.glo_ok X G (c.t.d.fact 25 (f := .glo "_law_names") rfl), F⟩
  f__law_dual := by
    obtain ⟨fd, F⟩ := c.t.d.def_ 26 (d := d__law_dual) rfl
    exact ⟨He.ga K "_law_dual", fd, He.glo_ok X G (c.t.d.fact 26 (f := .glo "_law_dual") rfl), F⟩
  f__law_ways := by
    obtain ⟨fd, F⟩ := c.t.d.def_ 27 (d := d__law_ways) rfl
    exact ⟨He.ga K "_law_ways", fd, He.glo_ok X G (c.t.d.fact 27 (f := .glo "_law_ways") rfl), F⟩
  f__law_set := by
    obtain ⟨fd, F⟩ := c.t.d.def_ 28 (d := d__law_set) rfl
    exact ⟨He.ga K "_law_set", fd, He.glo_ok X G (c.t.d.fact 28 (f := .glo "_law_set") rfl), F⟩
  f__law_odd := by
    obtain ⟨fd, F⟩ := c.t.d.def_ 29 (d := d__law_odd) rfl
    exact ⟨He.ga K "_law_odd", fd, He.glo_ok X G (c.t.d.fact 29 (f := .glo "_law_odd") rfl), F⟩
  f__law_deep := by
    obtain ⟨fd, F⟩ := c.t.d.def_ 31 (d := d__law_deep) rfl
    exact ⟨He.ga K "_law_deep", fd, He.glo_ok X G (c.t.d.fact 31 (f := .glo "_law_deep") rfl), F⟩
  f__law_refused_right := by
    obtain ⟨fd, F⟩ := c.t.d.def_ 30 (d := d__law_refused_right) rfl
    exact ⟨He.ga K "_law_refused_right", fd, He.glo_ok X G (c.t.d.fact 30 (f := .glo "_law_refused_right") rfl), F⟩
  f__law_bounds_right := by
    obtain ⟨fd, F⟩ := c.t.d.def_ 32 (d := d__law_bounds_right) rfl
    exact ⟨He.ga K "_law_bounds_right", fd, He.glo_ok X G (c.t.d.fact 32 (f := .glo "_law_bounds_right") rfl), F⟩
  f_corners_by_parts := by
    obtain ⟨fd, F⟩ := c.t.d.def_ 0 (d := d_corners_by_parts) rfl
    exact ⟨He.ga K "corners_by_parts", fd, He.glo_ok X G (c.t.d.fact 0 (f := .glo "corners_by_parts") rfl), F⟩
  f__law_begun := by
    obtain ⟨fd, F⟩ := c.t.d.def_ 19 (d := d__law_begun) rfl
    exact ⟨He.ga K "_law_begun", fd, He.glo_ok X G (c.t.d.fact 19 (f := .glo "_law_begun") rfl), F⟩
  f_law := by
    obtain ⟨fd, F⟩ := c.t.d.def_ 33 (d := d_law) rfl
    exact ⟨He.ga K "law", fd, He.glo_ok X G (c.t.d.fact 33 (f := .glo "law") rfl), F⟩
  f__law_said := by
    obtain ⟨fd, F⟩ := c.t.d.def_ 24 (d := d__law_said) rfl
    exact ⟨He.ga K "_law_said", fd, He.glo_ok X G (c.t.d.fact 24 (f := .glo "_law_said") rfl), F⟩
  T_BadWord := by
    have e : He.initW K "BadWord" = i_BadWord := by
      have := congrArg List.head? ci
      exact Option.some.inj this
    have b : He.wordB PySem.Challenge.pw_tornwebs_k54_whole_named_words K "BadWord" = true := (Bool.and_eq_true_iff.mp c.more).1
    exact He.word_ok (h := h) (cn := "BadWord") b (e.trans (show i_BadWord = He.initVal "BadWord" _ _ _ _ _ _ _ _ _ _ _ _ _ _ _ from rfl)) (He.glo_ok X G (c.t.d.fact 34 (f := .glo "BadWord") rfl)) (He.free_ok X G (c.t.d.fact 50 (f := .free "super") rfl)) rfl (fun env => ⟨_, rfl⟩)

theorem code_of {K : PySem.W.Frag} {x : Str} {params : Arguments} {body : List Stmt} {scope : Scope} {fd : FuncData} (F : FunD K x x params body scope [] [] (He.ga K x) fd) : fd.code = .ref (He.cT K (x, none)).1 := by
  obtain ⟨oc, od, dV, kV, doc, pm, an, cdv, ct, osl, rfl, lk, hcg, _, _⟩ := F.ex
  cases cdv with
  | ref c => exact congrArg Value.ref (He.codeOf_eq (p := (x, none)) lk rfl).symm
  | _ => cases hcg
end K54
open PySem PySem.W PySem.Calls PyProof.Rows
theorem k54_of (hLaw : K54.LawTrue) : PySem.Challenge.rw_tornwebs_k54_whole_named_words.Holds := by
  w_on; o_law
  refine HandSHeadRun.head_any (r := OpenLaw.row PySem.Challenge.rw_tornwebs_k54_whole_named_words) (q := view (OpenLaw.row PySem.Challenge.rw_tornwebs_k54_whole_named_words).prog [92]) (H := Hd54.hk) (ob := Hd54.ob) (M := 4200) (loose := Hd54.loose) (d := HandSHeadRun.topDef (OpenLaw.row PySem.Challenge.rw_tornwebs_k54_whole_named_words).prog 92) (kwd := []) Hd54.ob_eq
    (by kernel_rfl) (fun s => by kernel_rfl) Hd54.run (by kernel_rfl) (by kernel_rfl) (by kernel_rfl) (by rfl) (by first | assumption | decide +kernel) (by decide +kernel) ⟨rfl, rfl, rfl, rfl, rfl, by decide +kernel⟩ ?hw ?hc
  case hw => w_witness2
  case hc =>
    refine LamX.walk_ofTsE (l := PySem.Challenge.rw_tornwebs_k54_whole_named_words) (n := 63) (k := 60) (x := "script") (CX := fun w => L2.CX PySem.Challenge.rw_tornwebs_k54_whole_named_words.prog w) rfl (by decide) (by kernel_rfl) ⟨rfl, by decide, by decide⟩ ?F (fun _ _ _ _ _ z => by
      obtain ⟨_, _, _, _, _, _, _, _, _, _, _, _, z⟩ := z
      exact z)
    intro w mg fa h Y G hmg0
    obtain ⟨K, KX, c, ci⟩ := Y
    have hmg : mg ("law" : PySem.Str) = some (.ref fa) := by
      have e : (HandSHeadRun.topDef (OpenLaw.row PySem.Challenge.rw_tornwebs_k54_whole_named_words).prog 92).name = ("law" : PySem.Str) := by kernel_rfl
      rw [← e]
      exact hmg0
    have x := K54.fx KX G c ci
    obtain ⟨fd0, F0⟩ := c.t.d.def_ 33 (d := Hd54.d_law) rfl
    have eg := He.glo_ok KX G (c.t.d.fact 33 (f := .glo "law") rfl)
    have efa : fa = He.ga K "law" := by
      rw [hmg] at eg
      exact Value.ref.inj (Option.some.inj eg)
    refine ⟨K, KX, fd0, Hd54.tf.map (He.cT K), K54.spLaw K [((He.cT K ("_law_refused_right", none)).2, K54.q1), ((He.cT K ("_law_bounds_right", none)).2, K54.q2)], fun p hp => ?_, fun p hp => ?_, fun p hp => ?_, ?_, fun H a ns hl hb hT hS => ?_, fun base Kb Gb hTB => ?_⟩
    · obtain ⟨q, hq, rfl⟩ := List.mem_map.mp hp
      exact c.empty q hq
    · obtain ⟨q, hq, rfl⟩ := List.mem_map.mp hp
      exact c.out q hq
    · obtain ⟨q, hq, rfl⟩ := List.mem_map.mp hp
      exact PySem.W.codeHd_of_K KX (c.hd q hq)
    · exact fun s u => L2.FunD.bindsA (ps := ["script"]) F0 (fun _ _ _ _ _ _ us hl => match us, hl with | [_], _ => rfl) s [u] rfl
    · have t1 : LamX.TabS H (He.cT K ("_law_refused_right", none)).2 K54.q1 := LamX.TabS.nil (hT _ (List.mem_map.mpr ⟨("_law_refused_right", none), List.mem_cons_self, rfl⟩))
      have t2 : LamX.TabS H (He.cT K ("_law_bounds_right", none)).2 K54.q2 := LamX.TabS.nil (hT _ (List.mem_map.mpr ⟨("_law_bounds_right", none), List.mem_cons_of_mem _ List.mem_cons_self, rfl⟩))
      refine ⟨⟨_, H a = some (.lst (ns.map L2.V.int)), a, ns⟩, rfl, rfl, ⟨fun p hp => ?_, ?_⟩, Nat.le_trans hl (by decide), fun _ => rfl⟩
      · rcases List.mem_cons.mp hp with rfl | hp
        · exact t1
        · obtain rfl := List.mem_singleton.mp hp
          exact t2
      · by_cases pl : H a = some (.lst (ns.map L2.V.int))
        · exact .inl ⟨pl, pl⟩
        · rcases hS with (e | ⟨o, e⟩) | k
          · exact absurd e pl
          · exact .inr ⟨pl, .inl ⟨o, e⟩⟩
          · exact .inr ⟨pl, .inr fun _ => .inr k⟩
    · have n12 : (He.cT K ("_law_refused_right", none)).2 ≠ (He.cT K ("_law_bounds_right", none)).2 := of_decide_eq_true (Bool.and_eq_true_iff.mp (Bool.and_eq_true_iff.mp c.more).2).1
      have xb := K54.fx (w := w) (h := h) KX G c ci
      rw [efa]
      exact K54.law_fn hLaw xb n12 (hTB _ (List.mem_map.mpr ⟨("_law_refused_right", none), List.mem_cons_self, rfl⟩)) (hTB _ (List.mem_map.mpr ⟨("_law_bounds_right", none), List.mem_cons_of_mem _ List.mem_cons_self, rfl⟩))
        (fun f fd hm F => by
          obtain rfl : f = He.ga K "_law_refused_right" := by
            have z := He.glo_ok KX G (c.t.d.fact 30 (f := .glo "_law_refused_right") rfl)
            rw [hm] at z
            exact Value.ref.inj (Option.some.inj z)
          exact K54.code_of F)
        (fun f fd hm F => by
          obtain rfl : f = He.ga K "_law_bounds_right" := by
            have z := He.glo_ok KX G (c.t.d.fact 32 (f := .glo "_law_bounds_right") rfl)
            rw [hm] at z
            exact Value.ref.inj (Option.some.inj z)
          exact K54.code_of F)
        _ fd0 eg F0
end

theorem PySem.Challenge.cw_tornwebs_k54_whole_named_words_holds : PySem.Challenge.rw_tornwebs_k54_whole_named_words.Holds := by
  exact k54_of K54.law_true
