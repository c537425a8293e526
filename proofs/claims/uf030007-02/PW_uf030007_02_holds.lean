import PyProof.Rows.All
import Wide.All
import OpenK.AllK
import Wide.FinOn
import Lean
import PySem.Challenge.RW_uf030007_02

set_option Elab.async false
set_option autoImplicit false
set_option linter.all false

section
namespace Mine

noncomputable abbrev Lbl := Nat × Nat

inductive V where
  | none
  | bool (b : Bool)
  | int (i : Int)
  | str (s : List Nat)
  | tup (l : List V)
  | lst (l : List V)
  | ref (l : Lbl)
  | exc (c : Nat)
  deriving Inhabited

noncomputable instance : DecidableEq V := fun a b => Classical.propDecidable (a = b)

set_option genSizeOf false
inductive MObj where
  | list (l : List V)
  | dict (l : List (V × V))
  | inst (c : Nat) (as : List (Nat × V))
noncomputable instance : DecidableEq MObj := fun a b => Classical.propDecidable (a = b)

structure MS where
  heap : Lbl → Option MObj
  cnt : Nat → Nat

inductive Res (α : Type) where
  | ok (a : α) (s : MS)
  | exc (c : Nat) (s : MS)
  | stuck

noncomputable def Res.bind {α β : Type} : Res α → (α → MS → Res β) → Res β
  | .ok a s, f => f a s
  | .exc c s, _ => .exc c s
  | .stuck, _ => .stuck

noncomputable def MS.put (s : MS) (l : Lbl) (o : MObj) : MS := { s with heap := fun x => if x = l then some o else s.heap x }
noncomputable def MS.next (s : MS) (k : Nat) : Lbl := (k, s.cnt k)
noncomputable def MS.new (s : MS) (k : Nat) (o : MObj) : MS := { heap := fun x => if x = (k, s.cnt k) then some o else s.heap x, cnt := fun j => if j = k then s.cnt k + 1 else s.cnt j }

inductive Bop where | add | sub | mul | fdiv | mod | pow
  deriving DecidableEq
inductive Cop where | eq | ne | lt | le | gt | ge | isin | notin
  deriving DecidableEq
inductive Kind where | int | bool | str | list | tuple | valueError | cls (c : Nat)
  deriving DecidableEq
inductive Prim where | len | max2 | int1 | sorted | tuple1 | list1 | all1
  deriving DecidableEq
inductive Bm where | append | extend | pop | insert | count | get | join | upper
  deriving DecidableEq

inductive E where
  | none
  | bool (b : Bool)
  | int (i : Int)
  | str (s : List Nat)
  | loc (i : Nat)
  | gint (x : PySem.Str) (i : Int)
  | gstr (x : PySem.Str) (s : List Nat)
  | neg (a : E)
  | not (a : E)
  | and (l : List E)
  | or (l : List E)
  | bin (o : Bop) (a b : E)
  | cmp (a : E) (o : Cop) (b : E)
  | cmp2 (a : E) (o : Cop) (b : E) (o2 : Cop) (c : E)
  | isC (neg : Bool) (a : E) (c : V)
  | tup (l : List E)
  | lst (l : List E)
  | lstM (k : Nat) (l : List E)
  | dictM (k : Nat) (ks : List (List Nat)) (vs : List E)
  | sub (a b : E)
  | slice (a : E) (lo hi : Option E)
  | attr (a : E) (i : Nat)
  | call (f : Nat) (l : List E)
  | meth (a : E) (m : Nat) (l : List E)
  | new (c : Nat) (l : List E)
  | isinst (a : E) (ks : List Kind)
  | prim (p : Prim) (l : List E)
  | listM (k : Nat) (a : E)
  | dictC (k : Nat) (a : E)
  | bm (m : Bm) (a : E) (l : List E)
  | comp (M : Option Nat) (slot : Nat) (range : Bool) (it : E) (cond : Option E) (elt : E)
  deriving Inhabited

inductive T where
  | loc (i : Nat)
  | item (a b : E)
  deriving Inhabited

inductive S where
  | expr (e : E)
  | assign (i : Nat) (e : E)
  | setattr (a : E) (i : Nat) (e : E)
  | setitem (a b e : E)
  | unpack (ts : List T) (e : E)
  | ite (c : E) (b1 b2 : List S)
  | for_ (ts : T ⊕ List T) (range : Bool) (it : E) (body : List S)
  | while_ (c : E) (body : List S)
  | ret (e : Option E)
  | raise (c : Nat)
  | try_ (body : List S) (hs : List (Nat × Option Nat × List S))
  | pass
  deriving Inhabited

structure Fn where
  np : Nat
  names : List PySem.Str
  body : List S
  deriving Inhabited

noncomputable abbrev Loc := List (Option V)

structure Prog where
  fns : Nat → Option Fn
  meths : Nat → Nat → Option Nat
  inits : Nat → Option (Nat × Nat)   -- class: kind of its labels, its __init__
  excBase : Nat → List Nat           -- classes that an exception class is under (itself too)

inductive Fl where
  | next
  | ret (v : V)
  deriving Inhabited

noncomputable def seqOf (s : MS) : V → Option (Bool × List V)
  | .tup l => some (false, l)
  | .lst l => some (true, l)
  | .ref r => match s.heap r with
    | some (.list l) => some (true, l)
    | _ => Option.none
  | _ => Option.none

noncomputable def zipAll (f : V → V → Option Bool) : List V → List V → Option Bool
  | [], [] => some true
  | x :: la, y :: lb => match f x y, zipAll f la lb with
    | some p, some q => some (p && q)
    | _, _ => Option.none
  | [], _ :: _ => some false
  | _ :: _, [] => some false
noncomputable def eqNotSeq : V → Option Bool
  | .none => some false
  | .bool _ => some false
  | .int _ => some false
  | .str _ => some false
  | _ => Option.none
noncomputable def eqFlat (a b : V) : Option Bool := match a with
  | .none => (match b with | .none => some true | .bool _ => some false | .int _ => some false | .str _ => some false | _ => Option.none)
  | .bool x => (match b with | .none => some false | .bool y => some (x == y) | .str _ => some false | _ => Option.none)
  | .int x => (match b with | .none => some false | .int y => some (decide (x = y)) | .str _ => some false | _ => Option.none)
  | .str x => (match b with | .none => some false | .bool _ => some false | .int _ => some false | .str y => some (decide (x = y)) | _ => Option.none)
  | _ => Option.none
noncomputable def veq (s : MS) : Nat → V → V → Option Bool
  | 0, _, _ => Option.none
  | n + 1, a, b =>
    match seqOf s a, seqOf s b with
    | some p, some q => if p.1 = q.1 then (if p.1 = true ∧ p.2.length ≠ q.2.length then some false else zipAll (veq s n) p.2 q.2) else some false
    | some _, Option.none => eqNotSeq b
    | Option.none, some _ => eqNotSeq a
    | Option.none, Option.none => eqFlat a b

noncomputable def eqDeep : Nat := 12

noncomputable def sizeMax : Nat := 2 ^ 24

noncomputable def V.isKey : V → Bool
  | .str _ => true
  | _ => false

noncomputable def dfind (k : V) : List (V × V) → Option V
  | [] => Option.none
  | (a, v) :: r => if a = k then some v else dfind k r
noncomputable def dput (k v : V) : List (V × V) → List (V × V)
  | [] => [(k, v)]
  | (a, w) :: r => if a = k then (a, v) :: r else (a, w) :: dput k v r

noncomputable def afind (k : Nat) : List (Nat × V) → Option V
  | [] => Option.none
  | (a, v) :: r => if a = k then some v else afind k r
noncomputable def aput (k : Nat) (v : V) : List (Nat × V) → List (Nat × V)
  | [] => [(k, v)]
  | (a, w) :: r => if a = k then (a, v) :: r else (a, w) :: aput k v r

noncomputable def idx (i : Int) (n : Nat) : Option Nat :=
  if 0 ≤ i then (if i < n then some i.toNat else Option.none) else (if 0 ≤ i + n then some (i + n).toNat else Option.none)

noncomputable def vin (s : MS) (x : V) : List V → Option Bool
  | [] => some false
  | y :: r => match veq s eqDeep y x, vin s x r with
    | some p, some q => some (p || q)
    | _, _ => Option.none

noncomputable def okV (s : MS) (o : Option V) : Res V := match o with
  | some v => .ok v s
  | Option.none => .stuck
noncomputable def okB (s : MS) (o : Option Bool) : Res V := match o with
  | some b => .ok (.bool b) s
  | Option.none => .stuck

noncomputable def intBits (i : Int) : Nat := if i = 0 then 0 else i.natAbs.log2 + 1
noncomputable def mulOk (a b : Int) : Bool := intBits a ≤ 64 || intBits b ≤ 64 || intBits a + intBits b ≤ 134217728

noncomputable def seqAdd (a b : V) (s : MS) : Res V :=
  match seqOf s a, seqOf s b with
  | some p, some q => if p.1 = q.1 ∧ p.2.length + q.2.length ≤ sizeMax then .ok (if p.1 then .lst (p.2 ++ q.2) else .tup (p.2 ++ q.2)) s else .stuck
  | _, _ => .stuck

noncomputable def int2 (a b : V) (f : Int → Int → Res V) : Res V := match a with
  | .int x => (match b with | .int y => f x y | _ => .stuck)
  | _ => .stuck
noncomputable def str2 (a b : V) (f : List Nat → List Nat → Res V) : Res V := match a with
  | .str x => (match b with | .str y => f x y | _ => .stuck)
  | _ => .stuck
noncomputable def lstI (a b : V) (f : List V → Int → Res V) : Res V := match a with
  | .lst x => (match b with | .int y => f x y | _ => .stuck)
  | _ => .stuck
noncomputable def binOp (o : Bop) (a b : V) (s : MS) : Res V :=
  match o with
  | .add => (match a with
    | .int _ => int2 a b fun x y => .ok (.int (x + y)) s
    | .str _ => str2 a b fun x y => if x.length + y.length ≤ sizeMax then .ok (.str (x ++ y)) s else .stuck
    | _ => seqAdd a b s)
  | .sub => int2 a b fun x y => .ok (.int (x - y)) s
  | .mul => int2 a b fun x y => if mulOk x y then .ok (.int (x * y)) s else .stuck
  | .fdiv => int2 a b fun x y => if y = 0 ∨ 64 < intBits y then .stuck else .ok (.int (x.fdiv y)) s
  | .mod => int2 a b fun x y => if y = 0 then .stuck else .ok (.int (x.fmod y)) s
  | .pow => int2 a b fun x y => if 0 ≤ y ∧ (intBits x : Int) * y ≤ 134217728 then .ok (.int (x ^ y.toNat)) s else .stuck
theorem int2_ok {a b v : V} {f : Int → Int → Res V} {s : MS} (h : int2 a b f = .ok v s) : ∃ x y, a = .int x ∧ b = .int y ∧ f x y = .ok v s := by
  cases a with
  | int x => cases b with
    | int y => exact ⟨x, y, rfl, rfl, h⟩
    | _ => cases h
  | _ => cases h
theorem str2_ok {a b v : V} {f : List Nat → List Nat → Res V} {s : MS} (h : str2 a b f = .ok v s) : ∃ x y, a = .str x ∧ b = .str y ∧ f x y = .ok v s := by
  cases a with
  | str x => cases b with
    | str y => exact ⟨x, y, rfl, rfl, h⟩
    | _ => cases h
  | _ => cases h
theorem ite_ok {c : Prop} [Decidable c] {a v : V} {s s' : MS} (h : (if c then Res.ok a s else .stuck) = .ok v s') : c ∧ a = v ∧ s = s' := by
  by_cases hc : c
  · rw [if_pos hc] at h; cases h; exact ⟨hc, rfl, rfl⟩
  · rw [if_neg hc] at h; cases h
theorem ite_no {c : Prop} [Decidable c] {a v : V} {s s' : MS} (h : (if c then .stuck else Res.ok a s) = .ok v s') : ¬ c ∧ a = v ∧ s = s' := by
  by_cases hc : c
  · rw [if_pos hc] at h; cases h
  · rw [if_neg hc] at h; cases h; exact ⟨hc, rfl, rfl⟩

noncomputable def cmpOp (o : Cop) (a b : V) (s : MS) : Res V :=
  match o with
  | .eq => okB s (veq s eqDeep a b)
  | .ne => okB s ((veq s eqDeep a b).map (!·))
  | .lt => match a, b with | .int x, .int y => .ok (.bool (decide (x < y))) s | _, _ => .stuck
  | .le => match a, b with | .int x, .int y => .ok (.bool (decide (x ≤ y))) s | _, _ => .stuck
  | .gt => match a, b with | .int x, .int y => .ok (.bool (decide (y < x))) s | _, _ => .stuck
  | .ge => match a, b with | .int x, .int y => .ok (.bool (decide (y ≤ x))) s | _, _ => .stuck
  | .isin => okB s (memb a b s)
  | .notin => okB s ((memb a b s).map (!·))
where
  memb (a b : V) (s : MS) : Option Bool :=
    match seqOf s b with
    | some (_, l) => vin s a l
    | Option.none => match b with
      | .str y => match a with | .str [c] => some (decide (c ∈ y)) | _ => Option.none
      | .ref r => match s.heap r with
        | some (.dict l) => if a.isKey then some (dfind a l).isSome else Option.none
        | _ => Option.none
      | _ => Option.none

noncomputable def getItem (a b : V) (s : MS) : Res V :=
  match b with
  | .int i => match a with
    | .str x => if x.length ≤ sizeMax then okV s ((idx i x.length).bind fun j => (x[j]?).map fun c => .str [c]) else .stuck
    | a => match seqOf s a with
      | some (_, l) => okV s ((idx i l.length).bind fun j => l[j]?)
      | Option.none => .stuck
  | b => match a with
    | .ref r => match s.heap r with
      | some (.dict l) => if b.isKey then okV s (dfind b l) else .stuck
      | _ => .stuck
    | _ => .stuck

noncomputable def listAt (a : V) (s : MS) : Option (Lbl × List V) :=
  match a with
  | .ref r => match s.heap r with
    | some (.list l) => some (r, l)
    | _ => Option.none
  | _ => Option.none
noncomputable def dictAt (a : V) (s : MS) : Option (Lbl × List (V × V)) :=
  match a with
  | .ref r => match s.heap r with
    | some (.dict l) => some (r, l)
    | _ => Option.none
  | _ => Option.none
noncomputable def setItem (a b v : V) (s : MS) : Res Unit :=
  match listAt a s with
  | some p => match b with
    | .int i => if 0 ≤ i ∧ i < p.2.length then .ok () (s.put p.1 (.list (p.2.set i.toNat v))) else .stuck
    | _ => .stuck
  | Option.none => match dictAt a s with
    | some p => if b.isKey ∧ p.2.length < sizeMax then .ok () (s.put p.1 (.dict (dput b v p.2))) else .stuck
    | Option.none => .stuck

noncomputable def cutAt (d : Nat) : Option V → Option Nat
  | Option.none => some d
  | some (.int i) => if 0 ≤ i then some i.toNat else Option.none
  | _ => Option.none
noncomputable def getSlice (a : V) (lo hi : Option V) (s : MS) : Res V :=
  match a with
  | .str x => match cutAt 0 lo, cutAt x.length hi with
    | some i, some j => if x.length ≤ sizeMax then .ok (.str ((x.take j).drop i)) s else .stuck
    | _, _ => .stuck
  | a => match seqOf s a with
    | some (true, l) => match cutAt 0 lo, cutAt l.length hi with
      | some i, some j => .ok (.lst ((l.take j).drop i)) s
      | _, _ => .stuck
    | _ => .stuck

noncomputable def getAttr (a : V) (i : Nat) (s : MS) : Res V :=
  match a with
  | .ref r => match s.heap r with
    | some (.inst _ as) => okV s (afind i as)
    | _ => .stuck
  | _ => .stuck
noncomputable def setAttr (a : V) (i : Nat) (v : V) (s : MS) : Res Unit :=
  match a with
  | .ref r => match s.heap r with
    | some (.inst c as) => if as.length < 1000 then .ok () (s.put r (.inst c (aput i v as))) else .stuck
    | _ => .stuck
  | _ => .stuck

inductive Tag where | none | bool | int | str | tuple | list | dict
  deriving DecidableEq
noncomputable def tagOf (s : MS) : V → Option Tag
  | .none => some .none
  | .bool _ => some .bool
  | .int _ => some .int
  | .str _ => some .str
  | .tup _ => some .tuple
  | .lst _ => some .list
  | .ref r => match s.heap r with
    | some (.list _) => some .list
    | some (.dict _) => some .dict
    | _ => Option.none
  | .exc _ => Option.none
noncomputable def kindHas (g : Tag) : Kind → Option Bool
  | .int => some (match g with | .int | .bool => true | _ => false)
  | .bool => some (match g with | .bool => true | _ => false)
  | .str => some (match g with | .str => true | _ => false)
  | .tuple => some (match g with | .tuple => true | _ => false)
  | .list => some (match g with | .list => true | _ => false)
  | .valueError => Option.none
  | .cls _ => Option.none
noncomputable def isKind (P : Prog) (s : MS) (v : V) (k : Kind) : Option Bool :=
  match v with
  | .exc d => match k with
    | .valueError => some true
    | .cls c => some ((P.excBase d).contains c)
    | _ => Option.none
  | v => match tagOf s v with
    | some g => kindHas g k
    | Option.none => Option.none
noncomputable def isKinds (P : Prog) (s : MS) (v : V) : List Kind → Option Bool
  | [] => some false
  | k :: r => match isKind P s v k with
    | some true => some true
    | some false => isKinds P s v r
    | Option.none => Option.none

noncomputable def allTrue : List V → Option Bool
  | [] => some true
  | .bool b :: r => (allTrue r).map (b && ·)
  | _ :: _ => Option.none

noncomputable def firstInt : V → Option Int
  | .tup (.int x :: _) => some x
  | _ => Option.none
noncomputable def insRow (x : Int) (v : V) : List V → List V
  | [] => [v]
  | y :: r => match firstInt y with
    | some k => if x < k then v :: y :: r else y :: insRow x v r
    | Option.none => y :: insRow x v r
noncomputable def rising : List Int → Bool
  | x :: y :: r => decide (x < y) && rising (y :: r)
  | _ => true
noncomputable def sortedLast (l : List V) : Option (List V) :=
  match l.reverse with
  | [] => some []
  | v :: r => match firstInt v, (r.reverse).mapM firstInt with
    | some x, some ks => if rising ks && !ks.contains x && decide (l.length ≤ 6) then some (insRow x v r.reverse) else Option.none
    | _, _ => Option.none

noncomputable def lenV (v : V) (s : MS) : Res V :=
  match v with
  | .str x => if x.length ≤ sizeMax then .ok (.int x.length) s else .stuck
  | v => match seqOf s v with
    | some p => .ok (.int p.2.length) s
    | Option.none => .stuck
noncomputable def prim1 (p : Prim) (v : V) (s : MS) : Res V :=
  match p with
  | .len => lenV v s
  | .int1 => match v with
    | .bool b => .ok (.int (if b then 1 else 0)) s
    | _ => .stuck
  | .tuple1 => match seqOf s v with
    | some p => .ok (.tup p.2) s
    | Option.none => .stuck
  | .list1 => match seqOf s v with
    | some p => .ok (.lst p.2) s
    | Option.none => .stuck
  | .all1 => match v with
    | .lst l => okB s (allTrue l)
    | _ => .stuck
  | .sorted => match seqOf s v with
    | some p => match sortedLast p.2 with
      | some m => .ok (.lst m) s
      | Option.none => .stuck
    | Option.none => .stuck
  | .max2 => .stuck
noncomputable def prim2 (p : Prim) (v w : V) (s : MS) : Res V :=
  match p with
  | .max2 => match v, w with
    | .int x, .int y => .ok (.int (if x < y then y else x)) s
    | _, _ => .stuck
  | _ => .stuck
noncomputable def prim (p : Prim) (l : List V) (s : MS) : Res V :=
  match l with
  | [v] => prim1 p v s
  | [v, w] => prim2 p v w s
  | _ => .stuck

noncomputable def catStrs : List V → Option (List Nat)
  | [] => some []
  | .str x :: r => (catStrs r).map (x ++ ·)
  | _ => Option.none
noncomputable def allBool : List V → Bool
  | [] => true
  | .bool _ :: r => allBool r
  | _ => false
noncomputable def bm0 (m : Bm) (a : V) (s : MS) : Res V :=
  match m with
  | .upper => match a with
    | .str x => if x.all (fun c => decide (97 ≤ c) && decide (c ≤ 122)) && decide (x.length ≤ 1000) then .ok (.str (x.map (· - 32))) s else .stuck
    | _ => .stuck
  | _ => .stuck
noncomputable def bm1 (m : Bm) (a v : V) (s : MS) : Res V :=
  match m with
  | .append => match listAt a s with
    | some p => if p.2.length < sizeMax then .ok .none (s.put p.1 (.list (p.2 ++ [v]))) else .stuck
    | Option.none => .stuck
  | .extend => match listAt a s, seqOf s v with
    | some p, some q => if p.2.length + q.2.length ≤ sizeMax then .ok .none (s.put p.1 (.list (p.2 ++ q.2))) else .stuck
    | _, _ => .stuck
  | .pop => match listAt a s, v with
    | some p, .int i => match idx i p.2.length with
      | some j => match p.2[j]? with
        | some v => .ok v (s.put p.1 (.list (p.2.eraseIdx j)))
        | Option.none => .stuck
      | Option.none => .stuck
    | _, _ => .stuck
  | .count => match a, v with
    | .lst l, .bool true => if allBool l then .ok (.int (l.countP (· = .bool true))) s else .stuck
    | _, _ => .stuck
  | .join => match a, v with
    | .str [], .lst l => match catStrs l with
      | some x => if x.length ≤ sizeMax then .ok (.str x) s else .stuck
      | Option.none => .stuck
    | _, _ => .stuck
  | _ => .stuck
noncomputable def bm2 (m : Bm) (a v w : V) (s : MS) : Res V :=
  match m with
  | .insert => match listAt a s, v with
    | some p, .int i => if 0 ≤ i ∧ i ≤ p.2.length ∧ p.2.length < sizeMax then .ok .none (s.put p.1 (.list (p.2.take i.toNat ++ w :: p.2.drop i.toNat))) else .stuck
    | _, _ => .stuck
  | .get => match dictAt a s with
    | some p => if v.isKey then .ok ((dfind v p.2).getD w) s else .stuck
    | Option.none => .stuck
  | _ => .stuck
noncomputable def bmeth (m : Bm) (a : V) (l : List V) (s : MS) : Res V :=
  match l with
  | [] => bm0 m a s
  | [v] => bm1 m a v s
  | [v, w] => bm2 m a v w s
  | _ => .stuck

noncomputable def itemsOf (s : MS) (range : Bool) (v : V) : Option (List V) :=
  match range with
  | true => match v with
    | .int n => if -1000 ≤ n ∧ n ≤ sizeMax then some ((List.range n.toNat).map fun (i : Nat) => .int i) else Option.none
    | _ => Option.none
  | false => (seqOf s v).map (·.2)
noncomputable def stays (s₀ s : MS) (range : Bool) (v : V) : Bool :=
  match range, v with
  | false, .ref r => decide (s₀.heap r = s.heap r)
  | _, _ => true

noncomputable abbrev Calls := Nat → List V → MS → Res V

noncomputable def truth : V → MS → Res Bool
  | .bool b, s => .ok b s
  | _, _ => .stuck

noncomputable def makeInst (P : Prog) (C : Calls) (c : Nat) (vs : List V) (s : MS) : Res V :=
  match P.inits c with
  | some (k, f) => (C f (.ref (k, s.cnt k) :: vs) (s.new k (.inst c []))).bind fun r s' => match r with
    | .none => .ok (.ref (k, s.cnt k)) s'
    | _ => .stuck
  | Option.none => .stuck
noncomputable def methOf (P : Prog) (a : V) (m : Nat) (s : MS) : Option Nat :=
  match a with
  | .ref r => match s.heap r with
    | some (.inst c _) => P.meths c m
    | _ => Option.none
  | _ => Option.none
noncomputable def bmOk (m : Bm) (a : V) (s : MS) : Bool :=
  match m with
  | .count => match a with | .lst _ => true | _ => false
  | .join => match a with | .str _ => true | _ => false
  | .upper => match a with | .str _ => true | _ => false
  | .get => (dictAt a s).isSome
  | _ => (listAt a s).isSome

noncomputable def compLoop (s₀ : MS) (range : Bool) (src : V) (slot : Nat) (cond : Option (Loc → MS → Res V)) (elt : Loc → MS → Res V) (loc : Loc) : List V → List V → MS → Res (List V)
  | acc, [], s => if stays s₀ s range src then .ok acc s else .stuck
  | acc, x :: r, s =>
    if stays s₀ s range src then
      (match cond with
        | some c => (c (loc.set slot (some x)) s).bind truth
        | Option.none => .ok true s).bind fun b s =>
      if b then (elt (loc.set slot (some x)) s).bind fun v s => if acc.length < sizeMax then compLoop s₀ range src slot cond elt loc (acc ++ [v]) r s else .stuck
      else compLoop s₀ range src slot cond elt loc acc r s
    else .stuck

mutual
noncomputable def ev (P : Prog) (C : Calls) : E → Loc → MS → Res V
  | .none, _, s => .ok .none s
  | .bool b, _, s => .ok (.bool b) s
  | .int i, _, s => .ok (.int i) s
  | .str x, _, s => .ok (.str x) s
  | .loc i, l, s => match l[i]? with
    | some (some v) => .ok v s
    | _ => .stuck
  | .gint _ i, _, s => .ok (.int i) s
  | .gstr _ x, _, s => .ok (.str x) s
  | .neg a, l, s => (ev P C a l s).bind fun v s => match v with
    | .int i => .ok (.int (-i)) s
    | _ => .stuck
  | .not a, l, s => (ev P C a l s).bind fun v s => (truth v s).bind fun b s => .ok (.bool (!b)) s
  | .and es, l, s => evAnd P C es l s
  | .or es, l, s => evOr P C es l s
  | .bin o a b, l, s => (ev P C a l s).bind fun x s => (ev P C b l s).bind fun y s => binOp o x y s
  | .cmp a o b, l, s => (ev P C a l s).bind fun x s => (ev P C b l s).bind fun y s => cmpOp o x y s
  | .cmp2 a o b o2 c, l, s => (ev P C a l s).bind fun x s => (ev P C b l s).bind fun y s => (cmpOp o x y s).bind fun v s => (truth v s).bind fun t s =>
      if t then (ev P C c l s).bind fun z s => cmpOp o2 y z s else .ok (.bool false) s
  | .isC n a c, l, s => (ev P C a l s).bind fun v s => match c with
    | .none | .bool _ => .ok (.bool (decide (v = c) != n)) s
    | _ => .stuck
  | .tup es, l, s => (evL P C es l s).bind fun vs s => if vs.length ≤ sizeMax then .ok (.tup vs) s else .stuck
  | .lst es, l, s => (evL P C es l s).bind fun vs s => if vs.length ≤ sizeMax then .ok (.lst vs) s else .stuck
  | .lstM k es, l, s => (evL P C es l s).bind fun vs s => if vs.length ≤ sizeMax then .ok (.ref (k, s.cnt k)) (s.new k (.list vs)) else .stuck
  | .dictM k ks es, l, s => (evL P C es l s).bind fun vs s => if ks.length = vs.length ∧ ks.length ≤ 15 then
      .ok (.ref (k, s.cnt k)) (s.new k (.dict ((ks.zip vs).foldl (fun d p => dput (.str p.1) p.2 d) []))) else .stuck
  | .sub a b, l, s => (ev P C a l s).bind fun x s => (ev P C b l s).bind fun y s => getItem x y s
  | .slice a lo hi, l, s => (ev P C a l s).bind fun x s => (evO P C lo l s).bind fun y s => (evO P C hi l s).bind fun z s => getSlice x y z s
  | .attr a i, l, s => (ev P C a l s).bind fun x s => getAttr x i s
  | .call f es, l, s => (evL P C es l s).bind fun vs s => C f vs s
  | .meth a m es, l, s => (ev P C a l s).bind fun x s => match methOf P x m s with
    | some f => (evL P C es l s).bind fun vs s => C f (x :: vs) s
    | Option.none => .stuck
  | .new c es, l, s => (evL P C es l s).bind fun vs s => makeInst P C c vs s
  | .isinst a ks, l, s => (ev P C a l s).bind fun x s => okB s (isKinds P s x ks)
  | .prim p es, l, s => (evL P C es l s).bind fun vs s => prim p vs s
  | .listM k a, l, s => (ev P C a l s).bind fun x s => match seqOf s x with
    | some (_, vs) => .ok (.ref (k, s.cnt k)) (s.new k (.list vs))
    | Option.none => .stuck
  | .dictC k a, l, s => (ev P C a l s).bind fun x s => match x with
    | .ref r => match s.heap r with
      | some (.dict d) => .ok (.ref (k, s.cnt k)) (s.new k (.dict d))
      | _ => .stuck
    | _ => .stuck
  | .bm m a es, l, s => (ev P C a l s).bind fun x s => if bmOk m x s then (evL P C es l s).bind fun vs s => bmeth m x vs s else .stuck
  | .comp M slot range it cond elt, l, s => (ev P C it l s).bind fun src s => match itemsOf s range src with
    | some xs => (compLoop s range src slot (evC P C cond) (ev P C elt) l [] xs s).bind fun vs s => match M with
      | Option.none => .ok (.lst vs) s
      | some k => .ok (.ref (k, s.cnt k)) (s.new k (.list vs))
    | Option.none => .stuck
noncomputable def evC (P : Prog) (C : Calls) : Option E → Option (Loc → MS → Res V)
  | Option.none => Option.none
  | some e => some (ev P C e)
noncomputable def evO (P : Prog) (C : Calls) : Option E → Loc → MS → Res (Option V)
  | Option.none, _, s => .ok Option.none s
  | some e, l, s => (ev P C e l s).bind fun v s => .ok (some v) s
noncomputable def evL (P : Prog) (C : Calls) : List E → Loc → MS → Res (List V)
  | [], _, s => .ok [] s
  | e :: r, l, s => (ev P C e l s).bind fun v s => (evL P C r l s).bind fun vs s => .ok (v :: vs) s
noncomputable def evAnd (P : Prog) (C : Calls) : List E → Loc → MS → Res V
  | [], _, _ => .stuck
  | [e], l, s => ev P C e l s
  | e :: e' :: r, l, s => (ev P C e l s).bind fun v s => (truth v s).bind fun b s => if b then evAnd P C (e' :: r) l s else .ok v s
noncomputable def evOr (P : Prog) (C : Calls) : List E → Loc → MS → Res V
  | [], _, _ => .stuck
  | [e], l, s => ev P C e l s
  | e :: e' :: r, l, s => (ev P C e l s).bind fun v s => (truth v s).bind fun b s => if b then .ok v s else evOr P C (e' :: r) l s
end
noncomputable def setT (P : Prog) (C : Calls) (t : T) (v : V) (l : Loc) (s : MS) : Res Loc :=
  match t with
  | .loc i => if i < l.length then .ok (l.set i (some v)) s else .stuck
  | .item a b => (ev P C a l s).bind fun x s => (ev P C b l s).bind fun y s => (setItem x y v s).bind fun _ s => .ok l s
noncomputable def setTs (P : Prog) (C : Calls) : List T → List V → Loc → MS → Res Loc
  | [], [], l, s => .ok l s
  | t :: ts, v :: vs, l, s => (setT P C t v l s).bind fun l s => setTs P C ts vs l s
  | _, _, _, _ => .stuck
noncomputable def unpackT (P : Prog) (C : Calls) (ts : List T) (v : V) (l : Loc) (s : MS) : Res Loc :=
  match v with
  | .tup vs => setTs P C ts vs l s
  | _ => .stuck
noncomputable def setTT (P : Prog) (C : Calls) (ts : T ⊕ List T) (v : V) (l : Loc) (s : MS) : Res Loc :=
  match ts with
  | .inl t => setT P C t v l s
  | .inr ts => unpackT P C ts v l s

noncomputable def forOk (ts : T ⊕ List T) (range : Bool) (src : V) (s : MS) : Bool :=
  match ts with
  | .inl _ => true
  | .inr _ => !range && match seqOf s src with
    | some p => p.1
    | Option.none => false
noncomputable def forLoop (s₀ : MS) (range : Bool) (src : V) (tgt : V → Loc → MS → Res Loc) (body : Loc → MS → Res (Fl × Loc)) : List V → Loc → MS → Res (Fl × Loc)
  | [], l, s => if stays s₀ s range src then .ok (.next, l) s else .stuck
  | x :: r, l, s =>
    if stays s₀ s range src then
      (tgt x l s).bind fun l s => (body l s).bind fun p s => match p.1 with
        | .next => forLoop s₀ range src tgt body r p.2 s
        | .ret v => .ok (.ret v, p.2) s
    else .stuck
noncomputable def whileLoop (test : Loc → MS → Res V) (body : Loc → MS → Res (Fl × Loc)) : Nat → Loc → MS → Res (Fl × Loc)
  | 0, _, _ => .stuck
  | n + 1, l, s => (test l s).bind fun v s => (truth v s).bind fun b s =>
    if b then (body l s).bind fun p s => match p.1 with
      | .next => whileLoop test body n p.2 s
      | .ret v => .ok (.ret v, p.2) s
    else .ok (.next, l) s

mutual
noncomputable def ex (P : Prog) (C : Calls) (n : Nat) : S → Loc → MS → Res (Fl × Loc)
  | .expr e, l, s => (ev P C e l s).bind fun _ s => .ok (.next, l) s
  | .assign i e, l, s => (ev P C e l s).bind fun v s => if i < l.length then .ok (.next, l.set i (some v)) s else .stuck
  | .setattr a i e, l, s => (ev P C e l s).bind fun v s => (ev P C a l s).bind fun x s => (setAttr x i v s).bind fun _ s => .ok (.next, l) s
  | .setitem a b e, l, s => (ev P C e l s).bind fun v s => (ev P C a l s).bind fun x s => (ev P C b l s).bind fun y s => (setItem x y v s).bind fun _ s => .ok (.next, l) s
  | .unpack ts e, l, s => (ev P C e l s).bind fun v s => (unpackT P C ts v l s).bind fun l s => .ok (.next, l) s
  | .ite c b1 b2, l, s => (ev P C c l s).bind fun v s => (truth v s).bind fun b s => if b then exs P C n b1 l s else exs P C n b2 l s
  | .for_ ts range it body, l, s => (ev P C it l s).bind fun src s => match itemsOf s range src with
    | some xs => if forOk ts range src s then forLoop s range src (setTT P C ts) (exs P C n body) xs l s else .stuck
    | Option.none => .stuck
  | .while_ c body, l, s => whileLoop (ev P C c) (exs P C n body) n l s
  | .ret e, l, s => match e with
    | some e => (ev P C e l s).bind fun v s => .ok (.ret v, l) s
    | Option.none => .ok (.ret .none, l) s
  | .raise c, _, s => .exc c s
  | .try_ body hs, l, s => match exs P C n body l s with
    | .ok p s => .ok p s
    | .stuck => .stuck
    | .exc c s => exH P C n hs c l s
  | .pass, l, s => .ok (.next, l) s
noncomputable def exs (P : Prog) (C : Calls) (n : Nat) : List S → Loc → MS → Res (Fl × Loc)
  | [], l, s => .ok (.next, l) s
  | st :: r, l, s => (ex P C n st l s).bind fun p s => match p.1 with
    | .next => exs P C n r p.2 s
    | .ret v => .ok (.ret v, p.2) s
noncomputable def exH (P : Prog) (C : Calls) (n : Nat) : List (Nat × Option Nat × List S) → Nat → Loc → MS → Res (Fl × Loc)
  | [], c, _, s => .exc c s
  | (k, x, b) :: r, c, l, s => if (P.excBase c).contains k then
      (exs P C n b (match x with | some i => l.set i (some (.exc c)) | Option.none => l) s).bind fun p s =>
        .ok (p.1, match x with | some i => p.2.set i Option.none | Option.none => p.2) s
    else exH P C n r c l s
end
noncomputable def run (P : Prog) : Nat → Calls
  | 0, _, _, _ => .stuck
  | n + 1, f, vs, s => match P.fns f with
    | some fn => if vs.length = fn.np then
        (exs P (run P n) n fn.body (vs.map some ++ List.replicate (fn.names.length - fn.np) Option.none) s).bind fun p s => .ok (match p.1 with | .ret v => v | .next => .none) s
      else .stuck
    | Option.none => .stuck

theorem ev_none (P : Prog) (C : Calls) : ∀ l s, ev P C (.none) l s = .ok .none s := by intros; rfl
theorem ev_bool (P : Prog) (C : Calls) : ∀ b l s, ev P C (.bool b) l s = .ok (.bool b) s := by intros; rfl
theorem ev_int (P : Prog) (C : Calls) : ∀ i l s, ev P C (.int i) l s = .ok (.int i) s := by intros; rfl
theorem ev_str (P : Prog) (C : Calls) : ∀ x l s, ev P C (.str x) l s = .ok (.str x) s := by intros; rfl
theorem ev_loc (P : Prog) (C : Calls) : ∀ i l s, ev P C (.loc i) l s = match l[i]? with
    | some (some v) => .ok v s
    | _ => .stuck := by intros; rfl
theorem ev_gint (P : Prog) (C : Calls) : ∀ u1 i l s, ev P C (.gint u1 i) l s = .ok (.int i) s := by intros; rfl
theorem ev_gstr (P : Prog) (C : Calls) : ∀ u1 x l s, ev P C (.gstr u1 x) l s = .ok (.str x) s := by intros; rfl
theorem ev_neg (P : Prog) (C : Calls) : ∀ a l s, ev P C (.neg a) l s = (ev P C a l s).bind fun v s => match v with
    | .int i => .ok (.int (-i)) s
    | _ => .stuck := by intros; rfl
theorem ev_not (P : Prog) (C : Calls) : ∀ a l s, ev P C (.not a) l s = (ev P C a l s).bind fun v s => (truth v s).bind fun b s => .ok (.bool (!b)) s := by intros; rfl
theorem ev_and (P : Prog) (C : Calls) : ∀ es l s, ev P C (.and es) l s = evAnd P C es l s := by intros; rfl
theorem ev_or (P : Prog) (C : Calls) : ∀ es l s, ev P C (.or es) l s = evOr P C es l s := by intros; rfl
theorem ev_bin (P : Prog) (C : Calls) : ∀ o a b l s, ev P C (.bin o a b) l s = (ev P C a l s).bind fun x s => (ev P C b l s).bind fun y s => binOp o x y s := by intros; rfl
theorem ev_cmp (P : Prog) (C : Calls) : ∀ a o b l s, ev P C (.cmp a o b) l s = (ev P C a l s).bind fun x s => (ev P C b l s).bind fun y s => cmpOp o x y s := by intros; rfl
theorem ev_cmp2 (P : Prog) (C : Calls) : ∀ a o b o2 c l s, ev P C (.cmp2 a o b o2 c) l s = (ev P C a l s).bind fun x s => (ev P C b l s).bind fun y s => (cmpOp o x y s).bind fun v s => (truth v s).bind fun t s =>
      if t then (ev P C c l s).bind fun z s => cmpOp o2 y z s else .ok (.bool false) s := by intros; rfl
theorem ev_isC (P : Prog) (C : Calls) : ∀ n a c l s, ev P C (.isC n a c) l s = (ev P C a l s).bind fun v s => match c with
    | .none | .bool _ => .ok (.bool (decide (v = c) != n)) s
    | _ => .stuck := by intros; rfl
theorem ev_tup (P : Prog) (C : Calls) : ∀ es l s, ev P C (.tup es) l s = (evL P C es l s).bind fun vs s => if vs.length ≤ sizeMax then .ok (.tup vs) s else .stuck := by intros; rfl
theorem ev_lst (P : Prog) (C : Calls) : ∀ es l s, ev P C (.lst es) l s = (evL P C es l s).bind fun vs s => if vs.length ≤ sizeMax then .ok (.lst vs) s else .stuck := by intros; rfl
theorem ev_lstM (P : Prog) (C : Calls) : ∀ k es l s, ev P C (.lstM k es) l s = (evL P C es l s).bind fun vs s => if vs.length ≤ sizeMax then .ok (.ref (k, s.cnt k)) (s.new k (.list vs)) else .stuck := by intros; rfl
theorem ev_dictM (P : Prog) (C : Calls) : ∀ k ks es l s, ev P C (.dictM k ks es) l s = (evL P C es l s).bind fun vs s => if ks.length = vs.length ∧ ks.length ≤ 15 then
      .ok (.ref (k, s.cnt k)) (s.new k (.dict ((ks.zip vs).foldl (fun d p => dput (.str p.1) p.2 d) []))) else .stuck := by intros; rfl
theorem ev_sub (P : Prog) (C : Calls) : ∀ a b l s, ev P C (.sub a b) l s = (ev P C a l s).bind fun x s => (ev P C b l s).bind fun y s => getItem x y s := by intros; rfl
theorem ev_slice (P : Prog) (C : Calls) : ∀ a lo hi l s, ev P C (.slice a lo hi) l s = (ev P C a l s).bind fun x s => (evO P C lo l s).bind fun y s => (evO P C hi l s).bind fun z s => getSlice x y z s := by intros; rfl
theorem ev_attr (P : Prog) (C : Calls) : ∀ a i l s, ev P C (.attr a i) l s = (ev P C a l s).bind fun x s => getAttr x i s := by intros; rfl
theorem ev_call (P : Prog) (C : Calls) : ∀ f es l s, ev P C (.call f es) l s = (evL P C es l s).bind fun vs s => C f vs s := by intros; rfl
theorem ev_meth (P : Prog) (C : Calls) : ∀ a m es l s, ev P C (.meth a m es) l s = (ev P C a l s).bind fun x s => match methOf P x m s with
    | some f => (evL P C es l s).bind fun vs s => C f (x :: vs) s
    | Option.none => .stuck := by intros; rfl
theorem ev_new (P : Prog) (C : Calls) : ∀ c es l s, ev P C (.new c es) l s = (evL P C es l s).bind fun vs s => makeInst P C c vs s := by intros; rfl
theorem ev_isinst (P : Prog) (C : Calls) : ∀ a ks l s, ev P C (.isinst a ks) l s = (ev P C a l s).bind fun x s => okB s (isKinds P s x ks) := by intros; rfl
theorem ev_prim (P : Prog) (C : Calls) : ∀ p es l s, ev P C (.prim p es) l s = (evL P C es l s).bind fun vs s => prim p vs s := by intros; rfl
theorem ev_listM (P : Prog) (C : Calls) : ∀ k a l s, ev P C (.listM k a) l s = (ev P C a l s).bind fun x s => match seqOf s x with
    | some (_, vs) => .ok (.ref (k, s.cnt k)) (s.new k (.list vs))
    | Option.none => .stuck := by intros; rfl
theorem ev_dictC (P : Prog) (C : Calls) : ∀ k a l s, ev P C (.dictC k a) l s = (ev P C a l s).bind fun x s => match x with
    | .ref r => match s.heap r with
      | some (.dict d) => .ok (.ref (k, s.cnt k)) (s.new k (.dict d))
      | _ => .stuck
    | _ => .stuck := by intros; rfl
theorem ev_bm (P : Prog) (C : Calls) : ∀ m a es l s, ev P C (.bm m a es) l s = (ev P C a l s).bind fun x s => if bmOk m x s then (evL P C es l s).bind fun vs s => bmeth m x vs s else .stuck := by intros; rfl
theorem ev_comp (P : Prog) (C : Calls) : ∀ M slot range it cond elt l s, ev P C (.comp M slot range it cond elt) l s = (ev P C it l s).bind fun src s => match itemsOf s range src with
    | some xs => (compLoop s range src slot (evC P C cond) (ev P C elt) l [] xs s).bind fun vs s => match M with
      | Option.none => .ok (.lst vs) s
      | some k => .ok (.ref (k, s.cnt k)) (s.new k (.list vs))
    | Option.none => .stuck := by intros; rfl
theorem evO_none (P : Prog) (C : Calls) : ∀ l s, evO P C Option.none l s = .ok Option.none s := by intros; rfl
theorem evO_some (P : Prog) (C : Calls) : ∀ e l s, evO P C (some e) l s = (ev P C e l s).bind fun v s => .ok (some v) s := by intros; rfl
theorem evL_nil (P : Prog) (C : Calls) : ∀ l s, evL P C [] l s = .ok [] s := by intros; rfl
theorem evL_cons (P : Prog) (C : Calls) : ∀ e r l s, evL P C (e :: r) l s = (ev P C e l s).bind fun v s => (evL P C r l s).bind fun vs s => .ok (v :: vs) s := by intros; rfl
theorem evAnd_nil (P : Prog) (C : Calls) : ∀ l s, evAnd P C [] l s = .stuck := by intros; rfl
theorem evAnd_one (P : Prog) (C : Calls) : ∀ e l s, evAnd P C [e] l s = ev P C e l s := by intros; rfl
theorem evAnd_cons (P : Prog) (C : Calls) : ∀ e e' r l s, evAnd P C (e :: e' :: r) l s = (ev P C e l s).bind fun v s => (truth v s).bind fun b s => if b then evAnd P C (e' :: r) l s else .ok v s := by intros; rfl
theorem evOr_nil (P : Prog) (C : Calls) : ∀ l s, evOr P C [] l s = .stuck := by intros; rfl
theorem evOr_one (P : Prog) (C : Calls) : ∀ e l s, evOr P C [e] l s = ev P C e l s := by intros; rfl
theorem evOr_cons (P : Prog) (C : Calls) : ∀ e e' r l s, evOr P C (e :: e' :: r) l s = (ev P C e l s).bind fun v s => (truth v s).bind fun b s => if b then .ok v s else evOr P C (e' :: r) l s := by intros; rfl
theorem ex_expr (P : Prog) (C : Calls) (n : Nat) : ∀ e l s, ex P C n (.expr e) l s = (ev P C e l s).bind fun _ s => .ok (.next, l) s := by intros; rfl
theorem ex_assign (P : Prog) (C : Calls) (n : Nat) : ∀ i e l s, ex P C n (.assign i e) l s = (ev P C e l s).bind fun v s => if i < l.length then .ok (.next, l.set i (some v)) s else .stuck := by intros; rfl
theorem ex_setattr (P : Prog) (C : Calls) (n : Nat) : ∀ a i e l s, ex P C n (.setattr a i e) l s = (ev P C e l s).bind fun v s => (ev P C a l s).bind fun x s => (setAttr x i v s).bind fun _ s => .ok (.next, l) s := by intros; rfl
theorem ex_setitem (P : Prog) (C : Calls) (n : Nat) : ∀ a b e l s, ex P C n (.setitem a b e) l s = (ev P C e l s).bind fun v s => (ev P C a l s).bind fun x s => (ev P C b l s).bind fun y s => (setItem x y v s).bind fun _ s => .ok (.next, l) s := by intros; rfl
theorem ex_unpack (P : Prog) (C : Calls) (n : Nat) : ∀ ts e l s, ex P C n (.unpack ts e) l s = (ev P C e l s).bind fun v s => (unpackT P C ts v l s).bind fun l s => .ok (.next, l) s := by intros; rfl
theorem ex_ite (P : Prog) (C : Calls) (n : Nat) : ∀ c b1 b2 l s, ex P C n (.ite c b1 b2) l s = (ev P C c l s).bind fun v s => (truth v s).bind fun b s => if b then exs P C n b1 l s else exs P C n b2 l s := by intros; rfl
theorem ex_for (P : Prog) (C : Calls) (n : Nat) : ∀ ts range it body l s, ex P C n (.for_ ts range it body) l s = (ev P C it l s).bind fun src s => match itemsOf s range src with
    | some xs => if forOk ts range src s then forLoop s range src (setTT P C ts) (exs P C n body) xs l s else .stuck
    | Option.none => .stuck := by intros; rfl
theorem ex_while (P : Prog) (C : Calls) (n : Nat) : ∀ c body l s, ex P C n (.while_ c body) l s = whileLoop (ev P C c) (exs P C n body) n l s := by intros; rfl
theorem ex_ret (P : Prog) (C : Calls) (n : Nat) : ∀ e l s, ex P C n (.ret e) l s = match e with
    | some e => (ev P C e l s).bind fun v s => .ok (.ret v, l) s
    | Option.none => .ok (.ret .none, l) s := by intros; rfl
theorem ex_raise (P : Prog) (C : Calls) (n : Nat) : ∀ c l s, ex P C n (.raise c) l s = .exc c s := by intros; rfl
theorem ex_try (P : Prog) (C : Calls) (n : Nat) : ∀ body hs l s, ex P C n (.try_ body hs) l s = match exs P C n body l s with
    | .ok p s => .ok p s
    | .stuck => .stuck
    | .exc c s => exH P C n hs c l s := by intros; rfl
theorem ex_pass (P : Prog) (C : Calls) (n : Nat) : ∀ l s, ex P C n (.pass) l s = .ok (.next, l) s := by intros; rfl
theorem exs_nil (P : Prog) (C : Calls) (n : Nat) : ∀ l s, exs P C n [] l s = .ok (.next, l) s := by intros; rfl
theorem exs_cons (P : Prog) (C : Calls) (n : Nat) : ∀ st r l s, exs P C n (st :: r) l s = (ex P C n st l s).bind fun p s => match p.1 with
    | .next => exs P C n r p.2 s
    | .ret v => .ok (.ret v, p.2) s := by intros; rfl
end Mine
end

section
namespace Mine
open PySem PySem.W PyProof.Rows

structure Tie where
  ρ : Lbl → Option Addr
  δ : Lbl → Option Addr
  pv : Addr → Prop

noncomputable def Tie.Own (t : Tie) (a : Addr) : Prop := ∃ l, t.ρ l = some a ∨ t.δ l = some a
noncomputable def Tie.Avoid (t : Tie) (a : Addr) : Prop := t.Own a ∨ t.pv a

structure Tie.Le (t t' : Tie) : Prop where
  ρ : ∀ l a, t.ρ l = some a → t'.ρ l = some a
  δ : ∀ l a, t.δ l = some a → t'.δ l = some a
  pv : t'.pv = t.pv

theorem Tie.Le.refl (t : Tie) : t.Le t := ⟨fun _ _ e => e, fun _ _ e => e, rfl⟩
theorem Tie.Le.trans {t t' t'' : Tie} (x : t.Le t') (y : t'.Le t'') : t.Le t'' := ⟨fun l a e => y.ρ l a (x.ρ l a e), fun l a e => y.δ l a (x.δ l a e), y.pv.trans x.pv⟩
theorem Tie.Le.own {t t' : Tie} (x : t.Le t') {a : Addr} (o : t.Own a) : t'.Own a := by
  obtain ⟨l, e | e⟩ := o
  · exact ⟨l, .inl (x.ρ l a e)⟩
  · exact ⟨l, .inr (x.δ l a e)⟩

noncomputable def PL (h : Heap) (a : Addr) (vs : Array Value) : Prop := ∃ n, h.get? a = some { cls := .type "list", data := .seq vs n }
noncomputable def PT (h : Heap) (a : Addr) (vs : Array Value) : Prop := ∃ n, h.get? a = some { cls := .type "tuple", data := .seq vs n }
theorem PL.isList {h : Heap} {a : Addr} {vs : Array Value} (x : PL h a vs) : h.IsList a vs := let ⟨n, e⟩ := x; ⟨_, e, rfl, n, rfl⟩
theorem PT.isTuple {h : Heap} {a : Addr} {vs : Array Value} (x : PT h a vs) : h.IsTuple a vs := let ⟨n, e⟩ := x; ⟨_, e, rfl, n, rfl⟩
theorem PT.isTup {h : Heap} {a : Addr} {vs : Array Value} (x : PT h a vs) : IsTup h a vs := let ⟨n, e⟩ := x; ⟨_, e, rfl, n, rfl⟩

mutual
noncomputable def VRel (t : Tie) (h : Heap) : V → Value → Prop
  | .none, v => v = .none
  | .bool b, v => v = .bool b
  | .int i, v => ∃ k, v = .int i k
  | .str x, v => ∃ k, v = .str (Str.mk x.toArray) k
  | .tup l, v => ∃ a vs, v = .ref a ∧ PT h a vs ∧ ¬ t.Avoid a ∧ l.length ≤ sizeMax ∧ VRels t h l vs.toList
  | .lst l, v => ∃ a vs, v = .ref a ∧ PL h a vs ∧ ¬ t.Avoid a ∧ l.length ≤ sizeMax ∧ VRels t h l vs.toList
  | .ref l, v => ∃ a, v = .ref a ∧ t.ρ l = some a
  | .exc _, _ => False
noncomputable def VRels (t : Tie) (h : Heap) : List V → List Value → Prop
  | [], vs => vs = []
  | x :: l, vs => ∃ v r, vs = v :: r ∧ VRel t h x v ∧ VRels t h l r
end
structure Step (X : Addr → Prop) (t t' : Tie) (s s' : Shared) : Prop where
  le : t.Le t'
  keep : ∀ a o, s.heap.get? a = some o → ¬ t.Own a → ¬ X a → s'.heap.get? a = some o
  new : ∀ a, t'.Own a → t.Own a ∨ s.heap.get? a = none
  live : ∀ a o, s.heap.get? a = some o → (s'.heap.get? a).isSome = true
  gens : s'.gens = s.gens
  os : s'.os = s.os

theorem Step.refl (X : Addr → Prop) (t : Tie) (s : Shared) : Step X t t s s := ⟨.refl t, fun _ _ e _ _ => e, fun _ o => .inl o, fun _ _ e => by rw [e]; rfl, rfl, rfl⟩
theorem Step.trans {X : Addr → Prop} {t t' t'' : Tie} {s s' s'' : Shared} (x : Step X t t' s s') (y : Step X t' t'' s' s'') : Step X t t'' s s'' where
  le := x.le.trans y.le
  keep a o e n nx := y.keep a o (x.keep a o e n nx) (fun q => (x.new a q).elim n fun z => by rw [e] at z; cases z) nx
  new a o := (y.new a o).elim (x.new a) fun z => by
    cases q : s.heap.get? a with
    | none => exact .inr rfl
    | some ob =>
      have := x.live a ob q
      rw [z] at this; cases this
  live a o e := by
    have := x.live a o e
    obtain ⟨o', e'⟩ := Option.isSome_iff_exists.mp this
    exact y.live a o' e'
  gens := y.gens.trans x.gens
  os := y.os.trans x.os
theorem Step.mono {X Y : Addr → Prop} {t t' : Tie} {s s' : Shared} (x : Step X t t' s s') (xy : ∀ a, X a → Y a) : Step Y t t' s s' := ⟨x.le, fun a o e n ny => x.keep a o e n fun q => ny (xy a q), x.new, x.live, x.gens, x.os⟩
noncomputable def noX : Addr → Prop := fun _ => False

mutual
theorem VRel.step {X : Addr → Prop} {t t' : Tie} {σ σ' : Shared} (s : Step X t t' σ σ') (xp : ∀ a, X a → t.pv a) : ∀ (x : V) {v : Value}, VRel t σ.heap x v → VRel t' σ'.heap x v
  | .none, _, e => e
  | .bool _, _, e => e
  | .int _, _, e => e
  | .str _, _, e => e
  | .tup l, _, ⟨a, vs, e, ⟨n, ho⟩, na, sz, r⟩ => ⟨a, vs, e, ⟨n, s.keep a _ ho (fun q => na (.inl q)) (fun q => na (.inr (xp a q)))⟩,
      fun q => Or.elim q (fun q => (s.new a q).elim (fun q => na (.inl q)) fun z => by rw [ho] at z; cases z) (fun q => na (.inr (by rw [s.le.pv] at q; exact q))), sz, VRels.step s xp l r⟩
  | .lst l, _, ⟨a, vs, e, ⟨n, ho⟩, na, sz, r⟩ => ⟨a, vs, e, ⟨n, s.keep a _ ho (fun q => na (.inl q)) (fun q => na (.inr (xp a q)))⟩,
      fun q => Or.elim q (fun q => (s.new a q).elim (fun q => na (.inl q)) fun z => by rw [ho] at z; cases z) (fun q => na (.inr (by rw [s.le.pv] at q; exact q))), sz, VRels.step s xp l r⟩
  | .ref l, _, ⟨a, e, r⟩ => ⟨a, e, s.le.ρ l a r⟩
  | .exc _, _, e => e
theorem VRels.step {X : Addr → Prop} {t t' : Tie} {σ σ' : Shared} (s : Step X t t' σ σ') (xp : ∀ a, X a → t.pv a) : ∀ (l : List V) {vs : List Value}, VRels t σ.heap l vs → VRels t' σ'.heap l vs
  | [], _, e => e
  | x :: l, _, ⟨v, r, e, a, b⟩ => ⟨v, r, e, VRel.step s xp x a, VRels.step s xp l b⟩
end
noncomputable def Tie.hide (t : Tie) (P : Addr → Prop) : Tie := { t with pv := fun a => t.pv a ∨ P a }

mutual
theorem VRel.hide {t : Tie} {h : Heap} {P : Addr → Prop} (np : ∀ a, P a → h.get? a = none) : ∀ (x : V) {v : Value}, VRel t h x v → VRel (t.hide P) h x v
  | .none, _, e => e
  | .bool _, _, e => e
  | .int _, _, e => e
  | .str _, _, e => e
  | .tup l, _, ⟨a, vs, e, ⟨n, ho⟩, na, sz, r⟩ => ⟨a, vs, e, ⟨n, ho⟩, (fun q => Or.elim q (fun q => na (.inl q)) fun q => Or.elim q (fun q => na (.inr q)) fun q => absurd ((np a q).symm.trans ho) nofun), sz, VRels.hide np l r⟩
  | .lst l, _, ⟨a, vs, e, ⟨n, ho⟩, na, sz, r⟩ => ⟨a, vs, e, ⟨n, ho⟩, (fun q => Or.elim q (fun q => na (.inl q)) fun q => Or.elim q (fun q => na (.inr q)) fun q => absurd ((np a q).symm.trans ho) nofun), sz, VRels.hide np l r⟩
  | .ref _, _, e => e
  | .exc _, _, e => e
theorem VRels.hide {t : Tie} {h : Heap} {P : Addr → Prop} (np : ∀ a, P a → h.get? a = none) : ∀ (l : List V) {vs : List Value}, VRels t h l vs → VRels (t.hide P) h l vs
  | [], _, e => e
  | x :: l, _, ⟨v, r, e, a, b⟩ => ⟨v, r, e, VRel.hide np x a, VRels.hide np l b⟩
end
theorem VRels.length {t : Tie} {h : Heap} : ∀ {l : List V} {vs : List Value}, VRels t h l vs → vs.length = l.length
  | [], _, e => by cases e; rfl
  | _ :: l, _, ⟨v, r, e, _, b⟩ => by subst e; simp [VRels.length b]
theorem VRels.append {t : Tie} {h : Heap} : ∀ {l m : List V} {vs ws : List Value}, VRels t h l vs → VRels t h m ws → VRels t h (l ++ m) (vs ++ ws)
  | [], _, _, _, e, b => by cases e; exact b
  | _ :: _, _, _, _, ⟨v, r, e, a, c⟩, b => by subst e; exact ⟨v, _, rfl, a, VRels.append c b⟩
theorem VRels.get {t : Tie} {h : Heap} : ∀ {l : List V} {vs : List Value} {i : Nat} {x : V}, VRels t h l vs → l[i]? = some x → ∃ v, vs[i]? = some v ∧ VRel t h x v
  | x :: l, _, 0, _, ⟨v, r, e, a, b⟩, q => by subst e; cases q; exact ⟨v, rfl, a⟩
  | x :: l, _, i + 1, _, ⟨v, r, e, a, b⟩, q => by subst e; exact VRels.get (l := l) (vs := r) b q
theorem VRels.take {t : Tie} {h : Heap} : ∀ {l : List V} {vs : List Value} (n : Nat), VRels t h l vs → VRels t h (l.take n) (vs.take n)
  | [], _, n, e => by cases e; simp [VRels]
  | x :: l, _, 0, _ => rfl
  | x :: l, _, n + 1, ⟨v, r, e, a, b⟩ => by subst e; exact ⟨v, _, rfl, a, VRels.take n b⟩
theorem VRels.drop {t : Tie} {h : Heap} : ∀ {l : List V} {vs : List Value} (n : Nat), VRels t h l vs → VRels t h (l.drop n) (vs.drop n)
  | [], _, n, e => by cases e; simp [VRels]
  | x :: l, vs, 0, r => r
  | x :: l, _, n + 1, ⟨v, r, e, a, b⟩ => by subst e; exact VRels.drop n b
theorem VRels.set {t : Tie} {h : Heap} : ∀ {l : List V} {vs : List Value} (i : Nat) {x : V} {v : Value}, VRels t h l vs → VRel t h x v → VRels t h (l.set i x) (vs.set i v)
  | [], _, i, _, _, e, _ => by cases e; simp [VRels]
  | y :: l, _, 0, _, _, ⟨v, r, e, a, b⟩, q => by subst e; exact ⟨_, _, rfl, q, b⟩
  | y :: l, _, i + 1, _, _, ⟨v, r, e, a, b⟩, q => by subst e; exact ⟨v, _, rfl, a, VRels.set i b q⟩
theorem VRels.eraseIdx {t : Tie} {h : Heap} : ∀ {l : List V} {vs : List Value} (i : Nat), VRels t h l vs → VRels t h (l.eraseIdx i) (vs.eraseIdx i)
  | [], _, i, e => by cases e; simp [VRels]
  | y :: l, _, 0, ⟨v, r, e, a, b⟩ => by subst e; exact b
  | y :: l, _, i + 1, ⟨v, r, e, a, b⟩ => by subst e; exact ⟨v, _, rfl, a, VRels.eraseIdx i b⟩

end Mine
end

section
namespace Mine
open PySem PySem.W PyProof.Rows

structure Gd where
  prog : Program
  w : World
  K : Frag
  mg : PySem.Str → Option Value
  mb : PySem.Str → Option Value
  h₀ : Heap
  P : Prog
  fa : Nat → Option Addr
  ca : Nat → Option Addr
  an : Nat → PySem.Str

noncomputable abbrev Gd.M (G : Gd) : Model := model G.prog G.w
noncomputable abbrev toStr (x : List Nat) : PySem.Str := Str.mk x.toArray

noncomputable def DRel (t : Tie) (h : Heap) : List (V × V) → List (PySem.Str × Value) → Prop
  | [], kvs => kvs = []
  | (k, v) :: r, kvs => ∃ x y rest, k = .str x ∧ kvs = (toStr x, y) :: rest ∧ VRel t h v y ∧ DRel t h r rest

noncomputable def ARel (G : Gd) (t : Tie) (h : Heap) (as : List (Nat × V)) (m : PySem.Str → Option Value) : Prop :=
  (∀ i v, afind i as = some v → ∃ y, m (G.an i) = some y ∧ VRel t h v y) ∧ ∀ x y, m x = some y → ∃ i v, x = G.an i ∧ afind i as = some v

noncomputable def NsZ (h : Heap) (a : Addr) (m : PySem.Str → Option Value) (n : Nat) : Prop :=
  ∃ o es ep, h.get? a = some o ∧ o.data = .dict es ep ∧ StrKeys es ∧ (∀ name, nsFind es name = m name) ∧ es.size ≤ n
theorem NsZ.ns {h : Heap} {a : Addr} {m : PySem.Str → Option Value} {n : Nat} (x : NsZ h a m n) : h.Ns a m := let ⟨o, es, ep, h1, h2, h3, h4, _⟩ := x; ⟨o, es, ep, h1, h2, h3, h4⟩

noncomputable def ObjOk (G : Gd) (t : Tie) (h : Heap) (l : Lbl) : MObj → Prop
  | .list xs => ∃ a vs, t.ρ l = some a ∧ PL h a vs ∧ xs.length ≤ sizeMax ∧ VRels t h xs vs.toList
  | .dict d => ∃ a kvs, t.ρ l = some a ∧ h.DictOf (strKind G.prog G.w) a kvs ∧ DRel t h d kvs
  | .inst c as => ∃ a d C m, t.ρ l = some a ∧ t.δ l = some d ∧ G.ca c = some C ∧ h.get? a = some (instObj C d) ∧ NsZ h d m as.length ∧ ARel G t h as m

structure Rel (G : Gd) (t : Tie) (st : MS) (s : Shared) : Prop where
  base : ∀ b o, G.h₀.get? b = some o → s.heap.get? b = some o
  apart : ∀ a, t.Avoid a → G.h₀.get? a = none
  live : ∀ a, t.Avoid a → (s.heap.get? a).isSome = true
  pv : ∀ a, t.pv a → ¬ t.Own a
  injρ : ∀ l l' a, t.ρ l = some a → t.ρ l' = some a → l = l'
  injδ : ∀ l l' a, t.δ l = some a → t.δ l' = some a → l = l'
  two : ∀ l l' a, t.ρ l = some a → t.δ l' = some a → False
  objs : ∀ l o, st.heap l = some o → ObjOk G t s.heap l o
  cnt : ∀ k i, st.cnt k ≤ i → t.ρ (k, i) = none ∧ t.δ (k, i) = none ∧ st.heap (k, i) = none
  sys : ∀ l, t.ρ l ≠ some sysModules

theorem DRel.step {X : Addr → Prop} {t t' : Tie} {σ σ' : Shared} (s : Step X t t' σ σ') (xp : ∀ a, X a → t.pv a) : ∀ {d : List (V × V)} {kvs : List (PySem.Str × Value)}, DRel t σ.heap d kvs → DRel t' σ'.heap d kvs
  | [], _, e => e
  | (_, v) :: _, _, ⟨x, y, r, e1, e2, a, b⟩ => ⟨x, y, r, e1, e2, VRel.step s xp v a, DRel.step s xp b⟩
theorem ARel.step {G : Gd} {X : Addr → Prop} {t t' : Tie} {σ σ' : Shared} (s : Step X t t' σ σ') (xp : ∀ a, X a → t.pv a) {as : List (Nat × V)} {m : PySem.Str → Option Value} (r : ARel G t σ.heap as m) : ARel G t' σ'.heap as m :=
  ⟨fun i v e => let ⟨y, e1, e2⟩ := r.1 i v e; ⟨y, e1, VRel.step s xp v e2⟩, r.2⟩

theorem ObjOk.step {G : Gd} {X : Addr → Prop} {t t' : Tie} {σ σ' : Shared} {l : Lbl} (s : Step X t t' σ σ') (xp : ∀ a, X a → t.pv a)
    (same : ∀ a o, (t.ρ l = some a ∨ t.δ l = some a) → σ.heap.get? a = some o → σ'.heap.get? a = some o) : ∀ {o : MObj}, ObjOk G t σ.heap l o → ObjOk G t' σ'.heap l o
  | .list _, ⟨a, vs, e, ⟨n, ho⟩, sz, b⟩ => ⟨a, vs, s.le.ρ l a e, ⟨n, same a _ (.inl e) ho⟩, sz, VRels.step s xp _ b⟩
  | .dict _, ⟨a, kvs, e, ⟨o, es, ep, ho, r⟩, b⟩ => ⟨a, kvs, s.le.ρ l a e, ⟨o, es, ep, same a o (.inl e) ho, r⟩, DRel.step s xp b⟩
  | .inst _ _, ⟨a, d, C, m, e, f, c, ho, ⟨od, es, ep, hd, r⟩, b⟩ => ⟨a, d, C, m, s.le.ρ l a e, s.le.δ l d f, c, same a _ (.inl e) ho, ⟨od, es, ep, same d _ (.inr f) hd, r⟩, ARel.step s xp b⟩

section
variable {G : Gd} {t : Tie} {st : MS} {s : Shared}

theorem Rel.fresh (R : Rel G t st s) {a : Addr} (e : s.heap.get? a = none) : ¬ t.Avoid a := fun q => by
  have := R.live a q; rw [e] at this; cases this

theorem Step.grow (_R : Rel G t st s) {s' : Shared} (hk : ∀ b o, s.heap.get? b = some o → s'.heap.get? b = some o) (hg : s'.gens = s.gens) (ho : s'.os = s.os) : Step noX t t s s' :=
  ⟨.refl t, fun a o e _ _ => hk a o e, fun _ o => .inl o, fun a o e => by rw [hk a o e]; rfl, hg, ho⟩
theorem Rel.grow (R : Rel G t st s) {s' : Shared} (hk : ∀ b o, s.heap.get? b = some o → s'.heap.get? b = some o) (hg : s'.gens = s.gens) (ho : s'.os = s.os) : Rel G t st s' where
  base b o e := hk b o (R.base b o e)
  apart := R.apart
  live a q := by obtain ⟨o, e⟩ := Option.isSome_iff_exists.mp (R.live a q); rw [hk a o e]; rfl
  pv := R.pv
  injρ := R.injρ
  injδ := R.injδ
  two := R.two
  objs l o e := (R.objs l o e).step (Step.grow R hk hg ho) (fun _ x => x.elim) fun a o _ e => hk a o e
  cnt := R.cnt
  sys := R.sys

theorem Rel.toks (R : Rel G t st s) (n : Nat) : Rel G t st { s with toks := n } := R.grow (fun _ _ e => e) rfl rfl
theorem Step.toks (X : Addr → Prop) (t : Tie) (s : Shared) (n : Nat) : Step X t t s { s with toks := n } := ⟨.refl t, fun _ _ e _ _ => e, fun _ o => .inl o, fun _ _ e => by show (s.heap.get? _).isSome = true; rw [e]; rfl, rfl, rfl⟩

theorem Step.upd {a : Addr} {h' : Heap} {tk : Nat} (own : t.Own a) (hl : (h'.get? a).isSome = true) (hs : Heap.SameBut a s.heap h') : Step noX t t s { s with heap := h', toks := tk } :=
  ⟨.refl t, fun b o e n _ => (hs.2 b fun (q : b = a) => n (q ▸ own)).trans e, fun _ o => .inl o, fun b o e => by
    by_cases q : b = a
    · subst q; exact hl
    · show (h'.get? b).isSome = true; rw [hs.2 b q, e]; rfl, rfl, rfl⟩
theorem Rel.upd (R : Rel G t st s) {l : Lbl} {a : Addr} {h' : Heap} {tk : Nat} {o : MObj} (own : t.ρ l = some a ∨ t.δ l = some a) (hl : (h'.get? a).isSome = true) (hs : Heap.SameBut a s.heap h') (hn : st.heap l ≠ none)
    (ho : ObjOk G t h' l o) : Rel G t (st.put l o) { s with heap := h', toks := tk } where
  base b ob e := (hs.2 b fun (q : b = a) => by rw [q, R.apart a (.inl ⟨l, own⟩)] at e; cases e).trans (R.base b ob e)
  apart := R.apart
  live b q := by
    by_cases z : b = a
    · subst z; exact hl
    · show (h'.get? b).isSome = true; rw [hs.2 b z]; exact R.live b q
  pv := R.pv
  injρ := R.injρ
  injδ := R.injδ
  two := R.two
  objs l' o' e := by
    unfold MS.put at e
    dsimp only at e
    by_cases z : l' = l
    · rw [if_pos z] at e; cases e; subst z; exact ho
    · rw [if_neg z] at e
      refine (R.objs l' o' e).step (Step.upd ⟨l, own⟩ hl hs) (fun _ x => x.elim) fun b ob hb eb => (hs.2 b fun (q : b = a) => z ?_).trans eb
      subst q
      rcases hb with hb | hb <;> rcases own with ow | ow
      · exact R.injρ l' l b hb ow
      · exact (R.two l' l b hb ow).elim
      · exact (R.two l l' b ow hb).elim
      · exact R.injδ l' l b hb ow
  cnt k i e := by
    obtain ⟨c1, c2, c3⟩ := R.cnt k i e
    refine ⟨c1, c2, ?_⟩
    show (if (k, i) = l then some o else st.heap (k, i)) = none
    rw [if_neg (fun (q : (k, i) = l) => hn (by rw [← q]; exact c3)), c3]
  sys := R.sys

noncomputable def Tie.bind (t : Tie) (l : Lbl) (a : Addr) (d : Option Addr) : Tie := { t with ρ := fun x => if x = l then some a else t.ρ x, δ := fun x => if x = l then d else t.δ x }

theorem Step.bind {k : Nat} {a : Addr} {d : Option Addr} {s' : Shared} (R : Rel G t st s) (hk : ∀ b o, s.heap.get? b = some o → s'.heap.get? b = some o) (hg : s'.gens = s.gens) (ho : s'.os = s.os)
    (fa : s.heap.get? a = none) (fd : ∀ x, d = some x → s.heap.get? x = none) : Step noX t (t.bind (k, st.cnt k) a d) s s' where
  le := ⟨fun l b e => by
      obtain ⟨c1, _, _⟩ := R.cnt k _ (Nat.le_refl _)
      show (if l = (k, st.cnt k) then some a else t.ρ l) = some b
      rw [if_neg (fun q => by rw [q, c1] at e; cases e)]; exact e,
    fun l b e => by
      obtain ⟨_, c2, _⟩ := R.cnt k _ (Nat.le_refl _)
      show (if l = (k, st.cnt k) then d else t.δ l) = some b
      rw [if_neg (fun q => by rw [q, c2] at e; cases e)]; exact e, rfl⟩
  keep b o e _ _ := hk b o e
  new b := by
    rintro ⟨l, e | e⟩
    · change (if l = (k, st.cnt k) then some a else t.ρ l) = some b at e
      split at e
      · cases e; exact .inr fa
      · exact .inl ⟨l, .inl e⟩
    · change (if l = (k, st.cnt k) then d else t.δ l) = some b at e
      split at e
      · exact .inr (fd b e)
      · exact .inl ⟨l, .inr e⟩
  live b o e := by rw [hk b o e]; rfl
  gens := hg
  os := ho

theorem Rel.bind {k : Nat} {a : Addr} {d : Option Addr} {s' : Shared} {o : MObj} (R : Rel G t st s) (hk : ∀ b o, s.heap.get? b = some o → s'.heap.get? b = some o) (hg : s'.gens = s.gens) (ho : s'.os = s.os)
    (fa : s.heap.get? a = none) (fd : ∀ x, d = some x → s.heap.get? x = none ∧ x ≠ a ∧ (s'.heap.get? x).isSome = true) (la : (s'.heap.get? a).isSome = true) (hsys : a ≠ sysModules)
    (hO : ObjOk G (t.bind (k, st.cnt k) a d) s'.heap (k, st.cnt k) o) : Rel G (t.bind (k, st.cnt k) a d) (st.new k o) s' := by
  have S := Step.bind (k := k) (d := d) R hk hg ho fa fun x e => (fd x e).1
  have c := R.cnt k _ (Nat.le_refl _)
  have nr : ∀ {l : Lbl} {b : Addr}, (t.bind (k, st.cnt k) a d).ρ l = some b → (l = (k, st.cnt k) ∧ b = a) ∨ (l ≠ (k, st.cnt k) ∧ t.ρ l = some b) := fun {l b} e => by
    change (if l = (k, st.cnt k) then some a else t.ρ l) = some b at e
    split at e
    · rename_i q; cases e; exact .inl ⟨q, rfl⟩
    · rename_i q; exact .inr ⟨q, e⟩
  have nd : ∀ {l : Lbl} {b : Addr}, (t.bind (k, st.cnt k) a d).δ l = some b → (l = (k, st.cnt k) ∧ d = some b) ∨ (l ≠ (k, st.cnt k) ∧ t.δ l = some b) := fun {l b} e => by
    change (if l = (k, st.cnt k) then d else t.δ l) = some b at e
    split at e
    · rename_i q; exact .inl ⟨q, e⟩
    · rename_i q; exact .inr ⟨q, e⟩
  have na : ¬ t.Avoid a := R.fresh fa
  have nx : ∀ x, d = some x → ¬ t.Avoid x := fun x e => R.fresh (fd x e).1
  refine ⟨fun b ob e => hk b ob (R.base b ob e), ?_, ?_, ?_, ?_, ?_, ?_, ?_, ?_, fun l e => by rcases nr e with ⟨_, z⟩ | ⟨_, z⟩; exact hsys z.symm; exact R.sys l z⟩
  · rintro b (⟨l, e | e⟩ | e)
    · rcases nr e with ⟨_, rfl⟩ | ⟨_, e⟩
      · cases q : G.h₀.get? b with
        | none => rfl
        | some ob => rw [R.base b ob q] at fa; cases fa
      · exact R.apart b (.inl ⟨l, .inl e⟩)
    · rcases nd e with ⟨_, e⟩ | ⟨_, e⟩
      · cases q : G.h₀.get? b with
        | none => rfl
        | some ob => have := (fd b e).1; rw [R.base b ob q] at this; cases this
      · exact R.apart b (.inl ⟨l, .inr e⟩)
    · exact R.apart b (.inr e)
  · rintro b (⟨l, e | e⟩ | e)
    · rcases nr e with ⟨_, rfl⟩ | ⟨_, e⟩
      · exact la
      · obtain ⟨ob, q⟩ := Option.isSome_iff_exists.mp (R.live b (.inl ⟨l, .inl e⟩)); rw [hk b ob q]; rfl
    · rcases nd e with ⟨_, e⟩ | ⟨_, e⟩
      · exact (fd b e).2.2
      · obtain ⟨ob, q⟩ := Option.isSome_iff_exists.mp (R.live b (.inl ⟨l, .inr e⟩)); rw [hk b ob q]; rfl
    · obtain ⟨ob, q⟩ := Option.isSome_iff_exists.mp (R.live b (.inr e)); rw [hk b ob q]; rfl
  · rintro b p ⟨l, e | e⟩
    · rcases nr e with ⟨_, rfl⟩ | ⟨_, e⟩
      · exact na (.inr p)
      · exact R.pv b p ⟨l, .inl e⟩
    · rcases nd e with ⟨_, e⟩ | ⟨_, e⟩
      · exact nx b e (.inr p)
      · exact R.pv b p ⟨l, .inr e⟩
  · intro l l' b e e'
    rcases nr e with ⟨q1, z1⟩ | ⟨_, e1⟩ <;> rcases nr e' with ⟨q, z⟩ | ⟨_, e2⟩
    · exact q1.trans q.symm
    · exact (na (.inl ⟨l', .inl (z1 ▸ e2)⟩)).elim
    · exact (na (.inl ⟨l, .inl (z ▸ e1)⟩)).elim
    · exact R.injρ l l' b e1 e2
  · intro l l' b e e'
    rcases nd e with ⟨q1, z1⟩ | ⟨_, e1⟩ <;> rcases nd e' with ⟨q, z⟩ | ⟨_, e2⟩
    · exact q1.trans q.symm
    · exact (nx b z1 (.inl ⟨l', .inr e2⟩)).elim
    · exact (nx b z (.inl ⟨l, .inr e1⟩)).elim
    · exact R.injδ l l' b e1 e2
  · intro l l' b e e'
    rcases nr e with ⟨q1, z1⟩ | ⟨_, e1⟩ <;> rcases nd e' with ⟨q, z⟩ | ⟨_, e2⟩
    · exact (fd b z).2.1 z1
    · exact na (.inl ⟨l', .inr (z1 ▸ e2)⟩)
    · exact nx b z (.inl ⟨l, .inl e1⟩)
    · exact R.two l l' b e1 e2
  · intro l o' e
    change (if l = (k, st.cnt k) then some o else st.heap l) = some o' at e
    split at e
    · rename_i q; cases e; subst q; exact hO
    · exact (R.objs l o' e).step S (fun _ x => x.elim) fun b ob _ e => hk b ob e
  · intro k' i e
    change (if k' = k then st.cnt k + 1 else st.cnt k') ≤ i at e
    have ne : (k', i) ≠ (k, st.cnt k) := fun q => by
      cases q; rw [if_pos rfl] at e; omega
    have le : st.cnt k' ≤ i := by
      by_cases q : k' = k
      · subst q; rw [if_pos rfl] at e; omega
      · rw [if_neg q] at e; exact e
    obtain ⟨c1, c2, c3⟩ := R.cnt k' i le
    refine ⟨?_, ?_, ?_⟩
    · show (if (k', i) = (k, st.cnt k) then some a else t.ρ (k', i)) = none
      rw [if_neg ne]; exact c1
    · show (if (k', i) = (k, st.cnt k) then d else t.δ (k', i)) = none
      rw [if_neg ne]; exact c2
    · show (if (k', i) = (k, st.cnt k) then some o else st.heap (k', i)) = none
      rw [if_neg ne]; exact c3
end
end Mine
end

section
namespace Mine
open PySem PySem.W PyProof.Rows

structure Names where
  fn : Nat → PySem.Str
  cls : Nat → PySem.Str
  meth : Nat → PySem.Str
  attr : Nat → PySem.Str
  exc : Nat → PySem.Str
  gi : List (PySem.Str × Int)
  gs : List (PySem.Str × List Nat)

noncomputable abbrev Sc := List (PySem.Str × NameKind)
noncomputable abbrev Gam := List (Option PySem.Str)

noncomputable def glob (sc : Sc) (x : PySem.Str) : Bool := sc.lookup x == some .globalImplicit && x != ("__debug__" : PySem.Str)
noncomputable def kindName : Kind → Option PySem.Str
  | .int => some "int"
  | .bool => some "bool"
  | .str => some "str"
  | .list => some "list"
  | .tuple => some "tuple"
  | .valueError => some "ValueError"
  | .cls _ => none
noncomputable def chkKind (N : Names) (sc : Sc) : Kind → PySem.Expr → Bool
  | .cls c, .Name x _ => x == N.exc c && glob sc x
  | k, .Name x _ => kindName k == some x && glob sc x
  | _, _ => false
noncomputable def chkKinds (N : Names) (sc : Sc) : List Kind → List PySem.Expr → Bool
  | [], [] => true
  | k :: ks, e :: es => chkKind N sc k e && chkKinds N sc ks es
  | _, _ => false
noncomputable def opOf : Bop → Operator
  | .add => .Add | .sub => .Sub | .mul => .Mult | .fdiv => .FloorDiv | .mod => .Mod | .pow => .Pow
noncomputable def cmpOf : Cop → CmpOp
  | .eq => .Eq | .ne => .NotEq | .lt => .Lt | .le => .LtE | .gt => .Gt | .ge => .GtE | .isin => .In | .notin => .NotIn
noncomputable def primName : Prim → PySem.Str
  | .len => "len" | .max2 => "max" | .int1 => "int" | .sorted => "sorted" | .tuple1 => "tuple" | .list1 => "list" | .all1 => "all"
noncomputable def bmName : Bm → PySem.Str
  | .append => "append" | .extend => "extend" | .pop => "pop" | .insert => "insert" | .count => "count" | .get => "get" | .join => "join" | .upper => "upper"
noncomputable def compSc (sc : Sc) (names : Sc) : Sc := names.map fun x => if x.2 == .free && sc.lookup x.1 == some .cell then (x.1, .cell) else x
noncomputable def compGam (sc' : Sc) (Γ : Gam) (slot : Nat) (x : PySem.Str) : Gam := (Γ.map fun y => match y with | some n => if sc'.lookup n == some .cell then some n else none | none => none).set slot (some x)
noncomputable def compOk (sc : Sc) (scope : Scope) (slot : Nat) (Γ : Gam) (x : PySem.Str) : Bool :=
  scope.kind == .function && decide (slot < Γ.length) && scope.names.lookup x == some .local &&
  scope.names.all (fun y => y.2 != .cell && (y.2 != .local || scope.names.lookup y.1 == some .local) && (y.2 != .free || sc.lookup y.1 == some .cell))
end Mine
end

section
namespace Mine
open PySem PySem.W PyProof.Rows

structure AOk (d : Nat) (A : Around) : Prop where
  hd : A.handled = none
  dep : A.depth + 2 * d + 6 ≤ recursionLimit
  un : A.units + 20 * d + 110 ≤ cLine
structure AC (d : Nat) (A : Around) : Prop where
  hd : A.handled = none
  dep : A.depth + 2 * d + 5 ≤ recursionLimit
  un : A.units + 20 * d + 105 ≤ cLine
theorem AOk.ac {d : Nat} {A : Around} (h : AOk d A) : AC d A := ⟨h.hd, by have := h.dep; omega, by have := h.un; omega⟩

structure FrOk (G : Gd) (t : Tie) (env : Env) (Γ : Gam) (loc : Loc) (s : Shared) : Prop where
  fn : env.scope.kind = .function
  gl : env.globals = mainGlobals
  bl : env.builtins = builtinsNs
  pvl : t.pv env.locals
  pvc : ∀ n c, env.cells.lookup n = some c → t.pv c
  apart : ∀ n n' c, env.cells.lookup n = some c → env.cells.lookup n' = some c → n = n'
  ex : ∃ m cm : PySem.Str → Option Value, s.heap.Ns env.locals m ∧ (∀ n c, env.cells.lookup n = some c → s.heap.IsCell c (cm n)) ∧ (∀ x, env.kindOf x = some .cell → (env.cells.lookup x).isSome = true) ∧
    ∀ (i : Nat) (x : PySem.Str) (X : V), Γ[i]? = some (some x) → loc[i]? = some (some X) → ∃ v, VRel t s.heap X v ∧ ((env.kindOf x = some .local ∧ m x = some v) ∨ (env.kindOf x = some .cell ∧ cm x = some v))

theorem FrOk.step {G : Gd} {t t' : Tie} {env : Env} {Γ : Gam} {loc : Loc} {st : MS} {s s' : Shared} (F : FrOk G t env Γ loc s) (R : Rel G t st s) (S : Step noX t t' s s') : FrOk G t' env Γ loc s' where
  fn := F.fn
  gl := F.gl
  bl := F.bl
  pvl := by rw [S.le.pv]; exact F.pvl
  pvc n c h := by rw [S.le.pv]; exact F.pvc n c h
  apart := F.apart
  ex := by
    obtain ⟨m, cm, ⟨o, es, ep, ho, r⟩, hc, hz, hs⟩ := F.ex
    refine ⟨m, cm, ⟨o, es, ep, S.keep _ _ ho (R.pv _ F.pvl) (fun q => q), r⟩, fun n c e => ?_, hz, fun i x X e1 e2 => ?_⟩
    · obtain ⟨oc, h1, h2⟩ := hc n c e
      exact ⟨oc, S.keep _ _ h1 (R.pv _ (F.pvc n c e)) (fun q => q), h2⟩
    · obtain ⟨v, hv, r⟩ := hs i x X e1 e2
      exact ⟨v, VRel.step S (fun _ q => q.elim) X hv, r⟩

noncomputable def Sim (G : Gd) (A : Around) {α : Type} (t : Tie) (s : Shared) (tree : Sem α) (st' : MS) (rel : Tie → Shared → α → Prop) : Prop :=
  ∀ (Q : α → Shared → Prop) (E : Value → Shared → Prop), (∀ v t' s', Step noX t t' s s' → Rel G t' st' s' → rel t' s' v → Q v s') → wpAny G.M A tree Q E s

noncomputable abbrev vrel (X : V) : Tie → Shared → Value → Prop := fun t s v => VRel t s.heap X v
noncomputable abbrev vrels (X : List V) : Tie → Shared → List Value → Prop := fun t s v => VRels t s.heap X v

theorem Res.bind_ok {α β : Type} {r : Res α} {f : α → MS → Res β} {b : β} {s' : MS} (e : r.bind f = .ok b s') : ∃ a s, r = .ok a s ∧ f a s = .ok b s' := by
  cases r with
  | ok a s => exact ⟨a, s, rfl, e⟩
  | exc _ _ => cases e
  | stuck => cases e

noncomputable def CallsOk (G : Gd) (C : Calls) (d : Nat) : Prop :=
  ∀ f vs st X st', C f vs st = .ok X st' → ∀ A, AC d A → ∃ a, G.fa f = some a ∧ ∀ t s args, Rel G t st s → VRels t s.heap vs args → ∀ (B : Result → Shared → Prop),
    (∀ v t' s', Step noX t t' s s' → Rel G t' st' s' → VRel t' s'.heap X v → B (.ok (.ret v)) s') → codeAny G.M A (.call (.ref a) ⟨args, []⟩) B s

structure Gd.Ok (G : Gd) (N : Names) : Prop where
  K : G.K.In G.h₀
  g : G.h₀.Ns mainGlobals G.mg
  b : G.h₀.Ns builtinsNs G.mb
  bi : ∀ x : PySem.Str, x ≠ "__name__" → G.mb x = bootBuiltins x
  lim : G.h₀.NoLimit
  gi : ∀ x i, N.gi.contains (x, i) = true → ∃ k, G.mg x = some (.int i k)
  gs : ∀ x l, N.gs.contains (x, l) = true → ∃ k, G.mg x = some (.str (toStr l) k)
  an : ∀ i j, G.an i = G.an j → i = j
  attr : N.attr = G.an
  none : ∀ x, x ∈ (["len", "max", "int", "sorted", "tuple", "list", "all", "isinstance", "range", "dict", "bool", "str", "ValueError"] : List PySem.Str) → G.mg x = none

noncomputable def SimE (G : Gd) (C : Calls) (d : Nat) (sc : Sc) (Γ : Gam) (e : E) (ast : PySem.Expr) : Prop :=
  ∀ t st s env loc X st' A, AOk d A → env.scope.names = sc → FrOk G t env Γ loc s → Rel G t st s → ev G.P C e loc st = .ok X st' → Sim G A t s (eval ast env) st' (vrel X)
noncomputable def SimEs (G : Gd) (C : Calls) (d : Nat) (sc : Sc) (Γ : Gam) (l : List E) (m : List PySem.Expr) : Prop :=
  ∀ pos t st s env loc Xs st' A, AOk d A → env.scope.names = sc → FrOk G t env Γ loc s → Rel G t st s → evL G.P C l loc st = .ok Xs st' → Sim G A t s (spliced (backTo pos (starEach m env))) st' (vrels Xs)

section
variable {G : Gd} {N : Names} {C : Calls} {d : Nat} {sc : Sc} {Γ : Gam}

theorem Sim.here {A : Around} {α : Type} {t : Tie} {st : MS} {s : Shared} {tree : Sem α} {rel : Tie → Shared → α → Prop} (R : Rel G t st s)
    (h : ∀ (Q : α → Shared → Prop) (E : Value → Shared → Prop), (∀ v tk, rel t { s with toks := tk } v → Q v { s with toks := tk }) → wpAny G.M A tree Q E s) : Sim G A t s tree st rel :=
  fun Q E k => h Q E fun v tk r => k v t _ (Step.toks _ t s tk) (R.toks tk) r

theorem VRel.flat {t : Tie} {h h' : Heap} {X : V} {v : Value} (r : VRel t h X v) (e : h' = h) : VRel t h' X v := e ▸ r

theorem sim_none {k : Nat} {pos : Pos} : SimE G C d sc Γ .none (.Constant .none k pos) := by
  intro t st s env loc X st' A hA hsc F R e
  cases e
  exact Sim.here R fun Q E k => fun _ _ _ => k .none s.toks rfl
theorem sim_bool {b : Bool} {k : Nat} {pos : Pos} : SimE G C d sc Γ (.bool b) (.Constant (.bool b) k pos) := by
  intro t st s env loc X st' A hA hsc F R e
  cases e
  exact Sim.here R fun Q E k => fun _ _ _ => k (.bool b) s.toks rfl
theorem sim_int {i : Int} {k : Nat} {pos : Pos} : SimE G C d sc Γ (.int i) (.Constant (.int i) k pos) := by
  intro t st s env loc X st' A hA hsc F R e
  cases e
  exact Sim.here R fun Q E k => wpAny_Constant_int (k _ _ ⟨_, rfl⟩)
theorem sim_str {x : List Nat} {k : Nat} {pos : Pos} : SimE G C d sc Γ (.str x) (.Constant (.str (toStr x)) k pos) := by
  intro t st s env loc X st' A hA hsc F R e
  cases e
  exact Sim.here R fun Q E k => wpAny_Constant_str (k _ _ ⟨_, rfl⟩)
theorem sim_loc {i : Nat} {x : PySem.Str} {pos : Pos} (hx : Γ[i]? = some (some x)) (hd : (x == ("__debug__" : PySem.Str)) = false) : SimE G C d sc Γ (.loc i) (.Name x pos) := by
  intro t st s env loc X st' A hA hsc F R e
  rw [ev_loc] at e
  split at e
  · rename_i v hv
    cases e
    obtain ⟨m, cm, hn, hc, hz, hs⟩ := F.ex
    obtain ⟨y, hy, r⟩ := hs i x X hx hv
    refine Sim.here R fun Q E k => wpAny_Name ?_ hd
    rcases r with ⟨hk, hm⟩ | ⟨hk, hm⟩
    · exact wpAny_loadName_local F.fn hk hn hm (k y s.toks hy)
    · obtain ⟨c, hcl⟩ := Option.isSome_iff_exists.mp (hz x hk)
      exact wpAny_loadName_cell F.fn hk hcl (hm ▸ hc x c hcl) (k y s.toks hy)
  · cases e

theorem glob_name {A : Around} {t : Tie} {st : MS} {s : Shared} {env : Env} {loc : Loc} {x : PySem.Str} {pos : Pos} {v : Value} {Q : Value → Shared → Prop} {E : Value → Shared → Prop} (O : G.Ok N) (F : FrOk G t env Γ loc s) (R : Rel G t st s)
    (hsc : env.scope.names = sc) (hg : glob sc x = true) (hm : G.mg x = some v) (h : Q v s) : wpAny G.M A (eval (.Name x pos) env) Q E s := by
  simp only [glob, Bool.and_eq_true, beq_iff_eq, bne_iff_ne, ne_eq] at hg
  refine Calls.Name_function_global F.fn (by unfold Env.kindOf; rw [hsc]; exact hg.1) (Calls.loadGlobal_global (by rw [F.gl]; exact O.g.keeps R.base) hm h) (by simpa using hg.2)
theorem glob_built {A : Around} {t : Tie} {st : MS} {s : Shared} {env : Env} {loc : Loc} {x : PySem.Str} {pos : Pos} {v : Value} {Q : Value → Shared → Prop} {E : Value → Shared → Prop} (O : G.Ok N) (F : FrOk G t env Γ loc s) (R : Rel G t st s)
    (hsc : env.scope.names = sc) (hg : glob sc x = true) (hm : G.mg x = none) (hb : bootBuiltins x = some v) (hn : x ≠ "__name__") (h : Q v s) : wpAny G.M A (eval (.Name x pos) env) Q E s := by
  simp only [glob, Bool.and_eq_true, beq_iff_eq, bne_iff_ne, ne_eq] at hg
  refine Calls.Name_function_global F.fn (by unfold Env.kindOf; rw [hsc]; exact hg.1) (Calls.loadGlobal_builtin (by rw [F.gl]; exact O.g.keeps R.base) hm (by rw [F.bl]; exact O.b.keeps R.base) ((O.bi x hn).trans hb) h) (by simpa using hg.2)

theorem sim_es_nil : SimEs G C d sc Γ [] [] := by
  intro pos t st s env loc X st' A hA hsc F R e
  cases e
  exact fun Q E k => Calls.spliced_nil (k [] t s (.refl _ _ _) R rfl)
theorem sim_es_cons {e : E} {l : List E} {x : PySem.Expr} {m : List PySem.Expr} (hx : isStarred x = false) (h1 : SimE G C d sc Γ e x) (h2 : SimEs G C d sc Γ l m) : SimEs G C d sc Γ (e :: l) (x :: m) := by
  intro pos t st s env loc X st' A hA hsc F R q
  rw [evL_cons] at q
  obtain ⟨v, s1, q1, q⟩ := Res.bind_ok q
  obtain ⟨vs, s2, q2, q⟩ := Res.bind_ok q
  cases q
  intro Q E k
  have he : starEach (x :: m) env = (false, eval x env) :: starEach m env := by cases x <;> first | rfl | cases hx
  refine wpAny_items_cons (h1 t st s env loc v s1 A hA hsc F R q1 _ _ fun y t1 σ1 S1 R1 r1 => ?_) he
  refine h2 pos t1 s1 σ1 env loc vs st' A hA hsc (F.step R S1) R1 q2 _ _ fun ys t2 σ2 S2 R2 r2 => ?_
  exact k _ t2 σ2 (S1.trans S2) R2 ⟨y, ys, rfl, VRel.step S2 (fun _ z => z.elim) v r1, r2⟩
end
end Mine
end

section
namespace Mine
open PySem PySem.W PyProof.Rows PySem.SeqAt

section
variable {G : Gd} {t : Tie} {st : MS} {s : Shared}

theorem seqOf_real (R : Rel G t st s) {X : V} {v : Value} {k : Bool} {l : List V} (r : VRel t s.heap X v) (e : seqOf st X = some (k, l)) :
    ∃ a vs, v = .ref a ∧ (if k = true then PL s.heap a vs else PT s.heap a vs) ∧ VRels t s.heap l vs.toList ∧ l.length ≤ sizeMax := by
  cases X with
  | tup m => cases e; obtain ⟨a, vs, e1, e2, _, sz, e3⟩ := r; exact ⟨a, vs, e1, e2, e3, sz⟩
  | lst m => cases e; obtain ⟨a, vs, e1, e2, _, sz, e3⟩ := r; exact ⟨a, vs, e1, e2, e3, sz⟩
  | ref lb =>
    simp only [seqOf] at e
    split at e
    · rename_i m hm
      cases e
      obtain ⟨a, vs, h1, h2, sz, h3⟩ := R.objs lb _ hm
      obtain ⟨a', e1, e2⟩ := r
      rw [h1] at e2; cases e2
      exact ⟨a, vs, e1, h2, h3, sz⟩
    · cases e
  | _ => cases e

mutual
theorem VRel.inj (R : Rel G t st s) : ∀ (X Y : V) {v : Value}, VRel t s.heap X v → VRel t s.heap Y v → X = Y
  | .none, Y, v, h, h' => by
    cases h
    cases Y <;> first | rfl | (cases h'; done) | (obtain ⟨_, e⟩ := h'; cases e; done) | (obtain ⟨_, _, e, _⟩ := h'; cases e; done) | (obtain ⟨_, e, _⟩ := h'; cases e; done)
  | .bool b, Y, v, h, h' => by
    cases h
    cases Y <;> first | (cases h'; rfl) | (cases h'; done) | (obtain ⟨_, e⟩ := h'; cases e; done) | (obtain ⟨_, _, e, _⟩ := h'; cases e; done) | (obtain ⟨_, e, _⟩ := h'; cases e; done)
  | .int i, Y, v, ⟨k, h⟩, h' => by
    cases h
    cases Y <;> first | (obtain ⟨_, e⟩ := h'; cases e; first | rfl | done) | (cases h'; done) | (obtain ⟨_, _, e, _⟩ := h'; cases e; done) | (obtain ⟨_, e, _⟩ := h'; cases e; done)
  | .str x, Y, v, ⟨k, h⟩, h' => by
    cases h
    cases Y with
    | str y => obtain ⟨_, e⟩ := h'; simp only [Value.str.injEq, Str.mk.injEq] at e; have := congrArg Array.toList e.1; simp only [List.toList_toArray] at this; rw [this]
    | _ => first | (cases h'; done) | (obtain ⟨_, e⟩ := h'; cases e; done) | (obtain ⟨_, _, e, _⟩ := h'; cases e; done) | (obtain ⟨_, e, _⟩ := h'; cases e; done)
  | .tup l, Y, v, ⟨a, vs, h, ⟨n, ho⟩, na, _, hr⟩, h' => by
    cases h
    cases Y with
    | tup m =>
      obtain ⟨b, ws, e, ⟨n', ho'⟩, _, _, hr'⟩ := h'
      cases e; rw [ho] at ho'; cases ho'
      rw [VRels.inj R l m hr hr']
    | lst m =>
      obtain ⟨b, ws, e, ⟨n', ho'⟩, _, _, hr'⟩ := h'
      cases e; rw [ho] at ho'; simp at ho'
    | ref r => obtain ⟨b, e, hb⟩ := h'; cases e; exact (na (.inl ⟨r, .inl hb⟩)).elim
    | _ => first | (cases h'; done) | (obtain ⟨_, e⟩ := h'; cases e; done)
  | .lst l, Y, v, ⟨a, vs, h, ⟨n, ho⟩, na, _, hr⟩, h' => by
    cases h
    cases Y with
    | lst m =>
      obtain ⟨b, ws, e, ⟨n', ho'⟩, _, _, hr'⟩ := h'
      cases e; rw [ho] at ho'; cases ho'
      rw [VRels.inj R l m hr hr']
    | tup m =>
      obtain ⟨b, ws, e, ⟨n', ho'⟩, _, _, hr'⟩ := h'
      cases e; rw [ho] at ho'; simp at ho'
    | ref r => obtain ⟨b, e, hb⟩ := h'; cases e; exact (na (.inl ⟨r, .inl hb⟩)).elim
    | _ => first | (cases h'; done) | (obtain ⟨_, e⟩ := h'; cases e; done)
  | .ref l, Y, v, ⟨a, h, hl⟩, h' => by
    cases h
    cases Y with
    | ref r => obtain ⟨b, e, hb⟩ := h'; cases e; rw [R.injρ l r a hl hb]
    | tup m => obtain ⟨b, ws, e, _, na, _, _⟩ := h'; cases e; exact (na (.inl ⟨l, .inl hl⟩)).elim
    | lst m => obtain ⟨b, ws, e, _, na, _, _⟩ := h'; cases e; exact (na (.inl ⟨l, .inl hl⟩)).elim
    | _ => first | (cases h'; done) | (obtain ⟨_, e⟩ := h'; cases e; done)
  | .exc _, _, _, h, _ => h.elim
theorem VRels.inj (R : Rel G t st s) : ∀ (l m : List V) {vs : List Value}, VRels t s.heap l vs → VRels t s.heap m vs → l = m
  | [], m, vs, h, h' => by
    cases h
    cases m with
    | nil => rfl
    | cons y m => obtain ⟨_, _, e, _⟩ := h'; cases e
  | x :: l, m, vs, ⟨v, r, e, a, b⟩, h' => by
    subst e
    cases m with
    | nil => cases h'
    | cons y m => obtain ⟨v', r', e, a', b'⟩ := h'; cases e; rw [VRel.inj R x y a a', VRels.inj R l m b b']
end
theorem veq_go_spec (st : MS) (n : Nat) : ∀ (la lb : List V) (r : Bool), zipAll (veq st n) la lb = some r →
    (∀ (j : Nat) (x y : V), la[j]? = some x → lb[j]? = some y → ∃ b, veq st n x y = some b) ∧
    r = ((List.range (min la.length lb.length)).all (fun j => (veq st n ((la[j]?).getD .none) ((lb[j]?).getD .none)).getD false) && la.length == lb.length)
  | [], [], r, e => by simp only [zipAll] at e; cases e; exact ⟨fun j x y e => by simp at e, rfl⟩
  | [], y :: lb, r, e => by simp only [zipAll] at e; cases e; exact ⟨fun j x y e => by simp at e, by simp⟩
  | x :: la, [], r, e => by simp only [zipAll] at e; cases e; exact ⟨fun j x y _ e => by simp at e, by simp⟩
  | x :: la, y :: lb, r, e => by
    simp only [zipAll] at e
    split at e
    · rename_i p q hp hq
      cases e
      obtain ⟨h1, h2⟩ := veq_go_spec st n la lb q hq
      refine ⟨fun j x' y' e1 e2 => ?_, ?_⟩
      · cases j with
        | zero => simp at e1 e2; subst e1 e2; exact ⟨p, hp⟩
        | succ j => simp at e1 e2; exact h1 j x' y' e1 e2
      · have : min (x :: la).length (y :: lb).length = min la.length lb.length + 1 := by simp only [List.length_cons]; omega
        rw [this, List.range_succ_eq_map, List.all_cons, List.all_map, h2]
        simp [hp, Function.comp_def, Bool.and_assoc]
    · cases e

mutual
theorem veq_refl (st : MS) : ∀ (n : Nat) (X : V) (r : Bool), veq st n X X = some r → r = true
  | 0, _, _, e => by simp [veq] at e
  | n + 1, X, r, e => by
    unfold veq at e
    cases h : seqOf st X with
    | none => rw [h] at e; cases X <;> simp [eqFlat] at e <;> first | exact e.symm | exact e
    | some p =>
      obtain ⟨k, l⟩ := p
      rw [h] at e
      simp at e
      exact veq_go_refl st n l r e
theorem veq_go_refl (st : MS) : ∀ (n : Nat) (l : List V) (r : Bool), zipAll (veq st n) l l = some r → r = true
  | n, [], r, e => by simp only [zipAll] at e; cases e; rfl
  | n, x :: l, r, e => by
    simp only [zipAll] at e
    split at e
    · rename_i p q hp hq
      cases e
      rw [veq_refl st n x p hp, veq_go_refl st n l q hq]; rfl
    · cases e
end
theorem VRels.at {h : Heap} {l : List V} {vs : Array Value} (r : VRels t h l vs.toList) {j : Nat} (hj : j < vs.size) : ∃ x, l[j]? = some x ∧ VRel t h x vs[j] := by
  have hl := r.length
  have : j < l.length := by rw [← hl]; simpa using hj
  obtain ⟨v, e1, e2⟩ := r.get (i := j) (x := l[j]) (by simp [this])
  refine ⟨l[j], by simp [this], ?_⟩
  rw [Array.getElem?_toList, Array.getElem?_eq_getElem hj] at e1
  cases e1; exact e2

theorem veq_sound (R : Rel G t st s) : ∀ (n : Nat) (X Y : V) (v w : Value) (r : Bool) (A : Around), veq st n X Y = some r → VRel t s.heap X v → VRel t s.heap Y w → A.units + n < cLine → EqAt A s v w r
  | 0, _, _, _, _, _, _, e, _, _, _ => by simp [veq] at e
  | n + 1, X, Y, v, w, r, A, e, hX, hY, hu => by
    have e' := e
    unfold veq at e
    have hu0 : A.units < cLine := by omega
    cases hx : seqOf st X with
    | some p =>
      obtain ⟨ka, la⟩ := p
      obtain ⟨a, vs, rfl, ia, ra, _⟩ := seqOf_real R hX hx
      cases hy : seqOf st Y with
      | some p =>
        obtain ⟨kb, lb⟩ := p
        obtain ⟨b, ws, rfl, ib, rb, _⟩ := seqOf_real R hY hy
        rw [hx, hy] at e
        simp only at e
        by_cases hab : a = b
        · subst hab
          have : X = Y := VRel.inj R X Y hX hY
          subst this
          rw [veq_refl st _ X r e']
          exact EqAt.same _
        split at e
        · rename_i hk
          subst hk
          have hls : vs.size = la.length := by rw [← ra.length]; simp
          have hlb : ws.size = lb.length := by rw [← rb.length]; simp
          cases ka with
          | true =>
            simp only [if_true] at ia ib
            split at e
            · rename_i hne
              cases e
              exact .of_refs hab (RcAt.lists_lengths ia.isList ib.isList (by simp only [bne_iff_ne, ne_eq]; rw [hls, hlb]; exact hne.2) hu0)
            · rename_i hne
              have hlen : la.length = lb.length := by simpa using hne
              obtain ⟨g1, g2⟩ := veq_go_spec st n la lb r e
              refine .of_refs hab ?_
              have := RcAt.lists (e := fun j => (veq st n ((la[j]?).getD .none) ((lb[j]?).getD .none)).getD false) ia.isList ib.isList (by rw [hls, hlb]; exact hlen) hu0 (fun j h1 h2 => by
                obtain ⟨x, q1, q2⟩ := ra.at h1
                obtain ⟨y, q3, q4⟩ := rb.at h2
                obtain ⟨z, hz⟩ := g1 j x y q1 q3
                rw [q1, q3, Option.getD_some, Option.getD_some, hz]
                exact veq_sound R n x y _ _ z A.in1 hz q2 q4 (by show A.units + 1 + n < cLine; omega))
              rw [hls] at this
              rw [g2]
              have hm : min la.length lb.length = la.length := by omega
              rw [hm, hlen]
              rw [hlen] at this
              simpa using this
          | false =>
            simp only [Bool.false_eq_true, if_false, false_and] at ia ib e
            obtain ⟨g1, g2⟩ := veq_go_spec st n la lb r e
            refine .of_refs hab ?_
            have := RcAt.tuples (e := fun j => (veq st n ((la[j]?).getD .none) ((lb[j]?).getD .none)).getD false) ia.isTuple ib.isTuple hu0 (fun j h1 h2 => by
              obtain ⟨x, q1, q2⟩ := ra.at h1
              obtain ⟨y, q3, q4⟩ := rb.at h2
              obtain ⟨z, hz⟩ := g1 j x y q1 q3
              rw [q1, q3, Option.getD_some, Option.getD_some, hz]
              exact veq_sound R n x y _ _ z A.in1 hz q2 q4 (by show A.units + 1 + n < cLine; omega))
            rw [hls, hlb] at this
            rw [g2]; exact this
        · rename_i hk
          cases e
          cases ka <;> cases kb <;> simp at hk ia ib
          · exact EqAt.tuple_list ia.isTuple ib.isList hu0
          · exact EqAt.list_tuple ia.isList ib.isTuple hu0
      | none =>
        rw [hx, hy] at e
        cases ka with
        | true =>
          simp only [if_true] at ia
          cases Y <;> simp [eqNotSeq, eqFlat] at e
          · subst e; cases hY; exact EqAt.list_none ia.isList hu0
          · subst e; cases hY; exact EqAt.list_bool _ ia.isList hu0
          · subst e; obtain ⟨_, rfl⟩ := hY; exact EqAt.list_int _ _ ia.isList hu0
          · subst e; obtain ⟨_, rfl⟩ := hY; exact EqAt.list_str _ _ ia.isList hu0
        | false =>
          simp only [Bool.false_eq_true, if_false] at ia
          cases Y <;> simp [eqNotSeq, eqFlat] at e
          · subst e; cases hY; exact EqAt.tuple_none ia.isTuple hu0
          · subst e; cases hY; exact EqAt.tuple_bool _ ia.isTuple hu0
          · subst e; obtain ⟨_, rfl⟩ := hY; exact EqAt.tuple_int _ _ ia.isTuple hu0
          · subst e; obtain ⟨_, rfl⟩ := hY; exact EqAt.tuple_str _ _ ia.isTuple hu0
    | none =>
      cases hy : seqOf st Y with
      | some p =>
        obtain ⟨kb, lb⟩ := p
        obtain ⟨b, ws, rfl, ib, rb, _⟩ := seqOf_real R hY hy
        rw [hx, hy] at e
        cases kb with
        | true =>
          simp only [if_true] at ib
          cases X <;> simp [eqNotSeq, eqFlat] at e
          · subst e; cases hX; exact EqAt.none_list ib.isList hu0
          · subst e; cases hX; exact EqAt.bool_list _ ib.isList hu0
          · subst e; obtain ⟨_, rfl⟩ := hX; exact EqAt.int_list _ _ ib.isList hu0
          · subst e; obtain ⟨_, rfl⟩ := hX; exact EqAt.str_list _ _ ib.isList hu0
        | false =>
          simp only [Bool.false_eq_true, if_false] at ib
          cases X <;> simp [eqNotSeq, eqFlat] at e
          · subst e; cases hX; exact EqAt.none_tuple ib.isTuple hu0
          · subst e; cases hX; exact EqAt.bool_tuple _ ib.isTuple hu0
          · subst e; obtain ⟨_, rfl⟩ := hX; exact EqAt.int_tuple _ _ ib.isTuple hu0
          · subst e; obtain ⟨_, rfl⟩ := hX; exact EqAt.str_tuple _ _ ib.isTuple hu0
      | none =>
        rw [hx, hy] at e
        have strEq : ∀ a b : List Nat, (toStr a == toStr b) = decide (a = b) := fun a b => by
          by_cases q : a = b
          · subst q; simp
          · simp only [q, decide_false, beq_eq_false_iff_ne, ne_eq, Str.mk.injEq]; intro z; exact q (by simpa using congrArg Array.toList z)
        cases X with
        | none =>
          cases hX
          cases Y with
          | none => simp [eqNotSeq, eqFlat] at e; subst e; cases hY; exact EqAt.same _
          | bool y => simp [eqNotSeq, eqFlat] at e; subst e; cases hY; exact EqAt.none_bool _
          | int y => simp [eqNotSeq, eqFlat] at e; subst e; obtain ⟨_, rfl⟩ := hY; exact EqAt.none_int _ _
          | str y => simp [eqNotSeq, eqFlat] at e; subst e; obtain ⟨_, rfl⟩ := hY; exact EqAt.none_str _ _
          | _ => simp [eqNotSeq, eqFlat] at e
        | bool x =>
          cases hX
          cases Y with
          | none => simp [eqNotSeq, eqFlat] at e; subst e; cases hY; exact EqAt.bool_none _
          | bool y => simp [eqNotSeq, eqFlat] at e; subst e; cases hY; exact EqAt.bool_bool _ _
          | str y => simp [eqNotSeq, eqFlat] at e; subst e; obtain ⟨_, rfl⟩ := hY; exact EqAt.bool_str _ _ _
          | _ => simp [eqNotSeq, eqFlat] at e
        | int x =>
          obtain ⟨k, rfl⟩ := hX
          cases Y with
          | none => simp [eqNotSeq, eqFlat] at e; subst e; cases hY; exact EqAt.int_none _ _
          | int y => simp [eqNotSeq, eqFlat] at e; subst e; obtain ⟨_, rfl⟩ := hY; exact EqAt.int_int _ _ _ _
          | str y => simp [eqNotSeq, eqFlat] at e; subst e; obtain ⟨_, rfl⟩ := hY; exact EqAt.int_str _ _ _ _
          | _ => simp [eqNotSeq, eqFlat] at e
        | str x =>
          obtain ⟨k, rfl⟩ := hX
          cases Y with
          | none => simp [eqNotSeq, eqFlat] at e; subst e; cases hY; exact EqAt.str_none _ _
          | bool y => simp [eqNotSeq, eqFlat] at e; subst e; cases hY; exact EqAt.str_bool _ _ _
          | int y => simp [eqNotSeq, eqFlat] at e; subst e; obtain ⟨_, rfl⟩ := hY; exact EqAt.str_int _ _ _ _
          | str y => simp [eqNotSeq, eqFlat] at e; subst e; obtain ⟨_, rfl⟩ := hY; rw [← strEq]; exact EqAt.str_str _ _ _ _
          | _ => simp [eqNotSeq, eqFlat] at e
        | _ => simp [eqNotSeq, eqFlat] at e
end
end Mine
end

section
namespace Mine
open PySem PySem.W PyProof.Rows PySem.SeqAt

section
variable {G : Gd} {t : Tie} {st : MS} {s : Shared}

theorem strEq (a b : List Nat) : (toStr a == toStr b) = decide (a = b) := by
  by_cases q : a = b
  · subst q; simp
  · simp only [q, decide_false, beq_eq_false_iff_ne, ne_eq, Str.mk.injEq]; intro z; exact q (by simpa using congrArg Array.toList z)

theorem rc_sound (R : Rel G t st s) {n : Nat} {X Y : V} {v w : Value} {r : Bool} {A : Around} (e : veq st n X Y = some r) (hX : VRel t s.heap X v) (hY : VRel t s.heap Y w) (hu : A.units + n < cLine) :
    RcAt A s v w r ∧ RcNeAt A s v w (!r) := by
  cases n with
  | zero => simp [veq] at e
  | succ n =>
    unfold veq at e
    have hu0 : A.units < cLine := by omega
    cases hx : seqOf st X with
    | some p =>
      obtain ⟨ka, la⟩ := p
      obtain ⟨a, vs, rfl, ia, ra, _⟩ := seqOf_real R hX hx
      cases hy : seqOf st Y with
      | some p =>
        obtain ⟨kb, lb⟩ := p
        obtain ⟨b, ws, rfl, ib, rb, _⟩ := seqOf_real R hY hy
        rw [hx, hy] at e
        simp only at e
        have hls : vs.size = la.length := by rw [← ra.length]; simp
        have hlb : ws.size = lb.length := by rw [← rb.length]; simp
        split at e
        · rename_i hk
          subst hk
          cases ka with
          | true =>
            simp only [if_true] at ia ib
            split at e
            · rename_i hne
              cases e
              have : (vs.size != ws.size) = true := by simp only [bne_iff_ne, ne_eq]; rw [hls, hlb]; exact hne.2
              exact ⟨RcAt.lists_lengths ia.isList ib.isList this hu0, RcNeAt.lists_lengths ia.isList ib.isList this hu0⟩
            · rename_i hne
              have hlen : la.length = lb.length := by simpa using hne
              obtain ⟨g1, g2⟩ := veq_go_spec st n la lb r e
              have items : ∀ j (h1 : j < vs.size) (h2 : j < ws.size), EqAt A.in1 s vs[j] ws[j] ((veq st n ((la[j]?).getD .none) ((lb[j]?).getD .none)).getD false) := fun j h1 h2 => by
                obtain ⟨x, q1, q2⟩ := ra.at h1
                obtain ⟨y, q3, q4⟩ := rb.at h2
                obtain ⟨z, hz⟩ := g1 j x y q1 q3
                rw [q1, q3, Option.getD_some, Option.getD_some, hz]
                exact veq_sound R n x y _ _ z A.in1 hz q2 q4 (by show A.units + 1 + n < cLine; omega)
              have e1 := RcAt.lists (e := fun j => (veq st n ((la[j]?).getD .none) ((lb[j]?).getD .none)).getD false) ia.isList ib.isList (by rw [hls, hlb]; exact hlen) hu0 items
              have e2 := RcNeAt.lists (e := fun j => (veq st n ((la[j]?).getD .none) ((lb[j]?).getD .none)).getD false) ia.isList ib.isList (by rw [hls, hlb]; exact hlen) hu0 items
              have : r = (List.range vs.size).all fun j => (veq st n ((la[j]?).getD .none) ((lb[j]?).getD .none)).getD false := by
                rw [g2, hls, hlen]; simp
              rw [this]
              exact ⟨e1, e2⟩
          | false =>
            simp only [Bool.false_eq_true, if_false, false_and] at ia ib e
            obtain ⟨g1, g2⟩ := veq_go_spec st n la lb r e
            have items : ∀ j (h1 : j < vs.size) (h2 : j < ws.size), EqAt A.in1 s vs[j] ws[j] ((veq st n ((la[j]?).getD .none) ((lb[j]?).getD .none)).getD false) := fun j h1 h2 => by
              obtain ⟨x, q1, q2⟩ := ra.at h1
              obtain ⟨y, q3, q4⟩ := rb.at h2
              obtain ⟨z, hz⟩ := g1 j x y q1 q3
              rw [q1, q3, Option.getD_some, Option.getD_some, hz]
              exact veq_sound R n x y _ _ z A.in1 hz q2 q4 (by show A.units + 1 + n < cLine; omega)
            have e1 := RcAt.tuples (e := fun j => (veq st n ((la[j]?).getD .none) ((lb[j]?).getD .none)).getD false) ia.isTuple ib.isTuple hu0 items
            have e2 := RcNeAt.tuples (e := fun j => (veq st n ((la[j]?).getD .none) ((lb[j]?).getD .none)).getD false) ia.isTuple ib.isTuple hu0 items
            rw [hls, hlb, ← g2] at e1 e2
            exact ⟨e1, e2⟩
        · rename_i hk
          cases e
          cases ka <;> cases kb <;> simp at hk ia ib
          · exact ⟨RcAt.tuple_list ia.isTuple ib.isList hu0, RcNeAt.tuple_list ia.isTuple ib.isList hu0⟩
          · exact ⟨RcAt.list_tuple ia.isList ib.isTuple hu0, RcNeAt.list_tuple ia.isList ib.isTuple hu0⟩
      | none =>
        rw [hx, hy] at e
        cases ka with
        | true =>
          simp only [if_true] at ia
          cases Y <;> simp [eqNotSeq] at e
          · subst e; cases hY; exact ⟨RcAt.list_none ia.isList hu0, RcNeAt.list_none ia.isList hu0⟩
          · subst e; cases hY; exact ⟨RcAt.list_bool _ ia.isList hu0, RcNeAt.list_bool _ ia.isList hu0⟩
          · subst e; obtain ⟨_, rfl⟩ := hY; exact ⟨RcAt.list_int _ _ ia.isList hu0, RcNeAt.list_int _ _ ia.isList hu0⟩
          · subst e; obtain ⟨_, rfl⟩ := hY; exact ⟨RcAt.list_str _ _ ia.isList hu0, RcNeAt.list_str _ _ ia.isList hu0⟩
        | false =>
          simp only [Bool.false_eq_true, if_false] at ia
          cases Y <;> simp [eqNotSeq] at e
          · subst e; cases hY; exact ⟨RcAt.tuple_none ia.isTuple hu0, RcNeAt.tuple_none ia.isTuple hu0⟩
          · subst e; cases hY; exact ⟨RcAt.tuple_bool _ ia.isTuple hu0, RcNeAt.tuple_bool _ ia.isTuple hu0⟩
          · subst e; obtain ⟨_, rfl⟩ := hY; exact ⟨RcAt.tuple_int _ _ ia.isTuple hu0, RcNeAt.tuple_int _ _ ia.isTuple hu0⟩
          · subst e; obtain ⟨_, rfl⟩ := hY; exact ⟨RcAt.tuple_str _ _ ia.isTuple hu0, RcNeAt.tuple_str _ _ ia.isTuple hu0⟩
    | none =>
      cases hy : seqOf st Y with
      | some p =>
        obtain ⟨kb, lb⟩ := p
        obtain ⟨b, ws, rfl, ib, rb, _⟩ := seqOf_real R hY hy
        rw [hx, hy] at e
        cases kb with
        | true =>
          simp only [if_true] at ib
          cases X <;> simp [eqNotSeq] at e
          · subst e; cases hX; exact ⟨RcAt.none_list ib.isList hu0, RcNeAt.none_list ib.isList hu0⟩
          · subst e; cases hX; exact ⟨RcAt.bool_list _ ib.isList hu0, RcNeAt.bool_list _ ib.isList hu0⟩
          · subst e; obtain ⟨_, rfl⟩ := hX; exact ⟨RcAt.int_list _ _ ib.isList hu0, RcNeAt.int_list _ _ ib.isList hu0⟩
          · subst e; obtain ⟨_, rfl⟩ := hX; exact ⟨RcAt.str_list _ _ ib.isList hu0, RcNeAt.str_list _ _ ib.isList hu0⟩
        | false =>
          simp only [Bool.false_eq_true, if_false] at ib
          cases X <;> simp [eqNotSeq] at e
          · subst e; cases hX; exact ⟨RcAt.none_tuple ib.isTuple hu0, RcNeAt.none_tuple ib.isTuple hu0⟩
          · subst e; cases hX; exact ⟨RcAt.bool_tuple _ ib.isTuple hu0, RcNeAt.bool_tuple _ ib.isTuple hu0⟩
          · subst e; obtain ⟨_, rfl⟩ := hX; exact ⟨RcAt.int_tuple _ _ ib.isTuple hu0, RcNeAt.int_tuple _ _ ib.isTuple hu0⟩
          · subst e; obtain ⟨_, rfl⟩ := hX; exact ⟨RcAt.str_tuple _ _ ib.isTuple hu0, RcNeAt.str_tuple _ _ ib.isTuple hu0⟩
      | none =>
        rw [hx, hy] at e
        cases X with
        | none =>
          cases hX
          cases Y with
          | none => simp [eqFlat] at e; subst e; cases hY; exact ⟨RcAt.none_none, RcNeAt.none_none⟩
          | bool y => simp [eqFlat] at e; subst e; cases hY; exact ⟨RcAt.none_bool _, RcNeAt.none_bool _⟩
          | int y => simp [eqFlat] at e; subst e; obtain ⟨_, rfl⟩ := hY; exact ⟨RcAt.none_int _ _, RcNeAt.none_int _ _⟩
          | str y => simp [eqFlat] at e; subst e; obtain ⟨_, rfl⟩ := hY; exact ⟨RcAt.none_str _ _, RcNeAt.none_str _ _⟩
          | _ => simp [eqFlat] at e
        | bool x =>
          cases hX
          cases Y with
          | none => simp [eqFlat] at e; subst e; cases hY; exact ⟨RcAt.bool_none _, RcNeAt.bool_none _⟩
          | bool y => simp only [eqFlat] at e; cases e; cases hY; exact ⟨RcAt.bool_bool _ _, RcNeAt.bool_bool _ _⟩
          | str y => simp [eqFlat] at e; subst e; obtain ⟨_, rfl⟩ := hY; exact ⟨RcAt.bool_str _ _ _, RcNeAt.bool_str _ _ _⟩
          | _ => simp [eqFlat] at e
        | int x =>
          obtain ⟨k, rfl⟩ := hX
          cases Y with
          | none => simp [eqFlat] at e; subst e; cases hY; exact ⟨RcAt.int_none _ _, RcNeAt.int_none _ _⟩
          | int y => simp only [eqFlat] at e; cases e; obtain ⟨_, rfl⟩ := hY; exact ⟨RcAt.int_int _ _ _ _, RcNeAt.int_int _ _ _ _⟩
          | str y => simp [eqFlat] at e; subst e; obtain ⟨_, rfl⟩ := hY; exact ⟨RcAt.int_str _ _ _ _, RcNeAt.int_str _ _ _ _⟩
          | _ => simp [eqFlat] at e
        | str x =>
          obtain ⟨k, rfl⟩ := hX
          cases Y with
          | none => simp [eqFlat] at e; subst e; cases hY; exact ⟨RcAt.str_none _ _, RcNeAt.str_none _ _⟩
          | bool y => simp [eqFlat] at e; subst e; cases hY; exact ⟨RcAt.str_bool _ _ _, RcNeAt.str_bool _ _ _⟩
          | int y => simp [eqFlat] at e; subst e; obtain ⟨_, rfl⟩ := hY; exact ⟨RcAt.str_int _ _ _ _, RcNeAt.str_int _ _ _ _⟩
          | str y => simp only [eqFlat] at e; cases e; obtain ⟨_, rfl⟩ := hY; rw [← strEq]; exact ⟨RcAt.str_str _ _ _ _, RcNeAt.str_str _ _ _ _⟩
          | _ => simp [eqFlat] at e
        | _ => simp [eqFlat] at e

theorem vin_spec (st : MS) (x : V) : ∀ (l : List V) (r : Bool), vin st x l = some r → (∀ y ∈ l, ∃ b, veq st eqDeep y x = some b) ∧ r = l.any fun y => (veq st eqDeep y x).getD false
  | [], r, e => by simp only [vin] at e; cases e; simp
  | y :: l, r, e => by
    simp only [vin] at e
    split at e
    · rename_i p q hp hq
      cases e
      obtain ⟨h1, h2⟩ := vin_spec st x l q hq
      refine ⟨fun z hz => ?_, ?_⟩
      · rcases List.mem_cons.mp hz with rfl | hz
        · exact ⟨p, hp⟩
        · exact h1 z hz
      · rw [List.any_cons, hp, h2]; rfl
    · cases e
end
end Mine
end

section
namespace Mine
open PySem PySem.W PyProof.Rows PySem.SeqAt

section
variable {G : Gd} {N : Names} {C : Calls} {d : Nat} {sc : Sc} {Γ : Gam} {t : Tie} {st st' : MS} {s : Shared} {A : Around} {X Y Z : V} {v w : Value}

theorem AOk.u12 (h : AOk d A) : A.units + eqDeep < cLine := by have := h.un; unfold eqDeep; omega
theorem AOk.u1 (h : AOk d A) : A.units < cLine := by have := h.un; omega

theorem DRel.find {h : Heap} : ∀ {dd : List (V × V)} {kvs : List (PySem.Str × Value)} {x : List Nat}, DRel t h dd kvs →
    (match dfind (.str x) dd with | some X => ∃ y, valueAt kvs (toStr x) = some y ∧ VRel t h X y | none => valueAt kvs (toStr x) = none)
  | [], _, x, e => by cases e; simp [dfind, valueAt]
  | (k, u) :: r, _, x, ⟨z, y, rest, e1, e2, e3, e4⟩ => by
    subst e1 e2
    have ih := DRel.find (x := x) e4
    unfold dfind
    by_cases q : z = x
    · subst q; rw [if_pos rfl]; exact ⟨y, by simp [valueAt], e3⟩
    · have q' : ¬ (V.str z = V.str x) := fun z' => q (by cases z'; rfl)
      rw [if_neg q']
      have q2 : ¬ (toStr z = toStr x) := fun z' => q (by simpa using congrArg Array.toList (Str.mk.inj z'))
      have : valueAt ((toStr z, y) :: rest) (toStr x) = valueAt rest (toStr x) := by simp [valueAt, q2]
      rw [this]; exact ih

theorem cmp_sound {o : Cop} (R : Rel G t st s) (hA : AOk d A) (hX : VRel t s.heap X v) (hY : VRel t s.heap Y w) (e : cmpOp o X Y st = .ok Z st') : Sim G A t s (compareOp (cmpOf o) v w) st' (vrel Z) := by
  have plain : ∀ {op : CmpOp} {b : Bool}, (∀ (Q : Value → Shared → Prop) (E : Value → Shared → Prop), Q (.bool b) s → wpAny G.M A (compareOp op v w) Q E s) → Sim G A t s (compareOp op v w) st (vrel (.bool b)) :=
    fun h Q E k => h Q E (k _ t s (.refl _ _ _) R rfl)
  have memb : ∀ {b : Bool}, cmpOp.memb X Y st = some b → (∃ tk, ∀ (Q : Value → Shared → Prop) (E : Value → Shared → Prop), Q (.bool b) { s with toks := tk } → wpAny G.M A (compareOp .In v w) Q E s) ∧
      (∃ tk, ∀ (Q : Value → Shared → Prop) (E : Value → Shared → Prop), Q (.bool (!b)) { s with toks := tk } → wpAny G.M A (compareOp .NotIn v w) Q E s) := by
    intro b hb
    unfold cmpOp.memb at hb
    cases hs : seqOf st Y with
    | some p =>
      obtain ⟨k, l⟩ := p
      rw [hs] at hb
      simp only at hb
      obtain ⟨a, vs, rfl, ia, ra, _⟩ := seqOf_real R hY hs
      obtain ⟨g1, g2⟩ := vin_spec st X l b hb
      let e : Value → Bool := fun y => (l.zip vs.toList).any fun p => decide (p.2 = y) && (veq st eqDeep p.1 X).getD false
      have key : ∀ {m : List V} {ws : List Value}, VRels t s.heap m ws → (∀ y ∈ ws, ∃ Y', Y' ∈ m ∧ VRel t s.heap Y' y) := by
        intro m
        induction m with
        | nil => intro ws h y hy; cases h; cases hy
        | cons x m ih =>
          rintro ws ⟨u, r, rfl, h1, h2⟩ y hy
          rcases List.mem_cons.mp hy with rfl | hy
          · exact ⟨x, .head _, h1⟩
          · obtain ⟨Y', h3, h4⟩ := ih h2 y hy; exact ⟨Y', .tail _ h3, h4⟩
      have zipm : ∀ {m : List V} {ws : List Value}, VRels t s.heap m ws → ∀ p ∈ m.zip ws, VRel t s.heap p.1 p.2 := by
        intro m
        induction m with
        | nil => intro ws h p hp; simp at hp
        | cons x m ih =>
          rintro ws ⟨u, r, rfl, h1, h2⟩ p hp
          rcases List.mem_cons.mp hp with rfl | hp
          · exact h1
          · exact ih h2 p hp
      have zipin : ∀ {m : List V} {ws : List Value}, VRels t s.heap m ws → ∀ y ∈ ws, ∃ Y', (Y', y) ∈ m.zip ws := by
        intro m
        induction m with
        | nil => intro ws h y hy; cases h; cases hy
        | cons x m ih =>
          rintro ws ⟨u, r, rfl, h1, h2⟩ y hy
          rcases List.mem_cons.mp hy with rfl | hy
          · exact ⟨x, .head _⟩
          · obtain ⟨Y', h3⟩ := ih h2 y hy; exact ⟨Y', .tail _ h3⟩
      have ev : ∀ y ∈ vs, EqAt A.in1 s y v (e y) := by
        intro y hy
        obtain ⟨Y', h1⟩ := zipin ra y (Array.mem_toList_iff.mpr hy)
        have h2 := zipm ra _ h1
        obtain ⟨z, hz⟩ := g1 Y' (List.of_mem_zip h1).1
        have : e y = z := by
          show (l.zip vs.toList).any _ = z
          cases z with
          | true => exact List.any_eq_true.mpr ⟨_, h1, by simp [hz]⟩
          | false =>
            refine List.any_eq_false.mpr fun p hp => ?_
            by_cases q : p.2 = y
            · have h3 := zipm ra p hp
              rw [q] at h3
              have : p.1 = Y' := VRel.inj R _ _ h3 h2
              simp [q, this, hz]
            · simp [q]
        rw [this]
        exact veq_sound R _ Y' X y v z A.in1 hz h2 hX (by show A.units + 1 + eqDeep < cLine; have := hA.un; unfold eqDeep; omega)
      have anyE : vs.any e = b := by
        rw [g2, ← Array.any_toList]
        have : ∀ (m : List V) (ws : List Value), VRels t s.heap m ws → (∀ p ∈ m.zip ws, p ∈ l.zip vs.toList) → ws.any e = m.any fun y => (veq st eqDeep y X).getD false := by
          intro m
          induction m with
          | nil => intro ws h _; cases h; rfl
          | cons x m ih =>
            rintro ws ⟨u, r, rfl, h1, h2⟩ hsub
            rw [List.any_cons, List.any_cons, ih r h2 fun p hp => hsub p (.tail _ hp)]
            congr 1
            have hin : (x, u) ∈ l.zip vs.toList := hsub _ (.head _)
            obtain ⟨z, hz⟩ := g1 x (List.of_mem_zip hin).1
            show (l.zip vs.toList).any _ = _
            rw [hz, Option.getD_some]
            cases z with
            | true => exact List.any_eq_true.mpr ⟨_, hin, by simp [hz]⟩
            | false =>
              refine List.any_eq_false.mpr fun p hp => ?_
              by_cases q : p.2 = u
              · have h3 := zipm ra p hp
                rw [q] at h3
                have : p.1 = x := VRel.inj R _ _ h3 h1
                simp [q, this, hz]
              · simp [q]
        exact this l vs.toList ra fun p hp => hp
      cases k with
      | true =>
        simp only [if_true] at ia
        exact ⟨⟨s.toks, fun Q E q => in_listAt e ia.isList ev (by rw [anyE]; exact q)⟩, ⟨s.toks, fun Q E q => notIn_listAt e ia.isList ev (by rw [anyE]; exact q)⟩⟩
      | false =>
        simp only [Bool.false_eq_true, if_false] at ia
        exact ⟨⟨s.toks, fun Q E q => in_tupleAt e ia.isTuple ev (by rw [anyE]; exact q)⟩, ⟨s.toks, fun Q E q => notIn_tupleAt e ia.isTuple ev (by rw [anyE]; exact q)⟩⟩
    | none =>
      rw [hs] at hb
      cases Y with
      | str y =>
        simp only at hb
        split at hb
        · rename_i c
          cases hb
          obtain ⟨k1, rfl⟩ := hX
          obtain ⟨k2, rfl⟩ := hY
          have q := StrLaws.found_one (toStr y) c
          have q2 : (toStr y).cps.toList = y := by simp
          rw [q2] at q
          exact ⟨⟨s.toks, fun Q E h => PyProof.Rows.in_str (by rw [q]; exact h)⟩, ⟨s.toks, fun Q E h => PyProof.Rows.notIn_str (by rw [q]; exact h)⟩⟩
        · cases hb
      | ref r =>
        simp only at hb
        split at hb
        · rename_i dd hdd
          split at hb
          · rename_i hk
            cases hb
            obtain ⟨a, kvs, h1, h2, h3⟩ := R.objs r _ hdd
            obtain ⟨a', rfl, e2⟩ := hY
            rw [h1] at e2; cases e2
            have hsys : (a == sysModules) = false := by simp only [beq_eq_false_iff_ne, ne_eq]; rintro rfl; exact R.sys r h1
            cases X with
            | str x =>
              obtain ⟨k1, rfl⟩ := hX
              have f := DRel.find (x := x) h3
              have : (valueAt kvs (toStr x)).isSome = (dfind (.str x) dd).isSome := by
                cases q : dfind (.str x) dd with
                | none => rw [q] at f; rw [f]; rfl
                | some z => rw [q] at f; obtain ⟨y, e1, _⟩ := f; rw [e1]; rfl
              exact ⟨⟨s.toks + 1, fun Q E h => wpAny_in_of (strKind_is G.prog G.w (toStr x) k1) hsys h2.mapOf (by rw [this]; exact h)⟩,
                ⟨s.toks + 1, fun Q E h => wpAny_notIn_of (strKind_is G.prog G.w (toStr x) k1) hsys h2.mapOf (by rw [this]; exact h)⟩⟩
            | _ => cases hk
          · cases hb
        · cases hb
      | _ => simp [seqOf] at hs hb
  have okB' : ∀ {o : Option Bool}, okB st o = .ok Z st' → ∃ b, o = some b ∧ Z = .bool b ∧ st' = st := by
    intro o h; cases o with | none => cases h | some b => cases h; exact ⟨b, rfl, rfl, rfl⟩
  have intsW : ∀ {f : Int → Int → Bool}, (match X, Y with | .int x, .int y => Res.ok (V.bool (f x y)) st | _, _ => Res.stuck) = .ok Z st' → ∃ x y k1 k2, v = .int x k1 ∧ w = .int y k2 ∧ Z = .bool (f x y) ∧ st' = st := by
    intro f h
    split at h
    · cases h; obtain ⟨k1, rfl⟩ := hX; obtain ⟨k2, rfl⟩ := hY; exact ⟨_, _, k1, k2, rfl, rfl, rfl, rfl⟩
    · cases h
  cases o with
  | eq =>
    obtain ⟨b, h1, rfl, rfl⟩ := okB' e
    exact plain fun Q E q => (rc_sound R h1 hX hY hA.u12).1 _ _ _ _ q
  | ne =>
    obtain ⟨b, h1, rfl, rfl⟩ := okB' e
    obtain ⟨b', h2, rfl⟩ := Option.map_eq_some_iff.mp h1
    exact plain fun Q E q => (rc_sound R h2 hX hY hA.u12).2 _ _ _ _ q
  | lt => obtain ⟨x, y, k1, k2, rfl, rfl, rfl, rfl⟩ := intsW (f := fun x y => decide (x < y)) e; exact plain fun Q E q => PyProof.Rows.lt_int q
  | le => obtain ⟨x, y, k1, k2, rfl, rfl, rfl, rfl⟩ := intsW (f := fun x y => decide (x ≤ y)) e; exact plain fun Q E q => PyProof.Rows.le_int q
  | gt => obtain ⟨x, y, k1, k2, rfl, rfl, rfl, rfl⟩ := intsW (f := fun x y => decide (y < x)) e; exact plain fun Q E q => PyProof.Rows.gt_int q
  | ge => obtain ⟨x, y, k1, k2, rfl, rfl, rfl, rfl⟩ := intsW (f := fun x y => decide (y ≤ x)) e; exact plain fun Q E q => PyProof.Rows.ge_int q
  | isin =>
    obtain ⟨b, h1, rfl, rfl⟩ := okB' e
    obtain ⟨tk, h⟩ := (memb h1).1
    exact fun Q E k => h Q E (k _ t _ (Step.toks _ t s tk) (R.toks tk) rfl)
  | notin =>
    obtain ⟨b, h1, rfl, rfl⟩ := okB' e
    obtain ⟨b', h2, rfl⟩ := Option.map_eq_some_iff.mp h1
    obtain ⟨tk, h⟩ := (memb h2).2
    exact fun Q E k => h Q E (k _ t _ (Step.toks _ t s tk) (R.toks tk) rfl)
end
end Mine
end

section
namespace Mine
open PySem PySem.W PyProof.Rows PySem.SeqAt

section
variable {G : Gd} {N : Names} {C : Calls} {d : Nat} {sc : Sc} {Γ : Gam} {t : Tie} {st st' : MS} {s : Shared} {A : Around} {X Y Z : V} {v w : Value}

theorem size_none (h : Heap) : h.get? h.objs.size = none := by
  cases e : h.get? h.objs.size with
  | none => rfl
  | some o => exact absurd (Heap.lt_size e) (Nat.lt_irrefl _)

theorem Rel.push (R : Rel G t st s) (o : Obj) : Rel G t st { s with heap := s.heap.push o } := R.grow (fun _ _ e => Heap.get?_push_of_some o e) rfl rfl
theorem Step.push (R : Rel G t st s) (o : Obj) : Step noX t t s { s with heap := s.heap.push o } := Step.grow R (fun _ _ e => Heap.get?_push_of_some o e) rfl rfl
theorem VRel.newL (R : Rel G t st s) {l : List V} {vs : List Value} (r : VRels t s.heap l vs) (sz : l.length ≤ sizeMax) : VRel t (s.heap.push { cls := .type "list", data := .seq vs.toArray }) (.lst l) (.ref s.heap.objs.size) :=
  ⟨_, vs.toArray, rfl, ⟨_, Heap.get?_push_size _ rfl⟩, R.fresh (size_none _), sz, VRels.step (σ' := { s with heap := s.heap.push _ }) (Step.push R _) (fun _ q => q.elim) l r⟩
theorem VRel.newT (R : Rel G t st s) {l : List V} {vs : List Value} (r : VRels t s.heap l vs) (sz : l.length ≤ sizeMax) : VRel t (s.heap.push { cls := .type "tuple", data := .seq vs.toArray }) (.tup l) (.ref s.heap.objs.size) :=
  ⟨_, vs.toArray, rfl, ⟨_, Heap.get?_push_size _ rfl⟩, R.fresh (size_none _), sz, VRels.step (σ' := { s with heap := s.heap.push _ }) (Step.push R _) (fun _ q => q.elim) l r⟩
theorem Sim.newL (R : Rel G t st s) {l : List V} {vs : List Value} (r : VRels t s.heap l vs) (sz : l.length ≤ sizeMax) {tree : Sem Value}
    (h : ∀ (Q : Value → Shared → Prop) (E : Value → Shared → Prop), Q (.ref s.heap.objs.size) { s with heap := s.heap.push { cls := .type "list", data := .seq vs.toArray } } → wpAny G.M A tree Q E s) : Sim G A t s tree st (vrel (.lst l)) :=
  fun Q E k => h Q E (k _ t _ (Step.push R _) (R.push _) (VRel.newL R r sz))
theorem Sim.newT (R : Rel G t st s) {l : List V} {vs : List Value} (r : VRels t s.heap l vs) (sz : l.length ≤ sizeMax) {tree : Sem Value}
    (h : ∀ (Q : Value → Shared → Prop) (E : Value → Shared → Prop), Q (.ref s.heap.objs.size) { s with heap := s.heap.push { cls := .type "tuple", data := .seq vs.toArray } } → wpAny G.M A tree Q E s) : Sim G A t s tree st (vrel (.tup l)) :=
  fun Q E k => h Q E (k _ t _ (Step.push R _) (R.push _) (VRel.newT R r sz))
theorem intBits_eq (i : Int) : intBits i = Builtin.Int.intBits i := by
  unfold intBits Builtin.Int.intBits
  simp only [beq_iff_eq]

theorem mulOk_real {a b : Int} (h : mulOk a b = true) : IntMulOk a b := by
  simp only [mulOk, Bool.or_eq_true, decide_eq_true_eq] at h
  rcases h with (h | h) | h
  · exact IntMulOk.of_left (by rw [← intBits_eq]; exact h)
  · exact IntMulOk.of_right (by rw [← intBits_eq]; exact h)
  · exact mulOk_of_bits (m := intBits a) (n := intBits b) (by rw [intBits_eq]; exact Nat.le_refl _) (by rw [intBits_eq]; exact Nat.le_refl _) h

theorem noPylong {x y : Int} (h : ¬ 64 < intBits y) : Builtin.divisionGoesByPylong x y = false := by
  unfold Builtin.divisionGoesByPylong
  dsimp only
  have : ¬ ((if (y == 0) = true then 0 else y.natAbs.log2 / 30 + 1) > 300) := by
    unfold intBits at h
    split
    · omega
    · rename_i q
      rw [if_neg (by simpa using q)] at h
      omega
  rw [decide_eq_false this]; rfl

theorem seqAdd_sound (R : Rel G t st s) (hX : VRel t s.heap X v) (hY : VRel t s.heap Y w) (e : seqAdd X Y st = .ok Z st') : Sim G A t s (binaryOp .Add v w) st' (vrel Z) := by
  unfold seqAdd at e
  split at e
  · rename_i p q h1 h2
    obtain ⟨ka, x⟩ := p
    obtain ⟨kb, y⟩ := q
    split at e
    · rename_i hm
      cases e
      obtain ⟨rfl, hz⟩ := hm
      obtain ⟨aa, vs, rfl, ia, ra, _⟩ := seqOf_real R hX h1
      obtain ⟨bb, ws, rfl, ib, rb, _⟩ := seqOf_real R hY h2
      have e1 : (vs ++ ws) = (vs.toList ++ ws.toList).toArray := by simp
      have hls : vs.size = x.length := by rw [← ra.length]; simp
      have hlb : ws.size = y.length := by rw [← rb.length]; simp
      have hsz : vs.size + ws.size ≤ sizeLine := by rw [hls, hlb]; exact hz
      dsimp only at ia ib ⊢
      cases ka with
      | true =>
        simp only [if_true] at ia ib ⊢
        obtain ⟨n, ha⟩ := ia
        obtain ⟨n2, hb⟩ := ib
        refine Sim.newL R (ra.append rb) (by rw [List.length_append]; exact hz) fun Q E q => P.add_list ha hb (by rw [e1]; exact q) hsz
      | false =>
        simp only [Bool.false_eq_true, if_false] at ia ib ⊢
        obtain ⟨n, ha⟩ := ia
        obtain ⟨n2, hb⟩ := ib
        have hX' : VRel t s.heap (.tup x) (.ref aa) := by
          cases X with
          | tup m => cases h1; exact hX
          | lst m => cases h1
          | ref r => simp only [seqOf] at h1; split at h1 <;> cases h1
          | _ => cases h1
        have hY' : VRel t s.heap (.tup y) (.ref bb) := by
          cases Y with
          | tup m => cases h2; exact hY
          | lst m => cases h2
          | ref r => simp only [seqOf] at h2; split at h2 <;> cases h2
          | _ => cases h2
        by_cases q1 : vs.isEmpty = true
        · have : x = [] := by
            have : vs = #[] := by simpa using q1
            subst this; exact List.length_eq_zero_iff.mp hls.symm
          subst this
          intro Q E k
          exact concat_meets ⟨_, ha, rfl⟩ ⟨_, hb, rfl⟩ noFill_tuple_add seq_tuple_add PySem.F.slot_tuple_add PySem.F.entry_tuple_add (PySem.F.args_tuple_add_2 _ _)
            (tuple_addW0 aa bb vs ws n n2 none none #[] #[] q1) ⟨ha, hb, k _ t s (.refl _ _ _) R hY'⟩
        · by_cases q2 : ws.isEmpty = true
          · have : y = [] := by
              have : ws = #[] := by simpa using q2
              subst this; exact List.length_eq_zero_iff.mp hlb.symm
            subst this
            intro Q E k
            exact concat_meets ⟨_, ha, rfl⟩ ⟨_, hb, rfl⟩ noFill_tuple_add seq_tuple_add PySem.F.slot_tuple_add PySem.F.entry_tuple_add (PySem.F.args_tuple_add_2 _ _)
              (tuple_addW1 aa bb vs ws n n2 none none #[] #[] q1 q2) ⟨ha, hb, k _ t s (.refl _ _ _) R (by rw [List.append_nil]; exact hX')⟩
          · refine Sim.newT R (ra.append rb) (by rw [List.length_append]; exact hz) fun Q E q => P.add_tuple ha hb q1 q2 (by rw [e1]; exact q) hsz
    · cases e
  · cases e

theorem p27 : (2 : Int) ^ 27 = 134217728 := by decide
theorem addS_sound {x y : List Nat} (R : Rel G t st s) (hX : VRel t s.heap (.str x) v) (hY : VRel t s.heap (.str y) w) (hm : x.length + y.length ≤ sizeMax) : Sim G A t s (binaryOp .Add v w) st (vrel (.str (x ++ y))) := by
  obtain ⟨k1, rfl⟩ := hX; obtain ⟨k2, rfl⟩ := hY
  intro Q E k
  refine PyProof.Rows.add_str (fun t' tk => ?_) ?_
  · refine k _ t _ (Step.toks _ t s tk) (R.toks tk) ⟨t', ?_⟩
    show Value.str (Str.mk x.toArray ++ Str.mk y.toArray) t' = _
    congr 1
    show Str.mk (x.toArray ++ y.toArray) = _
    simp
  · simpa [Str.length, sizeMax, sizeLine] using hm
theorem bin_sound {o : Bop} (O : G.Ok N) (R : Rel G t st s) (hA : AOk d A) (hX : VRel t s.heap X v) (hY : VRel t s.heap Y w) (e : binOp o X Y st = .ok Z st') : Sim G A t s (binaryOp (opOf o) v w) st' (vrel Z) := by
  have flat : ∀ {op : Operator} {x y z : Int}, (∀ (k1 k2 : Tok) (Q : Value → Shared → Prop) (E : Value → Shared → Prop), Q (.int z s.toks) { s with toks := s.toks + 1 } → wpAny G.M A (binaryOp op (.int x k1) (.int y k2)) Q E s) → VRel t s.heap (.int x) v → VRel t s.heap (.int y) w → Sim G A t s (binaryOp op v w) st (vrel (.int z)) := by
    rintro op x y z h ⟨k1, rfl⟩ ⟨k2, rfl⟩ Q E k
    exact h k1 k2 Q E (k _ t _ (Step.toks _ t s _) (R.toks _) ⟨_, rfl⟩)
  have addI : int2 X Y (fun x y => .ok (.int (x + y)) st) = .ok Z st' → Sim G A t s (binaryOp .Add v w) st' (vrel Z) := by
    intro e
    obtain ⟨x, y, rfl, rfl, e⟩ := int2_ok e
    cases e
    exact flat (fun _ _ Q E q => PyProof.Rows.add_int q) hX hY
  have mulI : int2 X Y (fun x y => if mulOk x y then .ok (.int (x * y)) st else .stuck) = .ok Z st' → Sim G A t s (binaryOp .Mult v w) st' (vrel Z) := by
    intro e
    obtain ⟨x, y, rfl, rfl, e⟩ := int2_ok e
    obtain ⟨hm, rfl, rfl⟩ := ite_ok e
    exact flat (fun _ _ Q E q => PyProof.Rows.mul_int q (mulOk_real hm)) hX hY
  cases o with
  | add =>
    cases X with
    | int x => exact addI e
    | str x =>
      obtain ⟨x, y, ex, rfl, e⟩ := str2_ok (a := .str x) (b := Y) (f := fun x y => if x.length + y.length ≤ sizeMax then .ok (.str (x ++ y)) st else .stuck) e
      obtain ⟨hm, rfl, rfl⟩ := ite_ok e
      cases ex
      exact addS_sound R hX hY hm
    | _ => exact seqAdd_sound R hX hY e
  | sub =>
    obtain ⟨x, y, rfl, rfl, e⟩ := int2_ok e
    cases e
    exact flat (fun _ _ Q E q => PyProof.Rows.sub_int q) hX hY
  | mul => exact mulI e
  | fdiv =>
    obtain ⟨x, y, rfl, rfl, e⟩ := int2_ok e
    obtain ⟨hm, rfl, rfl⟩ := ite_no e
    exact flat (fun _ _ Q E q => PyProof.Rows.floordiv_int (fun z => hm (.inl z)) q (.inl (noPylong fun z => hm (.inr z)))) hX hY
  | mod =>
    obtain ⟨x, y, rfl, rfl, e⟩ := int2_ok e
    obtain ⟨hm, rfl, rfl⟩ := ite_no e
    exact flat (fun _ _ Q E q => PyProof.Rows.mod_int' hm q) hX hY
  | pow =>
    obtain ⟨x, y, rfl, rfl, e⟩ := int2_ok e
    obtain ⟨hm, rfl, rfl⟩ := ite_ok e
    exact flat (fun _ _ Q E q => PyProof.Rows.pow_int hm.1 (by rw [← intBits_eq, p27]; exact hm.2) q) hX hY
end
end Mine
end

section
namespace Mine
open PySem PySem.W PyProof.Rows PySem.SeqAt

section
variable {G : Gd} {N : Names} {C : Calls} {d : Nat} {sc : Sc} {Γ : Gam}

theorem truth_ok {X : V} {st st' : MS} {b : Bool} (e : truth X st = .ok b st') : X = .bool b ∧ st' = st := by
  cases X <;> first | (cases e; exact ⟨rfl, rfl⟩) | cases e

theorem sim_not {a : E} {x : PySem.Expr} {pos : Pos} (ha : SimE G C d sc Γ a x) : SimE G C d sc Γ (.not a) (.UnaryOp .Not x pos) := by
  intro t st s env loc X st' A hA hsc F R e Q E k
  simp only [ev_none, ev_bool, ev_int, ev_str, ev_loc, ev_gint, ev_gstr, ev_neg, ev_not, ev_and, ev_or, ev_bin, ev_cmp, ev_cmp2, ev_isC, ev_tup, ev_lst, ev_lstM, ev_dictM, ev_sub, ev_slice, ev_attr, ev_call, ev_meth, ev_new, ev_isinst, ev_prim, ev_listM, ev_dictC, ev_bm, ev_comp] at e
  obtain ⟨v, s1, e1, e⟩ := Res.bind_ok e
  obtain ⟨b, s2, e2, e⟩ := Res.bind_ok e
  obtain ⟨rfl, rfl⟩ := truth_ok e2
  cases e
  refine wpAny_UnaryOp (ha t st s env loc _ _ A hA hsc F R e1 _ _ fun y t1 σ1 S1 R1 r1 => ?_)
  cases r1
  exact not_of (wpAny_truthy_bool (k _ t1 _ S1 R1 rfl))

theorem sim_bin (O : G.Ok N) {o : Bop} {a b : E} {x y : PySem.Expr} {pos : Pos} (ha : SimE G C d sc Γ a x) (hb : SimE G C d sc Γ b y) : SimE G C d sc Γ (.bin o a b) (.BinOp x (opOf o) y pos) := by
  intro t st s env loc X st' A hA hsc F R e Q E k
  simp only [ev_none, ev_bool, ev_int, ev_str, ev_loc, ev_gint, ev_gstr, ev_neg, ev_not, ev_and, ev_or, ev_bin, ev_cmp, ev_cmp2, ev_isC, ev_tup, ev_lst, ev_lstM, ev_dictM, ev_sub, ev_slice, ev_attr, ev_call, ev_meth, ev_new, ev_isinst, ev_prim, ev_listM, ev_dictC, ev_bm, ev_comp] at e
  obtain ⟨v1, s1, e1, e⟩ := Res.bind_ok e
  obtain ⟨v2, s2, e2, e⟩ := Res.bind_ok e
  refine wpAny_BinOp (ha t st s env loc _ _ A hA hsc F R e1 _ _ fun u t1 σ1 S1 R1 r1 => ?_)
  refine hb t1 s1 σ1 env loc _ _ A hA hsc (F.step R S1) R1 e2 _ _ fun w t2 σ2 S2 R2 r2 => ?_
  exact bin_sound O R2 hA (VRel.step S2 (fun _ z => z.elim) _ r1) r2 e _ _ fun z t3 σ3 S3 R3 r3 => k z t3 σ3 ((S1.trans S2).trans S3) R3 r3

theorem sim_cmp {o : Cop} {a b : E} {x y : PySem.Expr} {pos : Pos} (hm : behindInMarks (cmpOf o) y = false) (ha : SimE G C d sc Γ a x) (hb : SimE G C d sc Γ b y) : SimE G C d sc Γ (.cmp a o b) (.Compare x [cmpOf o] [y] pos) := by
  intro t st s env loc X st' A hA hsc F R e Q E k
  simp only [ev_none, ev_bool, ev_int, ev_str, ev_loc, ev_gint, ev_gstr, ev_neg, ev_not, ev_and, ev_or, ev_bin, ev_cmp, ev_cmp2, ev_isC, ev_tup, ev_lst, ev_lstM, ev_dictM, ev_sub, ev_slice, ev_attr, ev_call, ev_meth, ev_new, ev_isinst, ev_prim, ev_listM, ev_dictC, ev_bm, ev_comp] at e
  obtain ⟨v1, s1, e1, e⟩ := Res.bind_ok e
  obtain ⟨v2, s2, e2, e⟩ := Res.bind_ok e
  refine wpAny_Compare1 (ha t st s env loc _ _ A hA hsc F R e1 _ _ fun u t1 σ1 S1 R1 r1 => ?_) hm
  refine hb t1 s1 σ1 env loc _ _ A hA hsc (F.step R S1) R1 e2 _ _ fun w t2 σ2 S2 R2 r2 => ?_
  exact cmp_sound R2 hA (VRel.step S2 (fun _ z => z.elim) _ r1) r2 e _ _ fun z t3 σ3 S3 R3 r3 => k z t3 σ3 ((S1.trans S2).trans S3) R3 r3

theorem sim_tup {l : List E} {m : List PySem.Expr} {j : Nat} {pos : Pos} (h : SimEs G C d sc Γ l m) : SimE G C d sc Γ (.tup l) (.Tuple m j pos) := by
  intro t st s env loc X st' A hA hsc F R e Q E k
  simp only [ev_none, ev_bool, ev_int, ev_str, ev_loc, ev_gint, ev_gstr, ev_neg, ev_not, ev_and, ev_or, ev_bin, ev_cmp, ev_cmp2, ev_isC, ev_tup, ev_lst, ev_lstM, ev_dictM, ev_sub, ev_slice, ev_attr, ev_call, ev_meth, ev_new, ev_isinst, ev_prim, ev_listM, ev_dictC, ev_bm, ev_comp] at e
  obtain ⟨vs, s1, e1, e⟩ := Res.bind_ok e
  split at e
  · rename_i hz
    cases e
    refine wpAny_Tuple (h pos t st s env loc _ _ A hA hsc F R e1 _ _ fun ys t1 σ1 S1 R1 r1 => ⟨by rw [r1.length]; exact hz, ?_⟩)
    exact k _ t1 _ (S1.trans (Step.push R1 _)) (R1.push _) (VRel.newT R1 r1 hz)
  · cases e
theorem sim_lst {l : List E} {m : List PySem.Expr} {pos : Pos} (h : SimEs G C d sc Γ l m) : SimE G C d sc Γ (.lst l) (.List m pos) := by
  intro t st s env loc X st' A hA hsc F R e Q E k
  simp only [ev_none, ev_bool, ev_int, ev_str, ev_loc, ev_gint, ev_gstr, ev_neg, ev_not, ev_and, ev_or, ev_bin, ev_cmp, ev_cmp2, ev_isC, ev_tup, ev_lst, ev_lstM, ev_dictM, ev_sub, ev_slice, ev_attr, ev_call, ev_meth, ev_new, ev_isinst, ev_prim, ev_listM, ev_dictC, ev_bm, ev_comp] at e
  obtain ⟨vs, s1, e1, e⟩ := Res.bind_ok e
  split at e
  · rename_i hz
    cases e
    refine wpAny_List (h pos t st s env loc _ _ A hA hsc F R e1 _ _ fun ys t1 σ1 S1 R1 r1 => ⟨by rw [r1.length]; exact hz, ?_⟩)
    exact k _ t1 _ (S1.trans (Step.push R1 _)) (R1.push _) (VRel.newL R1 r1 hz)
  · cases e
theorem Rel.size_sys (O : G.Ok N) {t : Tie} {st : MS} {s : Shared} (R : Rel G t st s) : s.heap.objs.size ≠ sysModules := by
  obtain ⟨mc, ⟨o, es, ep, ho, _⟩, _⟩ := O.lim
  have := Heap.lt_size (R.base _ _ ho)
  intro q
  rw [q] at this
  exact absurd this (by decide)
theorem sim_lstM (O : G.Ok N) {kd : Nat} {l : List E} {m : List PySem.Expr} {pos : Pos} (h : SimEs G C d sc Γ l m) : SimE G C d sc Γ (.lstM kd l) (.List m pos) := by
  intro t st s env loc X st' A hA hsc F R e Q E k
  simp only [ev_none, ev_bool, ev_int, ev_str, ev_loc, ev_gint, ev_gstr, ev_neg, ev_not, ev_and, ev_or, ev_bin, ev_cmp, ev_cmp2, ev_isC, ev_tup, ev_lst, ev_lstM, ev_dictM, ev_sub, ev_slice, ev_attr, ev_call, ev_meth, ev_new, ev_isinst, ev_prim, ev_listM, ev_dictC, ev_bm, ev_comp] at e
  obtain ⟨vs, s1, e1, e⟩ := Res.bind_ok e
  split at e
  · rename_i hz
    cases e
    refine wpAny_List (h pos t st s env loc _ _ A hA hsc F R e1 _ _ fun ys t1 σ1 S1 R1 r1 => ⟨by rw [r1.length]; exact hz, ?_⟩)
    have S2 := Step.bind (k := kd) (d := none) (s' := { σ1 with heap := σ1.heap.push { cls := .type "list", data := .seq ys.toArray } }) R1 (fun _ _ e => Heap.get?_push_of_some _ e) rfl rfl (size_none _) (fun x e => by cases e)
    have rho : (t1.bind (kd, s1.cnt kd) σ1.heap.objs.size none).ρ (kd, s1.cnt kd) = some σ1.heap.objs.size := by simp [Tie.bind]
    refine k _ _ _ (S1.trans S2) (Rel.bind R1 (fun _ _ e => Heap.get?_push_of_some _ e) rfl rfl (size_none _) (fun x e => by cases e) ?_ (R1.size_sys O) ⟨_, ys.toArray, rho, ⟨_, Heap.get?_push_size _ rfl⟩, hz, VRels.step S2 (fun _ q => q.elim) _ r1⟩) ⟨_, rfl, rho⟩
    show ((σ1.heap.push _).get? _).isSome = true; rw [Heap.get?_push_size _ rfl]; rfl
  · cases e
end
end Mine
end

section
namespace Mine
open PySem PySem.W PyProof.Rows PySem.SeqAt

noncomputable def SimT (G : Gd) (C : Calls) (d : Nat) (sc : Sc) (Γ : Gam) (e : E) (ast : PySem.Expr) : Prop :=
  ∀ t st s env loc b st' A, AOk d A → env.scope.names = sc → FrOk G t env Γ loc s → Rel G t st s → ev G.P C e loc st = .ok (.bool b) st' → Sim G A t s (isTrue ast env (eval ast env)) st' (fun _ _ b' => b' = b)

inductive SimL (G : Gd) (C : Calls) (d : Nat) (sc : Sc) (Γ : Gam) : List E → List PySem.Expr → Prop
  | nil : SimL G C d sc Γ [] []
  | cons {e : E} {l : List E} {x : PySem.Expr} {m : List PySem.Expr} : SimE G C d sc Γ e x → SimT G C d sc Γ e x → SimL G C d sc Γ l m → SimL G C d sc Γ (e :: l) (x :: m)

noncomputable def plainTest : PySem.Expr → Bool
  | .UnaryOp .Not _ _ | .BoolOp .. | .IfExp .. | .Compare .. => false
  | _ => true

section
variable {G : Gd} {N : Names} {C : Calls} {d : Nat} {sc : Sc} {Γ : Gam}

theorem sim_and {pos : Pos} : ∀ {l : List E} {m : List PySem.Expr}, SimL G C d sc Γ l m → ∀ t st s env loc X st' A, AOk d A → env.scope.names = sc → FrOk G t env Γ loc s → Rel G t st s → evAnd G.P C l loc st = .ok X st' →
    Sim G A t s (boolOp pos .And (evalEach m env)) st' (vrel X)
  | [], _, _ => by intro t st s env loc X st' A hA hsc F R e; simp only [evAnd_nil, evAnd_one, evAnd_cons] at e; cases e
  | [e], _, .cons he _ .nil => by
    intro t st s env loc X st' A hA hsc F R q Q E k
    simp only [evAnd_nil, evAnd_one, evAnd_cons] at q
    exact he t st s env loc X st' A hA hsc F R q Q E k
  | e :: e' :: l, _, .cons he _ (.cons (x := x') (m := m') he' ht' r) => by
    intro t st s env loc X st' A hA hsc F R q Q E k
    simp only [evAnd_nil, evAnd_one, evAnd_cons] at q
    obtain ⟨v, s1, q1, q⟩ := Res.bind_ok q
    obtain ⟨b, s2, q2, qq⟩ := Res.bind_ok q
    obtain ⟨rfl, rfl⟩ := truth_ok q2
    show wpAny G.M A (do
      let v ← eval _ env
      standAt pos
      let t ← holding [v] (truthy v)
      match BoolOp.And, t with
      | .And, false | .Or, true => pure v
      | _, _ => boolOp pos .And (evalEach (x' :: m') env)) Q E s
    refine wpAny_bind (he t st s env loc _ _ A hA hsc F R q1 _ _ fun u t1 σ1 S1 R1 r1 => ?_)
    cases r1
    refine wpAny_bind (wpAny_standAt (wpAny_bind (wpAny_holding (wpAny_truthy_bool ?_))))
    cases b with
    | false => simp only [Bool.false_eq_true, if_false] at qq; cases qq; exact wpAny_pure (k _ t1 σ1 S1 R1 rfl)
    | true =>
      simp only [if_true] at qq
      exact sim_and (.cons he' ht' r) t1 _ σ1 env loc X st' A hA hsc (F.step R S1) R1 qq Q E fun u t2 σ2 S2 R2 r2 => k u t2 σ2 (S1.trans S2) R2 r2

theorem sim_or {pos : Pos} : ∀ {l : List E} {m : List PySem.Expr}, SimL G C d sc Γ l m → ∀ t st s env loc X st' A, AOk d A → env.scope.names = sc → FrOk G t env Γ loc s → Rel G t st s → evOr G.P C l loc st = .ok X st' →
    Sim G A t s (boolOp pos .Or (evalEach m env)) st' (vrel X)
  | [], _, _ => by intro t st s env loc X st' A hA hsc F R e; simp only [evOr_nil, evOr_one, evOr_cons] at e; cases e
  | [e], _, .cons he _ .nil => by
    intro t st s env loc X st' A hA hsc F R q Q E k
    simp only [evOr_nil, evOr_one, evOr_cons] at q
    exact he t st s env loc X st' A hA hsc F R q Q E k
  | e :: e' :: l, _, .cons he _ (.cons (x := x') (m := m') he' ht' r) => by
    intro t st s env loc X st' A hA hsc F R q Q E k
    simp only [evOr_nil, evOr_one, evOr_cons] at q
    obtain ⟨v, s1, q1, q⟩ := Res.bind_ok q
    obtain ⟨b, s2, q2, qq⟩ := Res.bind_ok q
    obtain ⟨rfl, rfl⟩ := truth_ok q2
    show wpAny G.M A (do
      let v ← eval _ env
      standAt pos
      let t ← holding [v] (truthy v)
      match BoolOp.Or, t with
      | .And, false | .Or, true => pure v
      | _, _ => boolOp pos .Or (evalEach (x' :: m') env)) Q E s
    refine wpAny_bind (he t st s env loc _ _ A hA hsc F R q1 _ _ fun u t1 σ1 S1 R1 r1 => ?_)
    cases r1
    refine wpAny_bind (wpAny_standAt (wpAny_bind (wpAny_holding (wpAny_truthy_bool ?_))))
    cases b with
    | true => simp only [if_true] at qq; cases qq; exact wpAny_pure (k _ t1 σ1 S1 R1 rfl)
    | false =>
      simp only [Bool.false_eq_true, if_false] at qq
      exact sim_or (.cons he' ht' r) t1 _ σ1 env loc X st' A hA hsc (F.step R S1) R1 qq Q E fun u t2 σ2 S2 R2 r2 => k u t2 σ2 (S1.trans S2) R2 r2

theorem simE_and {l : List E} {m : List PySem.Expr} {pos : Pos} (h : SimL G C d sc Γ l m) : SimE G C d sc Γ (.and l) (.BoolOp .And m pos) := by
  intro t st s env loc X st' A hA hsc F R e
  simp only [ev_none, ev_bool, ev_int, ev_str, ev_loc, ev_gint, ev_gstr, ev_neg, ev_not, ev_and, ev_or, ev_bin, ev_cmp, ev_cmp2, ev_isC, ev_tup, ev_lst, ev_lstM, ev_dictM, ev_sub, ev_slice, ev_attr, ev_call, ev_meth, ev_new, ev_isinst, ev_prim, ev_listM, ev_dictC, ev_bm, ev_comp] at e
  exact sim_and h t st s env loc X st' A hA hsc F R e
theorem simE_or {l : List E} {m : List PySem.Expr} {pos : Pos} (h : SimL G C d sc Γ l m) : SimE G C d sc Γ (.or l) (.BoolOp .Or m pos) := by
  intro t st s env loc X st' A hA hsc F R e
  simp only [ev_none, ev_bool, ev_int, ev_str, ev_loc, ev_gint, ev_gstr, ev_neg, ev_not, ev_and, ev_or, ev_bin, ev_cmp, ev_cmp2, ev_isC, ev_tup, ev_lst, ev_lstM, ev_dictM, ev_sub, ev_slice, ev_attr, ev_call, ev_meth, ev_new, ev_isinst, ev_prim, ev_listM, ev_dictC, ev_bm, ev_comp] at e
  exact sim_or h t st s env loc X st' A hA hsc F R e

theorem simT_plain {e : E} {x : PySem.Expr} (hx : plainTest x = true) (h : SimE G C d sc Γ e x) : SimT G C d sc Γ e x := by
  intro t st s env loc b st' A hA hsc F R q Q E k
  have he : isTrue x env (eval x env) = (do let v ← eval x env; standAt x.pos; holding [v] (truthy v)) := by
    cases x <;> first | rfl | (cases hx; done) | skip
    rename_i op _ _
    cases op <;> first | rfl | cases hx
  rw [he]
  refine wpAny_bind (h t st s env loc _ _ A hA hsc F R q _ _ fun u t1 σ1 S1 R1 r1 => ?_)
  cases r1
  exact wpAny_bind (wpAny_standAt (wpAny_holding (wpAny_truthy_bool (k _ t1 σ1 S1 R1 rfl))))

theorem simT_not {a : E} {x : PySem.Expr} {pos : Pos} (ha : SimT G C d sc Γ a x) : SimT G C d sc Γ (.not a) (.UnaryOp .Not x pos) := by
  intro t st s env loc b st' A hA hsc F R e Q E k
  simp only [ev_none, ev_bool, ev_int, ev_str, ev_loc, ev_gint, ev_gstr, ev_neg, ev_not, ev_and, ev_or, ev_bin, ev_cmp, ev_cmp2, ev_isC, ev_tup, ev_lst, ev_lstM, ev_dictM, ev_sub, ev_slice, ev_attr, ev_call, ev_meth, ev_new, ev_isinst, ev_prim, ev_listM, ev_dictC, ev_bm, ev_comp] at e
  obtain ⟨v, s1, e1, e⟩ := Res.bind_ok e
  obtain ⟨c, s2, e2, ee⟩ := Res.bind_ok e
  obtain ⟨rfl, rfl⟩ := truth_ok e2
  cases ee
  refine wpAny_isTrue_Not (ha t st s env loc _ _ A hA hsc F R e1 _ _ fun u t1 σ1 S1 R1 r1 => ?_)
  subst r1
  exact k _ t1 σ1 S1 R1 rfl

theorem simT_and : ∀ {l : List E} {m : List PySem.Expr}, SimL G C d sc Γ l m → ∀ t st s env loc b st' A, AOk d A → env.scope.names = sc → FrOk G t env Γ loc s → Rel G t st s → evAnd G.P C l loc st = .ok (.bool b) st' →
    Sim G A t s (PySem.allTrue .And m env) st' (fun _ _ b' => b' = b)
  | [], _, _ => by intro t st s env loc X st' A hA hsc F R e; simp only [evAnd_nil, evAnd_one, evAnd_cons] at e; cases e
  | [e], _, .cons (x := x) he ht .nil => by
    intro t st s env loc b st' A hA hsc F R q Q E k
    simp only [evAnd_nil, evAnd_one, evAnd_cons] at q
    refine wpAny_allTrue_And_cons (ht t st s env loc b st' A hA hsc F R q _ _ fun u t1 σ1 S1 R1 r1 => ?_)
    subst r1
    cases u with
    | false => exact k _ t1 σ1 S1 R1 rfl
    | true => exact wpAny_allTrue_And_nil (k _ t1 σ1 S1 R1 rfl)
  | e :: e' :: l, _, .cons he ht (.cons (x := x') (m := m') he' ht' r) => by
    intro t st s env loc b st' A hA hsc F R q Q E k
    simp only [evAnd_nil, evAnd_one, evAnd_cons] at q
    obtain ⟨v, s1, q1, q⟩ := Res.bind_ok q
    obtain ⟨c, s2, q2, qq⟩ := Res.bind_ok q
    obtain ⟨rfl, rfl⟩ := truth_ok q2
    refine wpAny_allTrue_And_cons (ht t st s env loc _ _ A hA hsc F R q1 _ _ fun u t1 σ1 S1 R1 r1 => ?_)
    subst r1
    cases u with
    | false => simp only [Bool.false_eq_true, if_false] at qq; cases qq; exact k _ t1 σ1 S1 R1 rfl
    | true =>
      simp only [if_true] at qq
      exact simT_and (.cons he' ht' r) t1 _ σ1 env loc b st' A hA hsc (F.step R S1) R1 qq Q E fun u t2 σ2 S2 R2 r2 => k u t2 σ2 (S1.trans S2) R2 r2
theorem simT_or : ∀ {l : List E} {m : List PySem.Expr}, SimL G C d sc Γ l m → ∀ t st s env loc b st' A, AOk d A → env.scope.names = sc → FrOk G t env Γ loc s → Rel G t st s → evOr G.P C l loc st = .ok (.bool b) st' →
    Sim G A t s (PySem.allTrue .Or m env) st' (fun _ _ b' => b' = b)
  | [], _, _ => by intro t st s env loc X st' A hA hsc F R e; simp only [evOr_nil, evOr_one, evOr_cons] at e; cases e
  | [e], _, .cons (x := x) he ht .nil => by
    intro t st s env loc b st' A hA hsc F R q Q E k
    simp only [evOr_nil, evOr_one, evOr_cons] at q
    refine wpAny_allTrue_Or_cons (ht t st s env loc b st' A hA hsc F R q _ _ fun u t1 σ1 S1 R1 r1 => ?_)
    subst r1
    cases u with
    | true => exact k _ t1 σ1 S1 R1 rfl
    | false => exact wpAny_allTrue_Or_nil (k _ t1 σ1 S1 R1 rfl)
  | e :: e' :: l, _, .cons he ht (.cons (x := x') (m := m') he' ht' r) => by
    intro t st s env loc b st' A hA hsc F R q Q E k
    simp only [evOr_nil, evOr_one, evOr_cons] at q
    obtain ⟨v, s1, q1, q⟩ := Res.bind_ok q
    obtain ⟨c, s2, q2, qq⟩ := Res.bind_ok q
    obtain ⟨rfl, rfl⟩ := truth_ok q2
    refine wpAny_allTrue_Or_cons (ht t st s env loc _ _ A hA hsc F R q1 _ _ fun u t1 σ1 S1 R1 r1 => ?_)
    subst r1
    cases u with
    | true => simp only [if_true] at qq; cases qq; exact k _ t1 σ1 S1 R1 rfl
    | false =>
      simp only [Bool.false_eq_true, if_false] at qq
      exact simT_or (.cons he' ht' r) t1 _ σ1 env loc b st' A hA hsc (F.step R S1) R1 qq Q E fun u t2 σ2 S2 R2 r2 => k u t2 σ2 (S1.trans S2) R2 r2
theorem simTE_and {l : List E} {m : List PySem.Expr} {pos : Pos} (h : SimL G C d sc Γ l m) : SimT G C d sc Γ (.and l) (.BoolOp .And m pos) := by
  intro t st s env loc X st' A hA hsc F R e
  simp only [ev_none, ev_bool, ev_int, ev_str, ev_loc, ev_gint, ev_gstr, ev_neg, ev_not, ev_and, ev_or, ev_bin, ev_cmp, ev_cmp2, ev_isC, ev_tup, ev_lst, ev_lstM, ev_dictM, ev_sub, ev_slice, ev_attr, ev_call, ev_meth, ev_new, ev_isinst, ev_prim, ev_listM, ev_dictC, ev_bm, ev_comp] at e
  exact simT_and h t st s env loc X st' A hA hsc F R e
theorem simTE_or {l : List E} {m : List PySem.Expr} {pos : Pos} (h : SimL G C d sc Γ l m) : SimT G C d sc Γ (.or l) (.BoolOp .Or m pos) := by
  intro t st s env loc X st' A hA hsc F R e
  simp only [ev_none, ev_bool, ev_int, ev_str, ev_loc, ev_gint, ev_gstr, ev_neg, ev_not, ev_and, ev_or, ev_bin, ev_cmp, ev_cmp2, ev_isC, ev_tup, ev_lst, ev_lstM, ev_dictM, ev_sub, ev_slice, ev_attr, ev_call, ev_meth, ev_new, ev_isinst, ev_prim, ev_listM, ev_dictC, ev_bm, ev_comp] at e
  exact simT_or h t st s env loc X st' A hA hsc F R e

theorem testChain1 {M : Model} {A : Around} {E : Value → Shared → Prop} {s : Shared} {env : Env} {x y : PySem.Expr} {op : CmpOp} {pos : Pos} {Q : Bool → Shared → Prop} (hm : behindInMarks op y = false)
    (h : wpAny M A (eval x env) (fun a s₁ => wpAny M A (eval y env) (fun b s₂ => wpAny M A (compareOp op a b) (fun c s₃ => ∃ z, c = .bool z ∧ Q z s₃) E s₂) E s₁) E s) :
    wpAny M A (isTrue (.Compare x [op] [y] pos) env (eval (.Compare x [op] [y] pos) env)) Q E s := by
  refine wpAny_isTrue_Compare1 (wpAny_mono h (fun a s₁ h₁ => wpAny_mono h₁ (fun b s₂ h₂ => wpAny_mono h₂ (fun c s₃ h₃ => ?_) fun _ _ e => e) fun _ _ e => e) fun _ _ e => e) hm
  obtain ⟨z, rfl, hz⟩ := h₃
  exact wpAny_truthy_bool hz

theorem simT_cmp {o : Cop} {a b : E} {x y : PySem.Expr} {pos : Pos} (hm : behindInMarks (cmpOf o) y = false) (ha : SimE G C d sc Γ a x) (hb : SimE G C d sc Γ b y) : SimT G C d sc Γ (.cmp a o b) (.Compare x [cmpOf o] [y] pos) := by
  intro t st s env loc c st' A hA hsc F R e Q E k
  simp only [ev_none, ev_bool, ev_int, ev_str, ev_loc, ev_gint, ev_gstr, ev_neg, ev_not, ev_and, ev_or, ev_bin, ev_cmp, ev_cmp2, ev_isC, ev_tup, ev_lst, ev_lstM, ev_dictM, ev_sub, ev_slice, ev_attr, ev_call, ev_meth, ev_new, ev_isinst, ev_prim, ev_listM, ev_dictC, ev_bm, ev_comp] at e
  obtain ⟨v1, s1, e1, e⟩ := Res.bind_ok e
  obtain ⟨v2, s2, e2, e⟩ := Res.bind_ok e
  refine testChain1 hm (ha t st s env loc _ _ A hA hsc F R e1 _ _ fun u t1 σ1 S1 R1 r1 => ?_)
  refine hb t1 s1 σ1 env loc _ _ A hA hsc (F.step R S1) R1 e2 _ _ fun w t2 σ2 S2 R2 r2 => ?_
  exact cmp_sound R2 hA (VRel.step S2 (fun _ z => z.elim) _ r1) r2 e _ _ fun z t3 σ3 S3 R3 r3 => ⟨c, r3, k c t3 σ3 ((S1.trans S2).trans S3) R3 rfl⟩

end
end Mine
end

section
namespace Mine
open PySem PySem.W PyProof.Rows PySem.SeqAt

section
variable {G : Gd} {N : Names} {C : Calls} {d : Nat} {sc : Sc} {Γ : Gam} {t : Tie} {st st' : MS} {s : Shared} {A : Around} {X Y Z : V} {v w : Value}

theorem idx_seqIndex {i : Int} {n j : Nat} (e : idx i n = some j) : seqIndex? i n = some j ∧ j < n := by
  unfold idx at e
  unfold seqIndex?
  split at e
  · split at e
    · cases e
      rename_i h1 h2
      have : ¬ i < 0 := by omega
      simp only [this, if_false]
      exact ⟨by simp; omega, by omega⟩
    · cases e
  · split at e
    · cases e
      rename_i h1 h2
      have : i < 0 := by omega
      simp only [this, if_true]
      exact ⟨by simp; omega, by omega⟩
    · cases e

noncomputable def notSlice : PySem.Expr → Bool
  | .Slice .. => false
  | _ => true
theorem subscripted_plain {slice : PySem.Expr} (h : notSlice slice = true) (o i : Value) : subscripted slice false o i = operate [o, i] (PySem.getItem o i) := by
  cases slice <;> first | rfl | cases h

theorem getItem_sound {value slice : PySem.Expr} (hs : notSlice slice = true) (R : Rel G t st s) (hA : AOk d A) (hX : VRel t s.heap X v) (hY : VRel t s.heap Y w) (e : getItem X Y st = .ok Z st') : Sim G A t s (subscriptTail value slice v w) st' (vrel Z) := by
  have hsz : (sizeMax : Int) < 2 ^ 62 := by decide
  have okV' : ∀ {o : Option V}, okV st o = .ok Z st' → o = some Z ∧ st' = st := by
    intro o h; cases o with | none => cases h | some b => cases h; exact ⟨rfl, rfl⟩
  cases Y with
  | int i =>
    obtain ⟨k, rfl⟩ := hY
    cases X with
    | str x =>
      simp only [getItem] at e
      split at e
      · rename_i hz
        obtain ⟨ez, rfl⟩ := okV' e
        obtain ⟨k1, rfl⟩ := hX
        obtain ⟨j, h1, h2⟩ := Option.bind_eq_some_iff.mp ez
        obtain ⟨c, h3, rfl⟩ := Option.map_eq_some_iff.mp h2
        obtain ⟨h4, h5⟩ := idx_seqIndex h1
        intro Q E q
        refine tail_any (typeIs_str s _ k1) PySem.F.slot_str_getitem.lookup (PyProof.Rows.getItem_str (c := c) ?_ ?_ (q _ t _ (Step.toks _ t s _) (R.toks _) ⟨_, rfl⟩)) (subscripted_plain hs _ _)
        · have hbd : -(2 ^ 63 : Int) ≤ i ∧ i < 2 ^ 63 := by
            unfold idx at h1
            split at h1
            · split at h1
              · omega
              · cases h1
            · split at h1
              · omega
              · cases h1
          simp only [Bool.or_eq_false_iff, decide_eq_false_iff_not]; omega
        · have : (toStr x).length = x.length := by simp [Str.length]
          rw [this, h4, Option.bind_some]
          show (x.toArray)[j]? = some c
          simpa using h3
      · cases e
    | _ =>
      simp only [getItem] at e
      split at e
      · rename_i kk l hl
        obtain ⟨ez, rfl⟩ := okV' e
        obtain ⟨j, h1, h2⟩ := Option.bind_eq_some_iff.mp ez
        obtain ⟨h4, h5⟩ := idx_seqIndex h1
        obtain ⟨a, vs, rfl, ia, ra, sz⟩ := seqOf_real R hX hl
        obtain ⟨y, h6, h7⟩ := ra.get h2
        have hls : vs.size = l.length := by rw [← ra.length]; simp
        have hbd : -(2 ^ 63 : Int) ≤ i ∧ i < 2 ^ 63 := by
          unfold idx at h1
          split at h1
          · split at h1
            · omega
            · cases h1
          · split at h1
            · omega
            · cases h1
        have hy : vs[j]? = some y := by rw [← Array.getElem?_toList]; exact h6
        cases kk with
        | true =>
          simp only [if_true] at ia
          intro Q E q
          refine tail_any ia.isList.typeIs slot_list_getitem.lookup ?_ (subscripted_plain hs _ _)
          by_cases h0 : 0 ≤ i
          · have : j = i.toNat := by
              unfold idx at h1; rw [if_pos h0] at h1; split at h1 <;> cases h1; rfl
            subst this
            exact wpAny_getItem_list ia.isList h0 hbd.2 hy (q _ t s (.refl _ _ _) R h7)
          · have e1 : vs = vs.toList.toArray := by simp
            rw [e1] at ia
            exact kde_getNeg ia.isList (by omega) hbd.1 (by rw [Array.length_toList, hls]; exact h4) h6 (q _ t s (.refl _ _ _) R h7)
        | false =>
          simp only [Bool.false_eq_true, if_false] at ia
          intro Q E q
          obtain ⟨n, ha⟩ := ia
          exact tail_any ⟨_, ha, rfl⟩ PySem.F.slot_tuple_getitem.lookup (P.getItem_tuple ha (by omega) hbd.2 (by rw [hls]; exact h4) hy (q _ t s (.refl _ _ _) R h7)) (subscripted_plain hs _ _)
      · cases e
  | str x =>
    obtain ⟨k, rfl⟩ := hY
    cases X with
    | ref r =>
      simp only [getItem] at e
      split at e
      · rename_i dd hdd
        simp only [V.isKey, if_true] at e
        obtain ⟨ez, rfl⟩ := okV' e
        obtain ⟨a, kvs, h1, h2, h3⟩ := R.objs r _ hdd
        obtain ⟨a', rfl, e2⟩ := hX
        rw [h1] at e2; cases e2
        have f := DRel.find (x := x) h3
        rw [ez] at f
        obtain ⟨y, f1, f2⟩ := f
        intro Q E q
        exact tail_any h2.mapOf.typeIs slot_dict_getitem.lookup (wpAny_getItem_of (strKind_is G.prog G.w (toStr x) k) h2.mapOf f1 (q _ t _ (Step.toks _ t s _) (R.toks _) f2)) (subscripted_plain hs _ _)
      · cases e
    | _ => simp [getItem] at e
  | _ => cases X <;> simp [getItem, V.isKey] at e <;> (split at e <;> simp at e)

theorem sim_sub {a b : E} {x y : PySem.Expr} {pos : Pos} (hs : notSlice y = true) (ha : SimE G C d sc Γ a x) (hb : SimE G C d sc Γ b y) : SimE G C d sc Γ (.sub a b) (.Subscript x y pos) := by
  intro t st s env loc X st' A hA hsc F R e Q E k
  simp only [ev_none, ev_bool, ev_int, ev_str, ev_loc, ev_gint, ev_gstr, ev_neg, ev_not, ev_and, ev_or, ev_bin, ev_cmp, ev_cmp2, ev_isC, ev_tup, ev_lst, ev_lstM, ev_dictM, ev_sub, ev_slice, ev_attr, ev_call, ev_meth, ev_new, ev_isinst, ev_prim, ev_listM, ev_dictC, ev_bm, ev_comp] at e
  obtain ⟨v1, s1, e1, e⟩ := Res.bind_ok e
  obtain ⟨v2, s2, e2, e⟩ := Res.bind_ok e
  refine Subscript_ (ha t st s env loc _ _ A hA hsc F R e1 _ _ fun u t1 σ1 S1 R1 r1 => ?_)
  refine hb t1 s1 σ1 env loc _ _ A hA hsc (F.step R S1) R1 e2 _ _ fun w t2 σ2 S2 R2 r2 => ?_
  exact getItem_sound hs R2 hA (VRel.step S2 (fun _ z => z.elim) _ r1) r2 e _ _ fun z t3 σ3 S3 R3 r3 => k z t3 σ3 ((S1.trans S2).trans S3) R3 r3

noncomputable def notSuper : PySem.Expr → Bool
  | .Call (.Name _ _) [] [] _ => false
  | _ => true
theorem base_plain {x : PySem.Expr} (h : notSuper x = true) (n : PySem.Str) (env : Env) : attributeBase x n env (eval x env) = eval x env := by
  unfold attributeBase
  split
  · cases h
  · rfl

structure ClsOk (G : Gd) (Ca : Addr) : Prop where
  ga : findIn G.K (.ref Ca) "__getattribute__" = some (some (.builtin "object.__getattribute__"))
  gt : findIn G.K (.ref Ca) "__getattr__" = some none
  sa : findIn G.K (.ref Ca) "__setattr__" = some (some (.builtin "object.__setattr__"))
  at_ : ∀ i, i < 13 → findIn G.K (.ref Ca) (G.an i) = some none
  cd : ∃ cd, clsIn G.K Ca = some cd ∧ cd.hasDict = true
  po : plainOver G.K Ca = true

end
end Mine
end

section
namespace Mine
open PySem PySem.W PyProof.Rows

section
variable {G : Gd} {N : Names} {C : Calls} {d : Nat} {sc : Sc} {Γ : Gam} {A : Around} {t : Tie} {st st' : MS} {s : Shared} {env : Env} {loc : Loc}

noncomputable def plainArgs (m : List PySem.Expr) : Bool := m.all fun x => !isStarred x

theorem star_false {x : PySem.Expr} (hx : isStarred x = false) (m : List PySem.Expr) (env : Env) : starEach (x :: m) env = (false, eval x env) :: starEach m env := by cases x <;> first | rfl | cases hx
theorem star_plain (pos : Pos) (env : Env) : ∀ {m : List PySem.Expr}, plainArgs m = true → (backTo pos (starEach m env)).any (·.1) = false
  | [], _ => rfl
  | x :: m, h => by
    simp only [plainArgs, List.all_cons, Bool.and_eq_true, Bool.not_eq_true'] at h
    rw [star_false h.1]
    exact star_plain pos env (m := m) h.2
theorem star_all (pos : Pos) (env : Env) {m : List PySem.Expr} (h : plainArgs m = true) : (backTo pos (starEach m env)).all (fun x => !x.1) = true := by
  have := star_plain pos env h
  rw [List.any_eq_false] at this
  rw [List.all_eq_true]
  intro x hx
  simpa using this x hx

theorem args_go {f : Value} {pos : Pos} {l : List E} {m : List PySem.Expr} {Vs : List V} {Q : Args → Shared → Prop} {E' : Value → Shared → Prop} (hm : plainArgs m = true) (hlm : l.length = m.length) (hl : SimEs G C d sc Γ l m) (hA : AOk d A) (hsc : env.scope.names = sc)
    (F : FrOk G t env Γ loc s) (R : Rel G t st s) (e : evL G.P C l loc st = .ok Vs st') (h : ∀ vs t' s', Step noX t t' s s' → Rel G t' st' s' → VRels t' s'.heap Vs vs → Q ⟨vs, []⟩ s') :
    wpAny G.M A (evalArgs f true (backTo pos (starEach m env)) []) Q E' s := by
  cases m with
  | nil =>
    cases l with
    | nil => cases e; exact evalArgs_nil3 (h [] t s (.refl _ _ _) R rfl)
    | cons a l => cases hlm
  | cons x m =>
    simp only [plainArgs, List.all_cons, Bool.and_eq_true, Bool.not_eq_true'] at hm
    have q := hl pos t st s env loc Vs st' A hA hsc F R e (fun vs s' => Q ⟨vs, []⟩ s') E' h
    rw [star_false hm.1] at q ⊢
    exact Calls.evalArgs_plain q

noncomputable def Keeps (G : Gd) (f : Value) : Prop := ∀ h, G.K.In h → ∃ k, (k = Keeper.frame ∨ k = Keeper.machine ∨ k = Keeper.boundFrame) ∧ Looks G.M h (keeperOf f) k
theorem keeps_b (id : String) : Keeps G (.builtin id) := fun _ _ => ⟨.machine, .inr (.inl rfl), Looks.of_pure rfl⟩
theorem keeps_t (id : String) : Keeps G (.type id) := fun _ _ => ⟨.machine, .inr (.inl rfl), Looks.of_pure rfl⟩
theorem keeps_r {a : Addr} (h : keepIn G.K (.ref a) = true) : Keeps G (.ref a) := fun _ X => keeps_K h _ X

theorem with_go {f : Value} {first : List Value} {pos : Pos} {l : List E} {m : List PySem.Expr} {Vs : List V} {Q : Value → Shared → Prop} {E' : Value → Shared → Prop} (O : G.Ok N) (hk : Keeps G f) (hm : plainArgs m = true) (hlm : l.length = m.length) (hl : SimEs G C d sc Γ l m) (hA : AOk d A) (hsc : env.scope.names = sc)
    (F : FrOk G t env Γ loc s) (R : Rel G t st s) (e : evL G.P C l loc st = .ok Vs st') (h : ∀ vs t' s', Step noX t t' s s' → Rel G t' st' s' → VRels t' s'.heap Vs vs → wpAny G.M A (call f (first ++ vs)) Q E' s') :
    wpAny G.M A (callWith pos f first (backTo pos (starEach m env)) []) Q E' s :=
  callWith_of (by rw [star_plain pos env hm]; rfl) hk (args_go hm hlm hl hA hsc F R e fun vs t' s' S R' r => ⟨O.K.keeps R'.base, h vs t' s' S R' r⟩)

structure FnOk (G : Gd) (N : Names) (f : Nat) (a : Addr) : Prop where
  keep : keepIn G.K (.ref a) = true
  name : N.fn f = Str.empty ∨ G.mg (N.fn f) = some (.ref a)

theorem call_wp {f : Nat} {a : Addr} {Vs : List V} {vs : List Value} {X : V} (O : CallsOk G C d) (hA : AC d A) (hf : G.fa f = some a) (R : Rel G t st s) (r : VRels t s.heap Vs vs) (e : C f Vs st = .ok X st') : Sim G A t s (call (.ref a) vs) st' (vrel X) := by
  obtain ⟨a', h1, h2⟩ := O f Vs st X st' e A hA
  rw [hf] at h1; cases h1
  exact fun Q E' k => wpAny_call (h2 t s vs R r _ fun v t' s' S R' q => k v t' s' S R' q)

theorem sim_call (O : G.Ok N) (CO : CallsOk G C d) (hfn : ∀ f a, G.fa f = some a → FnOk G N f a) {f : Nat} {l : List E} {m : List PySem.Expr} {np pos : Pos} (hne : N.fn f ≠ Str.empty) (hg : glob sc (N.fn f) = true) (hm : plainArgs m = true) (hlm : l.length = m.length) (hl : SimEs G C d sc Γ l m) :
    SimE G C d sc Γ (.call f l) (.Call (.Name (N.fn f) np) m [] pos) := by
  intro t st s env loc X st' A hA hsc F R e Q E k
  simp only [ev_none, ev_bool, ev_int, ev_str, ev_loc, ev_gint, ev_gstr, ev_neg, ev_not, ev_and, ev_or, ev_bin, ev_cmp, ev_cmp2, ev_isC, ev_tup, ev_lst, ev_lstM, ev_dictM, ev_sub, ev_slice, ev_attr, ev_call, ev_meth, ev_new, ev_isinst, ev_prim, ev_listM, ev_dictC, ev_bm, ev_comp] at e
  obtain ⟨Vs, s1, e1, e⟩ := Res.bind_ok e
  obtain ⟨a, h1, _⟩ := CO f Vs s1 X st' e A hA.ac
  have fo := hfn f a h1
  refine wpAny_Call_ofName (glob_name O F R hsc hg (fo.name.resolve_left hne) ?_)
  refine with_go O (keeps_r fo.keep) hm hlm hl hA hsc F R e1 fun vs t1 σ1 S1 R1 r1 => ?_
  exact call_wp CO hA.ac h1 R1 r1 e _ _ fun v t2 σ2 S2 R2 r2 => k v t2 σ2 (S1.trans S2) R2 r2

structure MethOk (G : Gd) (Ca : Addr) (x : PySem.Str) (a : Addr) : Prop where
  find : findIn G.K (.ref Ca) x = some (some (.ref a))
  typ : typeIn G.K (.ref a) = some (.type "function")
  keep : keepIn G.K (.ref a) = true
  notA : ∀ i, x ≠ G.an i

theorem meth_form {m : List PySem.Expr} {pos : Pos} {env : Env} (hm : plainArgs m = true) (h30 : m.length < 30) : methodCallForm (m.length + ([] : List Keyword).length) (backTo pos (starEach m env)) (backToKw pos (keywordEach [] env)) = true := by
  unfold methodCallForm
  rw [star_all pos env hm]
  show (true && true && decide (m.length + 0 + 0 < 30)) = true
  simpa using h30

structure NewOk (G : Gd) (N : Names) (c : Nat) (Ca fi : Addr) : Prop where
  keep : keepIn G.K (.ref Ca) = true
  name : G.mg (N.cls c) = some (.ref Ca)
  makes : makesIn G.K Ca = true
  init : findIn G.K (.ref Ca) "__init__" = some (some (.ref fi))
  fn : typeIn G.K (.ref fi) = some (.type "function")

theorem size_none1 (h : Heap) : h.get? (h.objs.size + 1) = none := by
  cases e : h.get? (h.objs.size + 1) with
  | none => rfl
  | some o => exact absurd (Heap.lt_size e) (Nat.not_lt.mpr (Nat.le_succ _))
end
end Mine
end

section
namespace Mine
open PySem PySem.W PyProof.Rows

section
variable {G : Gd} {N : Names} {C : Calls} {d : Nat} {sc : Sc} {Γ : Gam} {A : Around} {t : Tie} {st st' : MS} {s : Shared} {env : Env} {loc : Loc} {X Y Z : V} {v w : Value}

theorem VRel.madeL (R : Rel G t st s) {s' : Shared} {a : Addr} {l : List V} {vs : Array Value} (S : Step noX t t s s') (ha : s.heap.get? a = none) (ho : PL s'.heap a vs) (r : VRels t s.heap l vs.toList) (sz : l.length ≤ sizeMax) : VRel t s'.heap (.lst l) (.ref a) :=
  ⟨_, vs, rfl, ho, R.fresh ha, sz, VRels.step S (fun _ q => q.elim) l r⟩
theorem VRel.madeT (R : Rel G t st s) {s' : Shared} {a : Addr} {l : List V} {vs : Array Value} (S : Step noX t t s s') (ha : s.heap.get? a = none) (ho : PT s'.heap a vs) (r : VRels t s.heap l vs.toList) (sz : l.length ≤ sizeMax) : VRel t s'.heap (.tup l) (.ref a) :=
  ⟨_, vs, rfl, ho, R.fresh ha, sz, VRels.step S (fun _ q => q.elim) l r⟩

theorem size_of {h : Heap} {l : List V} {vs : Array Value} (r : VRels t h l vs.toList) : vs.size = l.length := by rw [← r.length]; simp

theorem none_later {h h' : Heap} (k : ∀ b o, h.get? b = some o → h'.get? b = some o) {a : Addr} (e : h'.get? a = none) : h.get? a = none := by
  cases q : h.get? a with
  | none => rfl
  | some o => rw [k a o q] at e; cases e

theorem fit63 {n : Nat} (h : n ≤ sizeMax) : (n : Int) < 2 ^ 63 := by unfold sizeMax at h; omega

theorem allTrue_spec {h : Heap} : ∀ {l : List V} {vs : List Value} {b : Bool}, VRels t h l vs → allTrue l = some b → ∃ bs : List Bool, vs = bs.map .bool ∧ b = bs.all id
  | [], _, _, r, e => by cases r; cases e; exact ⟨[], rfl, rfl⟩
  | .bool x :: l, _, _, ⟨v, r, rfl, a, c⟩, e => by
    simp only [allTrue, Option.map_eq_some_iff] at e
    obtain ⟨b', e1, rfl⟩ := e
    obtain ⟨bs, h1, h2⟩ := allTrue_spec c e1
    have a' : v = .bool x := a
    subst a'; subst h1
    exact ⟨x :: bs, rfl, by simp [h2]⟩
  | .none :: _, _, _, _, e => by cases e
  | .int _ :: _, _, _, _, e => by cases e
  | .str _ :: _, _, _, _, e => by cases e
  | .tup _ :: _, _, _, _, e => by cases e
  | .lst _ :: _, _, _, _, e => by cases e
  | .ref _ :: _, _, _, _, e => by cases e
  | .exc _ :: _, _, _, _, e => by cases e

theorem list_copy (R : Rel G t st s) {k : Bool} {l : List V} {T : PySem.Value → Prop} (hX : VRel t s.heap X v) (e : seqOf st X = some (k, l)) {Q : Value → Shared → Prop} {E' : Value → Shared → Prop}
    (h : ∀ h' (vs : Array Value), (∀ b o, s.heap.get? b = some o → h'.get? b = some o) → PL h' s.heap.objs.size vs → VRels t s.heap l vs.toList → l.length ≤ sizeMax → Q (.ref s.heap.objs.size) { s with heap := h' }) :
    wpAny G.M A (call (.type "list") [v]) Q E' s := by
  obtain ⟨a, vs, rfl, io, r, sz⟩ := seqOf_real R hX e
  have hz : vs.size ≤ sizeLine := by rw [size_of r]; exact sz
  cases k with
  | true =>
    simp only [if_true] at io
    obtain ⟨n, ho⟩ := io
    exact call_list_seq (hsz := hz) a (.inl rfl) ho rfl rfl fun h' c' hk hD => h h' vs hk ⟨c', hD⟩ r sz
  | false =>
    simp only [Bool.false_eq_true, if_false] at io
    obtain ⟨n, ho⟩ := io
    exact call_list_seq (hsz := hz) a (.inr rfl) ho rfl rfl fun h' c' hk hD => h h' vs hk ⟨c', hD⟩ r sz

noncomputable def primOk : Prim → Bool
  | .sorted => false
  | _ => true
noncomputable def primVal : Prim → Value
  | .len => .builtin "len" | .max2 => .builtin "max" | .int1 => .type "int" | .sorted => .builtin "sorted" | .tuple1 => .type "tuple" | .list1 => .type "list" | .all1 => .builtin "all"

theorem prim1_sound (p : Prim) (hp : primOk p = true) (R : Rel G t st s) (hA : AOk d A) (r : VRel t s.heap X v) (e : prim1 p X st = .ok Z st') : Sim G A t s (call (primVal p) [v]) st' (vrel Z) := by
  have int2 : ∀ {n : Int} {id : String}, (∀ (Q : Value → Shared → Prop) (E : Value → Shared → Prop), Q (.int n (s.toks + 1)) { s with toks := s.toks + 1 + 1 } → wpAny G.M A (call (.builtin id) [v]) Q E s) →
      Sim G A t s (call (.builtin id) [v]) st (vrel (.int n)) := fun h Q E k => h Q E (k _ t _ (Step.toks _ t s _) (R.toks _) ⟨_, rfl⟩)
  cases p with
  | len =>
    have seqs : ∀ {p : Bool × List V}, seqOf st X = some p → Sim G A t s (call (.builtin "len") [v]) st (vrel (.int p.2.length)) := by
      rintro ⟨k, l⟩ hr
      obtain ⟨a, vs, rfl, io, rr, sz⟩ := seqOf_real R r hr
      cases k with
      | true =>
        simp only [if_true] at io
        exact int2 fun Q E q => Calls.call_len_list io.isList (by rw [size_of rr]; exact fit63 sz) (by rw [size_of rr]; exact q)
      | false =>
        simp only [Bool.false_eq_true, if_false] at io
        exact int2 fun Q E q => PyProof.Rows.len_tuple io.isTup (by rw [size_of rr]; exact fit63 sz) (by rw [size_of rr]; exact q)
    simp only [prim1, lenV] at e
    split at e
    · split at e
      · rename_i x hz
        cases e
        obtain ⟨k, rfl⟩ := r
        have hl : (toStr x).length = x.length := by simp [toStr, PySem.Str.length]
        exact int2 fun Q E q => PySem.P.len_str (by rw [hl]; have := fit63 hz; omega) (by rw [hl]; exact q)
      · cases e
    · split at e
      · rename_i hr; cases e; exact seqs hr
      · cases e
  | int1 =>
    simp only [prim1] at e
    split at e
    · cases e
      have r' : v = .bool _ := r
      subst r'
      intro Q E k
      exact call_int_bool (k _ t _ (Step.toks _ t s _) (R.toks _) ⟨_, rfl⟩)
    · cases e
  | tuple1 =>
    simp only [prim1] at e
    split at e
    · rename_i p hr
      cases e
      obtain ⟨k, l⟩ := p
      obtain ⟨a, vs, rfl, io, rr, sz⟩ := seqOf_real R r hr
      cases k with
      | true =>
        simp only [if_true] at io
        intro Q E k
        refine call_tuple_list io.isList (fun h' hk => ?_) (by rw [size_of rr]; exact sz)
        have S : Step noX t t s { s with heap := h'.push { cls := .type "tuple", data := .seq vs } } := Step.grow R (fun b o e => Heap.get?_push_of_some _ (hk b o e)) rfl rfl
        exact k _ t _ S (R.grow (fun b o e => Heap.get?_push_of_some _ (hk b o e)) rfl rfl) (VRel.madeT R S (none_later hk (size_none h')) ⟨_, Heap.get?_push_size _ rfl⟩ rr sz)
      | false =>
        simp only [Bool.false_eq_true, if_false] at io
        intro Q E k
        refine call_tuple_same io.isTuple (k _ t s (.refl _ _ _) R ?_)
        cases X with
        | tup m => cases hr; exact r
        | lst m => cases hr
        | ref r => simp only [seqOf] at hr; split at hr <;> cases hr
        | _ => cases hr
    · cases e
  | list1 =>
    simp only [prim1] at e
    split at e
    · rename_i p hr
      cases e
      obtain ⟨k, l⟩ := p
      intro Q E q
      refine list_copy (T := fun _ => True) R r hr fun h' vs hk hD rr sz => ?_
      have S : Step noX t t s { s with heap := h' } := Step.grow R hk rfl rfl
      exact q _ t _ S (R.grow hk rfl rfl) (VRel.madeL R S (size_none _) hD rr sz)
    · cases e
  | all1 =>
    simp only [prim1] at e
    split at e
    · rename_i l
      unfold okB at e
      split at e
      · rename_i b hb
        cases e
        obtain ⟨a, vs, rfl, io, _, sz, rr⟩ := r
        obtain ⟨bs, h1, h2⟩ := allTrue_spec rr hb
        intro Q E q
        refine call_all_walk (wpAny_pyIter_list io.isList ?_)
        have hne : a ≠ s.heap.objs.size := fun z => by obtain ⟨n, ho⟩ := io; rw [z, size_none] at ho; cases ho
        have hsz : vs.size = bs.length := by rw [← Array.length_toList, h1]; simp
        refine ⟨_, _, _, _, _, _, fun i => (bs[i]?).getD false, rfl, Walks.list (A := A.in1) hA.hd _ a hne vs, ⟨⟨_, Heap.get?_push_size _ rfl, rfl, rfl⟩, io.isList.push _⟩, ?_, fun h' tk hk => ?_⟩
        · intro i u σ Q' E' hu hq
          rw [← Array.getElem?_toList, h1, List.getElem?_map] at hu
          obtain ⟨b0, hb0, rfl⟩ := Option.map_eq_some_iff.mp hu
          have hq : Q' ((bs[i]?).getD false) σ := hq
          rw [hb0] at hq
          exact wpAny_pure hq
        · have hall : ((List.range vs.size).all fun i => (bs[i]?).getD false) = b := by
            rw [hsz, h2]
            rw [Bool.eq_iff_iff, List.all_eq_true, List.all_eq_true]
            constructor
            · intro h x hx
              obtain ⟨i, hi, rfl⟩ := List.mem_iff_getElem.mp hx
              have := h i (List.mem_range.mpr hi)
              simpa [hi] using this
            · intro h i hi
              have hi := List.mem_range.mp hi
              simpa [hi] using h bs[i] (List.getElem_mem hi)
          rw [hall]
          have hk' : ∀ b o, s.heap.get? b = some o → h'.get? b = some o := fun b o e => hk b o (fun z => by simp at z; rw [z, size_none] at e; cases e) (Heap.get?_push_of_some _ e)
          exact q _ t _ (Step.grow R hk' rfl rfl) (R.grow hk' rfl rfl) rfl
      · cases e
    · cases e
  | max2 => cases e
  | sorted => cases hp

theorem prim_sound (p : Prim) (hp : primOk p = true) {Vs : List V} {vs : List Value} (R : Rel G t st s) (hA : AOk d A) (r : VRels t s.heap Vs vs) (e : prim p Vs st = .ok Z st') : Sim G A t s (call (primVal p) vs) st' (vrel Z) := by
  unfold prim at e
  split at e
  · obtain ⟨v, _, rfl, r1, rfl⟩ := r
    exact prim1_sound p hp R hA r1 e
  · obtain ⟨v, _, rfl, r1, w, _, rfl, r2, rfl⟩ := r
    cases p with
    | max2 =>
      simp only [prim2] at e
      split at e
      · rename_i x y
        cases e
        obtain ⟨k1, rfl⟩ := r1
        obtain ⟨k2, rfl⟩ := r2
        intro Q E q
        refine max_two_ints hA.hd fun h' tk hk => ?_
        refine q _ t _ (Step.grow R hk rfl rfl) (R.grow hk rfl rfl) ?_
        by_cases z : x < y
        · rw [if_pos (show y > x from z), if_pos z]; exact ⟨_, rfl⟩
        · rw [if_neg (show ¬ y > x from z), if_neg z]; exact ⟨_, rfl⟩
      · cases e
    | _ => cases e
  · cases e

theorem built_glob (O : G.Ok N) (F : FrOk G t env Γ loc s) (R : Rel G t st s) {x : PySem.Str} {pos : Pos} {Q E' : Value → Shared → Prop} (hsc : env.scope.names = sc) (hg : glob sc x = true)
    (hx : x ∈ (["len", "max", "int", "sorted", "tuple", "list", "all", "isinstance", "range", "dict", "bool", "str", "ValueError"] : List PySem.Str)) (hb : bootBuiltins x = some v) (h : Q v s) : wpAny G.M A (eval (.Name x pos) env) Q E' s :=
  glob_built O F R hsc hg (O.none x hx) hb (by intro z; subst z; revert hx; decide) h

theorem prim_boot (p : Prim) (hp : primOk p = true) : bootBuiltins (primName p) = some (primVal p) := by
  cases p <;> first | exact absurd hp (by decide) | decide +kernel
theorem prim_in (p : Prim) : primName p ∈ (["len", "max", "int", "sorted", "tuple", "list", "all", "isinstance", "range", "dict", "bool", "str", "ValueError"] : List PySem.Str) := by cases p <;> decide
theorem prim_keeps (p : Prim) : Keeps G (primVal p) := by cases p <;> first | exact keeps_b _ | exact keeps_t _

theorem sim_prim (O : G.Ok N) {p : Prim} (hp : primOk p = true) {l : List E} {m : List PySem.Expr} {np pos : Pos} (hg : glob sc (primName p) = true) (hm : plainArgs m = true) (hlm : l.length = m.length) (hl : SimEs G C d sc Γ l m) :
    SimE G C d sc Γ (.prim p l) (.Call (.Name (primName p) np) m [] pos) := by
  intro t st s env loc X st' A hA hsc F R e Q E k
  simp only [ev_none, ev_bool, ev_int, ev_str, ev_loc, ev_gint, ev_gstr, ev_neg, ev_not, ev_and, ev_or, ev_bin, ev_cmp, ev_cmp2, ev_isC, ev_tup, ev_lst, ev_lstM, ev_dictM, ev_sub, ev_slice, ev_attr, ev_call, ev_meth, ev_new, ev_isinst, ev_prim, ev_listM, ev_dictC, ev_bm, ev_comp] at e
  obtain ⟨Vs, s1, e1, e⟩ := Res.bind_ok e
  refine wpAny_Call_ofName (built_glob O F R hsc hg (prim_in p) (prim_boot p hp) ?_)
  refine with_go O (prim_keeps p) hm hlm hl hA hsc F R e1 fun vs t1 σ1 S1 R1 r1 => ?_
  exact prim_sound p hp R1 hA r1 e _ _ fun v t2 σ2 S2 R2 r2 => k v t2 σ2 (S1.trans S2) R2 r2

end
end Mine
end

section
namespace Mine
open PySem PySem.W PyProof.Rows

section
variable {G : Gd} {N : Names} {C : Calls} {d : Nat} {sc : Sc} {Γ : Gam} {A : Around} {t : Tie} {st st' : MS} {s : Shared} {env : Env} {loc : Loc} {X Y Z : V} {v w : Value}

theorem listAt_real (R : Rel G t st s) {p : Lbl × List V} (hX : VRel t s.heap X v) (e : listAt X st = some p) :
    ∃ a vs n, v = .ref a ∧ t.ρ p.1 = some a ∧ s.heap.get? a = some { cls := .type "list", data := .seq vs n } ∧ VRels t s.heap p.2 vs.toList ∧ p.2.length ≤ sizeMax ∧ st.heap p.1 = some (.list p.2) := by
  cases X with
  | ref r =>
    simp only [listAt] at e
    split at e
    · rename_i l hr
      cases e
      obtain ⟨a, vs, h1, ⟨n, h2⟩, h3, h4⟩ := R.objs r _ hr
      obtain ⟨a', rfl, e2⟩ := hX
      rw [h1] at e2; cases e2
      exact ⟨a, vs, n, rfl, h1, h2, h4, h3, hr⟩
    · cases e
  | _ => cases e
theorem dictAt_real (R : Rel G t st s) {p : Lbl × List (V × V)} (hX : VRel t s.heap X v) (e : dictAt X st = some p) :
    ∃ a kvs, v = .ref a ∧ t.ρ p.1 = some a ∧ s.heap.DictOf (strKind G.prog G.w) a kvs ∧ DRel t s.heap p.2 kvs ∧ st.heap p.1 = some (.dict p.2) := by
  cases X with
  | ref r =>
    simp only [dictAt] at e
    split at e
    · rename_i l hr
      cases e
      obtain ⟨a, kvs, h1, h2, h3⟩ := R.objs r _ hr
      obtain ⟨a', rfl, e2⟩ := hX
      rw [h1] at e2; cases e2
      exact ⟨a, kvs, rfl, h1, h2, h3, hr⟩
    · cases e
  | _ => cases e

theorem list_upd (R : Rel G t st s) {r : Lbl} {a : Addr} {l l' : List V} {vs' : Array Value} {h' : Heap} {tk : Nat} (hr : st.heap r = some (.list l)) (ha : t.ρ r = some a) (hs : Heap.SameBut a s.heap h') (ho : PL h' a vs') (rr : VRels t s.heap l' vs'.toList) (sz : l'.length ≤ sizeMax) :
    Step noX t t s { s with heap := h', toks := tk } ∧ Rel G t (st.put r (.list l')) { s with heap := h', toks := tk } := by
  have hl : (h'.get? a).isSome = true := by obtain ⟨n, e⟩ := ho; rw [e]; rfl
  have S := Step.upd (t := t) (s := s) (tk := tk) ⟨r, .inl ha⟩ hl hs
  exact ⟨S, R.upd (l := r) (.inl ha) hl hs (by rw [hr]; exact fun q => by cases q) ⟨a, vs', ha, ho, sz, VRels.step S (fun _ z => z.elim) _ rr⟩⟩

theorem seq_upd (R : Rel G t st s) {r : Lbl} {a : Addr} {l l' : List V} {vs : Array Value} {n : Nat} {tk : Nat} {f : Array Value → Array Value} (hr : st.heap r = some (.list l)) (ha : t.ρ r = some a) (ho : s.heap.get? a = some { cls := .type "list", data := .seq vs n })
    (rr : VRels t s.heap l' (f vs).toList) (sz : l'.length ≤ sizeMax) :
    Step noX t t s { s with heap := s.heap.update a (Obj.mapSeq f), toks := tk } ∧ Rel G t (st.put r (.list l')) { s with heap := s.heap.update a (Obj.mapSeq f), toks := tk } :=
  list_upd R hr ha (Heap.SameBut.update ..) ⟨_, IsL.update ho f⟩ rr sz

noncomputable def bmVal : Bm → String
  | .append => "list.append" | .extend => "list.extend" | .pop => "list.pop" | .insert => "list.insert" | .count => "list.count" | .get => "dict.get" | .join => "str.join" | .upper => "str.upper"
noncomputable def bmType : Bm → String
  | .append => "list" | .extend => "list" | .pop => "list" | .insert => "list" | .count => "list" | .get => "dict" | .join => "str" | .upper => "str"
theorem bm_slot : (m : Bm) → Slot (bmType m) (bmName m) (bmVal m)
  | .append => PySem.F.slot_list_append
  | .extend => PySem.F.slot_list_extend
  | .pop => PySem.F.slot_list_pop
  | .insert => PySem.F.slot_list_insert
  | .count => PySem.F.slot_list_count
  | .get => PySem.F.slot_dict_get
  | .join => PySem.F.slot_str_join
  | .upper => PySem.F.slot_str_upper
theorem bm_type : (m : Bm) → typeOf (.builtin (bmVal m)) = pure (.type "method_descriptor")
  | .append => PySem.F.type_list_append
  | .extend => PySem.F.type_list_extend
  | .pop => PySem.F.type_list_pop
  | .insert => PySem.F.type_list_insert
  | .count => PySem.F.type_list_count
  | .get => PySem.F.type_dict_get
  | .join => PySem.F.type_str_join
  | .upper => PySem.F.type_str_upper
theorem bm_attrs : (m : Bm) → PlainAttrs (bmType m)
  | .append => PySem.F.plainAttrs_list
  | .extend => PySem.F.plainAttrs_list
  | .pop => PySem.F.plainAttrs_list
  | .insert => PySem.F.plainAttrs_list
  | .count => PySem.F.plainAttrs_list
  | .get => PySem.F.plainAttrs_dict
  | .join => PySem.F.plainAttrs_str
  | .upper => PySem.F.plainAttrs_str

theorem idx_fits {i : Int} {n j : Nat} (h : idx i n = some j) (hn : n ≤ sizeMax) : Builtin.List.listFitsIndex i = true := by
  unfold idx at h
  unfold sizeMax at hn
  unfold Builtin.List.listFitsIndex
  split at h <;> split at h <;> first | cases h | skip
  all_goals (simp; omega)

theorem bool_countP {h : Heap} : ∀ {l : List V} {vs : List Value}, allBool l = true → VRels t h l vs → (∀ y ∈ vs, ∃ b, y = .bool b) ∧ vs.countP (isBoolOf true) = l.countP (· = .bool true)
  | [], _, _, r => by cases r; exact ⟨fun y hy => (nomatch hy), rfl⟩
  | .bool b :: l, _, e, ⟨v, r, rfl, a, c⟩ => by
    have a' : v = .bool b := a
    subst a'
    obtain ⟨h1, h2⟩ := bool_countP (l := l) e c
    refine ⟨fun y hy => ?_, ?_⟩
    · rcases List.mem_cons.mp hy with rfl | hy
      · exact ⟨b, rfl⟩
      · exact h1 y hy
    · rw [List.countP_cons, List.countP_cons, h2]
      cases b <;> simp [isBoolOf]
  | .none :: _, _, e, _ => by cases e
  | .int _ :: _, _, e, _ => by cases e
  | .str _ :: _, _, e, _ => by cases e
  | .tup _ :: _, _, e, _ => by cases e
  | .lst _ :: _, _, e, _ => by cases e
  | .ref _ :: _, _, e, _ => by cases e
  | .exc _ :: _, _, e, _ => by cases e

theorem glue_fold : ∀ (l : List PySem.Str) (acc : Array Nat), (l.foldl (fun acc p => acc ++ (toStr []).cps ++ p.cps) acc).toList = acc.toList ++ (l.map (·.cps.toList)).flatten
  | [], acc => by simp
  | y :: l, acc => by
    rw [List.foldl_cons, glue_fold l]
    simp [toStr]
theorem join_nil (ys : List PySem.Str) : Txt.join (toStr []) ys = toStr (ys.map (·.cps.toList)).flatten := by
  have h : (Txt.join (toStr []) ys).cps.toList = (ys.map (·.cps.toList)).flatten := by
    cases ys with
    | nil => rfl
    | cons y l =>
      show (l.foldl (fun acc p => acc ++ (toStr []).cps ++ p.cps) y.cps).toList = _
      rw [glue_fold]; simp
  rw [← h]
theorem catStrs_real {h : Heap} : ∀ {l : List V} {vs : List Value} {x : List Nat}, catStrs l = some x → VRels t h l vs → ∃ ys : List PySem.Str, StrsAre vs ys ∧ (ys.map (·.cps.toList)).flatten = x ∧ (ys.map (·.length)).sum = x.length
  | [], _, _, e, r => by cases r; cases e; exact ⟨[], .nil, rfl, rfl⟩
  | .str y :: l, _, _, e, ⟨v, r, e0, ⟨k, e9⟩, c⟩ => by
    subst e0; subst e9
    simp only [catStrs, Option.map_eq_some_iff] at e
    obtain ⟨x', e1, rfl⟩ := e
    obtain ⟨ys, h1, h2, h3⟩ := catStrs_real e1 c
    refine ⟨toStr y :: ys, .cons _ _ h1, ?_, ?_⟩
    · rw [List.map_cons, List.flatten_cons, h2]
    · rw [List.map_cons, List.sum_cons, h3, List.length_append]; simp [toStr, PySem.Str.length]
  | .none :: _, _, _, e, _ => by cases e
  | .int _ :: _, _, _, e, _ => by cases e
  | .bool _ :: _, _, _, e, _ => by cases e
  | .tup _ :: _, _, _, e, _ => by cases e
  | .lst _ :: _, _, _, e, _ => by cases e
  | .ref _ :: _, _, _, e, _ => by cases e
  | .exc _ :: _, _, _, e, _ => by cases e

theorem bm1_sound {m : Bm} {W : V} (O : G.Ok N) (R : Rel G t st s) (hA : AOk d A) (r1 : VRel t s.heap X v) (r2 : VRel t s.heap W w) (e : bm1 m X W st = .ok Z st') : Sim G A t s (call (.builtin (bmVal m)) [v, w]) st' (vrel Z) := by
  cases m with
  | append =>
    simp only [bm1] at e
    split at e
    · rename_i p hp
      split at e
      · rename_i hz
        cases e
        obtain ⟨a, vs, n, rfl, h1, h2, h3, h4, h5⟩ := listAt_real R r1 hp
        intro Q E q
        have sz : vs.size ≤ sizeLine := by rw [size_of h3]; exact h4
        refine call_meets PySem.F.slot_list_append ⟨_, h2, rfl⟩ PySem.F.entry_list_append (PySem.F.args_list_append_2 _ _) (list_append a vs n w sz) ⟨h2, ?_⟩
        have u := seq_upd (tk := s.toks) (f := fun xs => xs.push w) (l' := p.2 ++ [W]) R h5 h1 h2 (by rw [Array.toList_push]; exact h3.append ⟨w, [], rfl, r2, rfl⟩) (by rw [List.length_append]; exact hz)
        exact q _ t _ u.1 u.2 rfl
      · cases e
    · cases e
  | extend =>
    simp only [bm1] at e
    split at e
    · rename_i p p2 hp hp2
      split at e
      · rename_i hz
        cases e
        obtain ⟨a, vs, n, rfl, h1, h2, h3, h4, h5⟩ := listAt_real R r1 hp
        obtain ⟨k, l2⟩ := p2
        obtain ⟨b, ws, rfl, io, rr, sz⟩ := seqOf_real R r2 hp2
        intro Q E q
        have s1 : vs.size = p.2.length := size_of h3
        have s2 : ws.size = l2.length := size_of rr
        have hz : p.2.length + l2.length ≤ sizeLine := hz
        have door : ¬(!vs.isEmpty && Builtin.List.listTooLong (vs.size + ws.size)) = true := extend_door (by rw [s1, s2]; exact hz)
        have u := seq_upd (tk := s.toks) (f := fun xs => xs ++ ws) (l' := p.2 ++ l2) R h5 h1 h2 (by rw [Array.toList_append]; exact h3.append rr) (by rw [List.length_append]; exact hz)
        cases k with
        | true =>
          simp only [if_true] at io
          obtain ⟨n2, io⟩ := io
          refine call_meets PySem.F.slot_list_extend ⟨_, h2, rfl⟩ PySem.F.entry_list_extend (PySem.F.args_list_extend_2 _ _) (AutoSeq1.list_extend_list_list_0 a vs n b ws n2 door (by rw [s1]; exact h4) (by rw [s1, s2]; omega)) ⟨h2, io, q _ t _ u.1 u.2 rfl⟩
        | false =>
          simp only [Bool.false_eq_true, if_false] at io
          obtain ⟨n2, io⟩ := io
          refine call_meets PySem.F.slot_list_extend ⟨_, h2, rfl⟩ PySem.F.entry_list_extend (PySem.F.args_list_extend_2 _ _) (AutoSeq1.list_extend_list_tuple_0 a vs n b ws n2 door (by rw [s1]; exact h4) (by rw [s1, s2]; omega)) ⟨h2, io, q _ t _ u.1 u.2 rfl⟩
      · cases e
    · cases e
  | pop =>
    simp only [bm1] at e
    split at e
    · rename_i p i hp
      split at e
      · rename_i j hj
        split at e
        · rename_i y hy
          cases e
          obtain ⟨a, vs, n, rfl, h1, h2, h3, h4, h5⟩ := listAt_real R r1 hp
          obtain ⟨k, rfl⟩ := r2
          obtain ⟨y', e1, e2⟩ := VRels.get h3 hy
          rw [Array.getElem?_toList] at e1
          intro Q E q
          have hjl : j < vs.size := by rw [Array.getElem?_eq_some_iff] at e1; exact e1.1
          have u := seq_upd (tk := s.toks) (f := fun xs => xs.eraseIdxIfInBounds j) (l' := p.2.eraseIdx j) R h5 h1 h2 (by
            unfold Array.eraseIdxIfInBounds; rw [dif_pos hjl, Array.toList_eraseIdx]; exact h3.eraseIdx j) (Nat.le_trans (List.length_eraseIdx_le ..) h4)
          refine call_meets PySem.F.slot_list_pop ⟨_, h2, rfl⟩ PySem.F.entry_list_pop (PySem.F.args_list_pop_2 _ _) (PySem.MeetsSeq.list_pop_at a _ n i k j y' (idx_fits hj h4) (by rw [size_of h3]; exact (idx_seqIndex hj).1) e1 (by rw [size_of h3]; exact h4)) ⟨h2, ?_⟩
          exact q _ t _ u.1 u.2 (VRel.step u.1 (fun _ z => z.elim) _ e2)
        · cases e
      · cases e
    · cases e
  | count =>
    simp only [bm1] at e
    split at e
    · rename_i l
      split at e
      · rename_i hb
        cases e
        obtain ⟨a, vs, rfl, ⟨n, ho⟩, _, sz, rr⟩ := r1
        have r2' : w = .bool true := r2
        subst r2'
        obtain ⟨c1, c2⟩ := bool_countP hb rr
        intro Q E q
        refine call_meets PySem.F.slot_list_count ⟨_, ho, rfl⟩ PySem.F.entry_list_count (PySem.F.args_list_count_2 _ _) (SeqAt.list_countAt a vs n none #[] (.bool true) (isBoolOf true)) ⟨ho, fun y hy => ?_, ?_⟩
        · obtain ⟨b, rfl⟩ := c1 y (Array.mem_toList_iff.mpr hy)
          exact SeqAt.EqAt.bool_bool b true
        · rw [c2]; exact q _ t _ (Step.toks _ t s _) (R.toks _) ⟨_, rfl⟩
      · cases e
    · cases e
  | join =>
    simp only [bm1] at e
    split at e
    · rename_i l
      split at e
      · rename_i x hx
        split at e
        · rename_i hz
          cases e
          obtain ⟨a, vs, rfl, io, _, sz, rr⟩ := r2
          obtain ⟨k, rfl⟩ := r1
          obtain ⟨ys, h1, h2, h3⟩ := catStrs_real hx rr
          intro Q E q
          refine join_list io.isList h1 (by rw [h3]; unfold sizeMax at hz; show x.length + ys.length * 0 ≤ _; omega) fun t' k => ?_
          exact q _ t _ (Step.toks _ t s _) (R.toks _) ⟨t', by show Value.str (Txt.join (toStr []) ys) t' = _; rw [join_nil, h2]⟩
        · cases e
      · cases e
    · cases e
  | _ => cases e

noncomputable def bmUse : Bm → Bool
  | .upper => false
  | .insert => false
  | _ => true

theorem bm2_sound {m : Bm} (hm : bmUse m = true) {W U : V} {u : Value} (O : G.Ok N) (R : Rel G t st s) (hA : AOk d A) (r1 : VRel t s.heap X v) (r2 : VRel t s.heap W w) (r3 : VRel t s.heap U u) (e : bm2 m X W U st = .ok Z st') : Sim G A t s (call (.builtin (bmVal m)) [v, w, u]) st' (vrel Z) := by
  cases m with
  | get =>
    simp only [bm2] at e
    split at e
    · rename_i p hp
      split at e
      · rename_i hk
        cases e
        obtain ⟨a, kvs, rfl, h1, h2, h3, h4⟩ := dictAt_real R r1 hp
        cases W with
        | str x =>
          obtain ⟨k, rfl⟩ := r2
          have hd : (a == sysModules) = false := by
            simp only [beq_eq_false_iff_ne, ne_eq]
            exact fun z => R.sys p.1 (by rw [h1, z])
          have f := DRel.find (x := x) h3
          intro Q E q
          refine call_meetsIn PySem.F.slot_dict_get h2.typeIs PySem.F.entry_dict_get (PySem.F.args_dict_get_3 _ _ _) (meets_dict_get_default _ a (strKind_is G.prog G.w (toStr x) k) hd u) ⟨_, h2.mapOf, ?_⟩
          refine q _ t _ (Step.toks _ t s _) (R.toks _) ?_
          cases z : dfind (.str x) p.2 with
          | none => rw [z] at f; dsimp only at f; rw [f]; exact r3
          | some y => rw [z] at f; obtain ⟨y', f1, f2⟩ := f; rw [f1]; exact f2
        | _ => cases hk
      · cases e
    · cases e
  | insert => cases hm
  | _ => cases e

theorem bmeth_sound {m : Bm} (hm : bmUse m = true) {Vs : List V} {vs : List Value} (O : G.Ok N) (R : Rel G t st s) (hA : AOk d A) (r1 : VRel t s.heap X v) (r2 : VRels t s.heap Vs vs) (e : bmeth m X Vs st = .ok Z st') : Sim G A t s (call (.builtin (bmVal m)) (v :: vs)) st' (vrel Z) := by
  unfold bmeth at e
  split at e
  · cases m <;> first | exact absurd hm (by decide) | (simp only [bm0] at e; cases e)
  · obtain ⟨w, _, rfl, r2, rfl⟩ := r2
    exact bm1_sound O R hA r1 r2 e
  · obtain ⟨w, _, rfl, r2, u, _, rfl, r3, rfl⟩ := r2
    exact bm2_sound hm O R hA r1 r2 r3 e
  · cases e

theorem bm_isType {m : Bm} (R : Rel G t st s) (r1 : VRel t s.heap X v) (e : bmOk m X st = true) : s.TypeIs v (bmType m) ∧ (∀ a, v = .ref a → ∃ ob, s.heap.get? a = some ob ∧ ob.dict = none) := by
  have li : (listAt X st).isSome = true → s.TypeIs v "list" ∧ (∀ a, v = .ref a → ∃ ob, s.heap.get? a = some ob ∧ ob.dict = none) := fun z => by
    obtain ⟨p, hp⟩ := Option.isSome_iff_exists.mp z
    obtain ⟨a, vs, n, rfl, h1, h2, _⟩ := listAt_real R r1 hp
    exact ⟨⟨_, h2, rfl⟩, fun a' z => by cases z; exact ⟨_, h2, rfl⟩⟩
  cases m <;> simp only [bmOk] at e <;> try exact li e
  · split at e
    · obtain ⟨a, vs, rfl, ⟨n, ho⟩, _⟩ := r1
      exact ⟨⟨_, ho, rfl⟩, fun a' z => by cases z; exact ⟨_, ho, rfl⟩⟩
    · cases e
  · obtain ⟨p, hp⟩ := Option.isSome_iff_exists.mp e
    obtain ⟨a, kvs, rfl, h1, h2, _⟩ := dictAt_real R r1 hp
    exact ⟨h2.typeIs, h2.mapOf.noDict⟩
  · split at e
    · obtain ⟨k, rfl⟩ := r1
      exact ⟨typeIs_str _ _ _, fun a z => by cases z⟩
    · cases e
  · split at e
    · obtain ⟨k, rfl⟩ := r1
      exact ⟨typeIs_str _ _ _, fun a z => by cases z⟩
    · cases e

theorem sim_bm (O : G.Ok N) {m : Bm} (hmu : bmUse m = true) {a : E} {x : PySem.Expr} {l : List E} {es : List PySem.Expr} {ap pos : Pos} (hx : notSuper x = true) (hln : (ap.endLine == pos.line) = true) (h30 : es.length < 30) (hm : plainArgs es = true) (hlm : l.length = es.length)
    (ha : SimE G C d sc Γ a x) (hl : SimEs G C d sc Γ l es) : SimE G C d sc Γ (.bm m a l) (.Call (.Attribute x (bmName m) ap) es [] pos) := by
  intro t st s env loc X st' A hA hsc F R e Q E q
  simp only [ev_none, ev_bool, ev_int, ev_str, ev_loc, ev_gint, ev_gstr, ev_neg, ev_not, ev_and, ev_or, ev_bin, ev_cmp, ev_cmp2, ev_isC, ev_tup, ev_lst, ev_lstM, ev_dictM, ev_sub, ev_slice, ev_attr, ev_call, ev_meth, ev_new, ev_isinst, ev_prim, ev_listM, ev_dictC, ev_bm, ev_comp] at e
  obtain ⟨V, s1, e1, e⟩ := Res.bind_ok e
  split at e
  · rename_i hok
    obtain ⟨Vs, s2, e2, e⟩ := Res.bind_ok e
    refine wpAny_Call_method (base_plain hx _ _) (meth_form hm h30) hln (bm_attrs m) (bm_slot m) (bm_type m) ?_
    refine ha t st s env loc _ _ A hA hsc F R e1 _ _ fun v t1 σ1 S1 R1 r1 => ?_
    obtain ⟨b1, b2⟩ := bm_isType R1 r1 hok
    refine ⟨b1, b2, ?_⟩
    refine with_go O (keeps_b _) hm hlm hl hA hsc (F.step R S1) R1 e2 fun vs t2 σ2 S2 R2 r2 => ?_
    exact bmeth_sound hmu O R2 hA (VRel.step S2 (fun _ z => z.elim) _ r1) r2 e _ _ fun v t3 σ3 S3 R3 r3 => q v t3 σ3 ((S1.trans S2).trans S3) R3 r3
  · cases e
end
end Mine
end

section
namespace Mine
open PySem PySem.W PyProof.Rows

section
variable {G : Gd} {N : Names} {C : Calls} {d : Nat} {sc : Sc} {Γ : Gam} {A : Around} {t : Tie} {st st' : MS} {s : Shared} {env : Env} {loc : Loc} {X Y Z : V} {v w : Value}

noncomputable abbrev prel (p : Option V) : Tie → Shared → Value → Prop := fun t s v => match p with | none => v = .none | some X => VRel t s.heap X v
noncomputable def SimO (G : Gd) (C : Calls) (d : Nat) (sc : Sc) (Γ : Gam) (e : Option E) (ast : Option PySem.Expr) : Prop :=
  ∀ t st s env loc p st' A, AOk d A → env.scope.names = sc → FrOk G t env Γ loc s → Rel G t st s → evO G.P C e loc st = .ok p st' → Sim G A t s (evalPart ast env) st' (prel p)
theorem simO_none : SimO G C d sc Γ none none := by
  intro t st s env loc p st' A hA hsc F R e Q E k
  simp only [evO_none, evO_some] at e
  cases e
  exact wpAny_pure (k _ t s (.refl _ _ _) R rfl)
theorem simO_some {e : E} {x : PySem.Expr} (h : SimE G C d sc Γ e x) : SimO G C d sc Γ (some e) (some x) := by
  intro t st s env loc p st' A hA hsc F R e Q E k
  simp only [evO_none, evO_some] at e
  obtain ⟨v, s1, e1, e⟩ := Res.bind_ok e
  cases e
  exact h t st s env loc v _ A hA hsc F R e1 _ _ fun y t1 σ1 S1 R1 r1 => k y t1 σ1 S1 R1 r1

theorem cut_part {D n : Nat} {p : Option V} {i : Nat} (e : cutAt D p = some i) (r : prel p t s v) : ∃ o : Option (Int × Tok), v = partValue o ∧ (o.map (·.1)).elim (min D n) (clipAt n) = min i n := by
  cases p with
  | none => cases e; exact ⟨none, r, rfl⟩
  | some X =>
    cases X with
    | int z =>
      simp only [cutAt] at e
      split at e
      · rename_i hz
        cases e
        obtain ⟨k, rfl⟩ := r
        refine ⟨some (z, k), rfl, ?_⟩
        have : z = (z.toNat : Int) := by omega
        show clipAt n z = _
        rw [this, clipAt_nat]; rfl
      · cases e
    | _ => cases e

theorem isPart_of (o : Option (Int × Tok)) : IsPart (partValue o) (o.map (·.1)) := by
  cases o with
  | none => exact .none
  | some p => exact .int p.1 p.2

theorem cut_list {α : Type} (l : List α) (i j n : Nat) (hn : n = l.length) : (l.drop (min i n)).take (min j n - min i n) = (l.take j).drop i := by
  rw [List.drop_take]
  subst hn
  rcases Nat.le_total i l.length with h | h
  · rw [Nat.min_eq_left h]
    rcases Nat.le_total j l.length with h2 | h2
    · rw [Nat.min_eq_left h2]
    · rw [Nat.min_eq_right h2, List.take_of_length_le (by simp), List.take_of_length_le (by simp; omega)]
  · rw [Nat.min_eq_right h, List.drop_of_length_le (Nat.le_refl _), List.drop_of_length_le h]; simp

theorem str_slice (x : List Nat) (l u : Option Int) (i j : Nat) (hl : l.elim 0 (clipAt x.length) = min i x.length) (hu : u.elim x.length (clipAt x.length) = min j x.length) : Txt.slice (toStr x) l u = toStr ((x.take j).drop i) := by
  have hlen : (toStr x).length = x.length := by simp [toStr, PySem.Str.length]
  have hidx : Builtin.Str.strSliceIndices l u 1 x.length = (List.range (min j x.length - min i x.length)).map (min i x.length + ·) := by
    rw [← sliceRange_one]
    unfold Builtin.Str.strSliceIndices
    simp only [show (1 : Int) > 0 by decide, if_true]
    rw [← hl, ← hu]
    cases l <;> cases u <;> simp [clipAt_cast]
  have hpick := pick_run x.toArray (min i x.length) (min j x.length - min i x.length)
  unfold Txt.slice
  rw [hlen, hidx]
  split
  · rename_i hw
    simp only [BEq.rfl, Bool.true_and, List.length_map, List.length_range, beq_iff_eq] at hw
    rw [← cut_list x i j _ rfl]
    have h1 : min i x.length = 0 := by omega
    rw [h1] at hw ⊢
    rw [hw]; simp
  · show PySem.Str.mk _ = PySem.Str.mk _
    congr 1
    rw [← cut_list x i j _ rfl]
    show (List.filterMap (fun k => x.toArray[k]?) _).toArray = _
    rw [hpick]

theorem str_slice_wp {x : PySem.Str} {tk : Tok} {a : Addr} {l u : Option (Int × Tok)} {Q E : Value → Shared → Prop} (hs : s.heap.IsSlice a l u none) (hsz : x.length ≤ sizeLine)
    (h : ∀ t' k, Q (.str (Txt.slice x (l.map (·.1)) (u.map (·.1))) t') { s with toks := k }) : wpAny G.M A (PySem.getItem (.str x tk) (.ref a)) Q E s :=
  wpAny_getItem_str_slice hs rfl (post_val_or_str ⟨Nat.le_trans (Txt.slice_le x _ _) hsz, h⟩)

theorem sim_slice {a : E} {lo hi : Option E} {x : PySem.Expr} {l u : Option PySem.Expr} {sp pos : Pos} (ha : SimE G C d sc Γ a x) (hlo : SimO G C d sc Γ lo l) (hhi : SimO G C d sc Γ hi u) : SimE G C d sc Γ (.slice a lo hi) (.Subscript x (.Slice l u none sp) pos) := by
  intro t st s env loc X st' A hA hsc F R e Q E k
  simp only [ev_none, ev_bool, ev_int, ev_str, ev_loc, ev_gint, ev_gstr, ev_neg, ev_not, ev_and, ev_or, ev_bin, ev_cmp, ev_cmp2, ev_isC, ev_tup, ev_lst, ev_lstM, ev_dictM, ev_sub, ev_slice, ev_attr, ev_call, ev_meth, ev_new, ev_isinst, ev_prim, ev_listM, ev_dictC, ev_bm, ev_comp] at e
  obtain ⟨B, s1, e1, e⟩ := Res.bind_ok e
  obtain ⟨p, s2, e2, e⟩ := Res.bind_ok e
  obtain ⟨q, s3, e3, e⟩ := Res.bind_ok e
  refine Subscript_ (ha t st s env loc _ _ A hA hsc F R e1 _ _ fun v t1 σ1 S1 R1 r1 => ?_)
  have F1 := F.step R S1
  refine wpAny_Slice (hlo t1 s1 σ1 env loc p s2 A hA hsc F1 R1 e2 _ _ fun vl t2 σ2 S2 R2 r2 => ?_)
  have F2 := F1.step R1 S2
  refine hhi t2 s2 σ2 env loc q s3 A hA hsc F2 R2 e3 _ _ fun vu t3 σ3 S3 R3 r3 => ?_
  rw [evalPart_none]
  refine wpAny_pure ?_
  have r1' := VRel.step (S2.trans S3) (fun _ z => z.elim) _ r1
  have r2' : prel p t3 σ3 vl := by
    cases p with
    | none => exact r2
    | some X => exact VRel.step S3 (fun _ z => z.elim) _ r2
  have hsub : ∀ o i, subscripted (.Slice l u none sp) false o i = operate [i, o] (PySem.getItem o i) := fun _ _ => rfl
  have S4 := Step.push R3 { cls := .type "slice", data := .fields #[vl, vu, .none] }
  have R4 := R3.push { cls := .type "slice", data := .fields #[vl, vu, .none] }
  have lists : ∀ {m : List V} {i j : Nat}, seqOf s3 B = some (true, m) → cutAt 0 p = some i → cutAt m.length q = some j → X = .lst ((m.take j).drop i) → st' = s3 →
      wpAny G.M A (subscriptTail x (.Slice l u none sp) v (.ref σ3.heap.objs.size)) Q E { σ3 with heap := σ3.heap.push { cls := .type "slice", data := .fields #[vl, vu, .none] } } := by
    rintro m i j hm hi hj rfl rfl
    obtain ⟨a, vs, rfl, io, rr, sz⟩ := seqOf_real R3 r1' hm
    simp only [if_true] at io
    have hsz : vs.size = m.length := size_of rr
    obtain ⟨o1, rfl, p1⟩ := cut_part (n := m.length) hi r2'
    obtain ⟨o2, rfl, p2⟩ := cut_part (n := m.length) hj r3
    rw [Nat.zero_min] at p1
    rw [Nat.min_self] at p2
    have io4 := io.isList.push { cls := .type "slice", data := .fields #[partValue o1, partValue o2, .none] }
    refine tail_any io4.typeIs slot_list_getitem.lookup (wpAny_getItem_list_slice io4 (Heap.IsSliceOf.new ..) (isPart_of o1) (isPart_of o2) .none (by simp) ?_ (by rw [hsz]; exact sz)) (hsub _ _)
    have hpick : slicePick vs (o1.map (·.1)) (o2.map (·.1)) none = ((vs.toList.take j).drop i).toArray := by
      rw [slicePick_plain, hsz, p1, p2, cut_list _ _ _ _ (by rw [← hsz]; simp)]
    have rr4 := VRels.step S4 (fun _ z => z.elim) _ rr
    have rr5 := VRels.drop i (VRels.take j rr4)
    have hl : ((m.take j).drop i).length ≤ sizeMax := by simp; omega
    have S5 := Step.push R4 { cls := .type "list", data := .seq (slicePick vs (o1.map (·.1)) (o2.map (·.1)) none) }
    refine k _ t3 _ ((((S1.trans S2).trans S3).trans S4).trans S5) (R4.push _) ?_
    rw [hpick]
    exact VRel.newL R4 rr5 hl
  unfold getSlice at e
  split at e
  · rename_i y _ _
    split at e
    · rename_i i j hi hj
      split at e
      · rename_i hz
        obtain ⟨rfl, rfl⟩ : X = .str ((y.take j).drop i) ∧ st' = s3 := by cases e; exact ⟨rfl, rfl⟩
        obtain ⟨ky, rfl⟩ := r1'
        obtain ⟨o1, rfl, p1⟩ := cut_part (n := y.length) hi r2'
        obtain ⟨o2, rfl, p2⟩ := cut_part (n := y.length) hj r3
        rw [Nat.zero_min] at p1
        rw [Nat.min_self] at p2
        have hs := str_slice y _ _ i j p1 p2
        have hlen : (toStr y).length = y.length := by simp [toStr, PySem.Str.length]
        have hzz : (toStr y).length ≤ sizeLine := by rw [hlen]; exact hz
        refine tail_any (typeIs_str _ _ _) PySem.F.slot_str_getitem.lookup (str_slice_wp (l := o1) (u := o2) ⟨_, Heap.get?_push_size _ rfl, rfl, rfl⟩ hzz fun t' k' => ?_) (hsub _ _)
        refine k _ t3 _ ((((S1.trans S2).trans S3).trans S4).trans (Step.toks _ _ _ k')) (R4.toks k') ⟨t', ?_⟩
        rw [hs]
      · cases e
    · cases e
  · split at e
    · rename_i m hm
      split at e
      · rename_i i j hi hj
        obtain ⟨h1, h2⟩ : X = .lst ((m.take j).drop i) ∧ st' = s3 := by cases e; exact ⟨rfl, rfl⟩
        exact lists hm hi hj h1 h2
      · cases e
    · cases e
end
end Mine
end

section
set_option maxRecDepth 100000
namespace Mine
open PySem PySem.W PyProof.Rows

section
variable {G : Gd} {N : Names} {C : Calls} {d : Nat} {sc : Sc} {Γ : Gam} {A : Around} {t : Tie} {st st' : MS} {s : Shared} {env : Env} {loc : Loc} {X Y Z : V} {v w : Value}

noncomputable def tagName : Tag → String
  | .none => "NoneType" | .bool => "bool" | .int => "int" | .str => "str" | .tuple => "tuple" | .list => "list" | .dict => "dict"
noncomputable def kindStr : Kind → String
  | .int => "int" | .bool => "bool" | .str => "str" | .list => "list" | .tuple => "tuple" | .valueError => "ValueError" | .cls _ => ""
noncomputable def kindUse : Kind → Bool
  | .int => true | .bool => true | .str => true | .list => true | .tuple => true | _ => false

theorem kit_tag (K : Frag) (g : Tag) (k : Kind) (hk : kindUse k = true) {b : Bool} (e : kindHas g k = some b) : kitOne K (.type (tagName g)) (.type (kindStr k)) = some b := by
  cases k <;> first | exact (Bool.false_ne_true hk).elim | skip
  all_goals (cases g <;> cases e <;> kernel_rfl)

theorem tag_kit (R : Rel G t st s) {g : Tag} (r : VRel t s.heap X v) (e : tagOf st X = some g) : ∃ H, KitX G.K v (.type (tagName g)) H ∧ H s.heap ∧ v ≠ .builtin "__main__.__loader__#opaque" := by
  cases X with
  | none => cases e; have r : v = .none := r; subst r; exact ⟨_, kitx_none, trivial, nofun⟩
  | bool b => cases e; have r : v = .bool b := r; subst r; exact ⟨_, kitx_bool, trivial, nofun⟩
  | int i => cases e; obtain ⟨k, rfl⟩ := r; exact ⟨_, kitx_int, trivial, nofun⟩
  | str i => cases e; obtain ⟨k, rfl⟩ := r; exact ⟨_, kitx_str, trivial, nofun⟩
  | tup l => cases e; obtain ⟨a, vs, rfl, ⟨n, ho⟩, _⟩ := r; exact ⟨_, kitx_tuple, ⟨_, ho, rfl⟩, nofun⟩
  | lst l => cases e; obtain ⟨a, vs, rfl, ⟨n, ho⟩, _⟩ := r; exact ⟨_, kitx_list, ⟨_, ho, rfl⟩, nofun⟩
  | exc c => cases e
  | ref l =>
    simp only [tagOf] at e
    split at e
    · rename_i m hl
      cases e
      obtain ⟨a, vs, h1, ⟨n, h2⟩, _⟩ := R.objs l _ hl
      obtain ⟨a', rfl, e2⟩ := r
      rw [h1] at e2; cases e2
      exact ⟨_, kitx_list, ⟨_, h2, rfl⟩, nofun⟩
    · rename_i m hl
      cases e
      obtain ⟨a, kvs, h1, h2, _⟩ := R.objs l _ hl
      obtain ⟨a', rfl, e2⟩ := r
      rw [h1] at e2; cases e2
      obtain ⟨o, h3, h4⟩ := h2.typeIs
      exact ⟨_, kitx_dict, ⟨o, h3, h4⟩, nofun⟩
    · cases e

theorem isKind_tag {P : Prog} {k : Kind} {b : Bool} (hk : kindUse k = true) (e : isKind P st X k = some b) : ∃ g, tagOf st X = some g ∧ kindHas g k = some b := by
  unfold isKind at e
  split at e
  · cases k <;> first | exact (Bool.false_ne_true hk).elim | cases e
  · split at e
    · rename_i g hg; exact ⟨g, hg, e⟩
    · cases e

theorem isKinds_any {P : Prog} (K : Frag) : ∀ {ks : List Kind} {b : Bool} {g : Tag}, (∀ k ∈ ks, kindUse k = true) → tagOf st X = some g → isKinds P st X ks = some b → kitAny K (.type (tagName g)) (ks.map fun k => .type (kindStr k)) = some b
  | [], _, _, _, _, e => by cases e; rfl
  | k :: ks, b, g, hu, hg, e => by
    simp only [isKinds] at e
    simp only [List.map_cons, kitAny]
    cases q : isKind P st X k with
    | none => rw [q] at e; cases e
    | some b' =>
      rw [q] at e
      obtain ⟨g', h1, h2⟩ := isKind_tag (hu k (.head _)) q
      rw [hg] at h1; cases h1
      rw [kit_tag K g k (hu k (.head _)) h2]
      cases b' with
      | true => cases e; rfl
      | false => exact isKinds_any K (fun k hk => hu k (.tail _ hk)) hg e

theorem kind_boot (k : Kind) (hk : kindUse k = true) : ∃ x : PySem.Str, kindName k = some x ∧ bootBuiltins x = some (.type (kindStr k)) ∧ x ∈ (["len", "max", "int", "sorted", "tuple", "list", "all", "isinstance", "range", "dict", "bool", "str", "ValueError"] : List PySem.Str) := by
  cases k <;> first | exact (Bool.false_ne_true hk).elim | exact ⟨_, rfl, by decide +kernel, by decide⟩

theorem kind_eval (O : G.Ok N) (F : FrOk G t env Γ loc s) (R : Rel G t st s) (hsc : env.scope.names = sc) {k : Kind} (hk : kindUse k = true) {y : PySem.Expr} (hc : chkKind N sc k y = true) {Q E' : Value → Shared → Prop} (h : Q (.type (kindStr k)) s) : isStarred y = false ∧ wpAny G.M A (eval y env) Q E' s := by
  obtain ⟨x, h1, h2, h3⟩ := kind_boot k hk
  unfold chkKind at hc
  split at hc
  · exact (Bool.false_ne_true hk).elim
  · rename_i k' x' p _
    rw [h1] at hc
    simp only [Bool.and_eq_true, beq_iff_eq, Option.some.injEq] at hc
    obtain ⟨rfl, hg⟩ := hc
    exact ⟨rfl, built_glob O F R hsc hg h3 h2 h⟩
  · cases hc

theorem kinds_eval (O : G.Ok N) (hsc : env.scope.names = sc) (pos : Pos) : ∀ {ks : List Kind} {ys : List PySem.Expr} {Q : List Value → Shared → Prop} {E' : Value → Shared → Prop}, (∀ k ∈ ks, kindUse k = true) → chkKinds N sc ks ys = true → ∀ {t : Tie} {st : MS} {s : Shared}, FrOk G t env Γ loc s → Rel G t st s →
    Q (ks.map fun k => .type (kindStr k)) s → wpAny G.M A (spliced (backTo pos (starEach ys env))) Q E' s
  | [], [], _, _, _, _, _, _, _, _, _, h => Calls.spliced_nil h
  | [], _ :: _, _, _, _, e, _, _, _, _, _, _ => by cases e
  | _ :: _, [], _, _, _, e, _, _, _, _, _, _ => by cases e
  | k :: ks, y :: ys, Q, E', hu, e, t, st, s, F, R, h => by
    simp only [chkKinds, Bool.and_eq_true] at e
    have hs := (kind_eval (A := A) (Q := fun _ _ => True) (E' := fun _ _ => True) O F R hsc (hu k (.head _)) e.1 trivial).1
    refine wpAny_items_cons (kind_eval O F R hsc (hu k (.head _)) e.1 ?_).2 (star_false hs ys env)
    exact kinds_eval O hsc pos (fun k hk => hu k (.tail _ hk)) e.2 F R h

theorem args2_go {f : Value} {pos : Pos} {x y : PySem.Expr} {Q : Args → Shared → Prop} {E' : Value → Shared → Prop} (hx : isStarred x = false) (hy : isStarred y = false)
    (h : wpAny G.M A (eval x env) (fun v s1 => wpAny G.M A (eval y env) (fun w s2 => Q ⟨[v, w], []⟩ s2) E' s1) E' s) : wpAny G.M A (evalArgs f true (backTo pos (starEach [x, y] env)) []) Q E' s := by
  have q : wpAny G.M A (spliced (backTo pos (starEach [x, y] env))) (fun vs s' => Q ⟨vs, []⟩ s') E' s := by
    refine wpAny_items_cons (wpAny_mono h (fun v s1 h1 => ?_) fun _ _ e => e) (star_false hx [y] env)
    refine wpAny_items_cons (wpAny_mono h1 (fun w s2 h2 => ?_) fun _ _ e => e) (star_false hy [] env)
    exact Calls.spliced_nil h2
  rw [star_false hx] at q ⊢
  exact Calls.evalArgs_plain q

theorem sim_isinst1 (O : G.Ok N) {a : E} {x y : PySem.Expr} {k : Kind} {np pos : Pos} (hk : kindUse k = true) (hg : glob sc "isinstance" = true) (hx : isStarred x = false) (hc : chkKind N sc k y = true) (ha : SimE G C d sc Γ a x) :
    SimE G C d sc Γ (.isinst a [k]) (.Call (.Name "isinstance" np) [x, y] [] pos) := by
  intro t st s env loc X st' A hA hsc F R e Q E q
  simp only [ev_none, ev_bool, ev_int, ev_str, ev_loc, ev_gint, ev_gstr, ev_neg, ev_not, ev_and, ev_or, ev_bin, ev_cmp, ev_cmp2, ev_isC, ev_tup, ev_lst, ev_lstM, ev_dictM, ev_sub, ev_slice, ev_attr, ev_call, ev_meth, ev_new, ev_isinst, ev_prim, ev_listM, ev_dictC, ev_bm, ev_comp] at e
  obtain ⟨V, s1, e1, e⟩ := Res.bind_ok e
  unfold okB at e
  split at e
  · rename_i b hb
    obtain ⟨rfl, rfl⟩ : X = .bool b ∧ st' = s1 := by cases e; exact ⟨rfl, rfl⟩
    have hy := (kind_eval (A := A) (Q := fun _ _ => True) (E' := fun _ _ => True) O F R hsc hk hc trivial).1
    have hkk : isKind G.P st' V k = some b := by
      simp only [isKinds] at hb
      cases z : isKind G.P st' V k with
      | none => rw [z] at hb; cases hb
      | some b' => rw [z] at hb; cases b' <;> exact hb
    obtain ⟨g, g1, g2⟩ := isKind_tag hk hkk
    refine wpAny_Call_ofName (built_glob (v := .builtin "isinstance") O F R hsc hg (by decide) (by decide +kernel) ?_)
    refine callWith_of (P := G.K.In) (by rw [star_plain pos env (m := [x, y]) (by simp [plainArgs, hx, hy])]; rfl) (keeps_b _) (args2_go hx hy ?_)
    refine ha t st s env loc _ _ A hA hsc F R e1 _ _ fun v t1 σ1 S1 R1 r1 => ?_
    refine (kind_eval O (F.step R S1) R1 hsc hk hc ?_).2
    have XK := O.K.keeps R1.base
    refine ⟨XK, ?_⟩
    obtain ⟨H, Z, hH, hne⟩ := tag_kit R1 r1 g1
    exact kia_one Z XK hH (kit_tag G.K g k hk g2) hne fun tk => q _ t1 _ (S1.trans (Step.toks _ _ _ tk)) (R1.toks tk) rfl
  · cases e

theorem sim_isinst2 (O : G.Ok N) {a : E} {x : PySem.Expr} {ys : List PySem.Expr} {k k' : Kind} {np pos tp : Pos} {cx : Nat} (hk : kindUse k = true) (hk' : kindUse k' = true) (hg : glob sc "isinstance" = true) (hx : isStarred x = false) (hc : chkKinds N sc [k, k'] ys = true) (ha : SimE G C d sc Γ a x) :
    SimE G C d sc Γ (.isinst a [k, k']) (.Call (.Name "isinstance" np) [x, .Tuple ys cx tp] [] pos) := by
  intro t st s env loc X st' A hA hsc F R e Q E q
  simp only [ev_none, ev_bool, ev_int, ev_str, ev_loc, ev_gint, ev_gstr, ev_neg, ev_not, ev_and, ev_or, ev_bin, ev_cmp, ev_cmp2, ev_isC, ev_tup, ev_lst, ev_lstM, ev_dictM, ev_sub, ev_slice, ev_attr, ev_call, ev_meth, ev_new, ev_isinst, ev_prim, ev_listM, ev_dictC, ev_bm, ev_comp] at e
  obtain ⟨V, s1, e1, e⟩ := Res.bind_ok e
  unfold okB at e
  split at e
  · rename_i b hb
    obtain ⟨rfl, rfl⟩ : X = .bool b ∧ st' = s1 := by cases e; exact ⟨rfl, rfl⟩
    have hu : ∀ z ∈ [k, k'], kindUse z = true := by intro z hz; simp at hz; rcases hz with rfl | rfl <;> assumption
    obtain ⟨b0, hb0⟩ : ∃ b0, isKind G.P st' V k = some b0 := by
      simp only [isKinds] at hb
      cases z : isKind G.P st' V k with
      | none => rw [z] at hb; cases hb
      | some b' => exact ⟨b', rfl⟩
    obtain ⟨g, g1, g2⟩ := isKind_tag hk hb0
    refine wpAny_Call_ofName (built_glob (v := .builtin "isinstance") O F R hsc hg (by decide) (by decide +kernel) ?_)
    refine callWith_of (P := G.K.In) (by rw [star_plain pos env (m := [x, .Tuple ys cx tp]) (by show (!isStarred x && (!false && true)) = true; rw [hx]; rfl)]; rfl) (keeps_b _) (args2_go hx rfl ?_)
    refine ha t st s env loc _ _ A hA hsc F R e1 _ _ fun v t1 σ1 S1 R1 r1 => ?_
    refine wpAny_Tuple (kinds_eval O hsc _ hu hc (F.step R S1) R1 ⟨by rw [List.length_map, sizeLine_eq]; exact Nat.le_of_ble_eq_true rfl, ?_⟩)
    have R2 := R1.push { cls := .type "tuple", data := .seq ([k, k'].map fun k => Value.type (kindStr k)).toArray }
    have S2 := Step.push R1 { cls := .type "tuple", data := .seq ([k, k'].map fun k => Value.type (kindStr k)).toArray }
    have XK := O.K.keeps R2.base
    refine ⟨XK, ?_⟩
    obtain ⟨H, Z, hH, hne⟩ := tag_kit R2 (VRel.step S2 (fun _ z => z.elim) _ r1) g1
    exact kia_tup Z XK hH (Heap.get?_push_size _ rfl) (isKinds_any G.K hu g1 hb) hne fun tk => q _ t1 _ ((S1.trans S2).trans (Step.toks _ _ _ tk)) (R2.toks tk) rfl
  · cases e
end
end Mine
end

section
set_option maxRecDepth 100000
namespace Mine
open PySem PySem.W PyProof.Rows

section
variable {G : Gd} {N : Names} {C : Calls} {d : Nat} {sc : Sc} {Γ : Gam} {A : Around} {t : Tie} {st st' : MS} {s : Shared} {env : Env} {loc : Loc} {X Y Z : V} {v w : Value}

theorem stored_cons (k k' : PySem.Str) (u y : Value) (r : List (PySem.Str × Value)) (h : k' ≠ k) : stored ((k', u) :: r) k y = (k', u) :: stored r k y := by
  unfold stored
  simp only [List.any_cons, h, decide_false, Bool.false_or, List.map_cons, if_false]
  split <;> rfl
theorem stored_head (k : PySem.Str) (u y : Value) (r : List (PySem.Str × Value)) (h : k ∉ r.map (·.1)) : stored ((k, u) :: r) k y = (k, y) :: r := by
  unfold stored
  simp only [List.any_cons, decide_true, Bool.true_or, if_true, List.map_cons]
  congr 1
  conv => rhs; rw [← List.map_id r]
  refine List.map_congr_left fun p hp => ?_
  rw [if_neg (fun z => h (List.mem_map.mpr ⟨p, hp, z⟩))]; rfl

theorem toStr_inj {a b : List Nat} (h : toStr a = toStr b) : a = b := by
  have := congrArg (fun z => z.cps.toList) h
  simpa [toStr] using this

theorem DRel.put {h : Heap} {x : List Nat} {y : Value} : ∀ {dd : List (V × V)} {kvs : List (PySem.Str × Value)}, DRel t h dd kvs → (kvs.map (·.1)).Nodup → VRel t h Y y → DRel t h (dput (.str x) Y dd) (stored kvs (toStr x) y)
  | [], _, e, _, r => by cases e; exact ⟨x, y, [], rfl, rfl, r, rfl⟩
  | (k, u) :: r, _, ⟨z, y', rest, e1, e2, e3, e4⟩, nd, ry => by
    subst e1; subst e2
    rw [List.map_cons, List.nodup_cons] at nd
    by_cases q : z = x
    · subst q
      rw [stored_head _ _ _ _ nd.1]
      simp only [dput, if_true]
      exact ⟨z, y, rest, rfl, rfl, ry, e4⟩
    · have q' : toStr z ≠ toStr x := fun e => q (toStr_inj e)
      rw [stored_cons _ _ _ _ _ q']
      have hne : ¬ (V.str z = V.str x) := fun e => q (by cases e; rfl)
      simp only [dput, hne, if_false]
      exact ⟨z, y', _, rfl, rfl, e3, DRel.put e4 nd.2 ry⟩

theorem DRel.length {h : Heap} : ∀ {dd : List (V × V)} {kvs : List (PySem.Str × Value)}, DRel t h dd kvs → kvs.length = dd.length
  | [], _, e => by cases e; rfl
  | (k, u) :: r, _, ⟨z, y', rest, e1, e2, e3, e4⟩ => by subst e2; simp [DRel.length e4]

theorem set_list_plain {l : Addr} {items : Array Value} {n : Nat} {k : Int} {tk : Tok} {u : Value} {Q : Unit → Shared → Prop} {E : Value → Shared → Prop} (ho : s.heap.get? l = some { cls := .type "list", data := .seq items n })
    (h0 : 0 ≤ k) (hfit : k < 2 ^ 63) (hn : k < items.size) (hQ : Q () { s with heap := s.heap.update l (Obj.mapSeq (·.setIfInBounds k.toNat u)) }) :
    wpAny G.M A (PySem.setItem (.ref l) (.int k tk) u) Q E s := by
  have hl : s.heap.IsList l items := ⟨_, ho, rfl, n, rfl⟩
  unfold PySem.setItem
  try with_reducible refine wpAny_holding ?_
  first | refine wpAny_bind (wpAny_pure ?_) | skip
  refine wpAny_bind (wpAny_sequenceKey hl.typeIs (by decide) ?_)
  refine wpAny_bind (wpAny_callSpecial?_slot (name := Str.ofString "__setitem__") hl.typeIs slot_list_setitem
    (wpAny_call_entry slot_list_setitem hl.typeIs entry_list_setitem ?_ (args_list_setitem _ _ _)))
  show wpAny _ _ (Builtin.List.listSubscript? (.int k tk) >>= _) _ _ s
  refine wpAny_bind (wpAny_listSubscript_int (fitsIndex_of h0 hfit) ?_)
  clear hfit
  obtain ⟨j, rfl⟩ := Int.eq_ofNat_of_zero_le h0
  have hj : j < items.size := by omega
  have hx' : items[j]? = some items[j] := Array.getElem?_eq_getElem hj
  show wpAny _ _ ((seqItemAt l j >>= fun r => pure (r.map (j, ·))) >>= _) _ _ s
  refine wpAny_bind (wpAny_bind (wpAny_seqItemAt ho rfl (wpAny_pure ?_)))
  rw [hx']
  show wpAny _ _ (setSeqItemAt l j u >>= _) _ _ s
  refine wpAny_bind (wpAny_setSeqItemAt ho rfl ?_)
  first
    | exact wpAny_bind (wpAny_pure (wpAny_pure ⟨.none, rfl, wpAny_pure hQ⟩))
    | exact wpAny_pure ⟨.none, rfl, wpAny_pure hQ⟩

theorem setItem_sound {U : V} {u : Value} {r : Unit} (R : Rel G t st s) (hX : VRel t s.heap X v) (hY : VRel t s.heap Y w) (hU : VRel t s.heap U u) (e : setItem X Y U st = .ok r st') : Sim G A t s (PySem.setItem v w u) st' (fun _ _ _ => True) := by
  unfold setItem at e
  split at e
  · rename_i p hp
    split at e
    · rename_i i
      split at e
      · rename_i hi
        cases e
        obtain ⟨a, vs, n, rfl, h1, h2, h3, h4, h5⟩ := listAt_real R hX hp
        obtain ⟨k, rfl⟩ := hY
        have hsz := size_of h3
        intro Q E q
        have hb : i < 2 ^ 63 := by have := fit63 h4; omega
        refine set_list_plain h2 hi.1 hb (by rw [hsz]; exact hi.2) ?_
        have u := seq_upd (tk := s.toks) (f := fun xs => xs.setIfInBounds i.toNat u) (l' := p.2.set i.toNat U) R h5 h1 h2 (by rw [Array.toList_setIfInBounds]; exact h3.set i.toNat hU) (by simpa using h4)
        exact q _ t _ u.1 u.2 trivial
      · cases e
    · cases e
  · split at e
    · rename_i p hp
      split at e
      · rename_i hk
        cases e
        obtain ⟨a, kvs, rfl, h1, h2, h3, h4⟩ := dictAt_real R hX hp
        cases Y with
        | str x =>
          obtain ⟨k, rfl⟩ := hY
          intro Q E q
          have nd : (kvs.map (·.1)).Nodup := by obtain ⟨o, es, ep, a1, a2, a3, a4, a5, a6⟩ := h2; exact a6
          refine wpAny_setItem_pairs (strKind_is G.prog G.w (toStr x) k) h2 (fun h' hd hs => ?_) (by rw [h3.length]; exact Nat.le_of_lt hk.2)
          have hl : (h'.get? a).isSome = true := by obtain ⟨o, es, ep, ho, _⟩ := hd; rw [ho]; rfl
          have S := Step.upd (t := t) (s := s) (tk := s.toks + 1) ⟨p.1, .inl h1⟩ hl hs
          refine q _ t _ S (R.upd (l := p.1) (.inl h1) hl hs (by rw [h4]; exact fun z => by cases z) ⟨a, _, h1, hd, ?_⟩) trivial
          exact DRel.step S (fun _ z => z.elim) (DRel.put h3 nd hU)
        | _ => cases hk.1
      · cases e
    · cases e

theorem sim_dict0 (O : G.Ok N) {kd : Nat} {pos : Pos} : SimE G C d sc Γ (.dictM kd [] []) (.Dict [] [] pos) := by
  intro t st s env loc X st' A hA hsc F R e Q E k
  simp only [ev_dictM, evL_nil, evL_cons, Res.bind] at e
  rw [if_pos ⟨rfl, by decide⟩] at e
  obtain ⟨rfl, rfl⟩ : X = .ref (kd, st.cnt kd) ∧ st' = st.new kd (.dict []) := by cases e; exact ⟨rfl, rfl⟩
  refine wpAny_Dict_empty ?_
  have hk : ∀ b o, s.heap.get? b = some o → (s.heap.push ({ cls := .type "dict", data := .dict #[] } : Obj)).get? b = some o := fun _ _ e => Heap.get?_push_of_some _ e
  have S := Step.bind (k := kd) (d := none) (s' := { s with heap := s.heap.push { cls := .type "dict", data := .dict #[] } }) R hk rfl rfl (size_none _) (fun x e => by cases e)
  have rho : (t.bind (kd, st.cnt kd) s.heap.objs.size none).ρ (kd, st.cnt kd) = some s.heap.objs.size := by simp [Tie.bind]
  refine k _ _ _ S (Rel.bind R hk rfl rfl (size_none _) (fun x e => by cases e) ?_ (R.size_sys O) ⟨_, [], rho, ?_, rfl⟩) ⟨_, rfl, rho⟩
  · show ((s.heap.push _).get? _).isSome = true; rw [Heap.get?_push_size _ rfl]; rfl
  · exact Heap.DictOf.new _
end
end Mine
end

section
set_option maxRecDepth 100000
namespace Mine
open PySem PySem.W PyProof.Rows

section
variable {G : Gd} {N : Names} {C : Calls} {d : Nat} {sc : Sc} {Γ : Gam} {A : Around} {t : Tie} {st st' : MS} {s : Shared} {env : Env} {loc : Loc} {X Y Z : V} {v w : Value}

theorem DRel.hide {h : Heap} {P : Addr → Prop} (np : ∀ a, P a → h.get? a = none) : ∀ {dd : List (V × V)} {kvs : List (PySem.Str × Value)}, DRel t h dd kvs → DRel (t.hide P) h dd kvs
  | [], _, e => e
  | (_, v) :: _, _, ⟨x, y, r, e1, e2, a, b⟩ => ⟨x, y, r, e1, e2, VRel.hide np v a, DRel.hide np b⟩
theorem ObjOk.hide {h : Heap} {P : Addr → Prop} {l : Lbl} (np : ∀ a, P a → h.get? a = none) : ∀ {o : MObj}, ObjOk G t h l o → ObjOk G (t.hide P) h l o
  | .list _, ⟨a, vs, e, ho, sz, b⟩ => ⟨a, vs, e, ho, sz, VRels.hide np _ b⟩
  | .dict _, ⟨a, kvs, e, ho, b⟩ => ⟨a, kvs, e, ho, DRel.hide np b⟩
  | .inst _ _, ⟨a, d, C, m, e, f, c, ho, hd, b⟩ => ⟨a, d, C, m, e, f, c, ho, hd, fun i v e => let ⟨y, e1, e2⟩ := b.1 i v e; ⟨y, e1, VRel.hide np v e2⟩, b.2⟩

theorem Rel.hideGrow (R : Rel G t st s) {s' : Shared} {P : Addr → Prop} (np : ∀ a, P a → s.heap.get? a = none) (hk : ∀ b o, s.heap.get? b = some o → s'.heap.get? b = some o) (hl : ∀ a, P a → (s'.heap.get? a).isSome = true) (hg : s'.gens = s.gens) (ho : s'.os = s.os) :
    Rel G (t.hide P) st s' where
  base b o e := hk b o (R.base b o e)
  apart a q := by
    rcases q with q | q | q
    · exact R.apart a (.inl q)
    · exact R.apart a (.inr q)
    · cases z : G.h₀.get? a with
      | none => rfl
      | some o => have := R.base a o z; rw [np a q] at this; cases this
  live a q := by
    have old : t.Avoid a → (s'.heap.get? a).isSome = true := fun q => by obtain ⟨o, e⟩ := Option.isSome_iff_exists.mp (R.live a q); rw [hk a o e]; rfl
    rcases q with q | q | q
    · exact old (.inl q)
    · exact old (.inr q)
    · exact hl a q
  pv a q o := by
    rcases q with q | q
    · exact R.pv a q o
    · have := R.live a (.inl o); rw [np a q] at this; cases this
  injρ := R.injρ
  injδ := R.injδ
  two := R.two
  objs l o e := by
    have S : Step noX (t.hide P) (t.hide P) s s' := ⟨.refl _, fun a o e _ _ => hk a o e, fun _ o => .inl o, fun a o e => by rw [hk a o e]; rfl, hg, ho⟩
    exact ((R.objs l o e).hide np).step S (fun _ x => x.elim) fun a o _ e => hk a o e
  cnt := R.cnt
  sys := R.sys

structure Forget (P L : Addr → Prop) (t₁ t₂ : Tie) (s₁ s₂ : Shared) : Prop where
  ρ : t₂.ρ = t₁.ρ
  δ : t₂.δ = t₁.δ
  pv : ∀ a, t₂.pv a → t₁.pv a ∧ ¬ P a
  hP : ∀ a, P a → t₁.pv a
  hL : ∀ a, L a → t₁.pv a ∧ (s₂.heap.get? a).isSome = true
  keep : ∀ b o, ¬ P b → ¬ L b → s₁.heap.get? b = some o → s₂.heap.get? b = some o
  gens : s₂.gens = s₁.gens
  os : s₂.os = s₁.os

theorem Forget.own {P L : Addr → Prop} {t₁ t₂ : Tie} {s₁ s₂ : Shared} (F : Forget P L t₁ t₂ s₁ s₂) {a : Addr} : t₂.Own a ↔ t₁.Own a := by
  unfold Tie.Own; rw [F.ρ, F.δ]
theorem Forget.avoid {P L : Addr → Prop} {t₁ t₂ : Tie} {s₁ s₂ : Shared} (F : Forget P L t₁ t₂ s₁ s₂) {a : Addr} (h : ¬ t₁.Avoid a) : ¬ t₂.Avoid a := fun q => h (q.imp F.own.mp fun z => (F.pv a z).1)

mutual
theorem VRel.forget {P L : Addr → Prop} {t₁ t₂ : Tie} {s₁ s₂ : Shared} (F : Forget P L t₁ t₂ s₁ s₂) : ∀ (x : V) {v : Value}, VRel t₁ s₁.heap x v → VRel t₂ s₂.heap x v
  | .none, _, e => e
  | .bool _, _, e => e
  | .int _, _, e => e
  | .str _, _, e => e
  | .tup l, _, ⟨a, vs, e, ⟨n, ho⟩, na, sz, r⟩ => ⟨a, vs, e, ⟨n, F.keep _ _ (fun q => na (.inr (F.hP a q))) (fun q => na (.inr (F.hL a q).1)) ho⟩, F.avoid na, sz, VRels.forget F l r⟩
  | .lst l, _, ⟨a, vs, e, ⟨n, ho⟩, na, sz, r⟩ => ⟨a, vs, e, ⟨n, F.keep _ _ (fun q => na (.inr (F.hP a q))) (fun q => na (.inr (F.hL a q).1)) ho⟩, F.avoid na, sz, VRels.forget F l r⟩
  | .ref _, _, ⟨a, e, r⟩ => ⟨a, e, by rw [F.ρ]; exact r⟩
  | .exc _, _, e => e
theorem VRels.forget {P L : Addr → Prop} {t₁ t₂ : Tie} {s₁ s₂ : Shared} (F : Forget P L t₁ t₂ s₁ s₂) : ∀ (l : List V) {vs : List Value}, VRels t₁ s₁.heap l vs → VRels t₂ s₂.heap l vs
  | [], _, e => e
  | x :: l, _, ⟨v, r, e, a, b⟩ => ⟨v, r, e, VRel.forget F x a, VRels.forget F l b⟩
end
theorem DRel.forget {P L : Addr → Prop} {t₁ t₂ : Tie} {s₁ s₂ : Shared} (F : Forget P L t₁ t₂ s₁ s₂) : ∀ {dd : List (V × V)} {kvs : List (PySem.Str × Value)}, DRel t₁ s₁.heap dd kvs → DRel t₂ s₂.heap dd kvs
  | [], _, e => e
  | (_, v) :: _, _, ⟨x, y, r, e1, e2, a, b⟩ => ⟨x, y, r, e1, e2, VRel.forget F v a, DRel.forget F b⟩
theorem Rel.forget {P L : Addr → Prop} {t₁ t₂ : Tie} {s₁ s₂ : Shared} (F : Forget P L t₁ t₂ s₁ s₂) (R : Rel G t₁ st s₁) : Rel G t₂ st s₂ := by
  have nP : ∀ {a}, t₁.Own a → ¬ P a := fun {a} o q => R.pv a (F.hP a q) o
  have nL : ∀ {a}, t₁.Own a → ¬ L a := fun {a} o q => R.pv a (F.hL a q).1 o
  have up : ∀ {a}, t₂.Avoid a → t₁.Avoid a ∧ ¬ P a := fun {a} q => q.elim (fun q => ⟨.inl (F.own.mp q), nP (F.own.mp q)⟩) fun q => ⟨.inr (F.pv a q).1, (F.pv a q).2⟩
  refine ⟨fun b o e => F.keep b o (fun q => ?_) (fun q => ?_) (R.base b o e), fun a q => R.apart a (up q).1, fun a q => ?_, fun a q o => R.pv a (F.pv a q).1 (F.own.mp o), ?_, ?_, ?_, ?_, ?_, ?_⟩
  · rw [R.apart b (.inr (F.hP b q))] at e; cases e
  · rw [R.apart b (.inr (F.hL b q).1)] at e; cases e
  · by_cases ql : L a
    · exact (F.hL a ql).2
    · obtain ⟨o, e⟩ := Option.isSome_iff_exists.mp (R.live a (up q).1)
      rw [F.keep a o (up q).2 ql e]; rfl
  · rw [F.ρ]; exact R.injρ
  · rw [F.δ]; exact R.injδ
  · rw [F.ρ, F.δ]; exact R.two
  · intro l o e
    have h := R.objs l o e
    cases o with
    | list xs =>
      obtain ⟨a, vs, e1, ⟨n, ho⟩, sz, b⟩ := h
      exact ⟨a, vs, by rw [F.ρ]; exact e1, ⟨n, F.keep _ _ (nP ⟨l, .inl e1⟩) (nL ⟨l, .inl e1⟩) ho⟩, sz, VRels.forget F _ b⟩
    | dict dd =>
      obtain ⟨a, kvs, e1, ⟨o, es, ep, ho, r⟩, b⟩ := h
      exact ⟨a, kvs, by rw [F.ρ]; exact e1, ⟨o, es, ep, F.keep _ _ (nP ⟨l, .inl e1⟩) (nL ⟨l, .inl e1⟩) ho, r⟩, DRel.forget F b⟩
    | inst c as =>
      obtain ⟨a, d, C, m, e1, e2, c1, ho, ⟨od, es, ep, hd, r⟩, b⟩ := h
      exact ⟨a, d, C, m, by rw [F.ρ]; exact e1, by rw [F.δ]; exact e2, c1, F.keep _ _ (nP ⟨l, .inl e1⟩) (nL ⟨l, .inl e1⟩) ho, ⟨od, es, ep, F.keep _ _ (nP ⟨l, .inr e2⟩) (nL ⟨l, .inr e2⟩) hd, r⟩,
        fun i v e => let ⟨y, q1, q2⟩ := b.1 i v e; ⟨y, q1, VRel.forget F v q2⟩, b.2⟩
  · rw [F.ρ, F.δ]; exact R.cnt
  · rw [F.ρ]; exact R.sys

theorem Step.unhide {P X L : Addr → Prop} {t₁ : Tie} {s₀ s₁ s₂ : Shared} (hX : ∀ a, X a → P a ∨ L a) (np : ∀ a, P a → s.heap.get? a = none) (hk : ∀ b o, s.heap.get? b = some o → s₀.heap.get? b = some o) (hg : s₀.gens = s.gens) (ho : s₀.os = s.os)
    (S : Step X (t.hide P) t₁ s₀ s₁) (F : Forget P L t₁ { t₁ with pv := t.pv } s₁ s₂) : Step L t { t₁ with pv := t.pv } s s₂ where
  le := ⟨S.le.ρ, S.le.δ, rfl⟩
  keep a o e n nl := by
    have nP : ¬ P a := fun q => by rw [np a q] at e; cases e
    exact F.keep a o nP nl (S.keep a o (hk a o e) n fun q => (hX a q).elim nP nl)
  new a o := by
    rcases S.new a o with q | q
    · exact .inl q
    · right
      cases z : s.heap.get? a with
      | none => rfl
      | some ob => rw [hk a ob z] at q; cases q
  live a o e := by
    have nP : ¬ P a := fun q => by rw [np a q] at e; cases e
    by_cases ql : L a
    · exact (F.hL a ql).2
    · obtain ⟨o', e'⟩ := Option.isSome_iff_exists.mp (S.live a o (hk a o e))
      rw [F.keep a o' nP ql e']; rfl
  gens := F.gens.trans (S.gens.trans hg)
  os := F.os.trans (S.os.trans ho)

theorem Step.priv {a : Addr} {h' : Heap} {tk : Nat} {X : Addr → Prop} (hX : X a) (hl : (h'.get? a).isSome = true) (hs : Heap.SameBut a s.heap h') : Step X t t s { s with heap := h', toks := tk } :=
  ⟨.refl t, fun b o e _ nx => (hs.2 b fun (q : b = a) => nx (q ▸ hX)).trans e, fun _ o => .inl o, fun b o e => by
    by_cases q : b = a
    · subst q; exact hl
    · show (h'.get? b).isSome = true; rw [hs.2 b q, e]; rfl, rfl, rfl⟩
theorem Rel.priv (R : Rel G t st s) {a : Addr} {h' : Heap} {tk : Nat} (hp : t.pv a) (hl : (h'.get? a).isSome = true) (hs : Heap.SameBut a s.heap h') : Rel G t st { s with heap := h', toks := tk } := by
  have S : Step (· = a) t t s { s with heap := h', toks := tk } := Step.priv rfl hl hs
  have hp' : ∀ b, b = a → t.pv b := fun b z => by subst z; exact hp
  refine ⟨fun b o e => (hs.2 b fun (q : b = a) => ?_).trans (R.base b o e), R.apart, fun b q => ?_, R.pv, R.injρ, R.injδ, R.two, fun l o e => (R.objs l o e).step S hp' fun b ob hb eb => (hs.2 b fun (q : b = a) => ?_).trans eb, R.cnt, R.sys⟩
  · rw [q, R.apart a (.inr hp)] at e; cases e
  · by_cases z : b = a
    · subst z; exact hl
    · show (h'.get? b).isSome = true; rw [hs.2 b z]; exact R.live b q
  · subst q; exact R.pv b hp ⟨l, hb⟩
end
end Mine
end

section
set_option maxRecDepth 100000
namespace Mine
open PySem PySem.W PyProof.Rows

section
variable {G : Gd} {N : Names} {C : Calls} {d : Nat} {sc : Sc} {Γ : Gam} {A : Around} {t : Tie} {st st' : MS} {s : Shared} {env : Env} {loc : Loc} {X Y Z : V} {v w : Value}

noncomputable def ItOk (st₀ : MS) (t : Tie) (s : Shared) (I : Addr) (range : Bool) (src : V) (i : Nat) : Prop :=
  match range with
  | true => ∃ n : Int, src = .int n ∧ IsRangeIter s.heap I i ((n.toNat : Int) - i) 1
  | false => ∃ (k : Bool) (l : List V) (a : Addr), seqOf st₀ src = some (k, l) ∧ VRel t s.heap src (.ref a) ∧ (if k = true then s.heap.IsListIter I a i else s.heap.IsTupleIter I a i)

theorem ItOk.step {st₀ : MS} {I : Addr} {range : Bool} {src : V} {i : Nat} {X : Addr → Prop} {t' : Tie} {s' : Shared} (h : ItOk st₀ t s I range src i) (S : Step X t t' s s') (xp : ∀ a, X a → t.pv a) (hI : ¬ t.Own I) (hX : ¬ X I) : ItOk st₀ t' s' I range src i := by
  cases range with
  | true =>
    obtain ⟨n, e, h⟩ := h
    exact ⟨n, e, S.keep _ _ h hI hX⟩
  | false =>
    obtain ⟨k, l, a, e, r, h⟩ := h
    refine ⟨k, l, a, e, VRel.step S xp _ r, ?_⟩
    cases k with
    | true =>
      simp only [if_true] at h ⊢
      obtain ⟨o, h1, h2⟩ := h
      exact ⟨o, S.keep _ _ h1 hI hX, h2⟩
    | false =>
      simp only [Bool.false_eq_true, if_false] at h ⊢
      obtain ⟨o, h1, h2⟩ := h
      exact ⟨o, S.keep _ _ h1 hI hX, h2⟩

theorem ItOk.hideGrow {st₀ : MS} {I : Addr} {range : Bool} {src : V} {i : Nat} {P : Addr → Prop} {s₁ s' : Shared} (h : ItOk st₀ t s₁ I range src i) (hv : ∀ a, VRel t s₁.heap src (.ref a) → VRel (t.hide P) s'.heap src (.ref a)) (hk : ∀ o, s₁.heap.get? I = some o → s'.heap.get? I = some o) : ItOk st₀ (t.hide P) s' I range src i := by
  cases range with
  | true =>
    obtain ⟨n, e, h⟩ := h
    exact ⟨n, e, hk _ h⟩
  | false =>
    obtain ⟨k, l, a, e, r, h⟩ := h
    refine ⟨k, l, a, e, hv a r, ?_⟩
    cases k with
    | true =>
      simp only [if_true] at h ⊢
      obtain ⟨o, h1, h2⟩ := h
      exact ⟨o, hk _ h1, h2⟩
    | false =>
      simp only [Bool.false_eq_true, if_false] at h ⊢
      obtain ⟨o, h1, h2⟩ := h
      exact ⟨o, hk _ h1, h2⟩

theorem seqOf_stays {st₀ st : MS} {src : V} (h : stays st₀ st false src = true) : seqOf st src = seqOf st₀ src := by
  cases src with
  | ref r =>
    have h : st₀.heap r = st.heap r := by simpa [stays] using h
    simp only [seqOf, h]
  | _ => rfl

theorem it_next {st₀ : MS} {I : Addr} {range : Bool} {src : V} {i : Nat} {xs : List V} {x : V} {Q : Option Value → Shared → Prop} {E : Value → Shared → Prop} (R : Rel G t st s) (hI : t.pv I) (hx : itemsOf st₀ range src = some xs) (hs : stays st₀ st range src = true) (h : ItOk st₀ t s I range src i) (hi : xs[i]? = some x)
    (q : ∀ v h' tk, Step (· = I) t t s { s with heap := h', toks := tk } → Rel G t st { s with heap := h', toks := tk } → VRel t h' x v → ItOk st₀ t { s with heap := h', toks := tk } I range src (i + 1) → Q (some v) { s with heap := h', toks := tk }) :
    wpAny G.M A (pyNext (.ref I)) Q E s := by
  cases range with
  | true =>
    obtain ⟨n, rfl, h⟩ := h
    simp only [itemsOf] at hx
    split at hx
    · cases hx
      have hlt : i < n.toNat := by
        rw [List.getElem?_map] at hi
        obtain ⟨j, hj, _⟩ := Option.map_eq_some_iff.mp hi
        rw [List.getElem?_eq_some_iff] at hj
        simpa using hj.1
      have hxi : x = .int (i : Int) := by
        rw [List.getElem?_map, List.getElem?_range hlt] at hi
        cases hi; rfl
      subst hxi
      refine wpAny_pyNext_range_item h (by omega) fun h' hit hs' => ?_
      have hl : (h'.get? I).isSome = true := by rw [hit]; rfl
      refine q _ h' _ (Step.priv rfl hl hs') (R.priv hI hl hs') ⟨_, rfl⟩ ⟨n, rfl, ?_⟩
      have e1 : ((i : Int) + 1) = ((i + 1 : Nat) : Int) := by omega
      have e2 : ((n.toNat : Int) - i - 1) = ((n.toNat : Int) - ((i + 1 : Nat) : Int)) := by omega
      rw [← e2, ← e1]; exact hit
    · cases hx
  | false =>
    obtain ⟨k, l, a, e, r, h⟩ := h
    simp only [itemsOf, e, Option.map_some] at hx
    cases hx
    have e' : seqOf st src = some (k, xs) := by rw [seqOf_stays hs, e]
    obtain ⟨a', vs, ea, io, rr, sz⟩ := seqOf_real R r e'
    cases ea
    obtain ⟨y, y1, y2⟩ := VRels.get rr hi
    rw [Array.getElem?_toList] at y1
    cases k with
    | true =>
      simp only [if_true] at h io
      refine wpAny_pyNext_list_item h io.isList y1 fun h' hit hs' => ?_
      have hl : (h'.get? I).isSome = true := by obtain ⟨o, ho, _⟩ := hit; rw [ho]; rfl
      have S : Step (· = I) t t s { s with heap := h', toks := s.toks } := Step.priv rfl hl hs'
      have xp : ∀ b, b = I → t.pv b := fun b z => by subst z; exact hI
      exact q _ h' s.toks S (R.priv hI hl hs') (VRel.step S xp _ y2) ⟨true, xs, a, e, VRel.step S xp _ r, by simp only [if_true]; exact hit⟩
    | false =>
      simp only [Bool.false_eq_true, if_false] at h io
      refine wpAny_pyNext_tuple_item h io.isTuple y1 fun h' hit hs' => ?_
      have hl : (h'.get? I).isSome = true := by obtain ⟨o, ho, _⟩ := hit; rw [ho]; rfl
      have S : Step (· = I) t t s { s with heap := h', toks := s.toks } := Step.priv rfl hl hs'
      have xp : ∀ b, b = I → t.pv b := fun b z => by subst z; exact hI
      exact q _ h' s.toks S (R.priv hI hl hs') (VRel.step S xp _ y2) ⟨false, xs, a, e, VRel.step S xp _ r, by simp only [Bool.false_eq_true, if_false]; exact hit⟩

theorem it_end {st₀ : MS} {I : Addr} {range : Bool} {src : V} {xs : List V} {Q : Option Value → Shared → Prop} {E : Value → Shared → Prop} (R : Rel G t st s) (hA : A.handled = none) (hx : itemsOf st₀ range src = some xs) (hs : stays st₀ st range src = true) (h : ItOk st₀ t s I range src xs.length)
    (q : ∀ h', Heap.ExtBut I s.heap h' → Q none { s with heap := h' }) : wpAny G.M A (pyNext (.ref I)) Q E s := by
  cases range with
  | true =>
    obtain ⟨n, rfl, h⟩ := h
    simp only [itemsOf] at hx
    split at hx
    · cases hx
      rw [List.length_map, List.length_range] at h
      exact wpAny_pyNext_range_end hA h (by omega) q
    · cases hx
  | false =>
    obtain ⟨k, l, a, e, r, h⟩ := h
    simp only [itemsOf, e, Option.map_some] at hx
    cases hx
    have e' : seqOf st src = some (k, xs) := by rw [seqOf_stays hs, e]
    obtain ⟨a', vs, ea, io, rr, sz⟩ := seqOf_real R r e'
    cases ea
    have hn : vs[xs.length]? = none := by rw [Array.getElem?_eq_none]; rw [size_of rr]; exact Nat.le_refl _
    cases k with
    | true =>
      simp only [if_true] at h io
      exact wpAny_pyNext_list_end hA h io.isList hn q
    | false =>
      simp only [Bool.false_eq_true, if_false] at h io
      exact wpAny_pyNext_tuple_end hA h io.isTuple hn q

theorem it_self {st₀ : MS} {I : Addr} {range : Bool} {src : V} {i : Nat} {Q : Value → Shared → Prop} {E : Value → Shared → Prop} (R : Rel G t st₀ s) (hA : A.handled = none) (h : ItOk st₀ t s I range src i) (q : Q (.ref I) s) : wpAny G.M A (pyIter (.ref I)) Q E s := by
  cases range with
  | true =>
    obtain ⟨n, rfl, h⟩ := h
    refine (Walks.range hA I 0 1 n.toNat).self i s Q E ?_ q
    have e1 : (0 : Int) + (i : Int) * 1 = i := by omega
    rw [e1]; exact h
  | false =>
    obtain ⟨k, l, a, e, r, h⟩ := h
    obtain ⟨a', vs, ea, io, rr, sz⟩ := seqOf_real R r e
    cases ea
    cases k with
    | true =>
      simp only [if_true] at h io
      have hne : a ≠ I := fun z => by
        obtain ⟨o, h1, h2, _⟩ := h
        obtain ⟨n, h3⟩ := io
        rw [z, h1] at h3; cases h3; exact absurd (show Value.type "list" = Value.type "list_iterator" from h2) (by decide)
      exact (Walks.list hA I a hne vs).self i s Q E ⟨h, io.isList⟩ q
    | false =>
      simp only [Bool.false_eq_true, if_false] at h io
      have hne : a ≠ I := fun z => by
        obtain ⟨o, h1, h2, _⟩ := h
        obtain ⟨n, h3⟩ := io
        rw [z, h1] at h3; cases h3; exact absurd (show Value.type "tuple" = Value.type "tuple_iterator" from h2) (by decide)
      exact (Walks.tuple hA I a hne vs).self i s Q E ⟨h, io.isTuple⟩ q

inductive IterAst (sc : Sc) : Bool → PySem.Expr → PySem.Expr → Prop
  | plain (j : PySem.Expr) : IterAst sc false j j
  | range {rp rpos : Pos} {j : PySem.Expr} (hg : glob sc "range" = true) (hj : isStarred j = false) : IterAst sc true (.Call (.Name "range" rp) [j] [] rpos) j

theorem iter_go (O : G.Ok N) {range : Bool} {it : E} {iast j : PySem.Expr} (ha : IterAst sc range iast j) (hj : SimE G C d sc Γ it j) {src : V} {s1 : MS} {xs : List V} (hA : AOk d A) (hsc : env.scope.names = sc) (F : FrOk G t env Γ loc s) (R : Rel G t st s)
    (e1 : ev G.P C it loc st = .ok src s1) (hx : itemsOf s1 range src = some xs) {K : Value → Shared → Prop} {E' : Value → Shared → Prop}
    (h : ∀ t1 σ1 σ2 I, Step noX t t1 s σ1 → Rel G t1 s1 σ1 → (∀ b o, σ1.heap.get? b = some o → σ2.heap.get? b = some o) → σ1.heap.get? I = none → (σ2.heap.get? I).isSome = true → σ2.gens = σ1.gens → σ2.os = σ1.os →
      (∀ (t' : Tie) (s' : Shared), (∀ a, VRel t1 σ1.heap src (.ref a) → VRel t' s'.heap src (.ref a)) → (∀ o, σ2.heap.get? I = some o → s'.heap.get? I = some o) → ItOk s1 t' s' I range src 0) → K (.ref I) σ2) :
    wpAny G.M A (eval iast env) (fun xv s' => wpAny G.M A (pyIter xv) K E' s') E' s := by
  cases ha with
  | plain j =>
    refine hj t st s env loc _ _ A hA hsc F R e1 _ _ fun v t1 σ1 S1 R1 r1 => ?_
    simp only [itemsOf, Option.map_eq_some_iff] at hx
    obtain ⟨⟨k, l⟩, hk, rfl⟩ := hx
    obtain ⟨a, vs, rfl, io, rr, sz⟩ := seqOf_real R1 r1 hk
    cases k with
    | true =>
      simp only [if_true] at io
      refine wpAny_pyIter_list io.isList ?_
      refine h t1 σ1 _ _ S1 R1 (fun b o e => Heap.get?_push_of_some _ e) (size_none _) (by show (Heap.get? _ _).isSome = true; rw [Heap.get?_push_size _ rfl]; rfl) rfl rfl fun t' s' hv hs' => ⟨true, l, a, hk, hv a r1, ?_⟩
      simp only [if_true]
      exact ⟨_, hs' _ (Heap.get?_push_size _ rfl), rfl, rfl⟩
    | false =>
      simp only [Bool.false_eq_true, if_false] at io
      refine wpAny_pyIter_tuple io.isTuple ?_
      refine h t1 σ1 _ _ S1 R1 (fun b o e => Heap.get?_push_of_some _ e) (size_none _) (by show (Heap.get? _ _).isSome = true; rw [Heap.get?_push_size _ rfl]; rfl) rfl rfl fun t' s' hv hs' => ⟨false, l, a, hk, hv a r1, ?_⟩
      simp only [Bool.false_eq_true, if_false]
      exact ⟨_, hs' _ (Heap.get?_push_size _ rfl), rfl, rfl⟩
  | @range rp rpos j hg hjs =>
    simp only [itemsOf] at hx
    split at hx
    · rename_i n
      split at hx
      · rename_i hn
        have e1' : evL G.P C [it] loc st = .ok [.int n] s1 := by simp [evL_nil, evL_cons, e1, Res.bind]
        refine wpAny_Call_ofName (built_glob (v := .type "range") O F R hsc hg (by decide) (by decide +kernel) ?_)
        refine with_go O (keeps_t _) (l := [it]) (m := [j]) (by simp [plainArgs, hjs]) rfl (sim_es_cons hjs hj sim_es_nil) hA hsc F R e1' fun vs t1 σ1 S1 R1 r1 => ?_
        obtain ⟨v, _, rfl, ⟨k, rfl⟩, rfl⟩ := r1
        have hlo : -(2 ^ 62 : Int) ≤ n := by omega
        have hhi : n < (2 ^ 62 : Int) := by have := hn.2; unfold sizeMax at this; omega
        refine call_range_1 (wpAny_pyIter_range (IsRange.new ..) (small_one (by decide) (by decide) hlo hhi) ?_)
        have hsz : Builtin.Range.rangeSize 0 n 1 = (n.toNat : Int) := by rw [rangeSize_one]; split <;> omega
        refine h t1 σ1 _ _ S1 R1 (fun b o e => Heap.get?_push_of_some _ (Heap.get?_push_of_some _ e)) (by rw [Heap.size_push]; exact size_none1 _) (by show (Heap.get? _ _).isSome = true; rw [Heap.get?_push_size _ rfl]; rfl) rfl rfl fun t' s' hv hs' => ⟨n, rfl, hs' _ ?_⟩
        rw [hsz]
        have e2 : ((n.toNat : Int) - ((0 : Nat) : Int)) = (n.toNat : Int) := by omega
        rw [e2]
        exact Heap.get?_push_size _ rfl
      · cases hx
    · cases hx
end
end Mine
end

section
set_option maxRecDepth 100000
namespace Mine
open PySem PySem.W PyProof.Rows

section
variable {G : Gd} {N : Names} {C : Calls} {d : Nat} {sc : Sc} {Γ : Gam} {A : Around} {t : Tie} {st st' : MS} {s : Shared} {env : Env} {loc : Loc} {X Y Z : V} {v w : Value}

noncomputable def clo (env : Env) : Sc → List (PySem.Str × Addr) → List (PySem.Str × Addr)
  | [], acc => acc
  | x :: r, acc => clo env r (if x.2 == .free then (match env.cells.lookup x.1 with | some c => (x.1, c) :: acc | none => acc) else acc)

theorem clo_go (env : Env) : ∀ (names : Sc) (acc : List (PySem.Str × Addr)), (∀ x ∈ names, x.2 = .free → (env.cells.lookup x.1).isSome = true) →
    (forIn names acc fun (x : PySem.Str × NameKind) (cs : List (PySem.Str × Addr)) => (if x.2 == .free then do let c ← cellOf env x.1; pure (ForInStep.yield ((x.1, c) :: cs)) else pure (ForInStep.yield cs) : Sem _)) = pure (clo env names acc)
  | [], _, _ => rfl
  | x :: r, acc, h => by
    rw [List.forIn_cons]
    have ih := fun acc => clo_go env r acc fun y hy => h y (.tail _ hy)
    by_cases q : (x.2 == .free) = true
    · obtain ⟨c, hc⟩ := Option.isSome_iff_exists.mp (h x (.head _) (by simpa using q))
      simp only [q, if_true, cellOf, hc, clo]
      exact ih _
    · simp only [q, if_false, clo]
      exact ih _

theorem closure_eq {scope : Scope} (h : ∀ x ∈ scope.names, x.2 = .free → (env.cells.lookup x.1).isSome = true) : closureFor scope env = pure (clo env scope.names []) := by
  have e := clo_go env scope.names [] h
  exact (congrArg (· >>= fun r => pure r) e : _)

theorem clo_mem : ∀ {names : Sc} {acc : List (PySem.Str × Addr)} {n : PySem.Str} {c : Addr}, (n, c) ∈ clo env names acc → (n, c) ∈ acc ∨ ((n, .free) ∈ names ∧ env.cells.lookup n = some c)
  | [], _, _, _, h => .inl h
  | x :: r, acc, n, c, h => by
    simp only [clo] at h
    rcases clo_mem h with h | h
    · split at h
      · rename_i q
        split at h
        · rename_i c' hc
          rcases List.mem_cons.mp h with e | h
          · cases e
            refine .inr ⟨?_, hc⟩
            have : x.2 = .free := by simpa using q
            rw [← this]; exact .head _
          · exact .inl h
        · exact .inl h
      · exact .inl h
    · exact .inr ⟨.tail _ h.1, h.2⟩

theorem clo_look : ∀ {names : Sc} {acc : List (PySem.Str × Addr)} {n : PySem.Str}, (∀ c, (n, c) ∈ acc → env.cells.lookup n = some c) → (n, .free) ∈ names ∨ acc.lookup n = env.cells.lookup n → (clo env names acc).lookup n = env.cells.lookup n
  | [], _, _, _, h => h.resolve_left (fun z => by cases z)
  | x :: r, acc, n, ha, h => by
    simp only [clo]
    have hacc' : ∀ c, (n, c) ∈ (if (x.2 == .free) = true then (match env.cells.lookup x.1 with | some c => (x.1, c) :: acc | none => acc) else acc) → env.cells.lookup n = some c := by
      intro c hc
      split at hc
      · split at hc
        · rename_i c' hc'
          rcases List.mem_cons.mp hc with e | hc
          · cases e; exact hc'
          · exact ha c hc
        · exact ha c hc
      · exact ha c hc
    refine clo_look hacc' ?_
    by_cases q : (n, .free) ∈ r
    · exact .inl q
    · right
      by_cases z : x.1 = n
      · by_cases z2 : x.2 = .free
        · rw [if_pos (by simpa using z2), z]
          cases hc : env.cells.lookup n with
          | some c => simp [List.lookup_cons]
          | none =>
            dsimp only
            cases hl : acc.lookup n with
            | none => rfl
            | some c => have := ha c (mem_of_lookup hl); rw [hc] at this; cases this
        · rw [if_neg (by simpa using z2)]
          refine h.resolve_left fun hm => ?_
          rcases List.mem_cons.mp hm with e | hm
          · exact z2 (by rw [← e])
          · exact q hm
      · have hl : acc.lookup n = env.cells.lookup n := h.resolve_left fun hm => by
          rcases List.mem_cons.mp hm with e | hm
          · exact z (by rw [← e])
          · exact q hm
        have hb : (n == x.1) = false := by simpa using fun e => z e.symm
        split
        · split
          · rw [List.lookup_cons, hb]; exact hl
          · exact hl
        · exact hl
end
end Mine
end

section
set_option maxRecDepth 100000
namespace Mine
open PySem PySem.W PyProof.Rows

section
variable {G : Gd} {N : Names} {C : Calls} {d : Nat} {sc : Sc} {Γ : Gam} {A : Around} {t : Tie} {st st' : MS} {s : Shared} {env : Env} {loc : Loc} {X Y Z : V} {v w : Value}

theorem FrOk.stepX {X : Addr → Prop} {t' : Tie} {s' : Shared} (F : FrOk G t env Γ loc s) (R : Rel G t st s) (S : Step X t t' s s') (xp : ∀ a, X a → t.pv a) (hl : ¬ X env.locals) (hc : ∀ n c, env.cells.lookup n = some c → ¬ X c) : FrOk G t' env Γ loc s' where
  fn := F.fn
  gl := F.gl
  bl := F.bl
  pvl := by rw [S.le.pv]; exact F.pvl
  pvc n c h := by rw [S.le.pv]; exact F.pvc n c h
  apart := F.apart
  ex := by
    obtain ⟨m, cm, ⟨o, es, ep, ho, r⟩, hcc, hz, hs⟩ := F.ex
    refine ⟨m, cm, ⟨o, es, ep, S.keep _ _ ho (R.pv _ F.pvl) hl, r⟩, fun n c e => ?_, hz, fun i x X e1 e2 => ?_⟩
    · obtain ⟨oc, h1, h2⟩ := hcc n c e
      exact ⟨oc, S.keep _ _ h1 (R.pv _ (F.pvc n c e)) (hc n c e), h2⟩
    · obtain ⟨v, hv, r⟩ := hs i x X e1 e2
      exact ⟨v, VRel.step S xp X hv, r⟩

theorem FrOk.hideGrow {s' : Shared} {P : Addr → Prop} (F : FrOk G t env Γ loc s) (np : ∀ a, P a → s.heap.get? a = none) (hk : ∀ b o, s.heap.get? b = some o → s'.heap.get? b = some o) (hg : s'.gens = s.gens) (ho : s'.os = s.os) : FrOk G (t.hide P) env Γ loc s' where
  fn := F.fn
  gl := F.gl
  bl := F.bl
  pvl := .inl F.pvl
  pvc n c h := .inl (F.pvc n c h)
  apart := F.apart
  ex := by
    have S : Step noX (t.hide P) (t.hide P) s s' := ⟨.refl _, fun a o e _ _ => hk a o e, fun _ o => .inl o, fun a o e => by rw [hk a o e]; rfl, hg, ho⟩
    obtain ⟨m, cm, hn, hcc, hz, hs⟩ := F.ex
    refine ⟨m, cm, hn.keeps hk, fun n c e => ?_, hz, fun i x X e1 e2 => ?_⟩
    · obtain ⟨oc, h1, h2⟩ := hcc n c e
      exact ⟨oc, hk _ _ h1, h2⟩
    · obtain ⟨v, hv, r⟩ := hs i x X e1 e2
      exact ⟨v, VRel.step S (fun _ z => z.elim) X (VRel.hide np X hv), r⟩

theorem compSc_eq {scope : Scope} (hf : env.scope.kind = .function) (hsc : env.scope.names = sc) : (relabel scope env).names = compSc sc scope.names := by
  unfold relabel compSc
  dsimp only
  refine List.map_congr_left fun x hx => ?_
  obtain ⟨n, k⟩ := x
  simp only [hf, Env.kindOf, hsc, BEq.rfl, Bool.and_true]

theorem compSc_cell : ∀ {names : Sc} {y : PySem.Str}, (∀ z ∈ names, z.2 ≠ .cell) → (compSc sc names).lookup y = some .cell → (y, .free) ∈ names ∧ sc.lookup y = some .cell
  | [], _, _, h => by cases h
  | x :: r, y, hn, h => by
    have ih := @compSc_cell r y (fun z hz => hn z (.tail _ hz))
    obtain ⟨n, k⟩ := x
    change List.lookup y ((if k == .free && sc.lookup n == some .cell then (n, .cell) else (n, k)) :: compSc sc r) = some .cell at h
    by_cases q : (k == .free && sc.lookup n == some .cell) = true
    · rw [if_pos q, List.lookup_cons] at h
      simp only [Bool.and_eq_true, beq_iff_eq] at q
      cases z : y == n with
      | true =>
        have e : y = n := by simpa using z
        subst e
        exact ⟨by rw [← q.1]; exact .head _, q.2⟩
      | false => rw [z] at h; exact ⟨.tail _ (ih h).1, (ih h).2⟩
    · rw [if_neg q, List.lookup_cons] at h
      cases z : y == n with
      | true => rw [z] at h; cases h; exact absurd rfl (hn _ (.head _))
      | false => rw [z] at h; exact ⟨.tail _ (ih h).1, (ih h).2⟩

structure CompOk (sc : Sc) (scope : Scope) (slot : Nat) (Γ : Gam) (x : PySem.Str) : Prop where
  fn : scope.kind = .function
  slot : slot < Γ.length
  x : scope.names.lookup x = some .local
  cell : ∀ y ∈ scope.names, y.2 ≠ .cell
  loc : ∀ y ∈ scope.names, y.2 = .local → scope.names.lookup y.1 = some .local
  free : ∀ y ∈ scope.names, y.2 = .free → sc.lookup y.1 = some .cell
theorem compOk_real {scope : Scope} {slot : Nat} {x : PySem.Str} (h : compOk sc scope slot Γ x = true) : CompOk sc scope slot Γ x := by
  simp only [compOk, Bool.and_eq_true, beq_iff_eq, decide_eq_true_eq, List.all_eq_true] at h
  obtain ⟨⟨⟨h1, h2⟩, h3⟩, h4⟩ := h
  refine ⟨h1, h2, h3, fun y hy z => ?_, fun y hy z => ?_, fun y hy z => ?_⟩
  · have := h4 y hy; simp [z] at this
  · have := h4 y hy; simpa [z] using this
  · have := h4 y hy; simpa [z] using this

theorem FrOk.comp {scope : Scope} {slot : Nat} {x : PySem.Str} {Ca : Addr} {m : PySem.Str → Option Value} (F : FrOk G t env Γ loc s) (hsc : env.scope.names = sc) (K : CompOk sc scope slot Γ x) (hC : t.pv Ca) (hn : s.heap.Ns Ca m) (hm : m x = some v) (hv : VRel t s.heap X v) :
    FrOk G t (compEnvC scope (clo env scope.names []) Ca env) (compGam (compSc sc scope.names) Γ slot x) (loc.set slot (some X)) s := by
  have hsc' := compSc_eq (scope := scope) F.fn hsc
  obtain ⟨m0, cm, hn0, hcc, hz, hs⟩ := F.ex
  have lk : ∀ n c, (clo env scope.names []).lookup n = some c → env.cells.lookup n = some c := fun n c e => (clo_mem (mem_of_lookup e)).elim (fun z => by cases z) fun z => z.2
  refine ⟨K.fn, F.gl, F.bl, hC, fun n c h => ?_, fun n n' c h h' => F.apart n n' c (lk n c h) (lk n' c h'), m, cm, hn, fun n c e => hcc n c (lk n c e), fun y hy => ?_, fun i y Y e1 e2 => ?_⟩
  · exact F.pvc n c (lk n c h)
  · change (relabel scope env).names.lookup y = some .cell at hy
    rw [hsc'] at hy
    obtain ⟨h1, h2⟩ := compSc_cell K.cell hy
    show ((clo env scope.names []).lookup y).isSome = true
    rw [clo_look (fun c z => by cases z) (.inl h1)]
    exact hz y (by unfold Env.kindOf; rw [hsc]; exact h2)
  · unfold compGam at e1
    by_cases q : i = slot
    · subst q
      rw [List.getElem?_set_self (by rw [List.length_map]; exact K.slot)] at e1
      cases e1
      have e2' : Y = X := by
        by_cases hl2 : i < loc.length
        · rw [List.getElem?_set_self hl2] at e2; cases e2; rfl
        · rw [List.getElem?_eq_none (by rw [List.length_set]; omega)] at e2; cases e2
      subst e2'
      exact ⟨v, hv, .inl ⟨lookup_relabel_local K.x, hm⟩⟩
    · rw [List.getElem?_set_ne (fun z => q z.symm), List.getElem?_map] at e1
      rw [List.getElem?_set_ne (fun z => q z.symm)] at e2
      obtain ⟨o, ho, e3⟩ := Option.map_eq_some_iff.mp e1
      cases o with
      | none => cases e3
      | some n =>
        dsimp only at e3
        split at e3
        · rename_i hcell
          obtain rfl : n = y := by cases e3; rfl
          have hcell : (compSc sc scope.names).lookup n = some .cell := by simpa using hcell
          obtain ⟨h1, h2⟩ := compSc_cell K.cell hcell
          obtain ⟨u, u1, u2⟩ := hs i n Y ho e2
          have hk : env.kindOf n = some .cell := by unfold Env.kindOf; rw [hsc]; exact h2
          refine ⟨u, u1, .inr ⟨?_, ?_⟩⟩
          · show (relabel scope env).names.lookup n = some .cell
            rw [hsc']; exact hcell
          · rcases u2 with ⟨z, _⟩ | ⟨_, z⟩
            · rw [hk] at z; cases z
            · exact z
        · cases e3
end
end Mine
end

section
set_option maxRecDepth 100000
namespace Mine
open PySem PySem.W PyProof.Rows

section
variable {G : Gd} {N : Names} {C : Calls} {d : Nat} {sc : Sc} {Γ : Gam} {A : Around} {t : Tie} {st st' : MS} {s : Shared} {env : Env} {loc : Loc} {X Y Z : V} {v w : Value}

inductive CondSim (G : Gd) (C : Calls) (d : Nat) (sc : Sc) (Γ : Gam) : Option E → List PySem.Expr → Prop
  | none : CondSim G C d sc Γ none []
  | some {c : E} {ci : PySem.Expr} : SimT G C d sc Γ c ci → CondSim G C d sc Γ (some c) [ci]

noncomputable def condRun (P : Prog) (C : Calls) (cond : Option E) (loc : Loc) (st : MS) : Res Bool :=
  match evC P C cond with
  | some c => (c loc st).bind truth
  | none => .ok true st

theorem cond_go {cond : Option E} {ifs : List PySem.Expr} (h : CondSim G C d sc Γ cond ifs) (hA : AOk d A) (hsc : env.scope.names = sc) (F : FrOk G t env Γ loc s) (R : Rel G t st s) {b : Bool} (e : condRun G.P C cond loc st = .ok b st') :
    Sim G A t s (forIn ifs true fun c r => if r = true then do let ok ← isTrue c env (eval c env); pure (ForInStep.yield ok) else pure (ForInStep.yield r)) st' (fun _ _ b' => b' = b) := by
  cases h with
  | none =>
    cases e
    exact fun Q E k => wpAny_pure (k true t s (.refl _ _ _) R rfl)
  | @some c ci h =>
    simp only [condRun, evC] at e
    obtain ⟨v, s1, e1, e⟩ := Res.bind_ok e
    obtain ⟨rfl, rfl⟩ := truth_ok e
    intro Q E k
    rw [List.forIn_cons]
    simp only [if_true]
    refine wpAny_bind (wpAny_bind (h t st s env loc b _ A hA hsc F R e1 _ _ fun b' t1 σ1 S1 R1 r1 => ?_))
    exact wpAny_pure (wpAny_pure (k b' t1 σ1 S1 R1 r1))

structure CEnd (G : Gd) (t : Tie) (σ : Shared) (st' : MS) (vs : List V) (env : Env) (Γ : Gam) (loc : Loc) (Ca D : Addr) (se : Shared) : Prop where
  ex : ∃ (P : Addr → Prop) (τ : Tie) (s0 s1 : Shared) (ys : Array Value) (m : PySem.Str → Option Value),
    (∀ a, P a → σ.heap.get? a = none) ∧ P Ca ∧ P D ∧ D ≠ Ca ∧ (∀ b o, σ.heap.get? b = some o → s0.heap.get? b = some o) ∧ s0.gens = σ.gens ∧ s0.os = σ.os ∧ Step P (t.hide P) τ s0 s1 ∧ Rel G τ st' s1 ∧ FrOk G τ env Γ loc s1 ∧
    PL s1.heap D ys ∧ VRels τ s1.heap vs ys.toList ∧ vs.length ≤ sizeMax ∧ se.heap.Ns Ca m ∧ (∀ b o, (P b → b = Ca ∨ b = D) → s1.heap.get? b = some o → se.heap.get? b = some o) ∧ se.gens = s1.gens ∧ se.os = s1.os

theorem comp_loop {range : Bool} {src : V} {xs vs : List V} {st₀ : MS} {slot : Nat} {cond : Option E} {el : E} {elt iter : PySem.Expr} {ifs : List PySem.Expr} {scope : Scope} {x : PySem.Str} {px pos : Pos} {P : Addr → Prop} {Ca D I : Addr} {σ s0 : Shared} {m0 : PySem.Str → Option Value} {RR : Result → Shared → Prop}
    (hA : AOk d A) (hsc : env.scope.names = sc) (K : CompOk sc scope slot Γ x)
    (hcond : CondSim G C d (compSc sc scope.names) (compGam (compSc sc scope.names) Γ slot x) cond ifs) (hel : SimE G C d (compSc sc scope.names) (compGam (compSc sc scope.names) Γ slot x) el elt)
    (np : ∀ a, P a → σ.heap.get? a = none) (pC : P Ca) (pD : P D) (pI : P I) (pO : ∀ a, P a → a = Ca ∨ a = D ∨ a = I) (DC : D ≠ Ca) (DI : D ≠ I) (CI : Ca ≠ I) (hk0 : ∀ b o, σ.heap.get? b = some o → s0.heap.get? b = some o) (hg0 : s0.gens = σ.gens) (ho0 : s0.os = σ.os)
    (F0 : FrOk G (t.hide P) env Γ loc s0) (fl : ¬ P env.locals) (fc : ∀ n c, env.cells.lookup n = some c → ¬ P c) (R0 : Rel G (t.hide P) st₀ s0) (hn0 : s0.heap.Ns Ca m0) (hD0 : PL s0.heap D #[]) (hI0 : ItOk st₀ (t.hide P) s0 I range src 0)
    (hx : itemsOf st₀ range src = some xs) (e : compLoop st₀ range src slot (evC G.P C cond) (ev G.P C el) loc [] xs st₀ = .ok vs st')
    (hRR : ∀ se, CEnd G t σ st' vs env Γ loc Ca D se → RR (.ok .next) se) :
    codeAny G.M A (.compLoop (.ListComp elt [⟨.Name x px, iter, ifs, 0⟩] scope pos) 0 (.ref I) (.ref D) (compEnvC scope (clo env scope.names []) Ca env)) RR s0 := by
  have hsc' : (compEnvC scope (clo env scope.names []) Ca env).scope.names = compSc sc scope.names := compSc_eq F0.fn hsc
  refine codeAny_compLoop_tests
    (fun n σ1 => ∃ (τ : Tie) (sti : MS) (ys : Array Value) (m : PySem.Str → Option Value) (done rest acc : List V), xs = done ++ rest ∧ n = rest.length ∧ Step P (t.hide P) τ s0 σ1 ∧ Rel G τ sti σ1 ∧ FrOk G τ env Γ loc σ1 ∧ σ1.heap.Ns Ca m ∧ PL σ1.heap D ys ∧
      VRels τ σ1.heap acc ys.toList ∧ acc.length ≤ sizeMax ∧ ItOk st₀ τ σ1 I range src done.length ∧ compLoop st₀ range src slot (evC G.P C cond) (ev G.P C el) loc acc rest sti = .ok vs st')
    ?_ xs.length ⟨t.hide P, st₀, #[], m0, [], xs, [], rfl, rfl, .refl _ _ _, R0, F0, hn0, hD0, rfl, Nat.zero_le _, hI0, e⟩
  rintro n σ1 ⟨τ, sti, ys, m, done, rest, acc, hxs, rfl, S, R, F, hn, hD, hacc, hsz, hI, e⟩
  have hpv : ∀ a, P a → τ.pv a := fun a q => by rw [S.le.pv]; exact .inr q
  have xpP : ∀ a, P a → τ.pv a := hpv
  cases rest with
  | nil =>
    simp only [compLoop] at e
    split at e
    case isFalse => cases e
    rename_i hst
    cases e
    have hI' : ItOk st₀ τ σ1 I range src xs.length := by rw [hxs, List.append_nil]; exact hI
    refine it_end R hA.hd hx hst hI' fun h' hext => ?_
    refine hRR _ ⟨P, τ, s0, σ1, ys, m, np, pC, pD, DC, hk0, hg0, ho0, S, R, F, hD, hacc, hsz, ?_, ?_, rfl, rfl⟩
    · obtain ⟨o, es, ep, h1, h2⟩ := hn
      exact ⟨o, es, ep, hext _ _ CI h1, h2⟩
    · intro b o hb eb
      refine hext b o (fun z => ?_) eb
      subst z
      rcases hb pI with z | z
      · exact CI z.symm
      · exact DI z.symm
  | cons x0 rest =>
    simp only [compLoop] at e
    split at e
    case isFalse => cases e
    rename_i hst
    obtain ⟨b, s2, e2, e⟩ := Res.bind_ok e
    have hi : xs[done.length]? = some x0 := by rw [hxs, List.getElem?_append_right (Nat.le_refl _), Nat.sub_self]; rfl
    refine it_next R (hpv I pI) hx hst hI hi fun v h1 tk1 SA RA rv hIA => ?_
    -- the frame stands
    have FA : FrOk G τ env Γ loc { σ1 with heap := h1, toks := tk1 } := F.stepX R SA (fun a z => by subst z; exact hpv _ pI) (fun z => fl (by rw [z]; exact pI)) fun n c hc z => fc n c hc (by rw [z]; exact pI)
    have hnA : Heap.Ns h1 Ca m := by
      obtain ⟨o, es, ep, q1, q2⟩ := hn
      exact ⟨o, es, ep, SA.keep _ _ q1 (R.pv _ (hpv _ pC)) CI, q2⟩
    have hDA : PL h1 D ys := by obtain ⟨k, q⟩ := hD; exact ⟨k, SA.keep _ _ q (R.pv _ (hpv _ pD)) DI⟩
    have haccA := VRels.step SA (fun a z => by subst z; exact hpv _ pI) _ hacc
    refine wpAny_assign_Name (wpAny_storeName_local (lookup_relabel_local K.x) (s := { σ1 with heap := h1, toks := tk1 }) hnA (fun h2 hn2 hs2 => ?_) (by simp [compEnvC, relabel, K.fn]))
    change Heap.Ns h2 Ca _ at hn2
    change Heap.SameBut Ca h1 h2 at hs2
    have hl2 : (h2.get? Ca).isSome = true := by obtain ⟨o, _, _, q, _⟩ := hn2; rw [q]; rfl
    have SB : Step (· = Ca) τ τ { σ1 with heap := h1, toks := tk1 } { σ1 with heap := h2, toks := tk1 + 1 } := Step.priv rfl hl2 hs2
    have RB : Rel G τ sti { σ1 with heap := h2, toks := tk1 + 1 } := RA.priv (hpv _ pC) hl2 hs2
    have xB : ∀ a, a = Ca → τ.pv a := fun a z => by subst z; exact hpv _ pC
    have FB : FrOk G τ env Γ loc { σ1 with heap := h2, toks := tk1 + 1 } := FA.stepX RA SB xB (fun z => fl (by rw [z]; exact pC)) fun n c hc z => fc n c hc (by rw [z]; exact pC)
    have hDB : PL h2 D ys := by obtain ⟨k, q⟩ := hDA; exact ⟨k, SB.keep _ _ q (RA.pv _ (hpv _ pD)) DC⟩
    have haccB := VRels.step SB xB _ haccA
    have rvB : VRel τ h2 x0 v := VRel.step SB xB _ rv
    have hIB := hIA.step SB xB (RA.pv _ (hpv _ pI)) (fun z => CI z.symm)
    have FC := FB.comp (x := x) (X := x0) hsc K (hpv _ pC) hn2 (by simp) rvB
    have SAB : Step P (t.hide P) τ s0 { σ1 with heap := h2, toks := tk1 + 1 } := (S.trans (SA.mono fun a z => by subst z; exact pI)).trans (SB.mono fun a z => by subst z; exact pC)
    refine cond_go hcond hA hsc' FC RB (show condRun G.P C cond (loc.set slot (some x0)) sti = .ok b s2 from e2) _ _ fun b' τ3 σ3 S3 R3 r3 => ?_
    subst r3
    have hpv3 : ∀ a, P a → τ3.pv a := fun a q => by rw [S3.le.pv]; exact hpv a q
    have F3 := FB.step RB S3
    have hn3 : ∃ m3, σ3.heap.Ns Ca m3 := by
      obtain ⟨o, es, ep, q1, q2⟩ := hn2
      exact ⟨_, o, es, ep, S3.keep _ _ q1 (RB.pv _ (hpv _ pC)) (fun z => z), q2⟩
    have hD3 : PL σ3.heap D ys := by obtain ⟨k, q⟩ := hDB; exact ⟨k, S3.keep _ _ q (RB.pv _ (hpv _ pD)) (fun z => z)⟩
    have hacc3 := VRels.step S3 (fun _ z => z.elim) _ haccB
    have hI3 := hIB.step S3 (fun _ z => z.elim) (RB.pv _ (hpv _ pI)) (fun z => z)
    have S03 := SAB.trans (S3.mono fun a z => z.elim)
    have hxs' : xs = (done ++ [x0]) ++ rest := by rw [hxs]; simp
    cases b' with
    | false =>
      simp only [Bool.false_eq_true, if_false] at e ⊢
      obtain ⟨m3, hn3⟩ := hn3
      exact ⟨rest.length, by simp, τ3, s2, ys, m3, done ++ [x0], rest, acc, hxs', rfl, S03, R3, F3, hn3, hD3, hacc3, hsz, by simpa using hI3, e⟩
    | true =>
      simp only [if_true] at e ⊢
      obtain ⟨y, s4, e4, e⟩ := Res.bind_ok e
      split at e
      case isFalse => cases e
      rename_i hlen
      have FC3 := FC.step RB S3
      refine hel τ3 s2 σ3 _ (loc.set slot (some x0)) y s4 A hA hsc' FC3 R3 e4 _ _ fun u τ4 σ4 S4 R4 r4 => ?_
      have hpv4 : ∀ a, P a → τ4.pv a := fun a q => by rw [S4.le.pv]; exact hpv3 a q
      have F4 := F3.step R3 S4
      have hD4 : PL σ4.heap D ys := by obtain ⟨k, q⟩ := hD3; exact ⟨k, S4.keep _ _ q (R3.pv _ (hpv3 _ pD)) (fun z => z)⟩
      have hacc4 := VRels.step S4 (fun _ z => z.elim) _ hacc3
      have hI4 := hI3.step S4 (fun _ z => z.elim) (R3.pv _ (hpv3 _ pI)) (fun z => z)
      refine wpAny_list_append_plain (hsz := by rw [size_of hacc4]; exact hsz) hD4 fun h5 hl5 hs5 => ?_
      have hl : (h5.get? D).isSome = true := by obtain ⟨k, q⟩ := hl5; rw [q]; rfl
      have S5 : Step (· = D) τ4 τ4 σ4 { σ4 with heap := h5, toks := σ4.toks } := Step.priv rfl hl hs5
      have xD : ∀ a, a = D → τ4.pv a := fun a z => by subst z; exact hpv4 _ pD
      have R5 : Rel G τ4 s4 { σ4 with heap := h5, toks := σ4.toks } := R4.priv (hpv4 _ pD) hl hs5
      have F5 := F4.stepX R4 S5 xD (fun z => fl (by rw [z]; exact pD)) fun n c hc z => fc n c hc (by rw [z]; exact pD)
      have hn5 : ∃ m5, Heap.Ns h5 Ca m5 := by
        obtain ⟨m3, o, es, ep, q1, q2⟩ := hn3
        exact ⟨m3, o, es, ep, S5.keep _ _ (S4.keep _ _ q1 (R3.pv _ (hpv3 _ pC)) (fun z => z)) (R4.pv _ (hpv4 _ pC)) (fun z => DC z.symm), q2⟩
      obtain ⟨m5, hn5⟩ := hn5
      refine ⟨rest.length, by simp, τ4, s4, ys.push u, m5, done ++ [x0], rest, acc ++ [y], hxs', rfl, (S03.trans (S4.mono fun a z => z.elim)).trans (S5.mono fun a z => by subst z; exact pD), R5, F5, hn5, hl5, ?_, by rw [List.length_append]; exact hlen, ?_, e⟩
      · rw [Array.toList_push]
        exact (VRels.step S5 xD _ hacc4).append ⟨u, [], rfl, VRel.step S5 xD _ r4, rfl⟩
      · have := hI4.step S5 xD (R4.pv _ (hpv4 _ pI)) (fun z => DI z.symm)
        simpa using this
end
end Mine
end

section
set_option maxRecDepth 100000
namespace Mine
open PySem PySem.W PyProof.Rows

noncomputable def notSet : PySem.Expr → Bool
  | .Set .. => false
  | _ => true
theorem notSet_pure {e : PySem.Expr} (h : notSet e = true) (env : Env) (x : Value) : foldedSetIterable e env x = pure x := by
  cases e <;> first | rfl | cases h

section
variable {G : Gd} {N : Names} {C : Calls} {d : Nat} {sc : Sc} {Γ : Gam} {A : Around} {t : Tie} {st st' : MS} {s : Shared} {env : Env} {loc : Loc} {X Y Z : V} {v w : Value}

theorem comp_go (O : G.Ok N) {range : Bool} {src : V} {xs vs : List V} {s1 : MS} {slot : Nat} {it : E} {cond : Option E} {el : E} {elt iast j : PySem.Expr} {ifs : List PySem.Expr} {scope : Scope} {x : PySem.Str} {px pos pos' : Pos} {use : Option (Value → Sem Unit)} {Q E' : Value → Shared → Prop}
    (hA : AOk d A) (hsc : env.scope.names = sc) (K : CompOk sc scope slot Γ x) (hset : notSet iast = true) (ha : IterAst sc range iast j) (hj : SimE G C d sc Γ it j)
    (hcond : CondSim G C d (compSc sc scope.names) (compGam (compSc sc scope.names) Γ slot x) cond ifs) (hel : SimE G C d (compSc sc scope.names) (compGam (compSc sc scope.names) Γ slot x) el elt)
    (F : FrOk G t env Γ loc s) (R : Rel G t st s) (e1 : ev G.P C it loc st = .ok src s1) (hx : itemsOf s1 range src = some xs) (e : compLoop s1 range src slot (evC G.P C cond) (ev G.P C el) loc [] xs s1 = .ok vs st')
    (hend : ∀ t1 σ1 Ca D se, Step noX t t1 s σ1 → Rel G t1 s1 σ1 → CEnd G t1 σ1 st' vs env Γ loc Ca D se → compPost G.M A E' use Q (.ref D) Ca (.ok .next) se) :
    wpAny G.M A (comprehension (.ListComp elt [⟨.Name x px, iast, ifs, 0⟩] scope pos) scope env pos' (newList []) false (eval iast env) use) Q E' s := by
  have hfree : ∀ y ∈ scope.names, y.2 = .free → (env.cells.lookup y.1).isSome = true := fun y hy z => by
    obtain ⟨_, _, _, _, hz, _⟩ := F.ex
    exact hz y.1 (by unfold Env.kindOf; rw [hsc]; exact K.free y hy z)
  refine wpAny_comprehension_free (g := ⟨.Name x px, iast, ifs, 0⟩) (gs := []) rfl (notSet_pure hset env) (closure_eq hfree) K.fn K.loc ?_
  refine iter_go O ha hj hA hsc F R e1 hx fun t1 σ1 σ2 I S1 R1 hk hI hIl hg ho hit => ?_
  refine wpAny_newObj_type (wpAny_newFunctionEnv K.cell (by intro y hy; simp at hy) (fun h₁ hns₁ hsb₁ => ?_) K.fn)
  dsimp only at hns₁ hsb₁ ⊢
  generalize hH2 : σ2.heap.push { cls := .type "list", dict := none, data := .seq ([] : List Value).toArray } = H2 at hns₁ hsb₁ ⊢
  have hC : H2.objs.size = σ2.heap.objs.size + 1 := by rw [← hH2, Heap.size_push]
  have DC : σ2.heap.objs.size ≠ H2.objs.size := by rw [hC]; exact Nat.ne_of_lt (Nat.lt_succ_self _)
  obtain ⟨oI, hoI⟩ := Option.isSome_iff_exists.mp hIl
  have ltI := Heap.lt_size hoI
  have DI : σ2.heap.objs.size ≠ I := fun z => Nat.lt_irrefl _ (z ▸ ltI)
  have CI : H2.objs.size ≠ I := fun z => by rw [hC] at z; exact absurd ltI (by rw [← z]; exact Nat.not_lt.mpr (Nat.le_succ _))
  have old : ∀ b o, σ2.heap.get? b = some o → h₁.get? b = some o := fun b o e => hsb₁.extBut b o (fun z => by
    have := Heap.lt_size e; rw [z, hC] at this; exact absurd this (Nat.not_lt.mpr (Nat.le_succ _))) (Heap.get?_push_of_some _ (hH2 ▸ Heap.get?_push_of_some _ e))
  have hacc : PL h₁ σ2.heap.objs.size #[] := ⟨_, hsb₁.extBut _ _ DC (Heap.get?_push_of_some _ (hH2 ▸ Heap.get?_push_size _ rfl))⟩
  let P : Addr → Prop := fun a => a = H2.objs.size ∨ a = σ2.heap.objs.size ∨ a = I
  have np : ∀ a, P a → σ1.heap.get? a = none := by
    rintro a (z | z | z)
    · rw [z, hC]; exact none_later hk (size_none1 _)
    · rw [z]; exact none_later hk (size_none _)
    · rw [z]; exact hI
  have hk0 : ∀ b o, σ1.heap.get? b = some o → h₁.get? b = some o := fun b o e => old b o (hk b o e)
  have hlP : ∀ a, P a → (h₁.get? a).isSome = true := by
    rintro a (z | z | z)
    · rw [z]; obtain ⟨o, _, _, q, _⟩ := hns₁; rw [q]; rfl
    · rw [z]; obtain ⟨k, q⟩ := hacc; rw [q]; rfl
    · rw [z, old _ _ hoI]; rfl
  have F1 := F.step R S1
  have notP : ∀ a, t1.pv a → ¬ P a := fun a q z => by
    have := R1.live a (.inr q)
    rw [np a z] at this; cases this
  have F0 : FrOk G (t1.hide P) env Γ loc { σ2 with heap := h₁, toks := σ2.toks + ([] : List (PySem.Str × Value)).length } := F1.hideGrow np hk0 hg ho
  have R0 : Rel G (t1.hide P) s1 { σ2 with heap := h₁, toks := σ2.toks + ([] : List (PySem.Str × Value)).length } := R1.hideGrow np hk0 hlP hg ho
  have SG : Step noX (t1.hide P) (t1.hide P) σ1 { σ2 with heap := h₁, toks := σ2.toks + ([] : List (PySem.Str × Value)).length } := ⟨.refl _, fun a o e _ _ => hk0 a o e, fun _ o => .inl o, fun a o e => by show (h₁.get? a).isSome = true; rw [hk0 a o e]; rfl, hg, ho⟩
  have I0 : ItOk s1 (t1.hide P) { σ2 with heap := h₁, toks := σ2.toks + ([] : List (PySem.Str × Value)).length } I range src 0 := hit _ _ (fun a r => VRel.step SG (fun _ z => z.elim) _ (VRel.hide np _ r)) fun o e => old _ _ e
  have loop : codeAny G.M A (.compLoop (.ListComp elt [⟨.Name x px, iast, ifs, 0⟩] scope pos) 0 (.ref I) (.ref σ2.heap.objs.size) (compEnvC scope (clo env scope.names []) H2.objs.size env))
      (compPost G.M A E' use Q (.ref σ2.heap.objs.size) H2.objs.size) { σ2 with heap := h₁, toks := σ2.toks + ([] : List (PySem.Str × Value)).length } :=
    comp_loop (P := P) (t := t1) (σ := σ1) hA hsc K hcond hel np (.inl rfl) (.inr (.inl rfl)) (.inr (.inr rfl)) (fun a z => z) DC DI CI hk0 hg ho F0 (notP _ F1.pvl) (fun n c hc => notP _ (F1.pvc n c hc)) R0 hns₁ hacc I0 hx e fun se ce => hend t1 σ1 _ _ se S1 R1 ce
  exact codeAny_compStart_list loop (it_self R0 hA.hd I0 loop)

theorem CEnd.forget {t : Tie} {σ : Shared} {vs : List V} {Ca D : Addr} {se : Shared} (R₁ : Rel G t st σ) (h : CEnd G t σ st' vs env Γ loc Ca D se) : (∃ m, se.heap.Ns Ca m) ∧ ∀ h', Heap.SameBut Ca se.heap h' →
    ∃ t2, Step noX t t2 σ { se with heap := h' } ∧ Rel G t2 st' { se with heap := h' } ∧ VRel t2 h' (.lst vs) (.ref D) := by
  obtain ⟨P, τ, s0, s1, ys, m, np, pC, pD, DC, hk0, hg0, ho0, S, R, F, hD, hacc, hsz, hn, hext, hg, ho⟩ := h.ex
  refine ⟨⟨m, hn⟩, fun h' hs => ⟨{ τ with pv := t.pv }, ?_⟩⟩
  have hpv : τ.pv = (t.hide P).pv := S.le.pv
  have nP : ∀ a, t.pv a → ¬ P a := fun a q z => by
    have := R₁.live a (.inr q)
    rw [np a z] at this; cases this
  have Fg : Forget P (fun _ => False) τ { τ with pv := t.pv } s1 { se with heap := h' } :=
    ⟨rfl, rfl, fun a q => ⟨by rw [hpv]; exact .inl q, nP a q⟩, fun a q => by rw [hpv]; exact .inr q, fun a z => z.elim, fun b o nb _ e => (hs.2 b fun (z : b = Ca) => nb (z ▸ pC)).trans (hext b o (fun q => (nb q).elim) e), hg, ho⟩
  refine ⟨(Step.unhide (X := P) (fun a q => .inl q) np hk0 hg0 ho0 S Fg), R.forget Fg, ?_⟩
  refine ⟨D, ys, rfl, ?_, ?_, hsz, VRels.forget Fg _ hacc⟩
  · obtain ⟨k, q⟩ := hD
    exact ⟨k, (hs.2 D DC).trans (hext D _ (fun _ => .inr rfl) q)⟩
  · rintro (q | q)
    · exact R.pv D (by rw [hpv]; exact .inr pD) q
    · exact nP D q pD

theorem sim_comp (O : G.Ok N) {range : Bool} {slot : Nat} {it : E} {cond : Option E} {el : E} {elt iast j : PySem.Expr} {ifs : List PySem.Expr} {scope : Scope} {x : PySem.Str} {px pos : Pos}
    (K : CompOk sc scope slot Γ x) (hset : notSet iast = true) (ha : IterAst sc range iast j) (hj : SimE G C d sc Γ it j)
    (hcond : CondSim G C d (compSc sc scope.names) (compGam (compSc sc scope.names) Γ slot x) cond ifs) (hel : SimE G C d (compSc sc scope.names) (compGam (compSc sc scope.names) Γ slot x) el elt) :
    SimE G C d sc Γ (.comp none slot range it cond el) (.ListComp elt [⟨.Name x px, iast, ifs, 0⟩] scope pos) := by
  intro t st s env loc X st' A hA hsc F R e Q E k
  simp only [ev_none, ev_bool, ev_int, ev_str, ev_loc, ev_gint, ev_gstr, ev_neg, ev_not, ev_and, ev_or, ev_bin, ev_cmp, ev_cmp2, ev_isC, ev_tup, ev_lst, ev_lstM, ev_dictM, ev_sub, ev_slice, ev_attr, ev_call, ev_meth, ev_new, ev_isinst, ev_prim, ev_listM, ev_dictC, ev_bm, ev_comp] at e
  obtain ⟨src, s1, e1, e⟩ := Res.bind_ok e
  split at e
  · rename_i xs hx
    obtain ⟨vs, s2, e2, e⟩ := Res.bind_ok e
    cases e
    rw [eval_ListComp]
    refine comp_go (use := none) O hA hsc K hset ha hj hcond hel F R e1 hx e2 fun t1 σ1 Ca D se S1 R1 ce => ?_
    obtain ⟨⟨m, hn⟩, h⟩ := ce.forget R1
    refine ⟨m, hn, fun h' hs => ?_⟩
    obtain ⟨t2, S2, R2, r2⟩ := h h' hs
    exact k _ t2 _ (S1.trans S2) R2 r2
  · cases e
end
end Mine
end

section
set_option maxRecDepth 100000
namespace Mine
open PySem PySem.W PyProof.Rows

noncomputable def own (env : Env) : Addr → Prop := fun a => a = env.locals ∨ ∃ n, env.cells.lookup n = some a
noncomputable def GamInj (Γ : Gam) : Prop := ∀ (i j : Nat) (y : PySem.Str), Γ[i]? = some (some y) → Γ[j]? = some (some y) → i = j

section
variable {G : Gd} {N : Names} {C : Calls} {d : Nat} {sc : Sc} {Γ : Gam} {A : Around} {t : Tie} {st st' : MS} {s : Shared} {env : Env} {loc : Loc} {X Y Z : V} {v w : Value}

theorem FrOk.ownPv (F : FrOk G t env Γ loc s) : ∀ a, own env a → t.pv a := by
  rintro a (rfl | ⟨n, h⟩)
  · exact F.pvl
  · exact F.pvc n a h

theorem FrOk.noClass (F : FrOk G t env Γ loc s) : (env.scope.kind == .class || (env.scope.kind == .module && env.locals != env.globals)) = false := by rw [F.fn]; rfl

theorem ns_cell {h : Heap} {a c : Addr} {m : PySem.Str → Option Value} {o : Option Value} (hn : h.Ns a m) (hc : h.IsCell c o) : c ≠ a := fun z => by
  obtain ⟨ob, es, ep, h1, h2, _⟩ := hn
  obtain ⟨oc, h3, h4⟩ := hc
  rw [z, h1] at h3
  cases h3
  rw [h2] at h4
  cases h4

theorem store_go (F : FrOk G t env Γ loc s) (R : Rel G t st s) (gi : GamInj Γ) {i : Nat} {y : PySem.Str} (hi : Γ[i]? = some (some y)) (hk : env.kindOf y = some .local ∨ env.kindOf y = some .cell) (r : VRel t s.heap X v) {Q : Unit → Shared → Prop} {E' : Value → Shared → Prop}
    (q : ∀ s', Step (own env) t t s s' → Rel G t st s' → FrOk G t env Γ (loc.set i (some X)) s' → Q () s') : wpAny G.M A (storeName env y v) Q E' s := by
  obtain ⟨m, cm, hn, hcc, hz, hs⟩ := F.ex
  rcases hk with hk | hk
  · refine wpAny_storeName_local hk hn (fun h' hn' hs' => ?_) F.noClass
    have hl : (h'.get? env.locals).isSome = true := by obtain ⟨o, _, _, z, _⟩ := hn'; rw [z]; rfl
    have S : Step (own env) t t s { s with heap := h', toks := s.toks + 1 } := Step.priv (.inl rfl) hl hs'
    refine q _ S (R.priv F.pvl hl hs') ⟨F.fn, F.gl, F.bl, F.pvl, F.pvc, F.apart, _, cm, hn', fun n c e => ?_, hz, fun j y' Y e1 e2 => ?_⟩
    · have hc := hcc n c e
      have hne := ns_cell hn hc
      obtain ⟨oc, h3, h4⟩ := hc
      exact ⟨oc, (hs'.2 c hne).trans h3, h4⟩
    · by_cases z : j = i
      · subst z
        rw [hi] at e1; cases e1
        have e3 : Y = X := by
          by_cases hl2 : j < loc.length
          · rw [List.getElem?_set_self hl2] at e2; cases e2; rfl
          · rw [List.getElem?_eq_none (by rw [List.length_set]; omega)] at e2; cases e2
        subst e3
        exact ⟨v, VRel.step S F.ownPv _ r, .inl ⟨hk, by simp⟩⟩
      · rw [List.getElem?_set_ne (fun e => z e.symm)] at e2
        obtain ⟨u, u1, u2⟩ := hs j y' Y e1 e2
        have hne : y' ≠ y := fun e => z (gi j i y (e ▸ e1) hi)
        refine ⟨u, VRel.step S F.ownPv _ u1, u2.imp (fun p => ⟨p.1, ?_⟩) id⟩
        show (if y' = y then some v else m y') = some u
        rw [if_neg hne]; exact p.2
  · obtain ⟨c, hcl⟩ := Option.isSome_iff_exists.mp (hz y hk)
    have hc := hcc y c hcl
    have hne := ns_cell hn hc
    refine wpAny_storeName_cell F.fn hk hcl hc fun h' hc' hs' => ?_
    have hl : (h'.get? c).isSome = true := by obtain ⟨o, z, _⟩ := hc'; rw [z]; rfl
    have hmem := hcl
    have S : Step (own env) t t s { s with heap := h', toks := s.toks } := Step.priv (.inr ⟨y, hmem⟩) hl hs'
    refine q _ S (R.priv (F.pvc y c hmem) hl hs') ⟨F.fn, F.gl, F.bl, F.pvl, F.pvc, F.apart, m, fun n => if n = y then some v else cm n, ?_, fun n c' e => ?_, hz, fun j y' Y e1 e2 => ?_⟩
    · obtain ⟨o, es, ep, h1, h2⟩ := hn
      exact ⟨o, es, ep, (hs'.2 _ hne.symm).trans h1, h2⟩
    · by_cases z : n = y
      · subst z
        rw [hcl] at e; cases e
        show Heap.IsCell h' c (if n = n then some v else cm n)
        rw [if_pos rfl]; exact hc'
      · have hne' : c' ≠ c := fun q => z (F.apart n y c (q ▸ e) hcl)
        obtain ⟨oc, h3, h4⟩ := hcc n c' e
        show Heap.IsCell h' c' (if n = y then some v else cm n)
        rw [if_neg z]; exact ⟨oc, (hs'.2 c' hne').trans h3, h4⟩
    · by_cases z : j = i
      · subst z
        rw [hi] at e1; cases e1
        have e3 : Y = X := by
          by_cases hl2 : j < loc.length
          · rw [List.getElem?_set_self hl2] at e2; cases e2; rfl
          · rw [List.getElem?_eq_none (by rw [List.length_set]; omega)] at e2; cases e2
        subst e3
        exact ⟨v, VRel.step S F.ownPv _ r, .inr ⟨hk, by simp⟩⟩
      · rw [List.getElem?_set_ne (fun e => z e.symm)] at e2
        obtain ⟨u, u1, u2⟩ := hs j y' Y e1 e2
        have hne : y' ≠ y := fun e => z (gi j i y (e ▸ e1) hi)
        refine ⟨u, VRel.step S F.ownPv _ u1, u2.imp id (fun p => ⟨p.1, ?_⟩)⟩
        show (if y' = y then some v else cm y') = some u
        rw [if_neg hne]; exact p.2

noncomputable def FlRel (t : Tie) (h : Heap) : Fl → Flow → Prop
  | .next, f => f = .next
  | .ret X, f => ∃ v, f = .ret v ∧ VRel t h X v

noncomputable def SimF (G : Gd) (A : Around) (env : Env) (Γ : Gam) (t : Tie) (s : Shared) (tree : Sem Flow) (st' : MS) (fl : Fl) (loc' : Loc) : Prop :=
  ∀ (Q : Flow → Shared → Prop) (E : Value → Shared → Prop), (∀ f t' s', Step (own env) t t' s s' → Rel G t' st' s' → FrOk G t' env Γ loc' s' → FlRel t' s'.heap fl f → Q f s') → wpAny G.M A tree Q E s
noncomputable def SimS (G : Gd) (C : Calls) (d : Nat) (sc : Sc) (Γ : Gam) (n : Nat) (x : S) (ast : Stmt) : Prop :=
  ∀ t st s env loc fl loc' st' A, AOk d A → env.scope.names = sc → FrOk G t env Γ loc s → Rel G t st s → ex G.P C n x loc st = .ok (fl, loc') st' → SimF G A env Γ t s (exec ast env) st' fl loc'
noncomputable def SimB (G : Gd) (C : Calls) (d : Nat) (sc : Sc) (Γ : Gam) (n : Nat) (l : List S) (m : List Stmt) : Prop :=
  ∀ t st s env loc fl loc' st' A, AOk d A → env.scope.names = sc → FrOk G t env Γ loc s → Rel G t st s → exs G.P C n l loc st = .ok (fl, loc') st' → SimF G A env Γ t s (execs m env) st' fl loc'

variable {n : Nat}

theorem SimF.ofE {A : Around} {tree : Sem Flow} {fl : Fl} {loc' : Loc} {t1 : Tie} {s1 : Shared} (S : Step noX t t1 s s1) (h : SimF G A env Γ t1 s1 tree st' fl loc') {Q : Flow → Shared → Prop} {E' : Value → Shared → Prop}
    (k : ∀ f t' s', Step (own env) t t' s s' → Rel G t' st' s' → FrOk G t' env Γ loc' s' → FlRel t' s'.heap fl f → Q f s') : wpAny G.M A tree Q E' s1 :=
  h Q E' fun f t' s' S' R' F' r => k f t' s' ((S.mono fun _ z => z.elim).trans S') R' F' r

theorem simB_nil : SimB G C d sc Γ n [] [] := by
  intro t st s env loc fl loc' st' A hA hsc F R e Q E k
  simp only [exs_nil, exs_cons] at e
  cases e
  exact wpAny_execs_nil (k _ t s (.refl _ _ _) R F rfl)
theorem simB_cons {x : S} {l : List S} {ast : Stmt} {m : List Stmt} (h1 : SimS G C d sc Γ n x ast) (h2 : SimB G C d sc Γ n l m) : SimB G C d sc Γ n (x :: l) (ast :: m) := by
  intro t st s env loc fl loc' st' A hA hsc F R e Q E k
  simp only [exs_nil, exs_cons] at e
  obtain ⟨⟨f1, l1⟩, s1, e1, e⟩ := Res.bind_ok e
  refine wpAny_execs_cons (h1 t st s env loc f1 l1 s1 A hA hsc F R e1 _ _ fun f t1 σ1 S1 R1 F1 r1 => ?_)
  cases f1 with
  | next =>
    have r1 : f = .next := r1
    subst r1
    exact h2 t1 s1 σ1 env l1 fl loc' st' A hA hsc F1 R1 e _ _ fun f t2 σ2 S2 R2 F2 r2 => k f t2 σ2 (S1.trans S2) R2 F2 r2
  | ret X =>
    obtain ⟨v, rfl, r⟩ := r1
    cases e
    exact k _ t1 σ1 S1 R1 F1 ⟨v, rfl, r⟩

noncomputable def notComp : PySem.Expr → Bool
  | .ListComp .. => false
  | .SetComp .. => false
  | .DictComp .. => false
  | _ => true
theorem swaps_no {e : PySem.Expr} (h : notComp e = true) (tg : Option PySem.Expr) (ln : Nat) (env : Env) : swapsWith e tg ln env = pure false := by
  cases e <;> first | rfl | cases h

theorem simS_expr {a : E} {x : PySem.Expr} {pos : Pos} (hx : notComp x = true) (ha : SimE G C d sc Γ a x) : SimS G C d sc Γ n (.expr a) (.Expr x pos) := by
  intro t st s env loc fl loc' st' A hA hsc F R e Q E k
  simp only [ex_expr, ex_assign, ex_setattr, ex_setitem, ex_unpack, ex_ite, ex_for, ex_while, ex_ret, ex_raise, ex_try, ex_pass] at e
  obtain ⟨V, s1, e1, e⟩ := Res.bind_ok e
  cases e
  refine wpAny_Expr_any (ha t st s env loc _ _ A hA hsc F R e1 _ _ fun v t1 σ1 S1 R1 r1 => ?_) (by unfold interactive; rw [F.fn]; rfl) (swaps_no hx _ _ _)
  exact k _ t1 σ1 (S1.mono fun _ z => z.elim) R1 (F.step R S1) rfl

theorem simS_ret0 {pos : Pos} : SimS G C d sc Γ n (.ret none) (.Return none pos) := by
  intro t st s env loc fl loc' st' A hA hsc F R e Q E k
  simp only [ex_expr, ex_assign, ex_setattr, ex_setitem, ex_unpack, ex_ite, ex_for, ex_while, ex_ret, ex_raise, ex_try, ex_pass] at e
  cases e
  exact wpAny_Return_none (k _ t s (.refl _ _ _) R F ⟨_, rfl, rfl⟩)
theorem simS_ret {a : E} {x : PySem.Expr} {pos : Pos} (ha : SimE G C d sc Γ a x) : SimS G C d sc Γ n (.ret (some a)) (.Return (some x) pos) := by
  intro t st s env loc fl loc' st' A hA hsc F R e Q E k
  simp only [ex_expr, ex_assign, ex_setattr, ex_setitem, ex_unpack, ex_ite, ex_for, ex_while, ex_ret, ex_raise, ex_try, ex_pass] at e
  obtain ⟨V, s1, e1, e⟩ := Res.bind_ok e
  cases e
  refine wpAny_Return_some (ha t st s env loc _ _ A hA hsc F R e1 _ _ fun v t1 σ1 S1 R1 r1 => ?_)
  exact k _ t1 σ1 (S1.mono fun _ z => z.elim) R1 (F.step R S1) ⟨v, rfl, r1⟩

noncomputable def kindOk (sc : Sc) (y : PySem.Str) : Bool := sc.lookup y == some .local || sc.lookup y == some .cell
theorem kindOk_real (hsc : env.scope.names = sc) {y : PySem.Str} (h : kindOk sc y = true) : env.kindOf y = some .local ∨ env.kindOf y = some .cell := by
  unfold Env.kindOf; rw [hsc]
  simpa [kindOk] using h

theorem simS_assign (gi : GamInj Γ) {i : Nat} {y : PySem.Str} {a : E} {x : PySem.Expr} {yp pos : Pos} (hi : Γ[i]? = some (some y)) (hk : kindOk sc y = true) (hx : notComp x = true) (ha : SimE G C d sc Γ a x) : SimS G C d sc Γ n (.assign i a) (.Assign [.Name y yp] x pos) := by
  intro t st s env loc fl loc' st' A hA hsc F R e Q E k
  simp only [ex_expr, ex_assign, ex_setattr, ex_setitem, ex_unpack, ex_ite, ex_for, ex_while, ex_ret, ex_raise, ex_try, ex_pass] at e
  obtain ⟨V, s1, e1, e⟩ := Res.bind_ok e
  split at e
  case isFalse => cases e
  cases e
  refine wpAny_Assign_Name (ha t st s env loc _ _ A hA hsc F R e1 _ _ fun v t1 σ1 S1 R1 r1 => ?_) (swaps_no hx _ _ _)
  exact store_go (F.step R S1) R1 gi hi (kindOk_real hsc hk) r1 fun σ2 S2 R2 F2 => k _ t1 σ2 ((S1.mono fun _ z => z.elim).trans S2) R2 F2 rfl

theorem simS_setitem {a b c : E} {x y z : PySem.Expr} {ap pos : Pos} (hz : notComp z = true) (ha : SimE G C d sc Γ a x) (hb : SimE G C d sc Γ b y) (hc : SimE G C d sc Γ c z) : SimS G C d sc Γ n (.setitem a b c) (.Assign [.Subscript x y ap] z pos) := by
  intro t st s env loc fl loc' st' A hA hsc F R e Q E k
  simp only [ex_expr, ex_assign, ex_setattr, ex_setitem, ex_unpack, ex_ite, ex_for, ex_while, ex_ret, ex_raise, ex_try, ex_pass] at e
  obtain ⟨V, s1, e1, e⟩ := Res.bind_ok e
  obtain ⟨U, s2, e2, e⟩ := Res.bind_ok e
  obtain ⟨W, s3, e3, e⟩ := Res.bind_ok e
  obtain ⟨u, s4, e4, e⟩ := Res.bind_ok e
  cases e
  refine wpAny_Assign_Subscript (hc t st s env loc _ _ A hA hsc F R e1 _ _ fun v t1 σ1 S1 R1 r1 => ?_) (swaps_no hz _ _ _)
  have F1 := F.step R S1
  refine ha t1 s1 σ1 env loc _ _ A hA hsc F1 R1 e2 _ _ fun w t2 σ2 S2 R2 r2 => ?_
  have F2 := F1.step R1 S2
  refine hb t2 s2 σ2 env loc _ _ A hA hsc F2 R2 e3 _ _ fun i t3 σ3 S3 R3 r3 => ?_
  have F3 := F2.step R2 S3
  refine setItem_sound R3 (VRel.step S3 (fun _ z => z.elim) _ r2) r3 (VRel.step (S2.trans S3) (fun _ z => z.elim) _ r1) e4 _ _ fun _ t4 σ4 S4 R4 _ => ?_
  exact k _ t4 σ4 ((((S1.trans S2).trans S3).trans S4).mono fun _ z => z.elim) R4 (F3.step R3 S4) rfl

theorem simS_ite {c : E} {b1 b2 : List S} {x : PySem.Expr} {m1 m2 : List Stmt} {pos : Pos} (hc : SimT G C d sc Γ c x) (h1 : SimB G C d sc Γ n b1 m1) (h2 : SimB G C d sc Γ n b2 m2) : SimS G C d sc Γ n (.ite c b1 b2) (.If x m1 m2 pos) := by
  intro t st s env loc fl loc' st' A hA hsc F R e Q E k
  simp only [ex_expr, ex_assign, ex_setattr, ex_setitem, ex_unpack, ex_ite, ex_for, ex_while, ex_ret, ex_raise, ex_try, ex_pass] at e
  obtain ⟨V, s1, e1, e⟩ := Res.bind_ok e
  obtain ⟨b, s2, e2, e⟩ := Res.bind_ok e
  obtain ⟨rfl, rfl⟩ := truth_ok e2
  refine wpAny_If (hc t st s env loc b _ A hA hsc F R e1 _ _ fun b' t1 σ1 S1 R1 r1 => ?_)
  subst r1
  cases b' with
  | true =>
    simp only [if_true] at e ⊢
    exact SimF.ofE S1 (h1 t1 _ σ1 env loc fl loc' st' A hA hsc (F.step R S1) R1 e) k
  | false =>
    simp only [Bool.false_eq_true, if_false] at e ⊢
    exact SimF.ofE S1 (h2 t1 _ σ1 env loc fl loc' st' A hA hsc (F.step R S1) R1 e) k
end
end Mine
end

section
set_option maxRecDepth 100000
namespace Mine
open PySem PySem.W PyProof.Rows

section
variable {G : Gd} {N : Names} {C : Calls} {d : Nat} {sc : Sc} {Γ : Gam} {A : Around} {t : Tie} {st st' : MS} {s : Shared} {env : Env} {loc : Loc} {X Y Z : V} {v w : Value} {n : Nat}

inductive TgtOk (sc : Sc) (Γ : Gam) : T → PySem.Expr → Prop
  | loc {i : Nat} {y : PySem.Str} {p : Pos} (hi : Γ[i]? = some (some y)) (hk : kindOk sc y = true) : TgtOk sc Γ (.loc i) (.Name y p)
inductive TgtsOk (sc : Sc) (Γ : Gam) : List T → List PySem.Expr → Prop
  | nil : TgtsOk sc Γ [] []
  | cons {tg : T} {l : List T} {x : PySem.Expr} {m : List PySem.Expr} : TgtOk sc Γ tg x → TgtsOk sc Γ l m → TgtsOk sc Γ (tg :: l) (x :: m)
inductive ForTgt (sc : Sc) (Γ : Gam) : T ⊕ List T → PySem.Expr → Prop
  | one {tg : T} {x : PySem.Expr} : TgtOk sc Γ tg x → ForTgt sc Γ (.inl tg) x
  | many {ts : List T} {xs : List PySem.Expr} {k : Nat} {p : Pos} : TgtsOk sc Γ ts xs → ForTgt sc Γ (.inr ts) (.Tuple xs k p)

theorem tgt_go (gi : GamInj Γ) {tg : T} {x : PySem.Expr} (h : TgtOk sc Γ tg x) (hsc : env.scope.names = sc) (F : FrOk G t env Γ loc s) (R : Rel G t st s) (r : VRel t s.heap X v) {loc' : Loc} (e : setT G.P C tg X loc st = .ok loc' st') {Q : Unit → Shared → Prop} {E' : Value → Shared → Prop}
    (q : ∀ s', Step (own env) t t s s' → Rel G t st' s' → FrOk G t env Γ loc' s' → Q () s') : wpAny G.M A (assign x env v) Q E' s := by
  cases h with
  | loc hi hk =>
    simp only [setT] at e
    split at e
    case isFalse => cases e
    cases e
    exact wpAny_assign_Name (store_go F R gi hi (kindOk_real hsc hk) r q)

theorem tgts_star {ts : List T} {xs : List PySem.Expr} (h : TgtsOk sc Γ ts xs) (env : Env) : (assignEach xs env).map (·.2) = xs.map (fun x => assign x env) ∧ (assignEach xs env).findIdx? (·.1) = none ∧ (assignEach xs env).length = ts.length := by
  induction h with
  | nil => exact ⟨rfl, rfl, rfl⟩
  | cons h1 h2 ih =>
    cases h1 with
    | loc hi hk =>
      rename_i l m i y p
      have e : assignEach (.Name y p :: m) env = (false, assign (.Name y p) env) :: assignEach m env := rfl
      rw [e]
      exact ⟨by rw [List.map_cons, ih.1]; rfl, by rw [List.findIdx?_cons, ih.2.1]; rfl, by rw [List.length_cons, ih.2.2]; rfl⟩

theorem tgts_go (gi : GamInj Γ) (hsc : env.scope.names = sc) {ts : List T} {xs : List PySem.Expr} (h : TgtsOk sc Γ ts xs) : ∀ {Xs : List V} {vs : List Value} {loc loc' : Loc} {st : MS} {s : Shared}, FrOk G t env Γ loc s → Rel G t st s → VRels t s.heap Xs vs → setTs G.P C ts Xs loc st = .ok loc' st' → ∀ {Q : Unit → Shared → Prop} {E' : Value → Shared → Prop},
    (∀ s', Step (own env) t t s s' → Rel G t st' s' → FrOk G t env Γ loc' s' → Q () s') → wpAny G.M A (assignInOrder (xs.map fun x => assign x env) vs) Q E' s := by
  induction h with
  | nil =>
    intro Xs vs loc loc' st s F R r e Q E' q
    cases Xs with
    | nil => cases e; cases r; exact assignInOrder_nil (q s (.refl _ _ _) R F)
    | cons a l => cases e
  | cons h1 h2 ih =>
    intro Xs vs loc loc' st s F R r e Q E' q
    cases Xs with
    | nil => cases e
    | cons a l =>
      obtain ⟨v, r', rfl, ra, rl⟩ := r
      simp only [setTs] at e
      obtain ⟨l1, s1, e1, e⟩ := Res.bind_ok e
      refine assignInOrder_cons (tgt_go gi h1 hsc F R ra e1 fun σ1 S1 R1 F1 => ?_)
      exact ih F1 R1 (VRels.step S1 F.ownPv _ rl) e fun σ2 S2 R2 F2 => q σ2 (S1.trans S2) R2 F2

theorem unpack_go (gi : GamInj Γ) (hA : AOk d A) (hsc : env.scope.names = sc) {ts : List T} {xs : List PySem.Expr} {k : Nat} {p : Pos} (h : TgtsOk sc Γ ts xs) (F : FrOk G t env Γ loc s) (R : Rel G t st s) (r : VRel t s.heap X v) {loc' : Loc} (e : unpackT G.P C ts X loc st = .ok loc' st') {Q : Unit → Shared → Prop} {E' : Value → Shared → Prop}
    (q : ∀ s', Step (own env) t t s s' → Rel G t st' s' → FrOk G t env Γ loc' s' → Q () s') : wpAny G.M A (assign (.Tuple xs k p) env v) Q E' s := by
  cases X with
  | tup Xs =>
    simp only [unpackT] at e
    obtain ⟨a, vs, rfl, io, na, sz, rr⟩ := r
    obtain ⟨h1, h2, h3⟩ := tgts_star h env
    have hlen : ∀ {ts : List T} {Xs : List V} {loc loc' : Loc} {st st' : MS}, setTs G.P C ts Xs loc st = .ok loc' st' → ts.length = Xs.length := by
      intro ts
      induction ts with
      | nil => intro Xs loc loc' st st' e; cases Xs with | nil => rfl | cons _ _ => cases e
      | cons a l ih =>
        intro Xs loc loc' st st' e
        cases Xs with
        | nil => cases e
        | cons b m =>
          simp only [setTs] at e
          obtain ⟨_, _, _, e⟩ := Res.bind_ok e
          simp [ih e]
    refine wpAny_assign_Tuple hA.hd io.isTuple (by rw [h3, hlen e, size_of rr]) h2 fun h' hext => ?_
    rw [h1]
    have hk : ∀ b o, s.heap.get? b = some o → h'.get? b = some o := fun b o e => hext b o (fun z => by rw [z, size_none] at e; cases e) e
    have S0 : Step noX t t s { s with heap := h' } := Step.grow R hk rfl rfl
    exact tgts_go gi hsc h (F.step R S0) (R.grow hk rfl rfl) (VRels.step S0 (fun _ z => z.elim) _ rr) e fun σ2 S2 R2 F2 => q σ2 ((S0.mono fun _ z => z.elim).trans S2) R2 F2
  | _ => cases e

noncomputable def plainRhs : PySem.Expr → Bool
  | .Call .. => true
  | .Name .. => true
  | .Subscript .. => true
  | _ => false
theorem swapped_no {e : PySem.Expr} (h : plainRhs e = true) (xs : List PySem.Expr) (k : Nat) (p : Pos) (ln : Nat) (env : Env) : swapsWithSole [.Tuple xs k p] e ln env = pure false ∧ swappedStores [.Tuple xs k p] e env = pure none := by
  cases e <;> first | exact ⟨rfl, rfl⟩ | cases h

theorem simS_unpack (gi : GamInj Γ) {ts : List T} {a : E} {xs : List PySem.Expr} {x : PySem.Expr} {k : Nat} {tp pos : Pos} (h : TgtsOk sc Γ ts xs) (hx : plainRhs x = true) (ha : SimE G C d sc Γ a x) : SimS G C d sc Γ n (.unpack ts a) (.Assign [.Tuple xs k tp] x pos) := by
  intro t st s env loc fl loc' st' A hA hsc F R e Q E k
  simp only [ex_expr, ex_assign, ex_setattr, ex_setitem, ex_unpack, ex_ite, ex_for, ex_while, ex_ret, ex_raise, ex_try, ex_pass] at e
  obtain ⟨V, s1, e1, e⟩ := Res.bind_ok e
  obtain ⟨l2, s2, e2, e⟩ := Res.bind_ok e
  cases e
  refine Assign_Tuple (ha t st s env loc _ _ A hA hsc F R e1 _ _ fun v t1 σ1 S1 R1 r1 => ?_) (swapped_no hx _ _ _ _ _).1 (swapped_no hx _ _ _ 0 _).2
  exact unpack_go gi hA hsc h (F.step R S1) R1 r1 e2 fun σ2 S2 R2 F2 => k _ t1 σ2 ((S1.mono fun _ z => z.elim).trans S2) R2 F2 rfl

theorem FrOk.forget {P L : Addr → Prop} {t₁ t₂ : Tie} {s₁ s₂ : Shared} (Fg : Forget P L t₁ t₂ s₁ s₂) (F : FrOk G t₁ env Γ loc s₁) (hp : ∀ a, own env a → t₂.pv a) (ho : ∀ a o, own env a → s₁.heap.get? a = some o → s₂.heap.get? a = some o) : FrOk G t₂ env Γ loc s₂ := by
  obtain ⟨m, cm, ⟨o, es, ep, hl, r⟩, hcc, hz, hs⟩ := F.ex
  refine ⟨F.fn, F.gl, F.bl, hp _ (.inl rfl), fun n c h => hp _ (.inr ⟨n, h⟩), F.apart, m, cm, ⟨o, es, ep, ho _ _ (.inl rfl) hl, r⟩, fun n c e => ?_, hz, fun i x X e1 e2 => ?_⟩
  · obtain ⟨oc, h1, h2⟩ := hcc n c e
    exact ⟨oc, ho _ _ (.inr ⟨n, e⟩) h1, h2⟩
  · obtain ⟨v, hv, r⟩ := hs i x X e1 e2
    exact ⟨v, VRel.forget Fg X hv, r⟩

theorem simS_for (O : G.Ok N) (gi : GamInj Γ) {ts : T ⊕ List T} {range : Bool} {it : E} {body : List S} {tast iast j : PySem.Expr} {m : List Stmt} {pos : Pos} (ht : ForTgt sc Γ ts tast) (hset : notSet iast = true) (hia : IterAst sc range iast j) (hj : SimE G C d sc Γ it j) (hb : SimB G C d sc Γ n body m) :
    SimS G C d sc Γ n (.for_ ts range it body) (.For tast iast m [] pos) := by
  intro t st s env loc fl loc' st' A hA hsc F R e Q E k
  simp only [ex_expr, ex_assign, ex_setattr, ex_setitem, ex_unpack, ex_ite, ex_for, ex_while, ex_ret, ex_raise, ex_try, ex_pass] at e
  obtain ⟨src, s1, e1, e⟩ := Res.bind_ok e
  split at e
  case h_2 => cases e
  rename_i xs hx
  split at e
  case isFalse => cases e
  rename_i hfo
  refine wpAny_For (iter_go O hia hj hA hsc F R e1 hx fun t1 σ1 s0 I S1 R1 hk hI hIl hg ho hit => ?_) (notSet_pure hset env)
  let P : Addr → Prop := fun a => a = I
  have np : ∀ a, P a → σ1.heap.get? a = none := fun a z => by rw [show a = I from z]; exact hI
  have F1 := F.step R S1
  have R0 : Rel G (t1.hide P) s1 s0 := R1.hideGrow np hk (fun a z => by rw [show a = I from z]; exact hIl) hg ho
  have F0 : FrOk G (t1.hide P) env Γ loc s0 := F1.hideGrow np hk hg ho
  have SG : Step noX (t1.hide P) (t1.hide P) σ1 s0 := ⟨.refl _, fun a o e _ _ => hk a o e, fun _ o => .inl o, fun a o e => by rw [hk a o e]; rfl, hg, ho⟩
  have I0 : ItOk s1 (t1.hide P) s0 I range src 0 := hit _ _ (fun a r => VRel.step SG (fun _ z => z.elim) _ (VRel.hide np _ r)) fun o e => e
  have nP : ∀ a, t1.pv a → ¬ P a := fun a q z => by
    have := R1.live a (.inr q)
    rw [np a z] at this; cases this
  have nI : ¬ own env I := fun q => nP I (F1.ownPv I q) rfl
  -- the end: what is hidden is forgotten
  have fin : ∀ {τ : Tie} {σ5 se : Shared} {sti : MS} {loc5 : Loc} {fl5 : Fl} {f : Flow}, Step (fun a => a = I ∨ own env a) (t1.hide P) τ s0 σ5 → Rel G τ sti σ5 → FrOk G τ env Γ loc5 σ5 → (∀ b o, b ≠ I → σ5.heap.get? b = some o → se.heap.get? b = some o) → se.gens = σ5.gens → se.os = σ5.os →
      sti = st' → loc5 = loc' → fl5 = fl → FlRel τ σ5.heap fl5 f → Q f se := by
    intro τ σ5 se sti loc5 fl5 f S R5 F5 hext hg5 ho5 e1 e2 e3 rf
    subst e1; subst e2; subst e3
    have hpv : τ.pv = (t1.hide P).pv := S.le.pv
    have Fg : Forget P (own env) τ { τ with pv := t1.pv } σ5 se :=
      ⟨rfl, rfl, fun a q => ⟨by rw [hpv]; exact .inl q, nP a q⟩, fun a q => by rw [hpv]; exact .inr q, fun a q => ⟨F5.ownPv a q, by
        obtain ⟨o, e⟩ := Option.isSome_iff_exists.mp (R5.live a (.inr (F5.ownPv a q)))
        rw [hext a o (fun z => nI (z ▸ q)) e]; rfl⟩, fun b o nb _ e => hext b o nb e, hg5, ho5⟩
    have S' := Step.unhide (t := t1) (L := own env) (fun a q => q) np hk hg ho S Fg
    refine k f _ se ((S1.mono fun _ z => z.elim).trans S') (R5.forget Fg) (F5.forget Fg (fun a q => F1.ownPv a q) fun a o q e => hext a o (fun z => nI (z ▸ q)) e) ?_
    cases fl5 with
    | next => exact rf
    | ret X => obtain ⟨v, q1, q2⟩ := rf; exact ⟨v, q1, VRel.forget Fg _ q2⟩
  refine codeAny_forLoop_any
    (fun nn σ => ∃ (τ : Tie) (sti : MS) (locI : Loc) (done rest : List V), xs = done ++ rest ∧ nn = rest.length ∧ Step (fun a => a = I ∨ own env a) (t1.hide P) τ s0 σ ∧ Rel G τ sti σ ∧ FrOk G τ env Γ locI σ ∧ ItOk s1 τ σ I range src done.length ∧
      forLoop s1 range src (setTT G.P C ts) (exs G.P C n body) rest locI sti = .ok (fl, loc') st')
    ?_ xs.length ⟨t1.hide P, s1, loc, [], xs, rfl, rfl, .refl _ _ _, R0, F0, I0, e⟩
  rintro nn σ ⟨τ, sti, locI, done, rest, hxs, rfl, S, Rr, Fr, hIt, e⟩
  have hpv : τ.pv = (t1.hide P).pv := S.le.pv
  have pI : τ.pv I := by rw [hpv]; exact .inr rfl
  have xpX : ∀ a, (a = I ∨ own env a) → τ.pv a := fun a q => q.elim (fun z => by rw [z]; exact pI) (Fr.ownPv a)
  cases rest with
  | nil =>
    simp only [forLoop] at e
    split at e
    case isFalse => cases e
    rename_i hst
    cases e
    have hIt' : ItOk s1 τ σ I range src xs.length := by rw [hxs, List.append_nil]; exact hIt
    refine it_end Rr hA.hd hx hst hIt' fun h' hext => ?_
    exact wpAny_execs_nil (fin S Rr Fr (fun b o nb e => hext b o nb e) rfl rfl rfl rfl rfl (fl5 := .next) rfl)
  | cons x0 rest =>
    simp only [forLoop] at e
    split at e
    case isFalse => cases e
    rename_i hst
    obtain ⟨l2, s2, e2, e⟩ := Res.bind_ok e
    obtain ⟨⟨f3, l3⟩, s3, e3, e⟩ := Res.bind_ok e
    have hi : xs[done.length]? = some x0 := by rw [hxs, List.getElem?_append_right (Nat.le_refl _), Nat.sub_self]; rfl
    refine it_next Rr pI hx hst hIt hi fun v h1 tk1 SA RA rv hIA => ?_
    have xA : ∀ a, a = I → τ.pv a := fun a z => by subst z; exact pI
    have FA : FrOk G τ env Γ locI { σ with heap := h1, toks := tk1 } := Fr.stepX Rr SA xA (fun z => nI (.inl z.symm)) fun nm c hc z => nI (.inr ⟨nm, by rw [← z]; exact hc⟩)
    have SA' : Step (fun a => a = I ∨ own env a) τ τ σ { σ with heap := h1, toks := tk1 } := SA.mono fun a z => .inl z
    have asg : ∀ {Q' : Unit → Shared → Prop} {E'' : Value → Shared → Prop}, (∀ s', Step (own env) τ τ { σ with heap := h1, toks := tk1 } s' → Rel G τ s2 s' → FrOk G τ env Γ l2 s' → Q' () s') → wpAny G.M A (letOwnedTupleGo tast (.ref I) v) (fun _ s' => wpAny G.M A (assign tast env v) Q' E'' s') E'' { σ with heap := h1, toks := tk1 } := by
      intro Q' E'' q
      cases ht with
      | one h =>
        have hl : letOwnedTupleGo tast (.ref I) v = pure () := by cases h; rfl
        rw [hl]
        exact wpAny_pure (tgt_go gi h hsc FA RA rv e2 q)
      | many h =>
        simp only [forOk, Bool.and_eq_true, Bool.not_eq_true'] at hfo
        obtain ⟨rfl, hfo⟩ := hfo
        obtain ⟨kk, l, a, es, r, hli⟩ := hIA
        rw [es] at hfo
        have hkk : kk = true := hfo
        subst hkk
        simp only [if_true] at hli
        cases x0 with
        | tup Xs =>
          obtain ⟨a', vs, rfl, io⟩ := id rv
          exact wpAny_letOwnedTupleGo_listiter hli (unpack_go gi hA hsc h FA RA rv e2 q)
        | _ => cases e2
    refine asg fun σ4 S4 R4 F4 => ?_
    have S4' : Step (fun a => a = I ∨ own env a) τ τ { σ with heap := h1, toks := tk1 } σ4 := S4.mono fun a z => .inr z
    have hI4 := hIA.step S4 FA.ownPv (RA.pv _ pI) nI
    refine hb τ s2 σ4 env l2 f3 l3 s3 A hA hsc F4 R4 e3 _ _ fun f t5 σ5 S5 R5 F5 r5 => ?_
    have S5' : Step (fun a => a = I ∨ own env a) τ t5 σ4 σ5 := S5.mono fun a z => .inr z
    have S05 := ((S.trans SA').trans S4').trans S5'
    cases f3 with
    | next =>
      have r5 : f = .next := r5
      subst r5
      exact ⟨rest.length, by simp, t5, s3, l3, done ++ [x0], rest, by rw [hxs]; simp, rfl, S05, R5, F5, by
        have := hI4.step S5 F4.ownPv (R4.pv _ pI) nI
        simpa using this, e⟩
    | ret V3 =>
      obtain ⟨u, rfl, ru⟩ := r5
      cases e
      exact fin S05 R5 F5 (fun _ _ _ e => e) rfl rfl rfl rfl rfl (fl5 := .ret V3) ⟨u, rfl, ru⟩

end
end Mine
end

section
set_option maxRecDepth 100000
namespace Mine
open PySem PySem.W PyProof.Rows

section
variable {G : Gd} {N : Names} {C : Calls} {d : Nat} {sc : Sc} {Γ : Gam} {A : Around} {t : Tie} {st st' : MS} {s : Shared} {env : Env} {loc : Loc} {X Y Z : V} {v w : Value} {n : Nat}

theorem simS_assignComp (O : G.Ok N) (gi : GamInj Γ) {i : Nat} {y : PySem.Str} {yp pos : Pos} (hi : Γ[i]? = some (some y)) (hk : kindOk sc y = true) {range : Bool} {slot : Nat} {it : E} {cond : Option E} {el : E} {elt iast j : PySem.Expr} {ifs : List PySem.Expr} {scope : Scope} {x : PySem.Str} {px lpos : Pos}
    (K : CompOk sc scope slot Γ x) (hset : notSet iast = true) (ha : IterAst sc range iast j) (hj : SimE G C d sc Γ it j)
    (hcond : CondSim G C d (compSc sc scope.names) (compGam (compSc sc scope.names) Γ slot x) cond ifs) (hel : SimE G C d (compSc sc scope.names) (compGam (compSc sc scope.names) Γ slot x) el elt) :
    SimS G C d sc Γ n (.assign i (.comp none slot range it cond el)) (.Assign [.Name y yp] (.ListComp elt [⟨.Name x px, iast, ifs, 0⟩] scope lpos) pos) := by
  intro t st s env loc fl loc' st' A hA hsc F R e Q E k
  have e0 := e
  simp only [ex_expr, ex_assign, ex_setattr, ex_setitem, ex_unpack, ex_ite, ex_for, ex_while, ex_ret, ex_raise, ex_try, ex_pass] at e
  obtain ⟨V, s2, e1, e⟩ := Res.bind_ok e
  split at e
  case isFalse => cases e
  rename_i hlen
  obtain ⟨rfl, rfl, rfl⟩ : fl = .next ∧ loc' = loc.set i (some V) ∧ st' = s2 := by cases e; exact ⟨rfl, rfl, rfl⟩
  have hsw : ∃ b, swapsWith (.ListComp elt [⟨.Name x px, iast, ifs, 0⟩] scope lpos) (some (.Name y yp)) pos.line env = pure b ∧ (b = true → env.kindOf y = some .local) := by
    refine ⟨_, rfl, fun h => ?_⟩
    simp only [Bool.and_eq_true, beq_iff_eq] at h
    exact h.1.1.2
  obtain ⟨b, hsw, hloc⟩ := hsw
  cases b with
  | false =>
    refine wpAny_Assign_Name (sim_comp O K hset ha hj hcond hel t st s env loc _ _ A hA hsc F R e1 _ _ fun v t1 σ1 S1 R1 r1 => ?_) hsw
    exact store_go (F.step R S1) R1 gi hi (kindOk_real hsc hk) r1 fun σ2 S2 R2 F2 => k _ t1 σ2 ((S1.mono fun _ z => z.elim).trans S2) R2 F2 rfl
  | true =>
    have hkl := hloc rfl
    simp only [ev_none, ev_bool, ev_int, ev_str, ev_loc, ev_gint, ev_gstr, ev_neg, ev_not, ev_and, ev_or, ev_bin, ev_cmp, ev_cmp2, ev_isC, ev_tup, ev_lst, ev_lstM, ev_dictM, ev_sub, ev_slice, ev_attr, ev_call, ev_meth, ev_new, ev_isinst, ev_prim, ev_listM, ev_dictC, ev_bm, ev_comp] at e1
    obtain ⟨src, s1, ea, eb⟩ := Res.bind_ok e1
    split at eb
    case h_2 => cases eb
    rename_i xs hx
    obtain ⟨vs, s3, ec, ed⟩ := Res.bind_ok eb
    obtain ⟨rfl, rfl⟩ : V = .lst vs ∧ s3 = st' := by cases ed; exact ⟨rfl, rfl⟩
    rw [exec_Assign_Name_used _ _ _ _ hsw]
    refine wpAny_bind (wpAny_standAt (wpAny_bind ?_))
    show wpAny _ A (do let _ ← comprehension (.ListComp elt [⟨.Name x px, iast, ifs, 0⟩] scope lpos) scope env _ (newList []) false (eval iast env) (some (assign (.Name y yp) env))) _ _ s
    refine wpAny_bind (wpAny_mono (comp_go (use := some (assign (.Name y yp) env)) (Q := fun _ s' => Q .next s') (E' := E) O hA hsc K hset ha hj hcond hel F R ea hx ec fun t1 σ1 Ca D se S1 R1 ce => ?_) (fun _ s' hq => wpAny_pure (wpAny_pure hq)) fun _ _ z => z)
    obtain ⟨P, τ, s0, s1', ys, m, np, pC, pD, DC, hk0, hg0, ho0, S, Rr, Fr, hD, hacc, hsz, hn, hext, hg, ho⟩ := ce.ex
    have hpv : τ.pv = (t1.hide P).pv := S.le.pv
    have F1 := F.step R S1
    have nP : ∀ a, t1.pv a → ¬ P a := fun a q z => by
      have := R1.live a (.inr q)
      rw [np a z] at this; cases this
    have nO : ∀ a, own env a → ¬ P a := fun a q => nP a (F1.ownPv a q)
    obtain ⟨m0, cm, hn0, hcc, hz, hs⟩ := Fr.ex
    have up : ∀ b o, own env b → s1'.heap.get? b = some o → se.heap.get? b = some o := fun b o q e => hext b o (fun z => (nO b q z).elim) e
    have hnS : se.heap.Ns env.locals m0 := by
      obtain ⟨o, es, ep, h1, h2⟩ := hn0
      exact ⟨o, es, ep, up _ _ (.inl rfl) h1, h2⟩
    show wpAny _ A (assign (.Name y yp) env (.ref D)) _ _ _
    refine wpAny_assign_Name (wpAny_storeName_local hkl hnS (fun h2 hn2 hs2 => ?_) F1.noClass)
    have hCL : Ca ≠ env.locals := fun z => nO _ (.inl rfl) (z ▸ pC)
    have hDL : D ≠ env.locals := fun z => nO _ (.inl rfl) (z ▸ pD)
    refine ⟨m, ?_, fun h' hs' => ?_⟩
    · obtain ⟨o, es, ep, h1, h3⟩ := hn
      exact ⟨o, es, ep, (hs2.2 _ hCL).trans h1, h3⟩
    -- what is hidden is forgotten
    have cellsUp : ∀ nm c o, env.cells.lookup nm = some c → s1'.heap.get? c = some o → c ≠ env.locals → h'.get? c = some o := fun nm c o q e hne =>
      (hs'.2 c fun (z : c = Ca) => nO c (.inr ⟨nm, q⟩) (z ▸ pC)).trans ((hs2.2 c hne).trans (up c o (.inr ⟨nm, q⟩) e))
    have hcne : ∀ nm c, env.cells.lookup nm = some c → c ≠ env.locals := fun nm c q => ns_cell hn0 (hcc nm c q)
    have hnF : Heap.Ns h' env.locals (fun z => if z = y then some (.ref D) else m0 z) := by
      obtain ⟨o, es, ep, h1, h3⟩ := hn2
      exact ⟨o, es, ep, (hs'.2 _ hCL.symm).trans h1, h3⟩
    have Fg : Forget P (own env) τ { τ with pv := t1.pv } s1' { se with heap := h', toks := se.toks + 1 } :=
      ⟨rfl, rfl, fun a q => ⟨by rw [hpv]; exact .inl q, nP a q⟩, fun a q => by rw [hpv]; exact .inr q, fun a q => ⟨Fr.ownPv a q, by
          rcases q with rfl | ⟨nm, q⟩
          · obtain ⟨o, _, _, z, _⟩ := hnF
            show (h'.get? env.locals).isSome = true
            rw [z]; rfl
          · obtain ⟨oc, z, _⟩ := hcc nm a q
            show (h'.get? a).isSome = true
            rw [cellsUp nm a oc q z (hcne nm a q)]; rfl⟩,
        fun b o nb nl e => (hs'.2 b fun (z : b = Ca) => nb (z ▸ pC)).trans ((hs2.2 b fun (z : b = env.locals) => nl (.inl z)).trans (hext b o (fun q => (nb q).elim) e)), hg, ho⟩
    have S' := Step.unhide (t := t1) (X := P) (L := own env) (fun a q => .inl q) np hk0 hg0 ho0 S Fg
    have rD : VRel { τ with pv := t1.pv } h' (.lst vs) (.ref D) := by
      refine ⟨D, ys, rfl, ?_, ?_, hsz, VRels.forget Fg _ hacc⟩
      · obtain ⟨kk, q⟩ := hD
        exact ⟨kk, (hs'.2 D DC).trans ((hs2.2 D hDL).trans (hext D _ (fun _ => .inr rfl) q))⟩
      · rintro (q | q)
        · exact Rr.pv D (by rw [hpv]; exact .inr pD) q
        · exact nP D q pD
    refine k .next _ _ ((S1.mono fun _ z => z.elim).trans S') (Rr.forget Fg) ⟨F.fn, F.gl, F.bl, F1.pvl, F1.pvc, F.apart, _, cm, hnF, fun nm c q => ?_, hz, fun jj y' Y' q1 q2 => ?_⟩ rfl
    · obtain ⟨oc, z1, z2⟩ := hcc nm c q
      exact ⟨oc, cellsUp nm c oc q z1 (hcne nm c q), z2⟩
    · by_cases z : jj = i
      · subst z
        rw [hi] at q1; cases q1
        rw [List.getElem?_set_self hlen] at q2; cases q2
        exact ⟨.ref D, rD, .inl ⟨hkl, by simp⟩⟩
      · rw [List.getElem?_set_ne (fun e => z e.symm)] at q2
        obtain ⟨u, u1, u2⟩ := hs jj y' Y' q1 q2
        have hne : y' ≠ y := fun e => z (gi jj i y (e ▸ q1) hi)
        refine ⟨u, VRel.forget Fg _ u1, u2.imp (fun p => ⟨p.1, ?_⟩) id⟩
        show (if y' = y then some (Value.ref D) else m0 y') = some u
        rw [if_neg hne]; exact p.2
end
end Mine
end

section
set_option maxRecDepth 100000
namespace Mine
open PySem PySem.W PyProof.Rows

noncomputable def gam0 (fn : Fn) : Gam := fn.names.map fun x => if x == Str.empty then none else some x

section
variable {G : Gd} {N : Names} {C : Calls} {d : Nat} {sc : Sc} {Γ : Gam} {A : Around} {t : Tie} {st st' : MS} {s : Shared} {env : Env} {loc : Loc} {X Y Z : V} {v w : Value} {n : Nat}

theorem bindL_skip (k : PySem.Str → Option NameKind) : ∀ (b : List (PySem.Str × Value)) (m : PySem.Str → Option Value) (x : PySem.Str), x ∉ b.map (·.1) → bindL k b m x = m x
  | [], _, _, _ => rfl
  | (y, v) :: r, m, x, h => by
    simp only [List.map_cons, List.mem_cons, not_or] at h
    rw [bindL, bindL_skip k r _ x h.2]
    split
    · exact if_neg h.1
    · rfl
theorem bindC_skip (k : PySem.Str → Option NameKind) : ∀ (b : List (PySem.Str × Value)) (m : PySem.Str → Option Value) (x : PySem.Str), x ∉ b.map (·.1) → bindC k b m x = m x
  | [], _, _, _ => rfl
  | (y, v) :: r, m, x, h => by
    simp only [List.map_cons, List.mem_cons, not_or] at h
    rw [bindC, bindC_skip k r _ x h.2]
    split
    · rfl
    · exact if_neg h.1
theorem bindL_at (k : PySem.Str → Option NameKind) : ∀ (b : List (PySem.Str × Value)) (m : PySem.Str → Option Value) (x : PySem.Str) (v : Value), (b.map (·.1)).Nodup → (x, v) ∈ b → k x = some .local → bindL k b m x = some v
  | (y, u) :: r, m, x, v, nd, h, hk => by
    rw [List.map_cons, List.nodup_cons] at nd
    rcases List.mem_cons.mp h with e | h
    · cases e
      rw [bindL, bindL_skip k r _ _ nd.1, if_pos hk]; exact if_pos rfl
    · rw [bindL]; exact bindL_at k r _ x v nd.2 h hk
theorem bindC_at (k : PySem.Str → Option NameKind) : ∀ (b : List (PySem.Str × Value)) (m : PySem.Str → Option Value) (x : PySem.Str) (v : Value), (b.map (·.1)).Nodup → (x, v) ∈ b → k x ≠ some .local → bindC k b m x = some v
  | (y, u) :: r, m, x, v, nd, h, hk => by
    rw [List.map_cons, List.nodup_cons] at nd
    rcases List.mem_cons.mp h with e | h
    · cases e
      rw [bindC, bindC_skip k r _ _ nd.1, if_neg hk]; exact if_pos rfl
    · rw [bindC]; exact bindC_at k r _ x v nd.2 h hk

theorem cellsFrom_some : ∀ (names : Sc) (k : Nat) (acc : List (PySem.Str × Addr)) (x : PySem.Str), names.lookup x = some .cell ∨ (acc.lookup x).isSome = true → ((cellsFrom k names acc).lookup x).isSome = true
  | [], _, _, _, h => h.resolve_left (fun z => by cases z)
  | (y, kd) :: r, k, acc, x, h => by
    rw [cellsFrom]
    split
    · refine cellsFrom_some r _ _ x ?_
      cases q : x == y with
      | true => right; rw [List.lookup_cons, q]; rfl
      | false =>
        rw [List.lookup_cons, q] at h
        rw [List.lookup_cons, q]; exact h
    · rename_i hkd
      refine cellsFrom_some r _ _ x ?_
      cases q : x == y with
      | true =>
        rw [List.lookup_cons, q] at h
        refine .inr (h.resolve_left fun z => hkd ?_)
        have : kd = .cell := by simpa using z
        rw [this]; rfl
      | false => rw [List.lookup_cons, q] at h; exact h

structure FnRec (G : Gd) (fn : Fn) (a : Addr) : Prop where
  ex : ∃ (o : Obj) (fd : FuncData) (body : List Stmt), G.K.lookup a = some o ∧ o.data = .func fd ∧ codeIn G.K fd.code fd.qualname = true ∧ fd.body = .stmts body ∧ fd.closure = [] ∧ fd.globals = mainGlobals ∧ fd.builtins = builtinsNs ∧
    fd.scope.kind = .function ∧ fd.scope.isCoroutine = false ∧ fd.scope.isGenerator = false ∧
    (∀ vals : List Value, vals.length = fn.np → bindArgs fd ⟨vals, []⟩ = pure ((fn.names.take fn.np).zip vals)) ∧ fn.np ≤ fn.names.length ∧ (∀ x ∈ fn.names.take fn.np, kindOk fd.scope.names x = true ∧ x ≠ Str.empty) ∧ (fn.names.take fn.np).Nodup ∧
    ∀ (C : Calls) (n : Nat), CallsOk G C n → SimB G C n fd.scope.names (gam0 fn) n fn.body body

theorem pairwise_lookup {cs : List (PySem.Str × Addr)} (h : cs.Pairwise fun x y => x.2 ≠ y.2) {n n' : PySem.Str} {c : Addr} (h1 : cs.lookup n = some c) (h2 : cs.lookup n' = some c) : n = n' := by
  induction cs with
  | nil => cases h1
  | cons x r ih =>
    rw [List.pairwise_cons] at h
    rw [List.lookup_cons] at h1 h2
    cases q1 : n == x.1 <;> cases q2 : n' == x.1 <;> rw [q1] at h1 <;> rw [q2] at h2
    · exact ih h.2 h1 h2
    · cases h2; exact absurd rfl (h.1 (n, x.2) (PySem.mem_of_lookup (n := n) h1))
    · cases h1; exact absurd rfl (h.1 (n', x.2) (PySem.mem_of_lookup (n := n') h2))
    · rw [beq_iff_eq] at q1 q2; rw [q1, q2]

theorem entry_go (O : G.Ok N) {fn : Fn} {a : Addr} (hfn : FnRec G fn a) (CO : CallsOk G C n) (hA : AC (n + 1) A) {Vs : List V} {vals : List Value} (R : Rel G t st s) (r : VRels t s.heap Vs vals) (hnp : Vs.length = fn.np)
    {p : Fl × Loc} (e : exs G.P C n fn.body (Vs.map some ++ List.replicate (fn.names.length - fn.np) none) st = .ok p st') {B : Result → Shared → Prop}
    (k : ∀ v t' s', Step noX t t' s s' → Rel G t' st' s' → VRel t' s'.heap (match p.1 with | .ret v => v | .next => .none) v → B (.ok (.ret v)) s') :
    codeAny G.M A (.call (.ref a) ⟨vals, []⟩) B s := by
  obtain ⟨o, fd, body, h1, h2, h3, h4, h5, h6, h7, h8, h9, h10, h11, h12, h13, h14, h15⟩ := hfn.ex
  have XK := O.K.keeps R.base
  have hlv : vals.length = fn.np := by rw [r.length]; exact hnp
  have hbn : ((fn.names.take fn.np).zip vals).map (·.1) = fn.names.take fn.np := by
    rw [List.map_fst_zip]; rw [List.length_take, hlv]; exact Nat.min_le_left _ _
  have hkx : ∀ x ∈ (fn.names.take fn.np).zip vals, x.1 ∈ fn.names.take fn.np := fun x hx => (List.of_mem_zip (a := x.1) (b := x.2) hx).1
  refine codeAny_call_cells (body := body) (binds := (fn.names.take fn.np).zip vals) (by have := hA.dep; omega) (XK _ _ h1) h2 (O.lim.keeps R.base) (codeRec_of XK h3) h4 (h11 vals hlv) h5 (fun x hx => ?_) (fun s₁ x => ?_) h9 h10 h8
  · have hk := (h13 x.1 (hkx x hx)).1
    simp only [kindOk, Bool.or_eq_true, beq_iff_eq] at hk
    rcases hk with hk | hk
    · exact .inl hk
    · exact .inr ⟨hk, cellsFrom_some _ _ _ _ (.inl hk)⟩
  · let env := callEnvC fd s.heap.objs.size a
    have hcells : env.cells = cellsFrom (s.heap.objs.size + 1) fd.scope.names [] := rfl
    have hloc : env.locals = s.heap.objs.size := rfl
    obtain ⟨h', tk, hs, hk'⟩ := x.done
    let P : Addr → Prop := own env
    have np : ∀ b, P b → s.heap.get? b = none := by
      rintro b (rfl | ⟨nm, q⟩)
      · exact size_none _
      · have hlt := x.above nm b (PySem.mem_of_lookup q)
        cases z : s.heap.get? b with
        | none => rfl
        | some ob => exact absurd (Heap.lt_size z) (Nat.not_lt.mpr (Nat.le_of_lt hlt))
    have hk0 : ∀ b o, s.heap.get? b = some o → s₁.heap.get? b = some o := x.toInCall.keep
    have hg : s₁.gens = s.gens := by rw [hs]
    have ho : s₁.os = s.os := by rw [hs]
    have hlP : ∀ b, P b → (s₁.heap.get? b).isSome = true := by
      rintro b (rfl | ⟨nm, q⟩)
      · obtain ⟨ob, _, _, z, _⟩ := x.toInCall.ns; rw [z]; rfl
      · obtain ⟨ob, z, _⟩ := x.cell nm b q; rw [z]; rfl
    have R0 : Rel G (t.hide P) st s₁ := R.hideGrow np hk0 hlP hg ho
    have SG : Step noX (t.hide P) (t.hide P) s s₁ := ⟨.refl _, fun a o e _ _ => hk0 a o e, fun _ o => .inl o, fun a o e => by rw [hk0 a o e]; rfl, hg, ho⟩
    have hkind : ∀ y, env.kindOf y = fd.scope.names.lookup y := fun _ => rfl
    have F0 : FrOk G (t.hide P) env (gam0 fn) (Vs.map some ++ List.replicate (fn.names.length - fn.np) none) s₁ := by
      refine ⟨h8, h6, h7, .inr (.inl rfl), fun nm c q => .inr (.inr ⟨nm, q⟩), fun nm nm' c q q' => pairwise_lookup x.apart q q', _, _, x.toInCall.ns, x.cell, fun y hy => cellsFrom_some _ _ _ _ (.inl hy), fun i y Y e1 e2 => ?_⟩
      have hi : i < Vs.length := by
        by_cases q : i < Vs.length
        · exact q
        · rw [List.getElem?_append_right (by rw [List.length_map]; omega)] at e2
          rw [List.getElem?_replicate] at e2
          split at e2 <;> cases e2
      rw [List.getElem?_append_left (by rw [List.length_map]; exact hi), List.getElem?_map] at e2
      obtain ⟨Y', e3, e4⟩ := Option.map_eq_some_iff.mp e2
      cases e4
      obtain ⟨u, u1, u2⟩ := VRels.get r e3
      simp only [gam0, List.getElem?_map, Option.map_eq_some_iff] at e1
      obtain ⟨y', e5, e6⟩ := e1
      have hy : y' = y := by split at e6 <;> cases e6; rfl
      subst hy
      have e7 : (fn.names.take fn.np)[i]? = some y' := by rw [List.getElem?_take, if_pos (by omega)]; exact e5
      have hm : (y', u) ∈ (fn.names.take fn.np).zip vals := by
        refine List.mem_iff_getElem?.mpr ⟨i, ?_⟩
        rw [List.getElem?_zip_eq_some]; exact ⟨e7, u1⟩
      have hko := (h13 y' (List.mem_iff_getElem?.mpr ⟨i, e7⟩)).1
      simp only [kindOk, Bool.or_eq_true, beq_iff_eq] at hko
      refine ⟨u, VRel.step SG (fun _ z => z.elim) _ (VRel.hide np _ u2), ?_⟩
      rcases hko with hko | hko
      · exact .inl ⟨hko, bindL_at _ _ _ _ _ (by rw [hbn]; exact h14) hm hko⟩
      · exact .inr ⟨hko, bindC_at _ _ _ _ _ (by rw [hbn]; exact h14) hm (by rw [hkind, hko]; decide)⟩
    have hA' : AOk n (A.deeper env) := ⟨hA.hd, by have := hA.dep; rw [depth_deeper]; omega, by have := hA.un; rw [units_deeper]; omega⟩
    refine h15 C n CO (t.hide P) st s₁ env _ p.1 p.2 st' (A.deeper env) hA' rfl F0 R0 e _ _ fun f t' s' S' R' F' rf => ?_
    have hpv : t'.pv = (t.hide P).pv := S'.le.pv
    have nP : ∀ b, t.pv b → ¬ P b := fun b q z => by
      have := R.live b (.inr q)
      rw [np b z] at this; cases this
    have Fg : Forget P noX t' { t' with pv := t.pv } s' s' :=
      ⟨rfl, rfl, fun b q => ⟨by rw [hpv]; exact .inl q, nP b q⟩, fun b q => by rw [hpv]; exact .inr q, fun b z => z.elim, fun _ _ _ _ e => e, rfl, rfl⟩
    have S'' := Step.unhide (t := t) (L := noX) (fun b q => .inl q) np hk0 hg ho S' Fg
    cases hp : p.1 with
    | next =>
      rw [hp] at rf
      have rf : f = .next := rf
      subst rf
      exact k _ _ _ S'' (R'.forget Fg) (by rw [hp]; rfl)
    | ret X =>
      rw [hp] at rf
      obtain ⟨u, rfl, ru⟩ := rf
      exact k _ _ _ S'' (R'.forget Fg) (by rw [hp]; exact VRel.forget Fg _ ru)

theorem calls_ok (O : G.Ok N) (hfn : ∀ f fn, G.P.fns f = some fn → ∃ a, G.fa f = some a ∧ FnRec G fn a) : ∀ n, CallsOk G (run G.P n) n
  | 0 => fun f vs st X st' e => by cases e
  | n + 1 => fun f vs st X st' e A hA => by
    simp only [run] at e
    split at e
    case h_2 => cases e
    rename_i fn hf
    split at e
    case isFalse => cases e
    rename_i hnp
    obtain ⟨p, s1, e1, e⟩ := Res.bind_ok e
    obtain ⟨a, ha, rec⟩ := hfn f fn hf
    refine ⟨a, ha, fun t s args R r B k => ?_⟩
    obtain ⟨h1, h2⟩ : X = (match p.1 with | .ret v => v | .next => .none) ∧ st' = s1 := by
      cases e; exact ⟨rfl, rfl⟩
    subst h2
    exact entry_go O rec (calls_ok O hfn n) hA R r hnp e1 fun v t' s' S' R' rv => k v t' s' S' R' (by rw [h1]; exact rv)
end
end Mine
end

section
namespace Mine
open PySem PySem.W PyProof.Rows

section
variable {x y z f : PySem.Expr}
noncomputable def xName : PySem.Expr → Option PySem.Str | .Name y _ => some y | _ => none
noncomputable def xConst : PySem.Expr → Option Const | .Constant y _ _ => some y | _ => none
noncomputable def xUn : PySem.Expr → Option (UnaryOp × PySem.Expr) | .UnaryOp o y _ => some (o, y) | _ => none
noncomputable def xBool : PySem.Expr → Option (BoolOp × List PySem.Expr) | .BoolOp o y _ => some (o, y) | _ => none
noncomputable def xBin : PySem.Expr → Option (PySem.Expr × Operator × PySem.Expr) | .BinOp a o b _ => some (a, o, b) | _ => none
noncomputable def xCmp : PySem.Expr → Option (PySem.Expr × List CmpOp × List PySem.Expr) | .Compare a o b _ => some (a, o, b) | _ => none
noncomputable def xTup : PySem.Expr → Option (List PySem.Expr) | .Tuple m _ _ => some m | _ => none
noncomputable def xList : PySem.Expr → Option (List PySem.Expr) | .List m _ => some m | _ => none
noncomputable def xDict : PySem.Expr → Option (List (Option PySem.Expr) × List PySem.Expr) | .Dict k m _ => some (k, m) | _ => none
noncomputable def xSub : PySem.Expr → Option (PySem.Expr × PySem.Expr) | .Subscript a b _ => some (a, b) | _ => none
noncomputable def xSlice : PySem.Expr → Option (Option PySem.Expr × Option PySem.Expr × Option PySem.Expr) | .Slice a b c _ => some (a, b, c) | _ => none
noncomputable def xAttr : PySem.Expr → Option (PySem.Expr × PySem.Str × Pos) | .Attribute a n p => some (a, n, p) | _ => none
noncomputable def xCall : PySem.Expr → Option (PySem.Expr × List PySem.Expr × List Keyword × Pos) | .Call f m k p => some (f, m, k, p) | _ => none
noncomputable def xComp : PySem.Expr → Option (PySem.Expr × List Comprehension × Scope) | .ListComp e g s _ => some (e, g, s) | _ => none
theorem xName_ok {y : PySem.Str} (h : xName x = some y) : ∃ p, x = .Name y p := by cases x <;> cases h; exact ⟨_, rfl⟩
theorem xConst_ok {y : Const} (h : xConst x = some y) : ∃ k p, x = .Constant y k p := by cases x <;> cases h; exact ⟨_, _, rfl⟩
theorem xUn_ok {y : UnaryOp × PySem.Expr} (h : xUn x = some y) : ∃ p, x = .UnaryOp y.1 y.2 p := by cases x <;> cases h; exact ⟨_, rfl⟩
theorem xBool_ok {y : BoolOp × List PySem.Expr} (h : xBool x = some y) : ∃ p, x = .BoolOp y.1 y.2 p := by cases x <;> cases h; exact ⟨_, rfl⟩
theorem xBin_ok {y : PySem.Expr × Operator × PySem.Expr} (h : xBin x = some y) : ∃ p, x = .BinOp y.1 y.2.1 y.2.2 p := by cases x <;> cases h; exact ⟨_, rfl⟩
theorem xCmp_ok {y : PySem.Expr × List CmpOp × List PySem.Expr} (h : xCmp x = some y) : ∃ p, x = .Compare y.1 y.2.1 y.2.2 p := by cases x <;> cases h; exact ⟨_, rfl⟩
theorem xTup_ok {m : List PySem.Expr} (h : xTup x = some m) : ∃ k p, x = .Tuple m k p := by cases x <;> cases h; exact ⟨_, _, rfl⟩
theorem xList_ok {m : List PySem.Expr} (h : xList x = some m) : ∃ p, x = .List m p := by cases x <;> cases h; exact ⟨_, rfl⟩
theorem xDict_ok {m : List (Option PySem.Expr) × List PySem.Expr} (h : xDict x = some m) : ∃ p, x = .Dict m.1 m.2 p := by cases x <;> cases h; exact ⟨_, rfl⟩
theorem xSub_ok {m : PySem.Expr × PySem.Expr} (h : xSub x = some m) : ∃ p, x = .Subscript m.1 m.2 p := by cases x <;> cases h; exact ⟨_, rfl⟩
theorem xSlice_ok {m : Option PySem.Expr × Option PySem.Expr × Option PySem.Expr} (h : xSlice x = some m) : ∃ p, x = .Slice m.1 m.2.1 m.2.2 p := by cases x <;> cases h; exact ⟨_, rfl⟩
theorem xAttr_ok {m : PySem.Expr × PySem.Str × Pos} (h : xAttr x = some m) : x = .Attribute m.1 m.2.1 m.2.2 := by cases x <;> cases h; rfl
theorem xCall_ok {m : PySem.Expr × List PySem.Expr × List Keyword × Pos} (h : xCall x = some m) : x = .Call m.1 m.2.1 m.2.2.1 m.2.2.2 := by cases x <;> cases h; rfl
theorem xComp_ok {m : PySem.Expr × List Comprehension × Scope} (h : xComp x = some m) : ∃ p, x = .ListComp m.1 m.2.1 m.2.2 p := by cases x <;> cases h; exact ⟨_, rfl⟩
theorem any_ok {α : Type} {o : Option α} {f : α → Bool} (h : o.any f = true) : ∃ a, o = some a ∧ f a = true := by
  cases o with
  | none => cases h
  | some a => exact ⟨a, rfl, h⟩
theorem and_ok {a b : Bool} (h : (a && b) = true) : a = true ∧ b = true := by cases a <;> cases b <;> first | exact ⟨rfl, rfl⟩ | cases h
end

noncomputable def l1 {α : Type} (l : List α) (f : α → Bool) : Bool := match l with | [a] => f a | _ => false
noncomputable def l2 {α : Type} (l : List α) (f : α → α → Bool) : Bool := match l with | [a, b] => f a b | _ => false
theorem l1_ok {α : Type} {l : List α} {f : α → Bool} (h : l1 l f = true) : ∃ a, l = [a] ∧ f a = true := by
  cases l with
  | nil => cases h
  | cons a r => cases r with
    | nil => exact ⟨a, rfl, h⟩
    | cons => cases h
theorem l2_ok {α : Type} {l : List α} {f : α → α → Bool} (h : l2 l f = true) : ∃ a b, l = [a, b] ∧ f a b = true := by
  cases l with
  | nil => cases h
  | cons a r => cases r with
    | nil => cases h
    | cons b r => cases r with
      | nil => exact ⟨a, b, rfl, h⟩
      | cons => cases h
noncomputable def xCallN (x : PySem.Expr) : Option (PySem.Str × List PySem.Expr) := (xCall x).bind fun q => (xName q.1).bind fun n => if q.2.2.1.isEmpty then some (n, q.2.1) else none
noncomputable def xCallA (x : PySem.Expr) : Option (PySem.Expr × PySem.Str × List PySem.Expr) := (xCall x).bind fun q => (xAttr q.1).bind fun n =>
  if q.2.2.1.isEmpty && notSuper n.1 && n.2.2.endLine == q.2.2.2.line && decide (q.2.1.length < 30) then some (n.1, n.2.1, q.2.1) else none
theorem bind_ok {α β : Type} {o : Option α} {f : α → Option β} {b : β} (h : o.bind f = some b) : ∃ a, o = some a ∧ f a = some b := by
  cases o with
  | none => cases h
  | some a => exact ⟨a, rfl, h⟩
theorem xCallN_ok {x : PySem.Expr} {m : PySem.Str × List PySem.Expr} (h : xCallN x = some m) : ∃ np p, x = .Call (.Name m.1 np) m.2 [] p := by
  obtain ⟨⟨f, l, k, p⟩, e, h⟩ := bind_ok h
  obtain ⟨n, en, h⟩ := bind_ok h
  have hk : k = [] := by
    cases k with
    | nil => rfl
    | cons => cases h
  subst hk
  cases h
  obtain ⟨np, rfl⟩ := xName_ok en
  exact ⟨np, p, xCall_ok e⟩
theorem if_ok {α : Type} {c : Bool} {a b : α} (h : (if c = true then some a else none) = some b) : c = true ∧ a = b := by
  cases c with
  | true => cases h; exact ⟨rfl, rfl⟩
  | false => cases h
theorem xCallA_ok {x : PySem.Expr} {m : PySem.Expr × PySem.Str × List PySem.Expr} (h : xCallA x = some m) : ∃ ap p, x = .Call (.Attribute m.1 m.2.1 ap) m.2.2 [] p ∧ notSuper m.1 = true ∧ (ap.endLine == p.line) = true ∧ m.2.2.length < 30 := by
  obtain ⟨⟨f, l, k, p⟩, e, h⟩ := bind_ok h
  obtain ⟨⟨y, n, ap⟩, en, h⟩ := bind_ok h
  obtain ⟨hc, e2⟩ := if_ok h
  subst e2
  obtain ⟨hc, h4⟩ := and_ok hc
  obtain ⟨hc, h3⟩ := and_ok hc
  obtain ⟨h1, h2⟩ := and_ok hc
  have hk : k = [] := by
    cases k with
    | nil => rfl
    | cons => cases h1
  subst hk
  cases xAttr_ok en
  exact ⟨ap, p, xCall_ok e, h2, h3, of_decide_eq_true h4⟩

noncomputable def ckConst (v : V) (k : Const) : Bool := match v with
  | .none => (match k with | .none => true | _ => false)
  | .bool b => (match k with | .bool c => b == c | _ => false)
  | .int i => (match k with | .int j => decide (i = j) | _ => false)
  | .str l => (match k with | .str y => y == toStr l | _ => false)
  | _ => false
theorem ckConst_none {k : Const} (h : ckConst .none k = true) : k = .none := by cases k <;> first | rfl | cases h
theorem ckConst_bool {b : Bool} {k : Const} (h : ckConst (.bool b) k = true) : k = .bool b := by cases k <;> first | exact congrArg _ (eq_of_beq h).symm | cases h
theorem ckConst_int {b : Int} {k : Const} (h : ckConst (.int b) k = true) : k = .int b := by cases k <;> first | exact congrArg _ (of_decide_eq_true h).symm | cases h
theorem ckConst_str {b : List Nat} {k : Const} (h : ckConst (.str b) k = true) : k = .str (toStr b) := by cases k <;> first | exact congrArg _ (eq_of_beq h) | cases h

noncomputable def ckIt (sc : Sc) (range : Bool) (i : PySem.Expr) (f : PySem.Expr → Bool) : Bool :=
  if range = true then (xCallN i).any fun m => m.1 == ("range" : PySem.Str) && (glob sc "range" && l1 m.2 f) else f i
noncomputable def ckKs (N : Names) (sc : Sc) (ks : List Kind) (z : PySem.Expr) : Bool :=
  l1 ks (fun k => kindUse k && chkKind N sc k z) || l2 ks (fun k k' => kindUse k && (kindUse k' && (xTup z).any fun zs => chkKinds N sc [k, k'] zs))

mutual
noncomputable def ckE (N : Names) (sc : Sc) (Γ : Gam) : E → PySem.Expr → Bool
  | .none, x => (xConst x).any (ckConst .none)
  | .bool b, x => (xConst x).any (ckConst (.bool b))
  | .int i, x => (xConst x).any (ckConst (.int i))
  | .str l, x => (xConst x).any (ckConst (.str l))
  | .loc i, x => (xName x).any fun y => Γ[i]? == some (some y) && !(y == ("__debug__" : PySem.Str))
  | .gint g i, x => false
  | .gstr g l, x => false
  | .neg a, x => false
  | .not a, x => (xUn x).any fun p => p.1 == .Not && ckE N sc Γ a p.2
  | .and l, x => (xBool x).any fun p => p.1 == .And && ckEs N sc Γ l p.2
  | .or l, x => (xBool x).any fun p => p.1 == .Or && ckEs N sc Γ l p.2
  | .bin o a b, x => (xBin x).any fun p => opOf o == p.2.1 && (ckE N sc Γ a p.1 && ckE N sc Γ b p.2.2)
  | .cmp a o b, x => (xCmp x).any fun p => ckE N sc Γ a p.1 && l1 p.2.1 fun q => l1 p.2.2 fun z => cmpOf o == q && (ckE N sc Γ b z && !behindInMarks q z)
  | .cmp2 a o b o2 c, x => false
  | .isC n a v, x => false
  | .tup l, x => (xTup x).any fun m => ckEs N sc Γ l m
  | .lst l, x => (xList x).any fun m => ckEs N sc Γ l m
  | .lstM _ l, x => (xList x).any fun m => ckEs N sc Γ l m
  | .dictM _ ks l, x => (xDict x).any fun m => m.1.isEmpty && (m.2.isEmpty && (ks.isEmpty && l.isEmpty))
  | .sub a b, x => (xSub x).any fun m => ckE N sc Γ a m.1 && ckE N sc Γ b m.2
  | .slice a lo hi, x => (xSub x).any fun m => ckE N sc Γ a m.1 && (xSlice m.2).any fun q => q.2.2.isNone && (ckO N sc Γ lo q.1 && ckO N sc Γ hi q.2.1)
  | .attr a i, x => false
  | .call f l, x => (xCallN x).any fun m => m.1 == N.fn f && (glob sc (N.fn f) && (!(N.fn f == Str.empty) && ckEs N sc Γ l m.2))
  | .meth a k l, x => false
  | .new c l, x => false
  | .isinst a ks, x => (xCallN x).any fun m => m.1 == ("isinstance" : PySem.Str) && (glob sc "isinstance" && l2 m.2 fun y z => ckE N sc Γ a y && ckKs N sc ks z)
  | .prim p l, x => (xCallN x).any fun m => m.1 == primName p && (primOk p && (glob sc (primName p) && ckEs N sc Γ l m.2))
  | .listM _ a, x => false
  | .dictC _ a, x => false
  | .bm b a l, x => (xCallA x).any fun m => m.2.1 == bmName b && (bmUse b && (ckE N sc Γ a m.1 && ckEs N sc Γ l m.2.2))
  | .comp M slot range it cond elt, x => (xComp x).any fun m => M.isNone && l1 m.2.1 fun g => (xName g.target).any fun y => decide (g.is_async = 0) && (compOk sc m.2.2 slot Γ y && (notSet g.iter &&
      (ckIt sc range g.iter (ckE N sc Γ it) && (ckIf N (compSc sc m.2.2.names) (compGam (compSc sc m.2.2.names) Γ slot y) cond g.ifs && ckE N (compSc sc m.2.2.names) (compGam (compSc sc m.2.2.names) Γ slot y) elt m.1))))
noncomputable def ckIf (N : Names) (sc : Sc) (Γ : Gam) : Option E → List PySem.Expr → Bool
  | none, m => m.isEmpty
  | some c, m => l1 m fun x => ckE N sc Γ c x
noncomputable def ckO (N : Names) (sc : Sc) (Γ : Gam) : Option E → Option PySem.Expr → Bool
  | none, x => x.isNone
  | some e, x => x.any fun y => ckE N sc Γ e y
noncomputable def ckEs (N : Names) (sc : Sc) (Γ : Gam) : List E → List PySem.Expr → Bool
  | [], m => m.isEmpty
  | e :: l, m => m.head?.any fun x => ckE N sc Γ e x && ckEs N sc Γ l m.tail
end
end Mine
end

section
namespace Mine
open PySem PySem.W PyProof.Rows

structure Hyp (G : Gd) (N : Names) (C : Calls) (d : Nat) : Prop where
  O : G.Ok N
  CO : CallsOk G C d
  hcl : ∀ c Ca, G.ca c = some Ca → ClsOk G Ca
  hfn : ∀ f a, G.fa f = some a → FnOk G N f a
  hme : ∀ c k f Ca, G.P.meths c k = some f → G.ca c = some Ca → ∃ a, G.fa f = some a ∧ MethOk G Ca (N.meth k) a
  hne : ∀ c k f, G.P.inits c = some (k, f) → ∃ Ca fi, G.ca c = some Ca ∧ G.fa f = some fi ∧ NewOk G N c Ca fi

section
variable {G : Gd} {N : Names} {C : Calls} {d : Nat} {sc : Sc} {Γ : Gam} {x : PySem.Expr}

def SimET (G : Gd) (C : Calls) (d : Nat) (sc : Sc) (Γ : Gam) (e : E) (x : PySem.Expr) : Prop := isStarred x = false ∧ notSlice x = true ∧ SimE G C d sc Γ e x ∧ SimT G C d sc Γ e x
def SimLs (G : Gd) (C : Calls) (d : Nat) (sc : Sc) (Γ : Gam) (l : List E) (m : List PySem.Expr) : Prop := SimL G C d sc Γ l m ∧ SimEs G C d sc Γ l m ∧ plainArgs m = true ∧ l.length = m.length
theorem simET {e : E} (h1 : isStarred x = false) (h2 : notSlice x = true) (h3 : plainTest x = true) (h : SimE G C d sc Γ e x) : SimET G C d sc Γ e x := ⟨h1, h2, h, simT_plain h3 h⟩

theorem or_ok {a b : Bool} (h : (a || b) = true) : a = true ∨ b = true := by cases a <;> cases b <;> first | exact .inl rfl | exact .inr rfl | cases h
theorem iter_ok {range : Bool} {it : E} {i : PySem.Expr} (ih : ∀ x, ckE N sc Γ it x = true → SimET G C d sc Γ it x) (h : ckIt sc range i (ckE N sc Γ it) = true) : ∃ j, IterAst sc range i j ∧ SimE G C d sc Γ it j := by
  cases range with
  | false => exact ⟨i, .plain i, (ih i h).2.2.1⟩
  | true =>
    obtain ⟨⟨n, l⟩, e, h⟩ := any_ok (h : (xCallN i).any _ = true)
    obtain ⟨np, p, rfl⟩ := xCallN_ok e
    obtain ⟨e1, h⟩ := and_ok h
    obtain ⟨hg, h⟩ := and_ok h
    obtain ⟨j, e2, h⟩ := l1_ok h
    have e1 : n = "range" := eq_of_beq e1
    have e2 : l = [j] := e2
    subst e1 e2
    exact ⟨j, .range hg (ih j h).1, (ih j h).2.2.1⟩
theorem comp_parts {M : Option Nat} {slot : Nat} {range : Bool} {it : E} {cond : Option E} {elt : E} (h : ckE N sc Γ (.comp M slot range it cond elt) x = true) :
    ∃ (e i : PySem.Expr) (y : PySem.Str) (px pos : Pos) (ifs : List PySem.Expr) (scope : Scope), M = none ∧ x = .ListComp e [⟨.Name y px, i, ifs, 0⟩] scope pos ∧ compOk sc scope slot Γ y = true ∧ notSet i = true ∧
      ckIt sc range i (ckE N sc Γ it) = true ∧ ckIf N (compSc sc scope.names) (compGam (compSc sc scope.names) Γ slot y) cond ifs = true ∧ ckE N (compSc sc scope.names) (compGam (compSc sc scope.names) Γ slot y) elt e = true := by
  obtain ⟨⟨e, gs, scope⟩, ex, h⟩ := any_ok (o := xComp x) h
  obtain ⟨pos, rfl⟩ := xComp_ok ex
  obtain ⟨hM, h⟩ := and_ok h
  obtain ⟨⟨tg, i, ifs, a⟩, eg, h⟩ := l1_ok h
  have eg : gs = [⟨tg, i, ifs, a⟩] := eg
  subst eg
  obtain ⟨y, ey, h⟩ := any_ok h
  obtain ⟨px, et⟩ := xName_ok ey
  have et : tg = .Name y px := et
  subst et
  obtain ⟨ha, h⟩ := and_ok h
  have ha : a = 0 := of_decide_eq_true ha
  subst ha
  obtain ⟨h1, h⟩ := and_ok h
  obtain ⟨h2, h⟩ := and_ok h
  obtain ⟨h3, h⟩ := and_ok h
  obtain ⟨h4, h5⟩ := and_ok h
  exact ⟨e, i, y, px, pos, ifs, scope, Option.isNone_iff_eq_none.1 hM, rfl, h1, h2, h3, h4, h5⟩

mutual
theorem ckE_ok (H : Hyp G N C d) : ∀ (e : E) (sc : Sc) (Γ : Gam) (x : PySem.Expr), ckE N sc Γ e x = true → SimET G C d sc Γ e x
  | .none, sc, Γ, x, h => by
    obtain ⟨c, e, h⟩ := any_ok (o := xConst x) h
    obtain ⟨k, p, rfl⟩ := xConst_ok e
    cases ckConst_none h
    exact simET rfl rfl rfl sim_none
  | .bool b, sc, Γ, x, h => by
    obtain ⟨c, e, h⟩ := any_ok (o := xConst x) h
    obtain ⟨k, p, rfl⟩ := xConst_ok e
    cases ckConst_bool h
    exact simET rfl rfl rfl sim_bool
  | .int b, sc, Γ, x, h => by
    obtain ⟨c, e, h⟩ := any_ok (o := xConst x) h
    obtain ⟨k, p, rfl⟩ := xConst_ok e
    cases ckConst_int h
    exact simET rfl rfl rfl sim_int
  | .str b, sc, Γ, x, h => by
    obtain ⟨c, e, h⟩ := any_ok (o := xConst x) h
    obtain ⟨k, p, rfl⟩ := xConst_ok e
    cases ckConst_str h
    exact simET rfl rfl rfl sim_str
  | .loc i, sc, Γ, x, h => by
    obtain ⟨y, e, h⟩ := any_ok (o := xName x) h
    obtain ⟨p, rfl⟩ := xName_ok e
    obtain ⟨h1, h2⟩ := and_ok h
    exact simET rfl rfl rfl (sim_loc (eq_of_beq h1) (Bool.not_eq_true' _ ▸ h2))
  | .gint g i, sc, Γ, x, h => by
    exact Bool.noConfusion (h : false = true)
  | .gstr g i, sc, Γ, x, h => by
    exact Bool.noConfusion (h : false = true)
  | .neg a, sc, Γ, x, h => by
    exact Bool.noConfusion (h : false = true)
  | .not a, sc, Γ, x, h => by
    obtain ⟨⟨o, y⟩, e, h⟩ := any_ok (o := xUn x) h
    obtain ⟨p, rfl⟩ := xUn_ok e
    obtain ⟨h1, h2⟩ := and_ok h
    have h1 : o = .Not := by cases o <;> first | rfl | cases h1
    subst h1
    have h3 := ckE_ok H a sc Γ _ h2
    exact ⟨rfl, rfl, sim_not h3.2.2.1, simT_not h3.2.2.2⟩
  | .and l, sc, Γ, x, h => by
    obtain ⟨⟨o, y⟩, e, h⟩ := any_ok (o := xBool x) h
    obtain ⟨p, rfl⟩ := xBool_ok e
    obtain ⟨h1, h2⟩ := and_ok h
    have h1 : o = .And := by cases o <;> first | rfl | cases h1
    subst h1
    have h3 := (ckEs_ok H l sc Γ _ h2).1
    exact ⟨rfl, rfl, simE_and h3, simTE_and h3⟩
  | .or l, sc, Γ, x, h => by
    obtain ⟨⟨o, y⟩, e, h⟩ := any_ok (o := xBool x) h
    obtain ⟨p, rfl⟩ := xBool_ok e
    obtain ⟨h1, h2⟩ := and_ok h
    have h1 : o = .Or := by cases o <;> first | rfl | cases h1
    subst h1
    have h3 := (ckEs_ok H l sc Γ _ h2).1
    exact ⟨rfl, rfl, simE_or h3, simTE_or h3⟩
  | .bin o a b, sc, Γ, x, h => by
    obtain ⟨⟨y, q, z⟩, e, h⟩ := any_ok (o := xBin x) h
    obtain ⟨p, rfl⟩ := xBin_ok e
    obtain ⟨h1, h⟩ := and_ok h
    obtain ⟨h2, h3⟩ := and_ok h
    have h1 : opOf o = q := eq_of_beq h1
    subst h1
    exact simET rfl rfl rfl (sim_bin H.O (ckE_ok H a sc Γ _ h2).2.2.1 (ckE_ok H b sc Γ _ h3).2.2.1)
  | .cmp a o b, sc, Γ, x, h => by
    obtain ⟨⟨y, qs, zs⟩, e, h⟩ := any_ok (o := xCmp x) h
    obtain ⟨p, rfl⟩ := xCmp_ok e
    obtain ⟨h1, h⟩ := and_ok h
    obtain ⟨q, e1, h⟩ := l1_ok h
    obtain ⟨z, e2, h⟩ := l1_ok h
    obtain ⟨h2, h⟩ := and_ok h
    obtain ⟨h3, h4⟩ := and_ok h
    have e1 : qs = [q] := e1
    have e2 : zs = [z] := e2
    have h2 : cmpOf o = q := eq_of_beq h2
    subst e1 e2 h2
    have g1 := (ckE_ok H a sc Γ _ h1).2.2.1
    have g2 := (ckE_ok H b sc Γ _ h3).2.2.1
    have g3 := Bool.not_eq_true' _ ▸ h4
    exact ⟨rfl, rfl, sim_cmp g3 g1 g2, simT_cmp g3 g1 g2⟩
  | .cmp2 a o b o2 c, sc, Γ, x, h => by
    exact Bool.noConfusion (h : false = true)
  | .isC n a v, sc, Γ, x, h => by
    exact Bool.noConfusion (h : false = true)
  | .tup l, sc, Γ, x, h => by
    obtain ⟨m, e, h⟩ := any_ok (o := xTup x) h
    obtain ⟨k, p, rfl⟩ := xTup_ok e
    exact simET rfl rfl rfl (sim_tup (ckEs_ok H l sc Γ _ h).2.1)
  | .lst l, sc, Γ, x, h => by
    obtain ⟨m, e, h⟩ := any_ok (o := xList x) h
    obtain ⟨p, rfl⟩ := xList_ok e
    exact simET rfl rfl rfl (sim_lst (ckEs_ok H l sc Γ _ h).2.1)
  | .lstM k l, sc, Γ, x, h => by
    obtain ⟨m, e, h⟩ := any_ok (o := xList x) h
    obtain ⟨p, rfl⟩ := xList_ok e
    exact simET rfl rfl rfl (sim_lstM H.O (ckEs_ok H l sc Γ _ h).2.1)
  | .dictM k ks l, sc, Γ, x, h => by
    obtain ⟨⟨m, m'⟩, e, h⟩ := any_ok (o := xDict x) h
    obtain ⟨p, rfl⟩ := xDict_ok e
    obtain ⟨h1, h⟩ := and_ok h
    obtain ⟨h2, h⟩ := and_ok h
    obtain ⟨h3, h4⟩ := and_ok h
    cases List.isEmpty_iff.1 h1
    cases List.isEmpty_iff.1 h2
    cases List.isEmpty_iff.1 h3
    cases List.isEmpty_iff.1 h4
    exact simET rfl rfl rfl (sim_dict0 H.O)
  | .sub a b, sc, Γ, x, h => by
    obtain ⟨⟨y, z⟩, e, h⟩ := any_ok (o := xSub x) h
    obtain ⟨p, rfl⟩ := xSub_ok e
    obtain ⟨h1, h2⟩ := and_ok h
    have g := ckE_ok H b sc Γ _ h2
    exact simET rfl rfl rfl (sim_sub g.2.1 (ckE_ok H a sc Γ _ h1).2.2.1 g.2.2.1)
  | .slice a lo hi, sc, Γ, x, h => by
    obtain ⟨⟨y, z⟩, e, h⟩ := any_ok (o := xSub x) h
    obtain ⟨p, rfl⟩ := xSub_ok e
    obtain ⟨h1, h⟩ := and_ok h
    obtain ⟨⟨l, u, st⟩, es, h⟩ := any_ok h
    obtain ⟨ps, ez⟩ := xSlice_ok es
    obtain ⟨h2, h⟩ := and_ok h
    obtain ⟨h3, h4⟩ := and_ok h
    have h2 : st = none := Option.isNone_iff_eq_none.1 h2
    have ez : z = .Slice l u st ps := ez
    subst ez h2
    exact simET rfl rfl rfl (sim_slice (ckE_ok H a sc Γ _ h1).2.2.1 (ckO_ok H lo sc Γ _ h3) (ckO_ok H hi sc Γ _ h4))
  | .attr a i, sc, Γ, x, h => by
    exact Bool.noConfusion (h : false = true)
  | .call f l, sc, Γ, x, h => by
    obtain ⟨⟨n, m⟩, e, h⟩ := any_ok (o := xCallN x) h
    obtain ⟨np, p, rfl⟩ := xCallN_ok e
    obtain ⟨h1, h⟩ := and_ok h
    obtain ⟨h2, h⟩ := and_ok h
    obtain ⟨h3, h4⟩ := and_ok h
    have h1 : n = N.fn f := eq_of_beq h1
    subst h1
    obtain ⟨_, g1, g2, g3⟩ := ckEs_ok H l sc Γ _ h4
    exact simET rfl rfl rfl (sim_call H.O H.CO H.hfn (by simpa using h3) h2 g2 g3 g1)
  | .meth a k l, sc, Γ, x, h => by
    exact Bool.noConfusion (h : false = true)
  | .new c l, sc, Γ, x, h => by
    exact Bool.noConfusion (h : false = true)
  | .isinst a ks, sc, Γ, x, h => by
    obtain ⟨⟨n, m⟩, e, h⟩ := any_ok (o := xCallN x) h
    obtain ⟨np, p, rfl⟩ := xCallN_ok e
    obtain ⟨h1, h⟩ := and_ok h
    obtain ⟨h2, h⟩ := and_ok h
    obtain ⟨y, z, e2, h⟩ := l2_ok h
    obtain ⟨h3, h4⟩ := and_ok h
    have h1 : n = "isinstance" := eq_of_beq h1
    have e2 : m = [y, z] := e2
    subst h1 e2
    have g := ckE_ok H a sc Γ _ h3
    rcases or_ok h4 with h | h
    · obtain ⟨k, rfl, h⟩ := l1_ok h
      obtain ⟨h5, h6⟩ := and_ok h
      exact simET rfl rfl rfl (sim_isinst1 H.O h5 h2 g.1 h6 g.2.2.1)
    · obtain ⟨k, k', rfl, h⟩ := l2_ok h
      obtain ⟨h5, h⟩ := and_ok h
      obtain ⟨h6, h⟩ := and_ok h
      obtain ⟨zs, ez, h⟩ := any_ok h
      obtain ⟨cx, tp, rfl⟩ := xTup_ok ez
      exact simET rfl rfl rfl (sim_isinst2 H.O h5 h6 h2 g.1 h g.2.2.1)
  | .prim q l, sc, Γ, x, h => by
    obtain ⟨⟨n, m⟩, e, h⟩ := any_ok (o := xCallN x) h
    obtain ⟨np, p, rfl⟩ := xCallN_ok e
    obtain ⟨h1, h⟩ := and_ok h
    obtain ⟨h2, h⟩ := and_ok h
    obtain ⟨h3, h4⟩ := and_ok h
    have h1 : n = primName q := eq_of_beq h1
    subst h1
    obtain ⟨_, g1, g2, g3⟩ := ckEs_ok H l sc Γ _ h4
    exact simET rfl rfl rfl (sim_prim H.O h2 h3 g2 g3 g1)
  | .listM k a, sc, Γ, x, h => by
    exact Bool.noConfusion (h : false = true)
  | .dictC k a, sc, Γ, x, h => by
    exact Bool.noConfusion (h : false = true)
  | .bm b a l, sc, Γ, x, h => by
    obtain ⟨⟨y, n, m⟩, e, g0⟩ := any_ok (o := xCallA x) h
    clear h
    obtain ⟨ap, p, rfl, q1, q2, q3⟩ := xCallA_ok e
    obtain ⟨h1, h⟩ := and_ok g0
    obtain ⟨h2, h⟩ := and_ok h
    obtain ⟨h3, h4⟩ := and_ok h
    have h1 : n = bmName b := eq_of_beq h1
    subst h1
    obtain ⟨_, g1, g2, g3⟩ := ckEs_ok H l sc Γ _ h4
    exact simET rfl rfl rfl (sim_bm H.O h2 q1 q2 q3 g2 g3 (ckE_ok H a sc Γ _ h3).2.2.1 g1)
  | .comp M slot range it cond elt, sc, Γ, x, h => by
    obtain ⟨e, i, y, px, pos, ifs, scope, rfl, rfl, h1, h2, h3, h4, h5⟩ := comp_parts h
    obtain ⟨j, hj1, hj2⟩ := iter_ok (fun x hx => ckE_ok H it sc Γ x hx) h3
    exact simET rfl rfl rfl (sim_comp H.O (compOk_real h1) h2 hj1 hj2 (ckIf_ok H cond _ _ _ h4) (ckE_ok H elt _ _ _ h5).2.2.1)
theorem ckIf_ok (H : Hyp G N C d) : ∀ (e : Option E) (sc : Sc) (Γ : Gam) (m : List PySem.Expr), ckIf N sc Γ e m = true → CondSim G C d sc Γ e m
  | none, sc, Γ, m, h => by
    rw [List.isEmpty_iff.1 (h : m.isEmpty = true)]; exact .none
  | some c, sc, Γ, m, h => by
    obtain ⟨x, rfl, h⟩ := l1_ok (l := m) h
    exact .some (ckE_ok H c sc Γ _ h).2.2.2
theorem ckO_ok (H : Hyp G N C d) : ∀ (e : Option E) (sc : Sc) (Γ : Gam) (m : Option PySem.Expr), ckO N sc Γ e m = true → SimO G C d sc Γ e m
  | none, sc, Γ, m, h => by
    rw [Option.isNone_iff_eq_none.1 (h : m.isNone = true)]; exact simO_none
  | some c, sc, Γ, m, h => by
    obtain ⟨x, rfl, h⟩ := any_ok (o := m) h
    exact simO_some (ckE_ok H c sc Γ _ h).2.2.1
theorem ckEs_ok (H : Hyp G N C d) : ∀ (l : List E) (sc : Sc) (Γ : Gam) (m : List PySem.Expr), ckEs N sc Γ l m = true → SimLs G C d sc Γ l m
  | [], sc, Γ, m, h => by
    rw [List.isEmpty_iff.1 (h : m.isEmpty = true)]
    exact ⟨.nil, sim_es_nil, rfl, rfl⟩
  | e :: l, sc, Γ, m, h => by
    obtain ⟨x, ex, h⟩ := any_ok (o := m.head?) h
    obtain ⟨h1, h2⟩ := and_ok h
    cases m with
    | nil => cases ex
    | cons y m =>
      cases ex
      have h1 := ckE_ok H e sc Γ _ h1
      obtain ⟨g0, g1, g2, g3⟩ := ckEs_ok H l sc Γ _ h2
      exact ⟨.cons h1.2.2.1 h1.2.2.2 g0, sim_es_cons h1.1 h1.2.2.1 g1, by simp only [plainArgs, List.all_cons, h1.1, Bool.not_false, Bool.true_and]; exact g2, congrArg Nat.succ g3⟩
end
end
end Mine
end

section
namespace Mine
open PySem PySem.W PyProof.Rows

noncomputable def gamOk (Γ : Gam) : Bool := decide ((Γ.filterMap id).Nodup)
theorem gam_mem : ∀ (Γ : Gam) (i : Nat) (y : PySem.Str), Γ[i]? = some (some y) → y ∈ Γ.filterMap id
  | [], i, y, h => by simp at h
  | a :: Γ, 0, y, h => by simp at h; subst h; simp
  | a :: Γ, i + 1, y, h => by
    simp only [List.getElem?_cons_succ] at h
    have := gam_mem Γ i y h
    cases a with
    | none => simpa using this
    | some z => simp only [List.filterMap_cons, id]; exact List.mem_cons_of_mem _ this
theorem gamOk_inj : ∀ (Γ : Gam), gamOk Γ = true → GamInj Γ
  | [], h => by intro i j y h; simp at h
  | a :: Γ, h => by
    have hn : (List.filterMap id (a :: Γ)).Nodup := by simpa [gamOk] using h
    have h' : GamInj Γ := gamOk_inj Γ (by
      cases a with
      | none => simpa [gamOk] using hn
      | some z => simp only [List.filterMap_cons, id] at hn; simpa [gamOk] using (List.nodup_cons.1 hn).2)
    intro i j y hi hj
    match i, j with
    | 0, 0 => rfl
    | i + 1, j + 1 => 
      simp only [List.getElem?_cons_succ] at hi hj
      exact congrArg Nat.succ (h' i j y hi hj)
    | 0, j + 1 =>
      simp at hi; subst hi
      simp only [List.getElem?_cons_succ] at hj
      simp only [List.filterMap_cons, id] at hn
      exact ((List.nodup_cons.1 hn).1 (gam_mem Γ j y hj)).elim
    | i + 1, 0 =>
      simp at hj; subst hj
      simp only [List.getElem?_cons_succ] at hi
      simp only [List.filterMap_cons, id] at hn
      exact ((List.nodup_cons.1 hn).1 (gam_mem Γ i y hi)).elim

noncomputable def sExpr : Stmt → Option PySem.Expr | .Expr e _ => some e | _ => none
noncomputable def sAssign : Stmt → Option (List PySem.Expr × PySem.Expr) | .Assign t e _ => some (t, e) | _ => none
noncomputable def sIf : Stmt → Option (PySem.Expr × List Stmt × List Stmt) | .If c a b _ => some (c, a, b) | _ => none
noncomputable def sFor : Stmt → Option (PySem.Expr × PySem.Expr × List Stmt × List Stmt) | .For t i b o _ => some (t, i, b, o) | _ => none
noncomputable def sRet : Stmt → Option (Option PySem.Expr) | .Return e _ => some e | _ => none
section
variable {x : Stmt}
theorem sExpr_ok {m : PySem.Expr} (h : sExpr x = some m) : ∃ p, x = .Expr m p := by cases x <;> cases h; exact ⟨_, rfl⟩
theorem sAssign_ok {m : List PySem.Expr × PySem.Expr} (h : sAssign x = some m) : ∃ p, x = .Assign m.1 m.2 p := by cases x <;> cases h; exact ⟨_, rfl⟩
theorem sIf_ok {m : PySem.Expr × List Stmt × List Stmt} (h : sIf x = some m) : ∃ p, x = .If m.1 m.2.1 m.2.2 p := by cases x <;> cases h; exact ⟨_, rfl⟩
theorem sFor_ok {m : PySem.Expr × PySem.Expr × List Stmt × List Stmt} (h : sFor x = some m) : ∃ p, x = .For m.1 m.2.1 m.2.2.1 m.2.2.2 p := by cases x <;> cases h; exact ⟨_, rfl⟩
theorem sRet_ok {m : Option PySem.Expr} (h : sRet x = some m) : ∃ p, x = .Return m p := by cases x <;> cases h; exact ⟨_, rfl⟩
end
noncomputable def sSet (x : Stmt) : Option (PySem.Expr × PySem.Expr) := (sAssign x).bind fun p => match p.1 with | [t] => some (t, p.2) | _ => none
theorem sSet_ok {x : Stmt} {m : PySem.Expr × PySem.Expr} (h : sSet x = some m) : ∃ p, x = .Assign [m.1] m.2 p := by
  obtain ⟨⟨l, e⟩, e1, h⟩ := bind_ok h
  obtain ⟨p, rfl⟩ := sAssign_ok e1
  cases l with
  | nil => cases h
  | cons a r => cases r with
    | nil => cases h; exact ⟨p, rfl⟩
    | cons => cases h
noncomputable def ckT (sc : Sc) (Γ : Gam) (t : T) (x : PySem.Expr) : Bool :=
  match t with
  | .loc i => (xName x).any fun y => Γ[i]? == some (some y) && kindOk sc y
  | .item _ _ => false
noncomputable def ckTs (sc : Sc) (Γ : Gam) : List T → List PySem.Expr → Bool
  | [], m => m.isEmpty
  | t :: l, m => m.head?.any fun x => ckT sc Γ t x && ckTs sc Γ l m.tail
noncomputable def ckFor (sc : Sc) (Γ : Gam) (t : T ⊕ List T) (x : PySem.Expr) : Bool :=
  match t with
  | .inl t => ckT sc Γ t x
  | .inr ts => (xTup x).any fun m => ckTs sc Γ ts m
theorem ckT_ok {sc : Sc} {Γ : Gam} {t : T} {x : PySem.Expr} (h : ckT sc Γ t x = true) : TgtOk sc Γ t x := by
  cases t with
  | loc i =>
    obtain ⟨y, e, h⟩ := any_ok (h : (xName x).any _ = true)
    obtain ⟨p, rfl⟩ := xName_ok e
    obtain ⟨h1, h2⟩ := and_ok h
    exact .loc (eq_of_beq h1) h2
  | item => cases h
theorem ckTs_ok {sc : Sc} {Γ : Gam} : ∀ {l : List T} {m : List PySem.Expr}, ckTs sc Γ l m = true → TgtsOk sc Γ l m
  | [], m, h => by
    rw [List.isEmpty_iff.1 (h : m.isEmpty = true)]; exact .nil
  | t :: l, m, h => by
    obtain ⟨x, ex, h⟩ := any_ok (o := m.head?) h
    obtain ⟨h1, h2⟩ := and_ok h
    cases m with
    | nil => cases ex
    | cons y m => cases ex; exact .cons (ckT_ok h1) (ckTs_ok h2)
theorem ckFor_ok {sc : Sc} {Γ : Gam} {t : T ⊕ List T} {x : PySem.Expr} (h : ckFor sc Γ t x = true) : ForTgt sc Γ t x := by
  cases t with
  | inl t => exact .one (ckT_ok h)
  | inr ts =>
    obtain ⟨m, e, h⟩ := any_ok (h : (xTup x).any _ = true)
    obtain ⟨k, p, rfl⟩ := xTup_ok e
    exact .many (ckTs_ok h)

noncomputable def isCompE (e : E) : Bool := match e with | .comp _ _ _ _ _ _ => true | _ => false
mutual
noncomputable def ckS (N : Names) (sc : Sc) (Γ : Gam) : S → Stmt → Bool
  | .expr a, x => (sExpr x).any fun y => notComp y && ckE N sc Γ a y
  | .assign i a, x => (sSet x).any fun p => (xName p.1).any fun y => Γ[i]? == some (some y) && (kindOk sc y && ((notComp p.2 || isCompE a) && ckE N sc Γ a p.2))
  | .setattr a i e, x => false
  | .setitem a b e, x => (sSet x).any fun p => (xSub p.1).any fun y => notComp p.2 && (ckE N sc Γ a y.1 && (ckE N sc Γ b y.2 && ckE N sc Γ e p.2))
  | .unpack ts e, x => (sSet x).any fun p => (xTup p.1).any fun m => ckTs sc Γ ts m && (plainRhs p.2 && ckE N sc Γ e p.2)
  | .ite c b1 b2, x => (sIf x).any fun p => ckE N sc Γ c p.1 && (ckB N sc Γ b1 p.2.1 && ckB N sc Γ b2 p.2.2)
  | .for_ ts range it body, x => (sFor x).any fun p => ckFor sc Γ ts p.1 && (notSet p.2.1 && (ckIt sc range p.2.1 (ckE N sc Γ it) && (p.2.2.2.isEmpty && ckB N sc Γ body p.2.2.1)))
  | .while_ c body, x => false
  | .ret e, x => (sRet x).any fun y => ckO N sc Γ e y
  | .pass, x => false
  | .raise _, _ => true
  | .try_ _ _, _ => false
noncomputable def ckB (N : Names) (sc : Sc) (Γ : Gam) : List S → List Stmt → Bool
  | [], m => m.isEmpty
  | s :: l, m => m.head?.any fun x => ckS N sc Γ s x && ckB N sc Γ l m.tail
end
section
variable {G : Gd} {N : Names} {C : Calls} {d n : Nat} {sc : Sc} {Γ : Gam}

theorem comp_isComp {e : E} (h : isCompE e = true) : ∃ M slot range it cond elt, e = .comp M slot range it cond elt := by
  cases e with
  | comp M slot range it cond elt => exact ⟨M, slot, range, it, cond, elt, rfl⟩
  | _ => exact Bool.noConfusion (h : false = true)
theorem ck_assign (H : Hyp G N C d) (gi : GamInj Γ) {i : Nat} {a : E} {y : PySem.Str} {yp pos : Pos} {z : PySem.Expr} (hi : Γ[i]? = some (some y)) (hk : kindOk sc y = true) (ho : (notComp z || isCompE a) = true) (h : ckE N sc Γ a z = true) :
    SimS G C d sc Γ n (.assign i a) (.Assign [.Name y yp] z pos) := by
  cases hc : notComp z with
  | true => exact simS_assign gi hi hk hc (ckE_ok H a sc Γ z h).2.2.1
  | false =>
    rw [hc] at ho
    obtain ⟨M, slot, range, it, cond, elt, rfl⟩ := comp_isComp ho
    obtain ⟨e, i, y, px, pos, ifs, scope, rfl, rfl, h1, h2, h3, h4, h5⟩ := comp_parts h
    obtain ⟨j, hj1, hj2⟩ := iter_ok (fun x hx => ckE_ok H it sc Γ x hx) h3
    exact simS_assignComp H.O gi hi hk (compOk_real h1) h2 hj1 hj2 (ckIf_ok H cond _ _ _ h4) (ckE_ok H elt _ _ _ h5).2.2.1
theorem simS_raise {c : Nat} {x : Stmt} : SimS G C d sc Γ n (.raise c) x := by
  intro t st s env loc fl loc' st' A hA hsc F R e
  cases e

mutual
theorem ckS_ok (H : Hyp G N C d) (gi : GamInj Γ) : ∀ (s : S) (x : Stmt), ckS N sc Γ s x = true → SimS G C d sc Γ n s x
  | .expr a, x, h => by
    obtain ⟨y, e, g⟩ := any_ok (o := sExpr x) h
    clear h
    obtain ⟨p, rfl⟩ := sExpr_ok e
    obtain ⟨h1, h2⟩ := and_ok g
    exact simS_expr h1 (ckE_ok H a sc Γ _ h2).2.2.1
  | .assign i a, x, h => by
    obtain ⟨⟨t, z⟩, e, g⟩ := any_ok (o := sSet x) h
    clear h
    obtain ⟨p, rfl⟩ := sSet_ok e
    obtain ⟨y, e, h⟩ := any_ok g
    obtain ⟨yp, et⟩ := xName_ok e
    have et : t = .Name y yp := et
    subst et
    obtain ⟨h1, h⟩ := and_ok h
    obtain ⟨h2, h⟩ := and_ok h
    obtain ⟨h3, h4⟩ := and_ok h
    exact ck_assign H gi (eq_of_beq h1) h2 h3 h4
  | .setattr a i b, x, h => by
    exact Bool.noConfusion (h : false = true)
  | .setitem a b c, x, h => by
    obtain ⟨⟨t, z⟩, e, g⟩ := any_ok (o := sSet x) h
    clear h
    obtain ⟨p, rfl⟩ := sSet_ok e
    obtain ⟨⟨y, u⟩, e, h⟩ := any_ok g
    obtain ⟨ap, et⟩ := xSub_ok e
    have et : t = .Subscript y u ap := et
    subst et
    obtain ⟨h1, h⟩ := and_ok h
    obtain ⟨h2, h⟩ := and_ok h
    obtain ⟨h3, h4⟩ := and_ok h
    exact simS_setitem h1 (ckE_ok H a sc Γ _ h2).2.2.1 (ckE_ok H b sc Γ _ h3).2.2.1 (ckE_ok H c sc Γ _ h4).2.2.1
  | .unpack ts a, x, h => by
    obtain ⟨⟨t, z⟩, e, g⟩ := any_ok (o := sSet x) h
    clear h
    obtain ⟨p, rfl⟩ := sSet_ok e
    obtain ⟨m, e, h⟩ := any_ok g
    obtain ⟨k, tp, et⟩ := xTup_ok e
    have et : t = .Tuple m k tp := et
    subst et
    obtain ⟨h1, h⟩ := and_ok h
    obtain ⟨h2, h3⟩ := and_ok h
    exact simS_unpack gi (ckTs_ok h1) h2 (ckE_ok H a sc Γ _ h3).2.2.1
  | .ite c b1 b2, x, h => by
    obtain ⟨⟨y, m1, m2⟩, e, g⟩ := any_ok (o := sIf x) h
    clear h
    obtain ⟨p, rfl⟩ := sIf_ok e
    obtain ⟨h1, h⟩ := and_ok g
    obtain ⟨h2, h3⟩ := and_ok h
    exact simS_ite (ckE_ok H c sc Γ _ h1).2.2.2 (ckB_ok H gi b1 _ h2) (ckB_ok H gi b2 _ h3)
  | .for_ ts range it body, x, h => by
    obtain ⟨⟨y, i, m, o⟩, e, g⟩ := any_ok (o := sFor x) h
    clear h
    obtain ⟨p, rfl⟩ := sFor_ok e
    obtain ⟨h1, h⟩ := and_ok g
    obtain ⟨h2, h⟩ := and_ok h
    obtain ⟨h3, h⟩ := and_ok h
    obtain ⟨h4, h5⟩ := and_ok h
    have h4 : o = [] := List.isEmpty_iff.1 h4
    subst h4
    obtain ⟨j, hj1, hj2⟩ := iter_ok (fun x hx => ckE_ok H it sc Γ x hx) h3
    exact simS_for H.O gi (ckFor_ok h1) h2 hj1 hj2 (ckB_ok H gi body _ h5)
  | .while_ c body, x, h => by
    exact Bool.noConfusion (h : false = true)
  | .ret a, x, h => by
    obtain ⟨y, e, g⟩ := any_ok (o := sRet x) h
    clear h
    obtain ⟨p, rfl⟩ := sRet_ok e
    cases a with
    | none =>
      rw [Option.isNone_iff_eq_none.1 (g : y.isNone = true)]; exact simS_ret0
    | some a =>
      obtain ⟨z, rfl, h⟩ := any_ok (o := y) g
      exact simS_ret (ckE_ok H a sc Γ _ h).2.2.1
  | .pass, x, h => by
    exact Bool.noConfusion (h : false = true)
  | .raise _, x, h => simS_raise
  | .try_ _ _, x, h => Bool.noConfusion (h : false = true)
theorem ckB_ok (H : Hyp G N C d) (gi : GamInj Γ) : ∀ (l : List S) (m : List Stmt), ckB N sc Γ l m = true → SimB G C d sc Γ n l m
  | [], m, h => by
    rw [List.isEmpty_iff.1 (h : m.isEmpty = true)]; exact simB_nil
  | s :: l, m, h => by
    obtain ⟨x, ex, g⟩ := any_ok (o := m.head?) h
    clear h
    obtain ⟨h1, h2⟩ := and_ok g
    cases m with
    | nil => cases ex
    | cons y m => cases ex; exact simB_cons (ckS_ok H gi s _ h1) (ckB_ok H gi l _ h2)
end
end
end Mine
end

section
namespace Mine
open PySem PySem.W PyProof.Rows

theorem zip_lookup : ∀ (names : List PySem.Str) (vals : List Value), vals.length = names.length → ∀ x ∈ names, ((names.zip vals).lookup x).isSome = true
  | [], vals, h, x, hx => by simp at hx
  | a :: names, [], h, x, hx => by simp at h
  | a :: names, v :: vals, h, x, hx => by
    simp only [List.zip_cons_cons, List.lookup_cons]
    split
    · rfl
    · rename_i e
      refine zip_lookup names vals (by simpa using h) x ?_
      rcases List.mem_cons.1 hx with rfl | hx
      · simp at e
      · exact hx
theorem fm_congr {α β : Type} {f g : α → Option β} : ∀ {l : List α}, (∀ x ∈ l, f x = g x) → l.filterMap f = l.filterMap g
  | [], _ => rfl
  | x :: l, h => by
    have ih : l.filterMap f = l.filterMap g := fm_congr (l := l) (fun y hy => h y (by simp [hy]))
    simp only [List.filterMap_cons, h x (by simp), ih]
theorem zip_fm : ∀ (names : List PySem.Str) (vals : List Value), vals.length = names.length → names.Nodup → names.filterMap (fun n => ((names.zip vals).lookup n).map (n, ·)) = names.zip vals
  | [], vals, h, nd => by simp
  | a :: names, [], h, nd => by simp at h
  | a :: names, v :: vals, h, nd => by
    obtain ⟨h1, h2⟩ := List.nodup_cons.1 nd
    have ih := zip_fm names vals (by simpa using h) h2
    simp only [List.zip_cons_cons, List.filterMap_cons, List.lookup_cons, beq_self_eq_true, Option.map_some]
    congr 1
    refine Eq.trans (fm_congr fun x hx => ?_) ih
    have : (x == a) = false := by
      simp only [beq_eq_false_iff_ne]; rintro rfl; exact h1 hx
    simp only [this]

noncomputable def plainParams (fd : FuncData) (names : List PySem.Str) : Bool :=
  fd.params.posonlyargs.isEmpty && fd.params.args.map (·.arg) == names && fd.params.kwonlyargs.isEmpty && fd.params.vararg.isNone && fd.params.kwarg.isNone && (match fd.defaults with | .none => true | _ => false)
theorem bind_go {fd : FuncData} (vals : List Value) (h1 : fd.params.posonlyargs = []) (h3 : fd.params.kwonlyargs = []) (h4 : fd.params.vararg = none) (h5 : fd.params.kwarg = none) (h6 : fd.defaults = .none)
    (hl : vals.length = (fd.params.args.map (·.arg)).length) (e1 : ((fd.params.args.map (·.arg)).filter fun n => (((fd.params.args.map (·.arg)).zip vals).lookup n).isNone) = [])
    (e2 : (fd.params.args.map (·.arg)).filterMap (fun n => (((fd.params.args.map (·.arg)).zip vals).lookup n).map (n, ·)) = (fd.params.args.map (·.arg)).zip vals) : bindArgs fd ⟨vals, []⟩ = pure ((fd.params.args.map (·.arg)).zip vals) := by
  obtain ⟨nm, q, ⟨po, pa, va, ko, kd, kw, df⟩, body, sc, g, cl, ds, kds, doc, pm, an, cd, ct, bb⟩ := fd
  cases h1; cases h3; cases h4; cases h5; cases h6
  have hc1 : ¬ (decide (vals.length > (pa.map (·.arg)).length) && true) = true := by
    have : ¬ (vals.length > (pa.map (·.arg)).length) := by
      have hl : vals.length = (pa.map (·.arg)).length := hl
      omega
    rw [decide_eq_false this]; exact Bool.noConfusion
  have hc2 : ¬ (!((pa.map (·.arg)).filter fun n => (((pa.map (·.arg)).zip vals).lookup n).isNone).isEmpty) = true := by
    have e1 : ((pa.map (·.arg)).filter fun n => (((pa.map (·.arg)).zip vals).lookup n).isNone) = [] := e1
    rw [e1]; exact Bool.noConfusion
  have ht : List.take (pa.map (·.arg)).length (pa.map (·.arg)) = pa.map (·.arg) := List.take_length
  have hd : List.drop ((Option.getD (none : Option (Array Value)) #[]).toList.length - (pa.map (·.arg)).length) (Option.getD (none : Option (Array Value)) #[]).toList = [] := List.drop_nil
  refine Eq.trans (if_neg hc1) (Eq.trans (if_neg ?_) ?_)
  · intro h
    have h : (!((List.take ((pa.map (·.arg)).length - (List.drop ((Option.getD (none : Option (Array Value)) #[]).toList.length - (pa.map (·.arg)).length) (Option.getD (none : Option (Array Value)) #[]).toList).length) (pa.map (·.arg))).filter fun n => (((pa.map (·.arg)).zip vals).lookup n).isNone).isEmpty) = true := h
    rw [hd] at h
    have h : (!((List.take (pa.map (·.arg)).length (pa.map (·.arg))).filter fun n => (((pa.map (·.arg)).zip vals).lookup n).isNone).isEmpty) = true := h
    rw [ht] at h
    exact hc2 h
  · have e2 : (pa.map (·.arg)).filterMap (fun n => (((pa.map (·.arg)).zip vals).lookup n).map (n, ·)) = (pa.map (·.arg)).zip vals := e2
    clear hl e1 hc1 hc2
    simp only [List.map_nil, List.nil_append, hd, List.zip_nil_right, List.append_nil]
    exact congrArg (fun z => (pure z : Sem (List (PySem.Str × Value)))) e2
theorem bind_plain {fd : FuncData} {names : List PySem.Str} (h : plainParams fd names = true) (nd : names.Nodup) (vals : List Value) (hl : vals.length = names.length) : bindArgs fd ⟨vals, []⟩ = pure (names.zip vals) := by
  obtain ⟨h, h6⟩ := and_ok h
  obtain ⟨h, h5⟩ := and_ok h
  obtain ⟨h, h4⟩ := and_ok h
  obtain ⟨h, h3⟩ := and_ok h
  obtain ⟨h1, h2⟩ := and_ok h
  have h2 : fd.params.args.map (·.arg) = names := eq_of_beq h2
  subst h2
  refine bind_go vals (List.isEmpty_iff.1 h1) (List.isEmpty_iff.1 h3) (Option.isNone_iff_eq_none.1 h4) (Option.isNone_iff_eq_none.1 h5) ?_ hl ?_ (zip_fm _ vals hl nd)
  · revert h6
    cases fd.defaults <;> first | exact fun _ => rfl | exact fun h => Bool.noConfusion h
  · rw [List.filter_eq_nil_iff]
    intro x hx e
    have := zip_lookup _ vals hl x hx
    rw [Option.isNone_iff_eq_none.1 e] at this; cases this

structure Stat (G : Gd) (N : Names) : Prop where
  O : G.Ok N
  hcl : ∀ c Ca, G.ca c = some Ca → ClsOk G Ca
  hfn : ∀ f a, G.fa f = some a → FnOk G N f a
  hme : ∀ c k f Ca, G.P.meths c k = some f → G.ca c = some Ca → ∃ a, G.fa f = some a ∧ MethOk G Ca (N.meth k) a
  hne : ∀ c k f, G.P.inits c = some (k, f) → ∃ Ca fi, G.ca c = some Ca ∧ G.fa f = some fi ∧ NewOk G N c Ca fi

noncomputable def ckFn (K : Frag) (N : Names) (fn : Fn) (a : Addr) : Bool :=
  match K.lookup a with
  | some o => (match o.data with
    | .func fd => codeIn K fd.code fd.qualname && fd.closure.isEmpty && fd.globals == mainGlobals && fd.builtins == builtinsNs && fd.scope.kind == .function && !fd.scope.isCoroutine && !fd.scope.isGenerator &&
      plainParams fd (fn.names.take fn.np) && decide (fn.np ≤ fn.names.length) && (fn.names.take fn.np).all (fun x => kindOk fd.scope.names x && !(x == Str.empty)) && decide (fn.names.take fn.np).Nodup && gamOk (gam0 fn) &&
      (match fd.body with
      | .stmts body => ckB N fd.scope.names (gam0 fn) fn.body body
      | _ => false)
    | _ => false)
  | none => false

theorem fnRec_of {G : Gd} {N : Names} (S : Stat G N) {fn : Fn} {a : Addr} (h : ckFn G.K N fn a = true) : FnRec G fn a := by
  unfold ckFn at h; split at h
  · rename_i o ho
    split at h
    · rename_i fd hd
      simp only [Bool.and_eq_true, List.isEmpty_iff, beq_iff_eq, Bool.not_eq_true', decide_eq_true_eq, List.all_eq_true, beq_eq_false_iff_ne] at h
      obtain ⟨⟨⟨⟨⟨⟨⟨⟨⟨⟨⟨⟨h1, h2⟩, h3⟩, h4⟩, h5⟩, h6⟩, h7⟩, h8⟩, h9⟩, h10⟩, h11⟩, h12⟩, h13⟩ := h
      split at h13
      · rename_i body hb
        refine ⟨o, fd, body, ho, hd, h1, hb, h2, h3, h4, h5, h6, h7, fun vals hv => bind_plain h8 h11 vals (by rw [hv, List.length_take]; omega), h9, h10, h11, fun C n CO => ?_⟩
        exact ckB_ok ⟨S.O, CO, S.hcl, S.hfn, S.hme, S.hne⟩ (gamOk_inj _ h12) _ _ h13
      · cases h13
    · cases h
  · cases h
end Mine
end

section
namespace Mine

theorem bits_small (y : Int) (h0 : 0 ≤ y) (h : y < 18446744073709551616) : intBits y ≤ 64 := by
  unfold intBits
  split
  · omega
  · have h1 : y.natAbs ≠ 0 := by omega
    have : y.natAbs.log2 < 64 := (Nat.log2_lt h1).2 (by omega)
    omega
theorem b_mulR (x y : Int) (s : MS) (h0 : 0 ≤ y) (h : y < 18446744073709551616) : binOp .mul (.int x) (.int y) s = .ok (.int (x * y)) s := by
  have := bits_small y h0 h
  simp [binOp, int2, str2, lstI, mulOk, this]
theorem b_mulL (x y : Int) (s : MS) (h0 : 0 ≤ x) (h : x < 18446744073709551616) : binOp .mul (.int x) (.int y) s = .ok (.int (x * y)) s := by
  have := bits_small x h0 h
  simp [binOp, int2, str2, lstI, mulOk, this]
theorem b_str (x y : List Nat) (s : MS) (h : x.length + y.length ≤ 16777216) : binOp .add (.str x) (.str y) s = .ok (.str (x ++ y)) s := by
  have h : x.length + y.length ≤ sizeMax := h
  simp [binOp, int2, str2, lstI, h]

theorem c_neI (x y : Int) (s : MS) : cmpOp .ne (.int x) (.int y) s = .ok (.bool (!decide (x = y))) s := by simp [cmpOp, veq, eqDeep, seqOf, eqFlat, okB]
theorem r_bind_ok {α β : Type} (a : α) (s : MS) (f : α → MS → Res β) : (Res.ok a s).bind f = f a s := rfl
theorem i_str (x : List Nat) (i : Int) (s : MS) (h0 : 0 ≤ i) (h : i < x.length) (g : x.length ≤ 16777216) : getItem (.str x) (.int i) s = .ok (.str [x[i.toNat]'(by omega)]) s := by
  have g : x.length ≤ sizeMax := g
  have : i.toNat < x.length := by omega
  simp [getItem, g, okV, idx, h0, h, this]
theorem i_lst (l : List V) (i : Int) (s : MS) (h0 : 0 ≤ i) (h : i < l.length) : getItem (.lst l) (.int i) s = .ok (l[i.toNat]'(by omega)) s := by
  have : i.toNat < l.length := by omega
  simp [getItem, seqOf, okV, idx, h0, h, this]
theorem comp_map (s₀ s : MS) (range : Bool) (src : V) (slot : Nat) (elt : Loc → MS → Res V) (l : Loc) (f : V → V)
    (hs : stays s₀ s range src = true) :
    ∀ (xs acc : List V) , (∀ x ∈ xs, elt (l.set slot (some x)) s = .ok (f x) s) → acc.length + xs.length ≤ sizeMax →
      compLoop s₀ range src slot none elt l acc xs s = .ok (acc ++ xs.map f) s
  | [], acc, h, g => by simp [compLoop, hs]
  | x :: r, acc, h, g => by
    have ih := comp_map s₀ s range src slot elt l f hs r (acc ++ [f x]) (fun y hy => h y (by simp [hy])) (by simp at g ⊢; omega)
    have hx := h x (by simp)
    have g' : acc.length < sizeMax := by simp at g; omega
    simp [compLoop, hs, r_bind_ok, hx, g', ih]
theorem comp_ex (s₀ s : MS) (range : Bool) (src : V) (slot : Nat) (elt : Loc → MS → Res V) (l : Loc) (Q : V → Prop)
    (hs : stays s₀ s range src = true) :
    ∀ (xs acc : List V) , (∀ x ∈ xs, ∃ v, elt (l.set slot (some x)) s = .ok v s ∧ Q v) → acc.length + xs.length ≤ sizeMax →
      ∃ vs, compLoop s₀ range src slot none elt l acc xs s = .ok (acc ++ vs) s ∧ vs.length = xs.length ∧ ∀ v ∈ vs, Q v
  | [], acc, h, g => ⟨[], by simp [compLoop, hs]⟩
  | x :: r, acc, h, g => by
    obtain ⟨v, hx, q⟩ := h x (by simp)
    obtain ⟨vs, ih, hl, hq⟩ := comp_ex s₀ s range src slot elt l Q hs r (acc ++ [v]) (fun y hy => h y (by simp [hy])) (by simp at g ⊢; omega)
    have g' : acc.length < sizeMax := by simp at g; omega
    refine ⟨v :: vs, ?_, by simp [hl], ?_⟩
    · simp [compLoop, hs, r_bind_ok, hx, g', ih]
    · intro w hw
      rcases List.mem_cons.1 hw with rfl | hw
      · exact q
      · exact hq w hw
theorem items_range (s : MS) (n : Int) (h0 : 0 ≤ n) (h : n ≤ 16777216) : itemsOf s true (.int n) = some ((List.range n.toNat).map fun (i : Nat) => .int i) := by
  have h1 : -1000 ≤ n ∧ n ≤ ((sizeMax : Nat) : Int) := ⟨by omega, by simp [sizeMax]; omega⟩
  simp only [itemsOf, if_pos h1]
theorem stays_range (s₀ s : MS) (v : V) : stays s₀ s true v = true := by simp [stays]
theorem stays_lst (s₀ s : MS) (l : List V) (r : Bool) : stays s₀ s r (.lst l) = true := by cases r <;> simp [stays]
theorem cat_ex : ∀ (l : List V), (∀ v ∈ l, ∃ c, v = .str [c]) → ∃ x, catStrs l = some x ∧ x.length = l.length
  | [], h => ⟨[], rfl, rfl⟩
  | v :: r, h => by
    obtain ⟨c, rfl⟩ := h v (by simp)
    obtain ⟨x, hx, hl⟩ := cat_ex r (fun w hw => h w (by simp [hw]))
    exact ⟨c :: x, by simp [catStrs, hx], by simp [hl]⟩
theorem strs_ex : ∀ (l : List V), (∀ v ∈ l, ∃ c, v = .str c) → ∃ ks : List (List Nat), l = ks.map .str
  | [], h => ⟨[], rfl⟩
  | v :: r, h => by
    obtain ⟨c, rfl⟩ := h v (by simp)
    obtain ⟨x, hx⟩ := strs_ex r (fun w hw => h w (by simp [hw]))
    exact ⟨c :: x, by simp [hx]⟩

noncomputable def OkR {α : Type} (r : Res α) (Q : α → MS → Prop) : Prop := match r with
  | .ok a s => Q a s
  | _ => False
theorem okr_ok {α : Type} (a : α) (s : MS) (Q : α → MS → Prop) : OkR (.ok a s) Q = Q a s := rfl
theorem okr_bind {α β : Type} (r : Res α) (f : α → MS → Res β) (Q : β → MS → Prop) : OkR (r.bind f) Q = OkR r (fun a s => OkR (f a s) Q) := by
  cases r <;> rfl
theorem okr_mono {α : Type} {r : Res α} {Q R : α → MS → Prop} (h : OkR r Q) (g : ∀ a s, Q a s → R a s) : OkR r R := by
  cases r with
  | ok a s => exact g a s h
  | _ => exact h.elim
theorem okr_elim {α : Type} {r : Res α} {Q : α → MS → Prop} (h : OkR r Q) : ∃ a s, r = .ok a s ∧ Q a s := by
  cases r with
  | ok a s => exact ⟨a, s, rfl, h⟩
  | _ => exact h.elim
theorem okr_of {α : Type} {r : Res α} {a : α} {s : MS} {Q : α → MS → Prop} (h : r = .ok a s) (k : Q a s) : OkR r Q := by rw [h]; exact k
theorem okr_eq {α : Type} {r : Res α} {a : α} {s : MS} (h : OkR r (fun b t => b = a ∧ t = s)) : r = .ok a s := by
  cases r with
  | ok b t => obtain ⟨rfl, rfl⟩ := h; rfl
  | _ => exact h.elim
noncomputable def flV : Fl → V
  | .ret v => v
  | .next => .none
theorem okr_run {P : Prog} {n f : Nat} {vs : List V} {s : MS} {fn : Fn} {Q : V → MS → Prop} (hf : P.fns f = some fn) (hl : vs.length = fn.np)
    (h : OkR (exs P (run P n) n fn.body (vs.map some ++ List.replicate (fn.names.length - fn.np) none) s) (fun p s => Q (flV p.1) s)) : OkR (run P (n + 1) f vs s) Q := by
  simp only [run, hf, if_pos hl, okr_bind]
  exact h
noncomputable def seqQ (P : Prog) (C : Calls) (n : Nat) (r : List S) (Q : Fl × Loc → MS → Prop) (p : Fl × Loc) (s : MS) : Prop :=
  match p.1 with
  | .next => OkR (exs P C n r p.2 s) Q
  | .ret v => Q (.ret v, p.2) s
theorem seqQ_next (P : Prog) (C : Calls) (n : Nat) (r : List S) (Q : Fl × Loc → MS → Prop) (l : Loc) (s : MS) : seqQ P C n r Q (.next, l) s = OkR (exs P C n r l s) Q := rfl
theorem okr_cons (P : Prog) (C : Calls) (n : Nat) (st : S) (r : List S) (l : Loc) (s : MS) (Q : Fl × Loc → MS → Prop) :
    OkR (exs P C n (st :: r) l s) Q = OkR (ex P C n st l s) (seqQ P C n r Q) := by
  simp only [exs_cons, okr_bind]
  congr 1
  funext p s
  obtain ⟨f, l⟩ := p
  cases f <;> rfl
theorem okr_for {s₀ : MS} {range : Bool} {src : V} {tgt : V → Loc → MS → Res Loc} {body : Loc → MS → Res (Fl × Loc)} {Q : Fl × Loc → MS → Prop}
    (I : List V → Loc → MS → Prop)
    (hc : ∀ x r l s, I (x :: r) l s → stays s₀ s range src = true ∧ OkR (tgt x l s) fun l s => OkR (body l s) fun p s => match p.1 with
      | .next => I r p.2 s
      | .ret v => Q (.ret v, p.2) s)
    (hn : ∀ l s, I [] l s → stays s₀ s range src = true ∧ Q (.next, l) s) :
    ∀ (xs : List V) (l : Loc) (s : MS), I xs l s → OkR (forLoop s₀ range src tgt body xs l s) Q
  | [], l, s, h => by
    obtain ⟨h1, h2⟩ := hn l s h
    simp only [forLoop, h1, if_true, okr_ok]
    exact h2
  | x :: r, l, s, h => by
    obtain ⟨h1, h2⟩ := hc x r l s h
    simp only [forLoop, h1, if_true, okr_bind]
    refine okr_mono h2 fun l s h => okr_mono h fun p s h => ?_
    obtain ⟨f, l⟩ := p
    cases f with
    | next => exact okr_for I hc hn r l s h
    | ret v => exact h
theorem okr_comp {s₀ s : MS} {range : Bool} {src : V} {slot : Nat} {elt : Loc → MS → Res V} {l : Loc} {xs : List V} {Q : List V → MS → Prop} (R : V → Prop)
    (hs : stays s₀ s range src = true) (hl : xs.length ≤ sizeMax)
    (he : ∀ x ∈ xs, OkR (elt (l.set slot (some x)) s) fun v t => t = s ∧ R v)
    (hq : ∀ vs, vs.length = xs.length → (∀ v ∈ vs, R v) → Q vs s) : OkR (compLoop s₀ range src slot none elt l [] xs s) Q := by
  obtain ⟨vs, h1, h2, h3⟩ := comp_ex s₀ s range src slot elt l R hs xs [] (fun x hx => by
    obtain ⟨v, t, h1, rfl, h2⟩ := okr_elim (he x hx)
    exact ⟨v, h1, h2⟩) (by simpa using hl)
  simp only [h1, okr_ok, List.nil_append]
  exact hq vs h2 h3
theorem okr_compF {s₀ s : MS} {range : Bool} {src : V} {slot : Nat} {elt : Loc → MS → Res V} {l : Loc} {xs : List V} {Q : List V → MS → Prop} (f : V → V)
    (hs : stays s₀ s range src = true) (hl : xs.length ≤ sizeMax)
    (he : ∀ x ∈ xs, OkR (elt (l.set slot (some x)) s) fun v t => v = f x ∧ t = s)
    (hq : Q (xs.map f) s) : OkR (compLoop s₀ range src slot none elt l [] xs s) Q := by
  have h1 := comp_map s₀ s range src slot elt l f hs xs [] (fun x hx => okr_eq (he x hx)) (by simpa using hl)
  simp only [h1, okr_ok, List.nil_append]
  exact hq

theorem dfind_dput (k k' v : V) : ∀ d : List (V × V), dfind k' (dput k v d) = if k' = k then some v else dfind k' d
  | [] => by
    by_cases h : k' = k
    · simp [dput, dfind, h]
    · have h' : ¬ k = k' := fun e => h e.symm
      simp [dput, dfind, h, h']
  | (a, w) :: r => by
    have ih := dfind_dput k k' v r
    by_cases h1 : a = k
    · subst h1
      by_cases h : k' = a
      · simp [dput, dfind, h]
      · have h' : ¬ a = k' := fun e => h e.symm
        simp [dput, dfind, h, h']
    · by_cases h : k' = k
      · subst h; simp [dput, dfind, h1, ih]
      · by_cases h2 : a = k' <;> simp [dput, dfind, h1, h2, ih, h]
theorem dput_len (k v : V) : ∀ d : List (V × V), (dput k v d).length ≤ d.length + 1
  | [] => by simp [dput]
  | (a, w) :: r => by
    have ih := dput_len k v r
    simp only [dput]
    split <;> simp <;> omega
theorem put_heap (s : MS) (l : Lbl) (o : MObj) (x : Lbl) : (s.put l o).heap x = if x = l then some o else s.heap x := rfl
theorem new_heap (s : MS) (k : Nat) (o : MObj) (x : Lbl) : (s.new k o).heap x = if x = (k, s.cnt k) then some o else s.heap x := rfl
theorem new_cnt (s : MS) (k : Nat) (o : MObj) (j : Nat) : (s.new k o).cnt j = if j = k then s.cnt k + 1 else s.cnt j := rfl
theorem setItem_dict (s : MS) (r : Lbl) (d : List (V × V)) (k : List Nat) (v : V) (h : s.heap r = some (.dict d)) (hl : d.length < 16777216) :
    setItem (.ref r) (.str k) v s = .ok () (s.put r (.dict (dput (.str k) v d))) := by
  have hl : d.length < sizeMax := hl
  simp [setItem, listAt, dictAt, h, V.isKey, hl]
theorem append_at (s : MS) (r : Lbl) (l : List V) (v : V) (h : s.heap r = some (.list l)) (hl : l.length < 16777216) :
    bmeth .append (.ref r) [v] s = .ok .none (s.put r (.list (l ++ [v]))) := by
  have hl : l.length < sizeMax := hl
  simp [bmeth, bm1, listAt, h, hl]
theorem i_dict (s : MS) (r : Lbl) (d : List (V × V)) (k : List Nat) (v : V) (h : s.heap r = some (.dict d)) (hk : dfind (.str k) d = some v) :
    getItem (.ref r) (.str k) s = .ok v s := by
  simp [getItem, h, V.isKey, hk, okV]
theorem get_dict (s : MS) (r : Lbl) (d : List (V × V)) (k : List Nat) (v : V) (h : s.heap r = some (.dict d)) :
    bmeth .get (.ref r) [.str k, v] s = .ok ((dfind (.str k) d).getD v) s := by
  simp [bmeth, bm2, dictAt, h, V.isKey]
theorem i_ref (s : MS) (r : Lbl) (l : List V) (i : Int) (h : s.heap r = some (.list l)) (h0 : 0 ≤ i) (h1 : i < l.length) : getItem (.ref r) (.int i) s = .ok (l[i.toNat]'(by omega)) s := by
  have : i.toNat < l.length := by omega
  simp [getItem, seqOf, h, okV, idx, h0, h1, this]

theorem zip_refl (f : V → V → Option Bool) : ∀ l : List V, (∀ x ∈ l, f x x = some true) → zipAll f l l = some true
  | [], _ => rfl
  | x :: r, h => by
    have h1 := h x (by simp)
    have h2 := zip_refl f r (fun y hy => h y (by simp [hy]))
    simp [zipAll, h1, h2]
theorem veq_str (s : MS) (n : Nat) (i j : List Nat) : veq s (n + 1) (.str i) (.str j) = some (decide (i = j)) := by simp [veq, seqOf, eqFlat]
theorem veq_lst (s : MS) (n : Nat) (l : List V) (h : ∀ x ∈ l, veq s n x x = some true) : veq s (n + 1) (.lst l) (.lst l) = some true := by
  simp [veq, seqOf, zip_refl _ _ h]
theorem veq_tup (s : MS) (n : Nat) (l : List V) (h : ∀ x ∈ l, veq s n x x = some true) : veq s (n + 1) (.tup l) (.tup l) = some true := by
  simp [veq, seqOf, zip_refl _ _ h]
theorem veq_ref (s : MS) (n : Nat) (r : Lbl) (l : List V) (hr : s.heap r = some (.list l)) (h : ∀ x ∈ l, veq s n x x = some true) : veq s (n + 1) (.ref r) (.lst l) = some true := by
  simp [veq, seqOf, hr, zip_refl _ _ h]
noncomputable def st0 : MS := ⟨fun _ => none, fun _ => 0⟩
section
variable {P : Prog} {C : Calls} {n i : Nat} {e a b : E} {r : List S} {l : Loc} {s s' : MS} {v w : V} {Q : Fl × Loc → MS → Prop}
theorem st_nil (k : Q (.next, l) s) : OkR (exs P C n [] l s) Q := k
theorem st_next (k : OkR (exs P C n r l s) Q) : OkR (exs P C n [] l s) (seqQ P C n r Q) := k
theorem st_assign (hv : ev P C e l s = .ok v s') (hi : decide (i < l.length) = true) (k : OkR (exs P C n r (l.set i (some v)) s') Q) : OkR (exs P C n (.assign i e :: r) l s) Q := by
  have hi := of_decide_eq_true hi
  rw [exs_cons, okr_bind, ex_assign, okr_bind, hv]
  show OkR (if i < l.length then Res.ok (Fl.next, l.set i (some v)) s' else .stuck) _
  rw [if_pos hi]; exact k
theorem st_assignQ {R : V → MS → Prop} (hv : OkR (ev P C e l s) R) (hi : decide (i < l.length) = true) (k : ∀ v s', R v s' → OkR (exs P C n r (l.set i (some v)) s') Q) : OkR (exs P C n (.assign i e :: r) l s) Q := by
  obtain ⟨v, s', h1, h2⟩ := okr_elim hv
  exact st_assign h1 hi (k v s' h2)
theorem st_ret (hv : ev P C e l s = .ok v s') (k : Q (.ret v, l) s') : OkR (exs P C n (.ret (some e) :: r) l s) Q := by
  rw [exs_cons, okr_bind, ex_ret]
  show OkR ((ev P C e l s).bind _) _
  rw [hv]; exact k
theorem st_retQ {R : V → MS → Prop} (hv : OkR (ev P C e l s) R) (k : ∀ v s', R v s' → Q (.ret v, l) s') : OkR (exs P C n (.ret (some e) :: r) l s) Q := by
  obtain ⟨v, s', h1, h2⟩ := okr_elim hv
  exact st_ret h1 (k v s' h2)
theorem st_if {c : E} {b1 b2 : List S} {t : Bool} (hc : ev P C c l s = .ok (.bool t) s') (k : OkR (exs P C n (if t then b1 else b2) l s') (seqQ P C n r Q)) : OkR (exs P C n (.ite c b1 b2 :: r) l s) Q := by
  rw [okr_cons, ex_ite, hc]
  cases t <;> exact k
theorem st_expr (hv : ev P C e l s = .ok v s') (k : OkR (exs P C n r l s') Q) : OkR (exs P C n (.expr e :: r) l s) Q := by
  rw [exs_cons, okr_bind, ex_expr, hv]; exact k
theorem st_setitem {x y : V} {s1 s2 s3 : MS} (h1 : ev P C e l s = .ok v s1) (h2 : ev P C a l s1 = .ok x s2) (h3 : ev P C b l s2 = .ok y s3) (h4 : setItem x y v s3 = .ok () s') (k : OkR (exs P C n r l s') Q) : OkR (exs P C n (.setitem a b e :: r) l s) Q := by
  rw [exs_cons, okr_bind, ex_setitem, h1]
  show OkR (Res.bind (ev P C a l s1) _) _
  rw [h2]
  show OkR (Res.bind (ev P C b l s2) _) _
  rw [h3]
  show OkR (Res.bind (setItem x y v s3) _) _
  rw [h4]; exact k
theorem st_unpack {ts : List T} {l' : Loc} {s1 : MS} (h1 : ev P C e l s = .ok v s1) (h2 : unpackT P C ts v l s1 = .ok l' s') (k : OkR (exs P C n r l' s') Q) : OkR (exs P C n (.unpack ts e :: r) l s) Q := by
  rw [exs_cons, okr_bind, ex_unpack, h1]
  show OkR (Res.bind (unpackT P C ts v l s1) _) _
  rw [h2]; exact k
theorem st_for {ts : T ⊕ List T} {range : Bool} {body : List S} {xs : List V} (h1 : ev P C e l s = .ok v s') (h2 : itemsOf s' range v = some xs) (h3 : forOk ts range v s' = true)
    (k : OkR (forLoop s' range v (setTT P C ts) (exs P C n body) xs l s') (seqQ P C n r Q)) : OkR (exs P C n (.for_ ts range e body :: r) l s) Q := by
  rw [okr_cons, ex_for, h1]
  show OkR (match itemsOf s' range v with | some xs => _ | none => _) _
  rw [h2]
  show OkR (if forOk ts range v s' = true then _ else _) _
  rw [if_pos h3]; exact k
theorem e_call {f : Nat} {es : List E} {vs : List V} {s1 : MS} (h1 : evL P C es l s = .ok vs s1) (h2 : C f vs s1 = .ok v s') : ev P C (.call f es) l s = .ok v s' := by
  rw [ev_call, h1]; exact h2
theorem e_callQ {f : Nat} {es : List E} {vs : List V} {s1 : MS} {R : V → MS → Prop} (h1 : evL P C es l s = .ok vs s1) (h2 : OkR (C f vs s1) R) : OkR (ev P C (.call f es) l s) R := by
  rw [ev_call, h1]; exact h2
theorem e_compQ {slot : Nat} {range : Bool} {cond : Option E} {src : V} {xs : List V} {s1 : MS} {R : V → MS → Prop} (h1 : ev P C a l s = .ok src s1) (h2 : itemsOf s1 range src = some xs) (h3 : OkR (compLoop s1 range src slot (evC P C cond) (ev P C e) l [] xs s1) (fun vs t => R (.lst vs) t)) :
    OkR (ev P C (.comp none slot range a cond e) l s) R := by
  rw [ev_comp, h1]
  show OkR (match itemsOf s1 range src with | some xs => _ | none => _) _
  rw [h2]
  show OkR (Res.bind _ _) _
  rw [okr_bind]; exact h3
theorem e_bin {o : Bop} {x y : V} {s1 s2 : MS} (h1 : ev P C a l s = .ok x s1) (h2 : ev P C b l s1 = .ok y s2) (h3 : binOp o x y s2 = .ok v s') : ev P C (.bin o a b) l s = .ok v s' := by
  rw [ev_bin, h1]
  show Res.bind (ev P C b l s1) _ = _
  rw [h2]; exact h3
theorem e_sub {x y : V} {s1 s2 : MS} (h1 : ev P C a l s = .ok x s1) (h2 : ev P C b l s1 = .ok y s2) (h3 : getItem x y s2 = .ok v s') : ev P C (.sub a b) l s = .ok v s' := by
  rw [ev_sub, h1]
  show Res.bind (ev P C b l s1) _ = _
  rw [h2]; exact h3
theorem e_slice {lo hi : Option E} {x : V} {y z : Option V} {s1 s2 s3 : MS} (h1 : ev P C a l s = .ok x s1) (h2 : evO P C lo l s1 = .ok y s2) (h3 : evO P C hi l s2 = .ok z s3) (h4 : getSlice x y z s3 = .ok v s') : ev P C (.slice a lo hi) l s = .ok v s' := by
  rw [ev_slice, h1]
  show Res.bind (evO P C lo l s1) _ = _
  rw [h2]
  show Res.bind (evO P C hi l s2) _ = _
  rw [h3]; exact h4
theorem e_isinst {ks : List Kind} {x : V} {t : Bool} {s1 : MS} (h1 : ev P C a l s = .ok x s1) (h2 : isKinds P s1 x ks = some t) : ev P C (.isinst a ks) l s = .ok (.bool t) s1 := by
  rw [ev_isinst, h1]
  show okB s1 (isKinds P s1 x ks) = _
  rw [h2]; rfl
theorem e_cmp {o : Cop} {x y : V} {s1 s2 : MS} (h1 : ev P C a l s = .ok x s1) (h2 : ev P C b l s1 = .ok y s2) (h3 : cmpOp o x y s2 = .ok v s') : ev P C (.cmp a o b) l s = .ok v s' := by
  rw [ev_cmp, h1]
  show Res.bind (ev P C b l s1) _ = _
  rw [h2]; exact h3
theorem e_or2 {t u : Bool} {s1 : MS} (h1 : ev P C a l s = .ok (.bool t) s1) (h2 : t = false → ev P C b l s1 = .ok (.bool u) s1) : ev P C (.or [a, b]) l s = .ok (.bool (t || u)) s1 := by
  rw [ev_or, evOr_cons, h1]
  cases t with
  | true => rfl
  | false => exact h2 rfl
theorem e_and1 {q : Res V} (h : ev P C a l s = q) : ev P C (.and [a]) l s = q := by rw [ev_and, evAnd_one]; exact h
theorem e_andT {es : List E} {s1 : MS} {q : Res V} (h1 : ev P C a l s = .ok (.bool true) s1) (h2 : ev P C (.and (b :: es)) l s1 = q) : ev P C (.and (a :: b :: es)) l s = q := by
  rw [ev_and] at h2 ⊢
  rw [evAnd_cons, h1]; exact h2
theorem e_prim {p : Prim} {es : List E} {vs : List V} {s1 : MS} (h1 : evL P C es l s = .ok vs s1) (h2 : prim p vs s1 = .ok v s') : ev P C (.prim p es) l s = .ok v s' := by
  rw [ev_prim, h1]; exact h2
theorem e_primQ {p : Prim} {R R' : V → MS → Prop} (h1 : OkR (ev P C e l s) R') (h2 : ∀ v s', R' v s' → OkR (prim p [v] s') R) : OkR (ev P C (.prim p [e]) l s) R := by
  obtain ⟨v, s', h3, h4⟩ := okr_elim h1
  rw [ev_prim, evL_cons, h3]; exact h2 v s' h4
theorem e_bmQ1 {m : Bm} {x : V} {s1 : MS} {R R' : V → MS → Prop} (h1 : ev P C a l s = .ok x s1) (h0 : bmOk m x s1 = true) (h2 : OkR (ev P C e l s1) R') (h3 : ∀ v s', R' v s' → OkR (bmeth m x [v] s') R) : OkR (ev P C (.bm m a [e]) l s) R := by
  obtain ⟨v, s', h4, h5⟩ := okr_elim h2
  rw [ev_bm, h1]
  show OkR (if bmOk m x s1 = true then _ else _) _
  rw [if_pos h0, evL_cons, h4]; exact h3 v s' h5
theorem e_bm {m : Bm} {es : List E} {x : V} {vs : List V} {s1 s2 : MS} (h1 : ev P C a l s = .ok x s1) (h0 : bmOk m x s1 = true) (h2 : evL P C es l s1 = .ok vs s2) (h3 : bmeth m x vs s2 = .ok v s') : ev P C (.bm m a es) l s = .ok v s' := by
  rw [ev_bm, h1]
  show (if bmOk m x s1 = true then _ else _) = _
  rw [if_pos h0, h2]; exact h3
theorem e_cons {es : List E} {vs : List V} {s1 : MS} (h1 : ev P C e l s = .ok v s1) (h2 : evL P C es l s1 = .ok vs s') : evL P C (e :: es) l s = .ok (v :: vs) s' := by
  rw [evL_cons, h1]
  show Res.bind (evL P C es l s1) _ = _
  rw [h2]; rfl
end
theorem bm_list {s : MS} {r : Lbl} {l : List V} (h : s.heap r = some (.list l)) : bmOk .append (.ref r) s = true := by
  show (listAt (.ref r) s).isSome = true
  rw [listAt, h]; rfl
theorem bm_dict {s : MS} {r : Lbl} {l : List (V × V)} (h : s.heap r = some (.dict l)) : bmOk .get (.ref r) s = true := by
  show (dictAt (.ref r) s).isSome = true
  rw [dictAt, h]; rfl
theorem bind_eq {α β : Type} {r : Res α} {a : α} {s : MS} {f : α → MS → Res β} {q : Res β} (h : r = .ok a s) (k : f a s = q) : r.bind f = q := by rw [h]; exact k
theorem sl_lst (l : List V) (i : Nat) (s : MS) : getSlice (.lst l) (some (.int i)) none s = .ok (.lst (l.drop i)) s := by
  have h0 : (0 : Int) ≤ i := by omega
  simp [getSlice, seqOf, cutAt, h0]
end Mine
end

section
namespace Mine
open PySem PySem.W PyProof.Rows

noncomputable def attrs : List PySem.Str := ["number", "begun", "open_call", "closed", "known", "written", "laid", "fresh", "all_keys", "houses", "callers", "post", "rows"]
noncomputable def attrName (i : Nat) : PySem.Str := match attrs[i]? with
  | some x => x
  | none => toStr [0, i]
noncomputable def attrsOk : Bool := attrs.all (fun x => !(x.cps[0]? == some 0)) && (List.range 13).all fun i => (List.range 13).all fun j => decide (attrs[i]? = attrs[j]? → i = j)
theorem attrs_ok : attrsOk = true := by decide +kernel
theorem attr_inj (i j : Nat) (h : attrName i = attrName j) : i = j := by
  have hok := attrs_ok
  simp only [attrsOk, Bool.and_eq_true, List.all_eq_true, Bool.not_eq_true', beq_eq_false_iff_ne, decide_eq_true_eq] at hok
  unfold attrName at h
  cases hi : attrs[i]? with
  | some x =>
    cases hj : attrs[j]? with
    | some y =>
      rw [hi, hj] at h
      simp only at h
      subst h
      have h1 : i < 13 := (List.getElem?_eq_some_iff.1 hi).1
      have h2 : j < 13 := (List.getElem?_eq_some_iff.1 hj).1
      exact hok.2 i (List.mem_range.2 h1) j (List.mem_range.2 h2) (hi.trans hj.symm)
    | none =>
      rw [hi, hj] at h
      simp only at h
      have := hok.1 x (List.mem_of_getElem? hi)
      rw [h] at this
      exact (this rfl).elim
  | none =>
    cases hj : attrs[j]? with
    | some y =>
      rw [hi, hj] at h
      simp only at h
      have := hok.1 y (List.mem_of_getElem? hj)
      rw [← h] at this
      exact (this rfl).elim
    | none =>
      rw [hi, hj] at h
      simp only [toStr] at h
      injection h with h
      injection h with h
      injection h with _ h
      injection h
noncomputable def notAttr (x : PySem.Str) : Bool := !(x.cps[0]? == some 0) && attrs.all fun y => !(y == x)
theorem notAttr_ok {x : PySem.Str} (h : notAttr x = true) (i : Nat) : x ≠ attrName i := by
  simp only [notAttr, Bool.and_eq_true, List.all_eq_true, Bool.not_eq_true', beq_eq_false_iff_ne] at h
  unfold attrName
  cases hi : attrs[i]? with
  | some y =>
    intro e
    exact h.2 y (List.mem_of_getElem? hi) e.symm
  | none =>
    rintro rfl
    exact h.1 rfl

noncomputable def globIn (K : Frag) (x : PySem.Str) : Option Value := match K.lookup mainGlobals with
  | some ⟨_, _, .dict es _, _⟩ => nsFind es x
  | _ => none
noncomputable def hasGlob (K : Frag) : Bool := match K.lookup mainGlobals with
  | some ⟨_, _, .dict _ _, _⟩ => true
  | _ => false
theorem globIn_ok {K : Frag} {h : Heap} {mg : PySem.Str → Option Value} (X : K.In h) (hg : h.Ns mainGlobals mg) (hK : hasGlob K = true) (x : PySem.Str) : mg x = globIn K x := by
  unfold hasGlob at hK
  split at hK
  · rename_i c dd es n sl ho
    obtain ⟨o, es', ep, h1, h2, h3, h4⟩ := hg
    have h5 := X _ _ ho
    rw [h1] at h5
    cases h5
    cases h2
    rw [← h4]
    simp only [globIn, ho]
  · cases hK

structure Tab where
  fal : List (Nat × Addr)
  cal : List (Nat × Addr)
  fnl : List (Nat × Fn)
  mel : List ((Nat × Nat) × Nat)
  inl : List (Nat × (Nat × Nat))

noncomputable def noneNames : List PySem.Str := ["len", "max", "int", "sorted", "tuple", "list", "all", "isinstance", "range", "dict", "bool", "str", "ValueError"]
noncomputable def isInt (v : Option Value) (i : Int) : Bool := match v with
  | some (.int j _) => decide (i = j)
  | _ => false
noncomputable def isTxt (v : Option Value) (x : PySem.Str) : Bool := match v with
  | some (.str y _) => x == y
  | _ => false
theorem isInt_ok {v : Option Value} {i : Int} (h : isInt v i = true) : ∃ k, v = some (.int i k) := by
  unfold isInt at h
  split at h
  · simp only [decide_eq_true_eq] at h; subst h; exact ⟨_, rfl⟩
  · cases h
theorem isTxt_ok {v : Option Value} {x : PySem.Str} (h : isTxt v x = true) : ∃ k, v = some (.str x k) := by
  unfold isTxt at h
  split at h
  · simp only [beq_iff_eq] at h; subst h; exact ⟨_, rfl⟩
  · cases h
noncomputable def ckGlob (K : Frag) (N : Names) : Bool :=
  hasGlob K && N.gi.all (fun p => isInt (globIn K p.1) p.2) && N.gs.all (fun p => isTxt (globIn K p.1) (toStr p.2)) && noneNames.all fun x => (globIn K x).isNone
noncomputable def ckFal (K : Frag) (N : Names) (T : Tab) : Bool := T.fal.all fun p => keepIn K (.ref p.2) && (N.fn p.1 == Str.empty || decide (globIn K (N.fn p.1) = some (.ref p.2)))
noncomputable def ckCls (K : Frag) (Ca : Addr) : Bool :=
  decide (findIn K (.ref Ca) "__getattribute__" = some (some (.builtin "object.__getattribute__"))) &&
  decide (findIn K (.ref Ca) "__getattr__" = some none) && decide (findIn K (.ref Ca) "__setattr__" = some (some (.builtin "object.__setattr__"))) &&
  attrs.all (fun x => decide (findIn K (.ref Ca) x = some none)) && (clsIn K Ca).any (·.hasDict) && plainOver K Ca
noncomputable def ckCal (K : Frag) (T : Tab) : Bool := T.cal.all fun p => ckCls K p.2
noncomputable def ckMel (K : Frag) (N : Names) (T : Tab) : Bool := T.mel.all fun p => match T.cal.lookup p.1.1 with
  | some Ca => (match T.fal.lookup p.2 with
    | some a => decide (findIn K (.ref Ca) (N.meth p.1.2) = some (some (.ref a))) && decide (typeIn K (.ref a) = some (.type "function")) && keepIn K (.ref a) && notAttr (N.meth p.1.2)
    | none => false)
  | none => true
noncomputable def ckInl (K : Frag) (N : Names) (T : Tab) : Bool := T.inl.all fun p => match T.cal.lookup p.1 with
  | some Ca => (match T.fal.lookup p.2.2 with
    | some fi => keepIn K (.ref Ca) && decide (globIn K (N.cls p.1) = some (.ref Ca)) && makesIn K Ca && decide (findIn K (.ref Ca) "__init__" = some (some (.ref fi))) && decide (typeIn K (.ref fi) = some (.type "function"))
    | none => false)
  | none => false
noncomputable def ckFnl (K : Frag) (N : Names) (T : Tab) : Bool := T.fnl.all fun p => match T.fal.lookup p.1 with
  | some a => ckFn K N p.2 a
  | none => false

theorem mem_of_lookup {α β : Type} [BEq α] [LawfulBEq α] : ∀ {l : List (α × β)} {k : α} {v : β}, l.lookup k = some v → (k, v) ∈ l
  | [], _, _, h => by simp at h
  | (a, b) :: l, k, v, h => by
    rw [List.lookup_cons] at h
    split at h
    · rename_i e
      cases h
      rw [beq_iff_eq.1 e]; exact List.mem_cons_self ..
    · exact List.mem_cons_of_mem _ (mem_of_lookup h)

noncomputable def Tab.prog (T : Tab) (eb : Nat → List Nat) : Prog := ⟨fun f => T.fnl.lookup f, fun c m => T.mel.lookup (c, m), fun c => T.inl.lookup c, eb⟩
noncomputable def Tab.gd (T : Tab) (eb : Nat → List Nat) (prog : Program) (w : World) (K : Frag) (mg mb : PySem.Str → Option Value) (h : Heap) : Gd :=
  ⟨prog, w, K, mg, mb, h, T.prog eb, fun f => T.fal.lookup f, fun c => T.cal.lookup c, attrName⟩

theorem stat_of {T : Tab} {eb : Nat → List Nat} {N : Names} {prog : Program} {w : World} {K : Frag} {mg mb : PySem.Str → Option Value} {h : Heap} (hN : N.attr = attrName)
    (X : K.In h) (g : h.Ns mainGlobals mg) (b : h.Ns builtinsNs mb) (bi : ∀ x : PySem.Str, x ≠ "__name__" → mb x = bootBuiltins x) (lim : h.NoLimit)
    (h1 : ckGlob K N = true) (h2 : ckFal K N T = true) (h3 : ckCal K T = true) (h4 : ckMel K N T = true) (h5 : ckInl K N T = true) : Stat (T.gd eb prog w K mg mb h) N := by
  simp only [ckGlob, Bool.and_eq_true, List.all_eq_true] at h1
  obtain ⟨⟨⟨g1, g2⟩, g3⟩, g4⟩ := h1
  have hm := fun x => globIn_ok X g g1 x
  simp only [ckFal, ckCal, ckMel, ckInl, List.all_eq_true, Bool.and_eq_true, Bool.or_eq_true, beq_iff_eq, decide_eq_true_eq] at h2 h3 h4 h5
  constructor
  · refine ⟨X, g, b, bi, lim, fun x i hc => ?_, fun x i hc => ?_, attr_inj, hN, fun x hx => ?_⟩
    · obtain ⟨k, e⟩ := isInt_ok (g2 (x, i) (by simpa using hc))
      exact ⟨k, (hm x).trans e⟩
    · obtain ⟨k, e⟩ := isTxt_ok (g3 (x, i) (by simpa using hc))
      exact ⟨k, (hm x).trans e⟩
    · exact (hm x).trans (Option.isNone_iff_eq_none.1 (g4 x hx))
  · intro c Ca hc
    have e := h3 _ (mem_of_lookup hc)
    simp only [ckCls, Bool.and_eq_true, decide_eq_true_eq, List.all_eq_true] at e
    obtain ⟨⟨⟨⟨⟨e1, e2⟩, e3⟩, e4⟩, e5⟩, e6⟩ := e
    refine ⟨e1, e2, e3, fun i hi => ?_, ?_, e6⟩
    · show findIn K (.ref Ca) (attrName i) = some none
      unfold attrName
      have hlt : i < attrs.length := hi
      rw [List.getElem?_eq_getElem hlt]
      exact e4 _ (List.getElem_mem _)
    · show ∃ cd, clsIn K Ca = some cd ∧ cd.hasDict = true
      cases hc : clsIn K Ca with
      | none => rw [hc] at e5; cases e5
      | some cd => rw [hc] at e5; exact ⟨cd, rfl, e5⟩
  · intro f a hf
    have e := h2 _ (mem_of_lookup hf)
    exact ⟨e.1, e.2.imp id fun e => (hm _).trans e⟩
  · intro c k f Ca hc hca
    have e := h4 _ (mem_of_lookup hc)
    have hca : T.cal.lookup c = some Ca := hca
    simp only [hca] at e
    split at e
    · rename_i a ha
      simp only [Bool.and_eq_true, decide_eq_true_eq] at e
      obtain ⟨⟨⟨e1, e2⟩, e3⟩, e4⟩ := e
      exact ⟨a, ha, e1, e2, e3, notAttr_ok e4⟩
    · cases e
  · intro c k f hc
    have e := h5 _ (mem_of_lookup hc)
    simp only at e
    split at e
    · rename_i Ca hca
      split at e
      · rename_i fi hfi
        simp only [Bool.and_eq_true, decide_eq_true_eq] at e
        obtain ⟨⟨⟨⟨e1, e2⟩, e3⟩, e4⟩, e5⟩ := e
        exact ⟨Ca, fi, hca, hfi, e1, (hm _).trans e2, e3, e4, e5⟩
      · cases e
    · cases e

theorem bits_all : ∀ {ns : List Int} {n : Nat}, PyData.weightAll (ns.map .int) ≤ n → ∀ i ∈ ns, intBits i ≤ n
  | [], _, _, i, hi => by cases hi
  | j :: ns, n, h, i, hi => by
    simp only [List.map_cons, PyData.weightAll, PyData.weight] at h
    rcases List.mem_cons.1 hi with rfl | hi
    · unfold intBits
      by_cases e : i = 0
      · simp [e]
      · simp [e] at h ⊢; omega
    · exact bits_all (by omega) i hi
theorem bits_lay {ns : List Int} (h : (PyData.list (ns.map .int)).layable0 = true) : ∀ i ∈ ns, intBits i ≤ 1048576 := by
  simp only [PyData.layable0, Bool.and_eq_true, PyData.weight] at h
  exact bits_all (of_decide_eq_true h.2)
theorem law_close {T : Tab} {eb : Nat → List Nat} {N : Names} {prog : Program} {w : World} {K : Frag} {mg mb : PySem.Str → Option Value} {s : Shared} (S : Stat (T.gd eb prog w K mg mb s.heap) N) (hf : ckFnl K N T = true)
    {n law : Nat} {fa la : Addr} {ns : List Int} {vals : List Value} (hA : AC n callerA) (hfa : T.fal.lookup law = some fa) (hz : s.heap.get? la = some { cls := .type "list", data := .seq vals.toArray }) (hlen : ns.length ≤ 63) (hI : IntsAre vals ns)
    {st' : MS} (hrun : run (T.prog eb) n law [.lst (ns.map .int)] st0 = .ok (.bool true) st') {B : Result → Shared → Prop}
    (k : ∀ s' : Shared, (∀ b o, s.heap.get? b = some o → s'.heap.get? b = some o) → s'.os = s.os → s'.gens = s.gens → B (.ok (.ret (.bool true))) s') :
    codeAny (model prog w) callerA (.call (.ref fa) ⟨[.ref la], []⟩) B s := by
  let G := T.gd eb prog w K mg mb s.heap
  have hfn : ∀ f fn, G.P.fns f = some fn → ∃ a, G.fa f = some a ∧ FnRec G fn a := by
    intro f fn h
    simp only [ckFnl, List.all_eq_true] at hf
    have e := hf _ (mem_of_lookup h)
    simp only at e
    split at e
    · rename_i a ha
      exact ⟨a, ha, fnRec_of S e⟩
    · cases e
  let t0 : Tie := ⟨fun _ => none, fun _ => none, fun _ => False⟩
  have hno : ∀ a, ¬ t0.Avoid a := by
    rintro a (⟨l, e | e⟩ | e)
    · cases e
    · cases e
    · exact e
  have R : Rel G t0 st0 s :=
    { base := fun b o e => e, apart := fun a q => (hno a q).elim, live := fun a q => (hno a q).elim, pv := fun a q => q.elim, injρ := (fun l l' a e => by cases e), injδ := (fun l l' a e => by cases e), two := (fun l l' a e => by cases e),
      objs := (fun l o e => by cases e), cnt := (fun k i _ => ⟨rfl, rfl, rfl⟩), sys := (fun l e => by cases e) }
  have hV : ∀ {vs : List Value} {ms : List Int}, IntsAre vs ms → VRels t0 s.heap (ms.map .int) vs := by
    intro vs ms h
    induction h with
    | nil => rfl
    | cons n t _ ih => exact ⟨_, _, rfl, ⟨t, rfl⟩, ih⟩
  have rv : VRel t0 s.heap (.lst (ns.map .int)) (.ref la) := ⟨la, vals.toArray, rfl, ⟨_, hz⟩, hno _, by rw [List.length_map]; unfold sizeMax; omega, hV hI⟩
  obtain ⟨a, ha, go⟩ := calls_ok S.O hfn n law [.lst (ns.map .int)] st0 (.bool true) st' hrun callerA hA
  have : a = fa := by
    have ha : T.fal.lookup law = some a := ha
    rw [hfa] at ha; cases ha; rfl
  subst this
  refine go t0 s [.ref la] R ⟨_, _, rfl, rv, rfl⟩ B fun v t' s' S' R' r => ?_
  have r : v = .bool true := r
  subst r
  exact k s' R'.base S'.os S'.gens
end Mine
end

section
namespace Mine

noncomputable def f_cell : Fn := ⟨2, ["_law_script", "_law_k"], [.ite (.cmp (.loc 1) .lt (.prim .len [.loc 0])) [.ret (some (.sub (.loc 0) (.loc 1)))] [], .ret (some (.int 0))]⟩
noncomputable def f_alike (self : Nat) : Fn := ⟨2, ["_law_found", "_law_due", ""], [.ite (.isinst (.loc 1) [.list, .tuple]) [.ite (.or [.cmp (.isinst (.loc 1) [.list]) .ne (.isinst (.loc 0) [.list]), .cmp (.isinst (.loc 1) [.tuple]) .ne (.isinst (.loc 0) [.tuple])]) [.ret (some (.bool false))] [], .ite (.cmp (.prim .len [.loc 0]) .ne (.prim .len [.loc 1])) [.ret (some (.bool false))] [], .ret (some (.prim .all1 [.comp none 2 true (.prim .len [.loc 1]) none (.call self [.sub (.loc 0) (.loc 2), .sub (.loc 1) (.loc 2)])]))] [], .ite (.isinst (.loc 1) [.str]) [.ret (some (.and [.isinst (.loc 0) [.str], .cmp (.loc 0) .eq (.loc 1)]))] [], .ret (some (.and [.isinst (.loc 0) [.int], .not (.isinst (.loc 0) [.bool]), .cmp (.loc 0) .eq (.loc 1)]))]⟩
noncomputable def f_wish : Fn := ⟨1, ["_law_cell", "_law_number"], [.assign 1 (.bin .sub (.bin .mod (.bin .fdiv (.loc 0) (.int 6)) (.int 7)) (.int 3)), .ite (.cmp (.bin .mod (.bin .fdiv (.loc 0) (.int 3)) (.int 2)) .eq (.int 1)) [.assign 1 (.bin .sub (.bin .mod (.bin .fdiv (.loc 0) (.int 6)) (.bin .add (.bin .mul (.int 2) (.bin .pow (.int 10) (.int 30))) (.int 1))) (.bin .pow (.int 10) (.int 30)))] [], .ret (some (.sub (.lst [.tup [.str [103, 101, 116]], .tup [.str [115, 101, 116], .loc 1], .tup [.str [97, 100, 100], .loc 1]]) (.bin .mod (.loc 0) (.int 3))))]⟩
noncomputable def f_keys : Fn := ⟨1, ["_law_cell", "_law_letters", "_law_many", "_law_size", "_law_at", "_law_turn", "_law_rest", "", "", ""], [.assign 1 (.str [97, 98, 99, 100, 101, 102, 103, 104, 105, 106, 107, 108, 109, 110, 111, 112, 113, 114, 115, 116, 117, 118, 119, 120, 121, 122]), .assign 2 (.bin .add (.int 1) (.bin .mod (.loc 0) (.int 6))), .assign 3 (.bin .mod (.bin .fdiv (.loc 0) (.int 6)) (.int 8)), .assign 4 (.bin .mod (.bin .fdiv (.loc 0) (.int 48)) (.bin .add (.loc 3) (.int 1))), .assign 5 (.bin .fdiv (.loc 0) (.int 432)), .assign 6 (.bm .join (.str []) [.comp none 7 true (.loc 3) none (.sub (.loc 1) (.bin .mod (.bin .add (.bin .fdiv (.loc 5) (.int 26)) (.bin .mul (.int 5) (.loc 7))) (.int 26)))]), .ite (.cmp (.bin .mod (.loc 5) (.int 3)) .eq (.int 1)) [.ret (some (.comp none 8 true (.loc 2) none (.slice (.bin .add (.loc 6) (.str [113, 119, 101, 114, 116, 121, 117, 105])) none (some (.bin .add (.loc 8) (.int 1))))))] [], .ret (some (.comp none 9 true (.loc 2) none (.bin .add (.bin .add (.slice (.loc 6) none (some (.loc 4))) (.sub (.loc 1) (.bin .mod (.bin .add (.loc 5) (.loc 9)) (.int 26)))) (.slice (.loc 6) (some (.loc 4)) none))))]⟩

inductive W where | get | set (i : Int) | add (i : Int)
noncomputable def wv : W → V
  | .get => .tup [.str [103, 101, 116]]
  | .set i => .tup [.str [115, 101, 116], .int i]
  | .add i => .tup [.str [97, 100, 100], .int i]
noncomputable def dn (a : Int) : W → Int × Int
  | .get => (a, a)
  | .set i => (i, a)
  | .add i => (a + i, a + i)

variable {P : Prog}
theorem i_seq {s : MS} {a : V} {k : Bool} {l : List V} (h : seqOf s a = some (k, l)) (i : Nat) (hi : i < l.length) : getItem a (.int i) s = .ok l[i] s := by
  have h0 : (0 : Int) ≤ i := by omega
  have h1 : (i : Int) < l.length := by omega
  cases a <;> simp [seqOf] at h <;> simp_all [getItem, seqOf, idx, okV]
theorem run_cell {f : Nat} (hf : P.fns f = some f_cell) (n : Nat) (l : List Int) (k : Nat) (s : MS) : run P (n + 1) f [.lst (l.map .int), .int k] s = .ok (.int (l.getD k 0)) s := by
  refine okr_eq (okr_run (fn := f_cell) hf rfl ?_)
  have hc : ev P (run P n) (.cmp (.loc 1) .lt (.prim .len [.loc 0])) [some (.lst (l.map .int)), some (.int k)] s = .ok (.bool (decide ((k : Int) < ((l.map V.int).length : Nat)))) s := rfl
  rw [List.length_map] at hc
  by_cases h : k < l.length
  · refine st_if (hc.trans (congrArg (fun b => Res.ok (V.bool b) s) (decide_eq_true (by omega)))) (st_ret (e_sub (s1 := s) (s2 := s) rfl rfl (i_seq (a := .lst (l.map .int)) (k := true) rfl k (by simpa using h))) ⟨?_, rfl⟩)
    simp [flV, h]
  · refine st_if (hc.trans (congrArg (fun b => Res.ok (V.bool b) s) (decide_eq_false (by omega)))) (st_next (st_ret rfl ⟨?_, rfl⟩))
    simp [flV, h]
theorem run_cell0 {f : Nat} (hf : P.fns f = some f_cell) (n : Nat) (l : List Int) (s : MS) : run P (n + 1) f [.lst (l.map .int), .int 0] s = .ok (.int (l.getD 0 0)) s := run_cell hf n l 0 s
noncomputable def wnum (c : Int) (b : Bool) : Int := match b with
  | true => (c.fdiv 6).fmod 2000000000000000000000000000001 - 1000000000000000000000000000000
  | false => (c.fdiv 6).fmod 7 - 3
noncomputable def wpick (k i : Int) : W := if k = 0 then .get else if k = 1 then .set i else .add i
noncomputable def wishOf (c : Int) : W := wpick (c.fmod 3) (wnum c (decide ((c.fdiv 3).fmod 2 = 1)))
theorem pick_ok (k i : Int) (s : MS) (h : k = 0 ∨ k = 1 ∨ k = 2) : getItem (.lst [.tup [.str [103, 101, 116]], .tup [.str [115, 101, 116], .int i], .tup [.str [97, 100, 100], .int i]]) (.int k) s = .ok (wv (wpick k i)) s := by
  rcases h with rfl | rfl | rfl <;> rfl
theorem run_wish {f : Nat} (hf : P.fns f = some f_wish) (n : Nat) (c : Int) (s : MS) : run P (n + 1) f [.int c] s = .ok (wv (wishOf c)) s := by
  refine okr_eq (okr_run (fn := f_wish) hf rfl ?_)
  have h3 : c.fmod 3 = 0 ∨ c.fmod 3 = 1 ∨ c.fmod 3 = 2 := by
    rw [Int.fmod_eq_emod_of_nonneg c (by decide)]; omega
  refine st_assign (v := .int (wnum c false)) rfl rfl ?_
  cases hb : decide ((c.fdiv 3).fmod 2 = 1)
  · refine st_if (t := false) (congrArg (fun b => Res.ok (V.bool b) s) hb) (st_next (st_ret (pick_ok (c.fmod 3) (wnum c false) s h3) ⟨?_, rfl⟩))
    show wv (wpick _ (wnum c false)) = wv (wpick _ (wnum c (decide _))); rw [hb]
  · refine st_if (t := true) (congrArg (fun b => Res.ok (V.bool b) s) hb) (st_assign (v := .int (wnum c true)) rfl rfl (st_next (st_ret (pick_ok (c.fmod 3) (wnum c true) s h3) ⟨?_, rfl⟩)))
    show wv (wpick _ (wnum c true)) = wv (wpick _ (wnum c (decide _))); rw [hb]
theorem fmod_pos (x y : Int) (h : 0 ≤ y) : x.fmod y = x % y := Int.fmod_eq_emod_of_nonneg x h
noncomputable def abc : List Nat := [97, 98, 99, 100, 101, 102, 103, 104, 105, 106, 107, 108, 109, 110, 111, 112, 113, 114, 115, 116, 117, 118, 119, 120, 121, 122]
theorem abc_at (x : Int) (s : MS) : ∃ c, getItem (.str abc) (.int (x.fmod 26)) s = .ok (.str [c]) s := by
  have h1 : 0 ≤ x.fmod 26 := by rw [fmod_pos _ _ (by decide)]; omega
  have h2 : x.fmod 26 < abc.length := by rw [fmod_pos _ _ (by decide)]; show x % 26 < 26; omega
  exact ⟨_, i_str abc (x.fmod 26) s h1 h2 (by decide)⟩
theorem sl_str (x : List Nat) (j : Int) (s : MS) (h : 0 ≤ j) (hx : x.length ≤ 16777216) : getSlice (.str x) none (some (.int j)) s = .ok (.str (x.take j.toNat)) s := by
  have hx : x.length ≤ sizeMax := hx
  simp [getSlice, cutAt, h, hx]
theorem sl_str2 (x : List Nat) (j : Int) (s : MS) (h : 0 ≤ j) (hx : x.length ≤ 16777216) : getSlice (.str x) (some (.int j)) none s = .ok (.str (x.drop j.toNat)) s := by
  have hx : x.length ≤ sizeMax := hx
  simp [getSlice, cutAt, h, hx]
theorem join_ok {vs : List V} {x : List Nat} (s : MS) (h : catStrs vs = some x) (hx : x.length ≤ 16777216) : bmeth .join (.str []) [.lst vs] s = .ok (.str x) s := by
  have hx : x.length ≤ sizeMax := hx
  simp only [bmeth, bm1, h, if_pos hx]
theorem run_keys {f : Nat} (hf : P.fns f = some f_keys) (n : Nat) (c : Int) (s : MS) : OkR (run P (n + 1) f [.int c] s) fun v t => t = s ∧ ∃ ks : List (List Nat), 0 < ks.length ∧ ks.length ≤ 6 ∧ v = .lst (ks.map .str) := by
  have hm0 : 0 ≤ c.fmod 6 := by rw [fmod_pos _ _ (by decide)]; omega
  have hm1 : c.fmod 6 < 6 := by rw [fmod_pos _ _ (by decide)]; omega
  have hz0 : 0 ≤ (c.fdiv 6).fmod 8 := by rw [fmod_pos _ _ (by decide)]; omega
  have hz1 : (c.fdiv 6).fmod 8 < 8 := by rw [fmod_pos _ _ (by decide)]; omega
  refine okr_run (fn := f_keys) hf rfl ?_
  refine st_assign (v := .str abc) rfl rfl (st_assign (v := .int (1 + c.fmod 6)) rfl rfl (st_assign (v := .int ((c.fdiv 6).fmod 8)) rfl rfl ?_))
  generalize c.fmod 6 = m at hm0 hm1
  generalize (c.fdiv 6).fmod 8 = z at hz0 hz1
  have hz2 : ¬ (z + 1 = 0) := by omega
  refine st_assign (v := .int ((c.fdiv 48).fmod (z + 1))) (if_neg hz2) rfl (st_assign (v := .int (c.fdiv 432)) rfl rfl ?_)
  have ha0 : 0 ≤ (c.fdiv 48).fmod (z + 1) := by rw [fmod_pos _ _ (by omega)]; exact Int.emod_nonneg _ hz2
  generalize (c.fdiv 48).fmod (z + 1) = a at ha0
  generalize c.fdiv 432 = t
  refine st_assignQ (R := fun v u => u = s ∧ ∃ x : List Nat, x.length < 8 ∧ v = .str x) ?_ rfl ?_
  · refine e_bmQ1 rfl rfl (e_compQ (R := fun v u => u = s ∧ ∃ vs, v = .lst vs ∧ vs.length = z.toNat ∧ ∀ v ∈ vs, ∃ c, v = .str [c]) rfl (items_range s z hz0 (by omega)) ?_) ?_
    · refine okr_comp (fun v => ∃ c, v = .str [c]) (stays_range ..) (by simp [sizeMax]; omega) ?_ fun vs h1 h2 => ⟨rfl, vs, rfl, by simpa using h1, h2⟩
      intro x hx
      obtain ⟨i, -, rfl⟩ := List.mem_map.1 hx
      have hb : ev P (run P n) (.bin .mul (.int 5) (.loc 7)) [some (.int c), some (.str abc), some (.int (1 + m)), some (.int z), some (.int a), some (.int t), none, some (.int i), none, none] s = .ok (.int (5 * i)) s := b_mulL 5 i s (by decide) (by decide)
      obtain ⟨ch, hch⟩ := abc_at (t.fdiv 26 + 5 * i) s
      show OkR (ev P (run P n) (.sub (.loc 1) (.bin .mod (.bin .add (.bin .fdiv (.loc 5) (.int 26)) (.bin .mul (.int 5) (.loc 7))) (.int 26))) [some (.int c), some (.str abc), some (.int (1 + m)), some (.int z), some (.int a), some (.int t), none, some (.int i), none, none] s) _
      rw [e_sub (s1 := s) (s2 := s) rfl (e_bin (x := .int (t.fdiv 26 + 5 * i)) (s1 := s) (s2 := s) (e_bin (x := .int (t.fdiv 26)) (s1 := s) rfl hb rfl) rfl rfl) hch]
      exact ⟨rfl, ch, rfl⟩
    · rintro v u ⟨rfl, vs, rfl, h1, h2⟩
      obtain ⟨x, hx, hl⟩ := cat_ex vs h2
      rw [join_ok u hx (by omega)]
      exact ⟨rfl, x, by omega, rfl⟩
  rintro v u ⟨rfl, x, hx, rfl⟩
  have hit : ∀ w : MS, itemsOf w true (.int (1 + m)) = some ((List.range (1 + m).toNat).map fun (i : Nat) => .int i) := fun w => items_range w _ (by omega) (by omega)
  have hend : ∀ ws : List V, ws.length = ((List.range (1 + m).toNat).map fun (i : Nat) => V.int i).length → (∀ v ∈ ws, ∃ c, v = .str c) → u = u ∧ ∃ ks : List (List Nat), 0 < ks.length ∧ ks.length ≤ 6 ∧ V.lst ws = .lst (ks.map .str) := by
    intro ws h1 h2
    obtain ⟨ks, rfl⟩ := strs_ex ws h2
    simp only [List.length_map, List.length_range] at h1
    exact ⟨rfl, ks, by omega, by omega, rfl⟩
  cases hb : decide (t.fmod 3 = 1)
  · refine st_if (t := false) (congrArg (fun b => Res.ok (V.bool b) u) hb) (st_next (st_retQ (R := fun v w => w = u ∧ ∃ ks : List (List Nat), 0 < ks.length ∧ ks.length ≤ 6 ∧ v = .lst (ks.map .str)) (e_compQ rfl (hit _) ?_) fun v s' h => h))
    refine okr_comp (fun v => ∃ c, v = .str c) (stays_range ..) (by simp [sizeMax]; omega) ?_ hend
    intro y hy
    obtain ⟨i, -, rfl⟩ := List.mem_map.1 hy
    obtain ⟨ch, hch⟩ := abc_at (t + i) u
    have h1 : (x.take a.toNat).length + 1 ≤ 16777216 := by rw [List.length_take]; omega
    have h2 : (x.take a.toNat ++ [ch]).length + (x.drop a.toNat).length ≤ 16777216 := by rw [List.length_append, List.length_take, List.length_drop]; show min _ _ + 1 + _ ≤ _; omega
    exact okr_of (e_bin (s1 := u) (s2 := u) (x := .str (x.take a.toNat ++ [ch])) (e_bin (s1 := u) (s2 := u) (sl_str x a u ha0 (by omega)) (e_sub (s1 := u) (s2 := u) rfl rfl hch) (b_str _ _ u h1)) (sl_str2 x a u ha0 (by omega)) (b_str _ _ u h2)) ⟨rfl, _, rfl⟩
  · refine st_if (t := true) (congrArg (fun b => Res.ok (V.bool b) u) hb) (st_retQ (R := fun v w => w = u ∧ ∃ ks : List (List Nat), 0 < ks.length ∧ ks.length ≤ 6 ∧ v = .lst (ks.map .str)) (e_compQ rfl (hit _) ?_) fun v s' h => h)
    refine okr_comp (fun v => ∃ c, v = .str c) (stays_range ..) (by simp [sizeMax]; omega) ?_ hend
    intro y hy
    obtain ⟨i, -, rfl⟩ := List.mem_map.1 hy
    have h1 : x.length + [113, 119, 101, 114, 116, 121, 117, 105].length ≤ 16777216 := by show x.length + 8 ≤ _; omega
    exact okr_of (e_slice (s1 := u) (s2 := u) (s3 := u) (e_bin (s1 := u) (s2 := u) rfl rfl (b_str x [113, 119, 101, 114, 116, 121, 117, 105] u h1)) rfl rfl (sl_str (x ++ [113, 119, 101, 114, 116, 121, 117, 105]) (i + 1) u (by omega) (by rw [List.length_append]; exact h1))) ⟨rfl, _, rfl⟩
noncomputable def AllA (R : V → V → Prop) : List V → List V → Prop
  | [], [] => True
  | x :: l, y :: m => R x y ∧ AllA R l m
  | _, _ => False
theorem AllA.len {R : V → V → Prop} : ∀ {a b : List V}, AllA R a b → a.length = b.length
  | [], [], _ => rfl
  | x :: l, y :: m, h => by simp [AllA.len h.2]
  | [], _ :: _, h => h.elim
  | _ :: _, [], h => h.elim
theorem AllA.get {R : V → V → Prop} : ∀ {a b : List V}, AllA R a b → ∀ (i : Nat) (h : i < a.length) (h' : i < b.length), R a[i] b[i]
  | x :: l, y :: m, h, 0, _, _ => h.1
  | x :: l, y :: m, h, i + 1, h1, h2 => AllA.get h.2 i (by simpa using h1) (by simpa using h2)
  | [], _, _, _, h1, _ => by simp at h1
  | _ :: _, [], h, _, _, _ => h.elim
theorem AllA.map {α : Type} {R : V → V → Prop} {f g : α → V} : ∀ (l : List α), (∀ x ∈ l, R (f x) (g x)) → AllA R (l.map f) (l.map g)
  | [], _ => trivial
  | x :: l, h => ⟨h x (by simp), AllA.map l fun y hy => h y (by simp [hy])⟩
noncomputable def Alike (s : MS) : Nat → V → V → Prop
  | 0, a, b => (∃ x, a = .int x ∧ b = .int x) ∨ (∃ x, a = .str x ∧ b = .str x)
  | d + 1, a, b => ((∃ x, a = .int x ∧ b = .int x) ∨ (∃ x, a = .str x ∧ b = .str x)) ∨
    ∃ k la lb, seqOf s a = some (k, la) ∧ seqOf s b = some (k, lb) ∧ la.length ≤ 16777216 ∧ AllA (Alike s d) la lb
theorem alike_int {s : MS} (d : Nat) (x : Int) : Alike s d (.int x) (.int x) := by
  cases d
  · exact .inl ⟨x, rfl, rfl⟩
  · exact .inl (.inl ⟨x, rfl, rfl⟩)
theorem alike_refs {s : MS} {d : Nat} {a b : Lbl} {la lb : List V} (ha : s.heap a = some (.list la)) (hb : s.heap b = some (.list lb)) (hl : la.length ≤ 16777216) (h : AllA (Alike s d) la lb) : Alike s (d + 1) (.ref a) (.ref b) :=
  .inr ⟨true, la, lb, by simp only [seqOf, ha], by simp only [seqOf, hb], hl, h⟩
noncomputable def seqTag (k : Bool) : Tag := match k with | true => .list | false => .tuple
theorem tag_seq {s : MS} {a : V} {k : Bool} {l : List V} (h : seqOf s a = some (k, l)) : tagOf s a = some (seqTag k) := by
  cases a with
  | tup => cases h; rfl
  | lst => cases h; rfl
  | ref r =>
    have h : (match s.heap r with | some (.list l) => some (true, l) | _ => none) = some (k, l) := h
    show (match s.heap r with | some (.list _) => some Tag.list | some (.dict _) => some .dict | _ => none) = _
    cases e : s.heap r with
    | none => rw [e] at h; cases h
    | some o =>
      rw [e] at h
      cases o with
      | list m => cases h; rfl
      | _ => cases h
  | _ => cases h
theorem kinds_tag {s : MS} {v : V} {g : Tag} (h : tagOf s v = some g) (k : Kind) : isKind P s v k = kindHas g k := by
  cases v with
  | exc => cases h
  | ref r =>
    show (match tagOf s (.ref r) with | some g => kindHas g k | none => none) = _
    rw [h]
  | _ => cases h; rfl
theorem kind1 {s : MS} {v : V} {g : Tag} {k : Kind} {t : Bool} (h : tagOf s v = some g) (hk : kindHas g k = some t) : isKinds P s v [k] = some t := by
  rw [isKinds, kinds_tag h, hk]; cases t <;> rfl
theorem kind2 {s : MS} {v : V} {k : Bool} (h : tagOf s v = some (seqTag k)) : isKinds P s v [.list, .tuple] = some true := by
  rw [isKinds, kinds_tag h]
  cases k
  · show isKinds P s v [.tuple] = _
    exact kind1 h rfl
  · rfl
theorem all_true : ∀ xs : List V, allTrue (xs.map fun _ => V.bool true) = some true
  | [] => rfl
  | x :: r => by rw [List.map_cons, allTrue, all_true r]; rfl
theorem len_seq {s : MS} {a : V} {k : Bool} {l : List V} (h : seqOf s a = some (k, l)) : lenV a s = .ok (.int l.length) s := by
  cases a with
  | tup => cases h; rfl
  | lst => cases h; rfl
  | ref r =>
    show (match seqOf s (.ref r) with | some p => Res.ok (V.int p.2.length) s | none => .stuck) = _
    rw [h]
  | _ => cases h
theorem alike_flat {f : Nat} (hf : P.fns f = some (f_alike f)) (n : Nat) (a b : V) (s : MS) (h : (∃ x, a = .int x ∧ b = .int x) ∨ (∃ x, a = .str x ∧ b = .str x)) : run P (n + 1) f [a, b] s = .ok (.bool true) s := by
  refine okr_eq (okr_run (fn := f_alike f) hf rfl ?_)
  rcases h with ⟨x, rfl, rfl⟩ | ⟨x, rfl, rfl⟩
  · exact st_if (t := false) rfl (st_next (st_if (t := false) rfl (st_next (st_ret (congrArg (fun t => Res.ok (V.bool t) s) (decide_eq_true (rfl : x = x))) ⟨rfl, rfl⟩))))
  · exact st_if (t := false) rfl (st_next (st_if (t := true) rfl (st_ret (congrArg (fun t => Res.ok (V.bool t) s) (decide_eq_true (rfl : x = x))) ⟨rfl, rfl⟩)))
theorem run_alike {f : Nat} (hf : P.fns f = some (f_alike f)) : ∀ (d n : Nat) (a b : V) (s : MS), Alike s d a b → run P (n + d + 1) f [a, b] s = .ok (.bool true) s
  | 0, n, a, b, s, h => alike_flat hf n a b s h
  | d + 1, n, a, b, s, h => by
    rcases h with h | ⟨k, la, lb, ha, hb, h0, h⟩
    · exact alike_flat hf (n + (d + 1)) a b s h
    · have hl := h.len
      have t1 := tag_seq ha
      have t2 := tag_seq hb
      refine okr_eq (okr_run (fn := f_alike f) hf rfl ?_)
      refine st_if (t := true) (e_isinst rfl (kind2 t2)) (st_if (t := false) (s' := s) ?_ (st_next (st_if (t := false) (s' := s) ?_ (st_next (st_retQ (R := fun v t => v = .bool true ∧ t = s) ?_ fun v t h => h)))))
      · cases k
        · exact e_or2 (t := false) (u := false) (e_cmp (e_isinst rfl (kind1 t2 rfl)) (e_isinst rfl (kind1 t1 rfl)) rfl) fun _ => e_cmp (e_isinst rfl (kind1 t2 rfl)) (e_isinst rfl (kind1 t1 rfl)) rfl
        · exact e_or2 (t := false) (u := false) (e_cmp (e_isinst rfl (kind1 t2 rfl)) (e_isinst rfl (kind1 t1 rfl)) rfl) fun _ => e_cmp (e_isinst rfl (kind1 t2 rfl)) (e_isinst rfl (kind1 t1 rfl)) rfl
      · refine e_cmp (e_prim rfl (len_seq ha)) (e_prim rfl (len_seq hb)) ?_
        rw [hl, c_neI]; simp
      · refine e_primQ (R' := fun v t => v = .lst (((List.range lb.length).map fun (i : Nat) => V.int i).map fun _ => .bool true) ∧ t = s) (e_compQ (e_prim rfl (len_seq hb)) (items_range s lb.length (by omega) (by omega)) ?_) ?_
        · refine okr_compF (fun _ => .bool true) (stays_range ..) (by simp [sizeMax]; omega) ?_ ⟨rfl, rfl⟩
          intro x hx
          obtain ⟨i, hi, rfl⟩ := List.mem_map.1 hx
          have hi : i < lb.length := by simpa using hi
          exact okr_of (e_call (e_cons (e_sub rfl rfl (i_seq ha i (by omega))) (e_cons (e_sub rfl rfl (i_seq hb i hi)) rfl)) (run_alike hf d n _ _ s (h.get i (by omega) hi))) ⟨rfl, rfl⟩
        · rintro v t ⟨rfl, rfl⟩
          exact okr_of (congrArg (okB t) (all_true _)) ⟨rfl, rfl⟩
end Mine
end

section
namespace Mine.L02
open Mine

noncomputable def f_done : Fn := ⟨2, ["amount", "wish"], [.ite (.cmp (.sub (.loc 1) (.int 0)) .eq (.str [115, 101, 116])) [.ret (some (.tup [.sub (.loc 1) (.int 1), .loc 0]))] [], .ite (.cmp (.sub (.loc 1) (.int 0)) .eq (.str [97, 100, 100])) [.ret (some (.tup [.bin .add (.loc 0) (.sub (.loc 1) (.int 1)), .bin .add (.loc 0) (.sub (.loc 1) (.int 1))]))] [], .ret (some (.tup [.loc 0, .loc 0]))]⟩
noncomputable def f_played : Fn := ⟨2, ["keys", "rows", "amounts", "key", "found", "row", "pair"], [.assign 2 (.dictM 15 [] []), .for_ (.inl (.loc 3)) false (.loc 0) [.setitem (.loc 2) (.loc 3) (.int 0)], .assign 4 (.lstM 16 []), .for_ (.inl (.loc 5)) false (.loc 1) [.assign 6 (.call 2 [.sub (.loc 2) (.sub (.loc 5) (.int 0)), .sub (.loc 5) (.int 1)]), .setitem (.loc 2) (.sub (.loc 5) (.int 0)) (.sub (.loc 6) (.int 0)), .expr (.bm .append (.loc 4) [.sub (.loc 6) (.int 1)])], .ret (some (.loc 4))]⟩
noncomputable def f_law_cell_at : Fn := ⟨2, ["_law_script", "_law_k"], [.ite (.cmp (.loc 1) .lt (.prim .len [.loc 0])) [.ret (some (.sub (.loc 0) (.loc 1)))] [], .ret (some (.int 0))]⟩
noncomputable def f_law_alike : Fn := ⟨2, ["_law_found", "_law_due", ""], [.ite (.isinst (.loc 1) [.list, .tuple]) [.ite (.or [.cmp (.isinst (.loc 1) [.list]) .ne (.isinst (.loc 0) [.list]), .cmp (.isinst (.loc 1) [.tuple]) .ne (.isinst (.loc 0) [.tuple])]) [.ret (some (.bool false))] [], .ite (.cmp (.prim .len [.loc 0]) .ne (.prim .len [.loc 1])) [.ret (some (.bool false))] [], .ret (some (.prim .all1 [.comp none 2 true (.prim .len [.loc 1]) none (.call 101 [.sub (.loc 0) (.loc 2), .sub (.loc 1) (.loc 2)])]))] [], .ite (.isinst (.loc 1) [.str]) [.ret (some (.and [.isinst (.loc 0) [.str], .cmp (.loc 0) .eq (.loc 1)]))] [], .ret (some (.and [.isinst (.loc 0) [.int], .not (.isinst (.loc 0) [.bool]), .cmp (.loc 0) .eq (.loc 1)]))]⟩
noncomputable def f_law_wish : Fn := ⟨1, ["_law_cell", "_law_number"], [.assign 1 (.bin .sub (.bin .mod (.bin .fdiv (.loc 0) (.int 6)) (.int 7)) (.int 3)), .ite (.cmp (.bin .mod (.bin .fdiv (.loc 0) (.int 3)) (.int 2)) .eq (.int 1)) [.assign 1 (.bin .sub (.bin .mod (.bin .fdiv (.loc 0) (.int 6)) (.bin .add (.bin .mul (.int 2) (.bin .pow (.int 10) (.int 30))) (.int 1))) (.bin .pow (.int 10) (.int 30)))] [], .ret (some (.sub (.lst [.tup [.str [103, 101, 116]], .tup [.str [115, 101, 116], .loc 1], .tup [.str [97, 100, 100], .loc 1]]) (.bin .mod (.loc 0) (.int 3))))]⟩
noncomputable def f_law_keys : Fn := ⟨1, ["_law_cell", "_law_letters", "_law_many", "_law_size", "_law_at", "_law_turn", "_law_rest", "", "", ""], [.assign 1 (.str [97, 98, 99, 100, 101, 102, 103, 104, 105, 106, 107, 108, 109, 110, 111, 112, 113, 114, 115, 116, 117, 118, 119, 120, 121, 122]), .assign 2 (.bin .add (.int 1) (.bin .mod (.loc 0) (.int 6))), .assign 3 (.bin .mod (.bin .fdiv (.loc 0) (.int 6)) (.int 8)), .assign 4 (.bin .mod (.bin .fdiv (.loc 0) (.int 48)) (.bin .add (.loc 3) (.int 1))), .assign 5 (.bin .fdiv (.loc 0) (.int 432)), .assign 6 (.bm .join (.str []) [.comp none 7 true (.loc 3) none (.sub (.loc 1) (.bin .mod (.bin .add (.bin .fdiv (.loc 5) (.int 26)) (.bin .mul (.int 5) (.loc 7))) (.int 26)))]), .ite (.cmp (.bin .mod (.loc 5) (.int 3)) .eq (.int 1)) [.ret (some (.comp none 8 true (.loc 2) none (.slice (.bin .add (.loc 6) (.str [113, 119, 101, 114, 116, 121, 117, 105])) none (some (.bin .add (.loc 8) (.int 1))))))] [], .ret (some (.comp none 9 true (.loc 2) none (.bin .add (.bin .add (.slice (.loc 6) none (some (.loc 4))) (.sub (.loc 1) (.bin .mod (.bin .add (.loc 5) (.loc 9)) (.int 26)))) (.slice (.loc 6) (some (.loc 4)) none))))]⟩
noncomputable def f_law_done : Fn := ⟨2, ["_law_amount", "_law_wish_here"], [.ite (.cmp (.sub (.loc 1) (.int 0)) .eq (.str [103, 101, 116])) [.ret (some (.tup [.loc 0, .loc 0]))] [], .ite (.cmp (.sub (.loc 1) (.int 0)) .eq (.str [115, 101, 116])) [.ret (some (.tup [.sub (.loc 1) (.int 1), .loc 0]))] [], .ret (some (.tup [.bin .add (.loc 0) (.sub (.loc 1) (.int 1)), .bin .add (.loc 0) (.sub (.loc 1) (.int 1))]))]⟩
noncomputable def f_law : Fn := ⟨1, ["_law_script", "_law_keys_here", "_law_rows", "_law_handed", "_law_found", "_law_amounts", "_law_due", "_law_key", "_law_wish_here", "_law_amount", "_law_told", ""], [.assign 1 (.call 103 [.call 100 [.loc 0, .int 0]]), .assign 2 (.comp none 11 false (.slice (.loc 0) (some (.int 1)) none) none (.tup [.sub (.loc 1) (.bin .mod (.bin .fdiv (.loc 11) (.int 5)) (.prim .len [.loc 1])), .call 102 [.bin .fdiv (.bin .mul (.bin .add (.loc 11) (.int 3)) (.int 48271)) (.int 7)]])), .assign 3 (.lstM 39 [.prim .list1 [.loc 1], .prim .list1 [.loc 2]]), .assign 4 (.call 3 [.sub (.loc 3) (.int 0), .sub (.loc 3) (.int 1)]), .assign 5 (.dictM 31 [] []), .assign 6 (.lstM 32 []), .for_ (.inr [.loc 7, .loc 8]) false (.loc 2) [.unpack [.loc 9, .loc 10] (.call 104 [.bm .get (.loc 5) [.loc 7, .int 0], .loc 8]), .setitem (.loc 5) (.loc 7) (.loc 9), .expr (.bm .append (.loc 6) [.loc 10])], .ret (some (.and [.call 101 [.loc 4, .loc 6], .cmp (.loc 3) .eq (.lst [.loc 1, .loc 2])]))]⟩
noncomputable def fnl : List (Nat × Fn) := [(2, f_done), (3, f_played), (100, f_law_cell_at), (101, f_law_alike), (102, f_law_wish), (103, f_law_keys), (104, f_law_done), (105, f_law)]
noncomputable def mel : List ((Nat × Nat) × Nat) := []
noncomputable def inl : List (Nat × (Nat × Nat)) := []
noncomputable def fnn : List (Nat × PySem.Str) := [(2, "done"), (3, "played"), (100, "_law_cell_at"), (101, "_law_alike"), (102, "_law_wish"), (103, "_law_keys"), (104, "_law_done"), (105, "law")]
noncomputable def prog : Prog := ⟨fun f => fnl.lookup f, fun c m => mel.lookup (c, m), fun c => inl.lookup c, fun c => if c = 0 then [0] else [c, 0]⟩

end Mine.L02
end

section
namespace Mine.L02
open Mine

theorem p_cell : prog.fns 100 = some f_cell := rfl
theorem p_alike : prog.fns 101 = some (f_alike 101) := rfl
theorem p_wish : prog.fns 102 = some f_wish := rfl
theorem p_keys : prog.fns 103 = some f_keys := rfl
theorem run_done (n : Nat) (a : Int) (w : W) (s : MS) : run prog (n + 1) 2 [.int a, wv w] s = .ok (.tup [.int (dn a w).1, .int (dn a w).2]) s := by
  refine okr_eq (okr_run (fn := f_done) rfl rfl ?_)
  cases w <;> exact ⟨rfl, rfl⟩
theorem run_ldone (n : Nat) (a : Int) (w : W) (s : MS) : run prog (n + 1) 104 [.int a, wv w] s = .ok (.tup [.int (dn a w).1, .int (dn a w).2]) s := by
  refine okr_eq (okr_run (fn := f_law_done) rfl rfl ?_)
  cases w <;> exact ⟨rfl, rfl⟩

noncomputable def told (m : List Nat → Int) : List (List Nat × W) → List Int
  | [] => []
  | (k, w) :: r => (dn (m k) w).2 :: told (fun x => if x = k then (dn (m k) w).1 else m x) r
theorem told_len (m : List Nat → Int) (r : List (List Nat × W)) : (told m r).length = r.length := by
  induction r generalizing m with
  | nil => rfl
  | cons p r ih => obtain ⟨k, w⟩ := p; simp [told, ih]
noncomputable def rowV (p : List Nat × W) : V := .tup [.str p.1, wv p.2]

noncomputable def I1 (ks : List (List Nat)) (rows : List (List Nat × W)) (s : MS) (rem : List V) (l : Loc) (t : MS) : Prop :=
  ∃ (x : Option V) (dk rk : List (List Nat)) (d : List (V × V)), rem = rk.map .str ∧ ks = dk ++ rk ∧ d.length ≤ dk.length ∧
      l = [some (.lst (ks.map .str)), some (.lst (rows.map rowV)), some (.ref (15, s.cnt 15)), x, none, none, none] ∧
      t.heap (15, s.cnt 15) = some (.dict d) ∧ (∀ k ∈ dk, dfind (.str k) d = some (.int 0)) ∧ (∀ l : Lbl, l.1 ≠ 15 → t.heap l = s.heap l) ∧ (∀ k, k ≠ 15 → t.cnt k = s.cnt k)
noncomputable def I2 (ks : List (List Nat)) (rows : List (List Nat × W)) (s : MS) (rem : List V) (l : Loc) (t : MS) : Prop :=
  ∃ (x y z : Option V) (rr : List (List Nat × W)) (d : List (V × V)) (m : List Nat → Int) (acc : List Int), rem = rr.map rowV ∧ d.length + rr.length ≤ 200 ∧
      (∀ p ∈ rr, p.1 ∈ ks) ∧
      l = [some (.lst (ks.map .str)), some (.lst (rows.map rowV)), some (.ref (15, s.cnt 15)), x, some (.ref (16, s.cnt 16)), y, z] ∧
      t.heap (15, s.cnt 15) = some (.dict d) ∧ (∀ k ∈ ks, dfind (.str k) d = some (.int (m k))) ∧ 
      t.heap (16, s.cnt 16) = some (.list (acc.map .int)) ∧ acc ++ told m rr = told (fun _ => 0) rows ∧
      (∀ l : Lbl, l.1 ≠ 15 → l.1 ≠ 16 → t.heap l = s.heap l) ∧ (∀ k, k ≠ 15 → k ≠ 16 → t.cnt k = s.cnt k)

theorem run_played (n : Nat) (ks : List (List Nat)) (rows : List (List Nat × W)) (s : MS) (hk : ks.length ≤ 6) (hr : rows.length ≤ 100) (hin : ∀ p ∈ rows, p.1 ∈ ks) :
    OkR (run prog (n + 2) 3 [.lst (ks.map .str), .lst (rows.map rowV)] s) fun v t => v = .ref (16, s.cnt 16) ∧
      t.heap (16, s.cnt 16) = some (.list ((told (fun _ => 0) rows).map .int)) ∧ (∀ l : Lbl, l.1 ≠ 15 → l.1 ≠ 16 → t.heap l = s.heap l) ∧ (∀ k, k ≠ 15 → k ≠ 16 → t.cnt k = s.cnt k) := by
  refine okr_run (fn := f_played) rfl rfl (st_assign (v := .ref (15, s.cnt 15)) (s' := s.new 15 (.dict [])) rfl rfl (st_for (s' := s.new 15 (.dict [])) (v := .lst (ks.map .str)) rfl rfl rfl (okr_for (I1 ks rows s) ?_ ?_ _ _ _ ?_)))
  · intro x r l t ⟨y, dk, rk, d, h1, h2, h3, h4, h5, h6, h7, h8⟩
    refine ⟨stays_lst .., ?_⟩
    cases rk with
    | nil => cases h1
    | cons k rk =>
      cases h1
      have hd : d.length < 16777216 := by rw [h2] at hk; simp at hk; omega
      subst h4
      refine st_setitem (s1 := t) (s2 := t) (s3 := t) rfl rfl rfl (setItem_dict t (15, s.cnt 15) d k (.int 0) h5 hd) (st_nil ?_)
      refine ⟨_, dk ++ [k], rk, dput (.str k) (.int 0) d, rfl, by rw [h2]; simp, ?_, rfl, if_pos rfl, ?_, ?_, ?_⟩
      · have := dput_len (.str k) (.int 0) d; rw [List.length_append]; exact Nat.le_trans this (Nat.succ_le_succ h3)
      · intro k' hk'
        rw [dfind_dput]
        split
        · rfl
        · rcases List.mem_append.1 hk' with h | h
          · exact h6 _ h
          · rename_i ne; exact (ne (by rw [List.mem_singleton.1 h])).elim
      · intro l hl
        rw [put_heap, if_neg (by rintro rfl; exact hl rfl)]; exact h7 _ hl
      · exact h8
  · intro l t ⟨y, dk, rk, d, h1, h2, h3, h4, h5, h6, h7, h8⟩
    refine ⟨stays_lst .., ?_⟩
    have : rk = [] := by cases rk with | nil => rfl | cons => cases h1
    subst this
    rw [List.append_nil] at h2
    subst h2 h4
    have e16 : t.cnt 16 = s.cnt 16 := h8 16 (by decide)
    refine st_assign (v := .ref (16, t.cnt 16)) (s' := t.new 16 (.list [])) rfl rfl (st_for (s' := t.new 16 (.list [])) (v := .lst (rows.map rowV)) rfl rfl rfl ?_)
    rw [e16]
    refine okr_for (I2 ks rows s) ?_ ?_ _ _ _ ?_
    · intro x r l t ⟨x1, x2, x3, rr, d, m, acc, h1, h2, h3, h4, h5, h6, h7, h8, h9, h10⟩
      refine ⟨stays_lst .., ?_⟩
      cases rr with
      | nil => cases h1
      | cons p rr =>
        obtain ⟨k, w⟩ := p
        cases h1
        subst h4
        have hm := h6 k (h3 (k, w) (List.mem_cons_self ..))
        have hd : d.length < 16777216 := by rw [List.length_cons] at h2; omega
        have ha : (acc.map V.int).length < 16777216 := by
          have := congrArg List.length h8
          rw [List.length_append, told_len, told_len, List.length_cons] at this
          rw [List.length_map]; omega
        have e7 : (t.put (15, s.cnt 15) (.dict (dput (.str k) (.int (dn (m k) w).1) d))).heap (16, s.cnt 16) = some (.list (acc.map V.int)) := by
          rw [put_heap, if_neg (by simp)]; exact h7
        refine st_assign (s' := t) (e_call (s1 := t) (e_cons (s1 := t) (e_sub (s1 := t) (s2 := t) (x := .ref (15, s.cnt 15)) (y := .str k) rfl rfl (i_dict t _ d k _ h5 hm)) (e_cons (v := wv w) (s1 := t) rfl rfl)) (run_done n (m k) w t)) rfl
          (st_setitem (s1 := t) (s2 := t) (s3 := t) (v := .int (dn (m k) w).1) (x := .ref (15, s.cnt 15)) (y := .str k) rfl rfl rfl (setItem_dict t (15, s.cnt 15) d k _ h5 hd)
          (st_expr (e_bm (s1 := t.put (15, s.cnt 15) (.dict (dput (.str k) (.int (dn (m k) w).1) d))) (s2 := t.put (15, s.cnt 15) (.dict (dput (.str k) (.int (dn (m k) w).1) d))) (x := .ref (16, s.cnt 16)) (vs := [.int (dn (m k) w).2]) rfl (bm_list e7) rfl (append_at _ _ (acc.map V.int) _ e7 ha)) (st_nil ?_)))
        refine ⟨_, _, _, rr, dput (.str k) (.int (dn (m k) w).1) d, fun x => if x = k then (dn (m k) w).1 else m x, acc ++ [(dn (m k) w).2], rfl, ?_, ?_, rfl, ?_, ?_, ?_, ?_, ?_, ?_⟩
        · have := dput_len (.str k) (.int (dn (m k) w).1) d; rw [List.length_cons] at h2; omega
        · exact fun p hp => h3 p (List.mem_cons_of_mem _ hp)
        · rw [put_heap, if_neg (by simp), put_heap, if_pos rfl]
        · intro k' hk'
          rw [dfind_dput]
          by_cases e : k' = k
          · simp [e]
          · simp [e, h6 k' hk']
        · rw [put_heap, if_pos rfl, List.map_append]; rfl
        · rw [← h8, told, List.append_assoc]; rfl
        · intro l hl hl'
          rw [put_heap, if_neg (by rintro rfl; exact hl' rfl), put_heap, if_neg (by rintro rfl; exact hl rfl)]
          exact h9 l hl hl'
        · exact h10
    · intro l t ⟨x1, x2, x3, rr, d, m, acc, h1, h2, h3, h4, h5, h6, h7, h8, h9, h10⟩
      refine ⟨stays_lst .., ?_⟩
      have : rr = [] := by cases rr with | nil => rfl | cons => cases h1
      subst this h4
      rw [told, List.append_nil] at h8
      subst h8
      rw [seqQ_next]
      exact st_ret (v := .ref (16, s.cnt 16)) rfl ⟨rfl, h7, h9, h10⟩
    · refine ⟨_, _, _, rows, d, fun _ => 0, [], rfl, by omega, hin, rfl, ?_, h6, ?_, rfl, ?_, ?_⟩
      · rw [new_heap, if_neg (by simp)]; exact h5
      · rw [new_heap, e16, if_pos rfl]; rfl
      · intro l h h'
        rw [new_heap, if_neg (by rintro rfl; exact h' rfl)]; exact h7 l h
      · intro k h h'
        rw [new_cnt, if_neg h']; exact h8 k h
  · refine ⟨_, [], ks, [], rfl, rfl, Nat.zero_le _, rfl, if_pos rfl, fun _ h => (List.not_mem_nil h).elim, ?_, ?_⟩
    · intro l h
      rw [new_heap, if_neg (by rintro rfl; exact h rfl)]
    · intro k h
      rw [new_cnt, if_neg h]

theorem rows_ex (ks : List (List Nat)) : ∀ l : List V, (∀ v ∈ l, ∃ p : List Nat × W, p.1 ∈ ks ∧ v = rowV p) → ∃ rows : List (List Nat × W), l = rows.map rowV ∧ ∀ p ∈ rows, p.1 ∈ ks
  | [], h => ⟨[], rfl, by simp⟩
  | v :: r, h => by
    obtain ⟨p, hp, rfl⟩ := h v (by simp)
    obtain ⟨rows, rfl, hr⟩ := rows_ex ks r (fun w hw => h w (by simp [hw]))
    refine ⟨p :: rows, rfl, fun q hq => ?_⟩
    rcases List.mem_cons.1 hq with rfl | hq
    · exact hp
    · exact hr q hq
noncomputable def I3 (L : List (Option V)) (rows : List (List Nat × W)) (s : MS) (rem : List V) (l : Loc) (t : MS) : Prop :=
  ∃ (x1 x2 x3 x4 : Option V) (rr : List (List Nat × W)) (d : List (V × V)) (m : List Nat → Int) (acc : List Int), rem = rr.map rowV ∧ d.length + rr.length ≤ 200 ∧
      l = L ++ [some (.ref (31, s.cnt 31)), some (.ref (32, s.cnt 32)), x1, x2, x3, x4, none] ∧
      t.heap (31, s.cnt 31) = some (.dict d) ∧ (∀ k, (dfind (.str k) d).getD (.int 0) = .int (m k)) ∧ 
      t.heap (32, s.cnt 32) = some (.list (acc.map .int)) ∧ acc ++ told m rr = told (fun _ => 0) rows ∧
      (∀ l : Lbl, l.1 ≠ 31 → l.1 ≠ 32 → t.heap l = s.heap l)

theorem row_ok (n : Nat) (L : Loc) (ks : List (List Nat)) (i : Int) (t : MS) (hk0 : 0 < ks.length) (h1 : L[1]? = some (some (.lst (ks.map .str)))) (h11 : L[11]? = some (some (.int i))) :
    OkR (ev prog (run prog (n + 4)) (.tup [.sub (.loc 1) (.bin .mod (.bin .fdiv (.loc 11) (.int 5)) (.prim .len [.loc 1])), .call 102 [.bin .fdiv (.bin .mul (.bin .add (.loc 11) (.int 3)) (.int 48271)) (.int 7)]]) L t) fun v u => u = t ∧ ∃ p : List Nat × W, p.1 ∈ ks ∧ v = rowV p := by
  have hz : ((ks.map V.str).length : Int) = ks.length := by rw [List.length_map]
  have l1 : ev prog (run prog (n + 4)) (.loc 1) L t = .ok (.lst (ks.map .str)) t := by rw [ev_loc, h1]
  have l11 : ev prog (run prog (n + 4)) (.loc 11) L t = .ok (.int i) t := by rw [ev_loc, h11]
  have hlen : prim .len [.lst (ks.map .str)] t = .ok (.int ks.length) t := by rw [← hz]; rfl
  have h2 : 0 ≤ (i.fdiv 5).fmod ks.length := by rw [fmod_pos _ _ (by omega)]; exact Int.emod_nonneg _ (by omega)
  have h3 : (i.fdiv 5).fmod ks.length < (ks.map V.str).length := by rw [fmod_pos _ _ (by omega), hz]; exact Int.emod_lt_of_pos _ (by omega)
  have hne : ¬ (ks.length : Int) = 0 := by omega
  have e1 := e_sub l1 (e_bin (o := .mod) (e_bin (o := .fdiv) (b := .int 5) l11 rfl (rfl : binOp .fdiv (.int i) (.int 5) t = .ok (.int (i.fdiv 5)) t)) (e_prim (p := .len) (e_cons (es := []) l1 rfl) hlen) (if_neg hne : binOp .mod (.int (i.fdiv 5)) (.int ks.length) t = .ok (.int ((i.fdiv 5).fmod ks.length)) t)) (i_lst _ _ t h2 h3)
  have e2 := e_call (f := 102) (e_cons (es := []) (e_bin (o := .fdiv) (e_bin (o := .mul) (e_bin (o := .add) (b := .int 3) l11 rfl rfl) (b := .int 48271) rfl (b_mulR (i + 3) 48271 t (by decide) (by decide))) (b := .int 7) rfl rfl) rfl) (run_wish p_wish (n + 3) (((i + 3) * 48271).fdiv 7) t)
  refine okr_of (bind_eq (e_cons e1 (e_cons e2 rfl)) rfl) ⟨rfl, (ks[((i.fdiv 5).fmod ks.length).toNat]'(by rw [List.length_map] at h3; omega), wishOf (((i + 3) * 48271).fdiv 7)), List.getElem_mem _, ?_⟩
  rw [List.getElem_map]; rfl

theorem law_ok (n : Nat) (l : List Int) (s : MS) (hl : l.length ≤ 63) : OkR (run prog (n + 5) 105 [.lst (l.map .int)] s) fun v _ => v = .bool true := by
  refine okr_run (fn := f_law) rfl rfl ?_
  refine st_assignQ (e_callQ (e_cons (e_call (e_cons rfl (e_cons rfl rfl)) (run_cell0 p_cell (n + 3) l s)) rfl) (run_keys p_keys (n + 3) _ s)) rfl ?_
  rintro v t ⟨rfl, ks, hk0, hk6, rfl⟩
  refine st_assignQ (R := fun v u => u = t ∧ ∃ rows : List (List Nat × W), v = .lst (rows.map rowV) ∧ rows.length ≤ 62 ∧ ∀ p ∈ rows, p.1 ∈ ks) (e_compQ (e_slice rfl rfl rfl (sl_lst (l.map V.int) 1 t)) rfl ?_) rfl ?_
  · refine okr_comp (fun v => ∃ p : List Nat × W, p.1 ∈ ks ∧ v = rowV p) (stays_lst ..) (by simp [sizeMax]; omega) ?_ ?_
    · intro x hx
      obtain ⟨i, -, rfl⟩ := List.mem_map.1 (List.mem_of_mem_drop hx)
      exact row_ok n _ ks i t hk0 rfl rfl
    · intro vs h1 h2
      obtain ⟨rows, rfl, hrows⟩ := rows_ex ks vs h2
      exact ⟨rfl, rows, rfl, by simp at h1; omega, hrows⟩
  rintro v u ⟨rfl, rows, rfl, hrl, hrows⟩
  generalize hpair : [V.lst (ks.map .str), V.lst (rows.map rowV)] = pair
  refine st_assign (v := .ref (39, u.cnt 39)) (s' := u.new 39 (.list pair)) (by rw [← hpair]; rfl) rfl ?_
  generalize hu0 : u.new 39 (.list pair) = u0
  have e0 : u0.heap (39, u.cnt 39) = some (.list pair) := by rw [← hu0, new_heap, if_pos rfl]
  have g0 : ∀ i : Nat, ∀ h : i < pair.length, getItem (.ref (39, u.cnt 39)) (.int i) u0 = .ok (pair[i]) u0 := fun i h => i_ref u0 _ pair i e0 (by omega) (by omega)
  subst hpair
  refine st_assignQ (e_callQ (e_cons (e_sub rfl rfl (g0 0 (by show 0 < 2; decide))) (e_cons (e_sub rfl rfl (g0 1 (by show 1 < 2; decide))) rfl)) (run_played (n + 2) ks rows u0 hk6 (by omega) hrows)) rfl ?_
  rintro v w ⟨rfl, hw1, hw2, hw3⟩
  have e39 : w.heap (39, u.cnt 39) = some (.list [V.lst (ks.map .str), V.lst (rows.map rowV)]) := by rw [hw2 _ (by simp) (by simp)]; exact e0
  have e32 : (w.new 31 (.dict [])).cnt 32 = w.cnt 32 := rfl
  refine st_assign (v := .ref (31, w.cnt 31)) (s' := w.new 31 (.dict [])) rfl rfl (st_assign (v := .ref (32, w.cnt 32)) (s' := (w.new 31 (.dict [])).new 32 (.list [])) rfl rfl (st_for (v := .lst (rows.map rowV)) (s' := (w.new 31 (.dict [])).new 32 (.list [])) rfl rfl rfl ?_))
  refine okr_for (I3 [some (V.lst (List.map V.int l)), some (V.lst (List.map V.str ks)), some (V.lst (List.map rowV rows)), some (.ref (39, u.cnt 39)), some (.ref (16, u0.cnt 16))] rows w) ?_ ?_ _ _ _ ?_
  · intro x r l t ⟨x1, x2, x3, x4, rr, d, m, acc, h1, h2, h4, h5, h6, h7, h8, h9⟩
    refine ⟨stays_lst .., ?_⟩
    cases rr with
    | nil => cases h1
    | cons p rr =>
      obtain ⟨k, wi⟩ := p
      cases h1
      subst h4
      have hd : d.length < 16777216 := by rw [List.length_cons] at h2; omega
      have ha : (acc.map V.int).length < 16777216 := by
        have := congrArg List.length h8
        rw [List.length_append, told_len, told_len, List.length_cons] at this
        rw [List.length_map]; omega
      have e7 : (t.put (31, w.cnt 31) (.dict (dput (.str k) (.int (dn (m k) wi).1) d))).heap (32, w.cnt 32) = some (.list (acc.map V.int)) := by
        rw [put_heap, if_neg (by simp)]; exact h7
      refine st_unpack (s1 := t) (s' := t) (e_call (s1 := t) (e_cons (s1 := t) (e_bm (s1 := t) (s2 := t) (x := .ref (31, w.cnt 31)) (vs := [.str k, .int 0]) rfl (bm_dict h5) rfl (get_dict t _ d k (.int 0) h5)) (e_cons (v := wv wi) (s1 := t) rfl rfl)) ((congrArg (fun z => run prog (n + 4) 104 [z, wv wi] t) (h6 k)).trans (run_ldone (n + 3) (m k) wi t))) rfl
        (st_setitem (s1 := t) (s2 := t) (s3 := t) (v := .int (dn (m k) wi).1) (x := .ref (31, w.cnt 31)) (y := .str k) rfl rfl rfl (setItem_dict t (31, w.cnt 31) d k _ h5 hd)
        (st_expr (e_bm (s1 := t.put (31, w.cnt 31) (.dict (dput (.str k) (.int (dn (m k) wi).1) d))) (s2 := t.put (31, w.cnt 31) (.dict (dput (.str k) (.int (dn (m k) wi).1) d))) (x := .ref (32, w.cnt 32)) (vs := [.int (dn (m k) wi).2]) rfl (bm_list e7) rfl (append_at _ _ (acc.map V.int) _ e7 ha)) (st_nil ?_)))
      refine ⟨_, _, _, _, rr, dput (.str k) (.int (dn (m k) wi).1) d, fun x => if x = k then (dn (m k) wi).1 else m x, acc ++ [(dn (m k) wi).2], rfl, ?_, rfl, ?_, ?_, ?_, ?_, ?_⟩
      · have := dput_len (.str k) (.int (dn (m k) wi).1) d; rw [List.length_cons] at h2; omega
      · rw [put_heap, if_neg (by simp), put_heap, if_pos rfl]
      · intro k'
        rw [dfind_dput]
        by_cases e : k' = k
        · simp [e]
        · simp [e, h6 k']
      · rw [put_heap, if_pos rfl, List.map_append]; rfl
      · rw [← h8, told, List.append_assoc]; rfl
      · intro l hl hl'
        rw [put_heap, if_neg (by rintro rfl; exact hl' rfl), put_heap, if_neg (by rintro rfl; exact hl rfl)]
        exact h9 l hl hl'
  · intro l v ⟨x1, x2, x3, x4, rr, d, m, acc, h1, h2, h4, h5, h6, h7, h8, h9⟩
    refine ⟨stays_lst .., ?_⟩
    have : rr = [] := by cases rr with | nil => rfl | cons => cases h1
    subst this h4
    rw [told, List.append_nil] at h8
    subst h8
    have e16 : v.heap (16, u0.cnt 16) = some (.list ((told (fun _ => 0) rows).map .int)) := by
      rw [h9 _ (by simp) (by simp)]; exact hw1
    have e39 : v.heap (39, u.cnt 39) = some (.list [V.lst (List.map V.str ks), V.lst (List.map rowV rows)]) := by
      rw [h9 _ (by simp) (by simp)]; exact e39
    have hal := run_alike p_alike 1 (n + 2) (.ref (16, u0.cnt 16)) (.ref (32, w.cnt 32)) v (alike_refs e16 h7 (by rw [List.length_map, told_len]; omega) (AllA.map _ fun x _ => alike_int _ x))
    have hveq : veq v eqDeep (.ref (39, u.cnt 39)) (.lst [V.lst (List.map V.str ks), V.lst (List.map rowV rows)]) = some true := by
      refine veq_ref v 11 _ _ e39 ?_
      intro x hx
      simp only [List.mem_cons, List.not_mem_nil, or_false] at hx
      rcases hx with rfl | rfl
      · refine veq_lst v 10 _ ?_
        intro x hx
        obtain ⟨k, _, rfl⟩ := List.mem_map.1 hx
        exact (veq_str v 9 k k).trans (congrArg some (decide_eq_true rfl))
      · refine veq_lst v 10 _ ?_
        intro x hx
        obtain ⟨⟨k, wi⟩, _, rfl⟩ := List.mem_map.1 hx
        refine veq_tup v 9 _ ?_
        intro x hx
        simp only [List.mem_cons, List.not_mem_nil, or_false] at hx
        rcases hx with rfl | rfl
        · exact (veq_str v 8 k k).trans (congrArg some (decide_eq_true rfl))
        · cases wi <;> simp [wv, veq, seqOf, zipAll, eqFlat]
    rw [seqQ_next]
    refine st_ret (v := .bool true) (s' := v) ?_ rfl
    exact e_andT (e_call (e_cons rfl (e_cons rfl rfl)) hal) (e_and1 (e_cmp (s1 := v) (s2 := v) (x := .ref (39, u.cnt 39)) (y := .lst [V.lst (List.map V.str ks), V.lst (List.map rowV rows)]) rfl rfl (congrArg (okB v) hveq)))
  · refine ⟨_, _, _, _, rows, [], fun _ => 0, [], rfl, by show 0 + rows.length ≤ 200; omega, rfl, ?_, fun _ => rfl, if_pos rfl, rfl, ?_⟩
    · rw [new_heap, if_neg (by simp), new_heap, if_pos rfl]
    · intro l h h'
      rw [new_heap, if_neg (by rintro rfl; exact h' rfl), new_heap, if_neg (by rintro rfl; exact h rfl)]
end Mine.L02
end

section
open PySem PySem.W PyProof.Rows
set_option maxRecDepth 100000
set_option maxHeartbeats 8000000
namespace Mine.L02
open_top hd for PySem.Challenge.rw_uf030007_02
end Mine.L02
end

section
open PySem PySem.W PyProof.Rows
set_option maxRecDepth 100000
set_option maxHeartbeats 8000000
namespace Mine.L02
noncomputable def nm : Names where
  fn f := (fnn.lookup f).getD Str.empty
  cls c := (["World", "House", "Caller"] : List PySem.Str)[c]?.getD Str.empty
  meth m := (["has", "owes", "came", "called", "parcel", "move", "write", "sleep", "nudge", "begin", "letter", "asking", "answers", "need_caller", "need_house", "need_key", "need_place", "call", "again", "letters", "brought", "hand", "twice", "lose", "home", "ledger", "is_settled", "one_round", "settle"] : List PySem.Str)[m]?.getD Str.empty
  attr := attrName
  exc c := (["MoveError", "BadWorld", "NoCaller", "NoHouse", "NoKey", "BadWish", "Busy", "Idle", "NotHere", "NoLetter"] : List PySem.Str)[c]?.getD Str.empty
  gi := []
  gs := []
noncomputable def tab : Tab := ⟨[(2, 21), (3, 28), (100, 35), (101, 40), (102, 47), (103, 52), (104, 59), (105, 64)], [], fnl, mel, inl⟩
end Mine.L02
open Mine in
theorem PySem.Challenge.cw_uf030007_02_holds : PySem.Challenge.rw_uf030007_02.Holds := by
  refine L02.hd ?_
  k_fill
  intro w s₀ s₁ mg mb G Y fa o pm cd doc dV kV ho hd hcd hD hmg hg args vals as hpre hlay hrd hwl hlo
  have KX := kIn_of Y
  clear ho hd hcd hD
  refine Ground.open G ?_
  intro T B D TE TW
  wrow_args hpre hlay hrd hwl hlo
  refine enter_call ?_
  rename_i ns hs h0 hlay hx1 hx2 a1 a2 la vs a3 hL ra w1 r0 hI rr hc1 hc2
  have hlen : ns.length ≤ 63 := by omega
  have hbits : ∀ i ∈ ns, intBits i ≤ 1048576 := bits_lay hlay
  have S := stat_of (T := L02.tab) (eb := fun c => if c = 0 then [0] else [c, 0]) (N := L02.nm) (prog := PySem.Challenge.rw_uf030007_02.row.prog) (w := w) rfl KX T.g T.b T.builtins T.nolimit (by kernel_rfl) (by kernel_rfl) (by kernel_rfl) (by kernel_rfl) (by kernel_rfl)
  have hfa : fa = 64 := by
    have e := globIn_ok KX T.g (by kernel_rfl) (Str.ofString "law")
    have e3 := hmg.symm.trans (e.trans (b := globIn _ _) (c := some (Value.ref 64)) (by kernel_rfl))
    cases e3; rfl
  subst hfa
  obtain ⟨v, st', hrun, rfl⟩ := okr_elim (L02.law_ok 15 ns st0 hlen)
  cases w1 with
  | list hz _ =>
    rename_i vs' _
    have hvs : vs' = vs := by
      obtain ⟨o, h1, h2, n, h3⟩ := hL
      rw [hz] at h1
      cases h1
      simp at h3; exact h3.1
    subst hvs
    refine law_close S (by kernel_rfl) (n := 20) (law := 105) ⟨rfl, by decide, by decide⟩ rfl hz hlen hI hrun fun s' hk hos hgens => GoodW.toG ?_
    refine ⟨.inl ⟨.bool true, .bool true, [], rfl, raisesW_false (by wrow_none_raised), ?_, ?_, fun _ => ⟨List.nodup_nil, fun a h => by cases h⟩⟩, hk, hos, hgens.trans hg⟩
    · constructor
    · wrow_post
end
