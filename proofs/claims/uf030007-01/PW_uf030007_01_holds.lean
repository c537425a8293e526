import PyProof.Rows.All
import Wide.All
import OpenK.AllK
import Wide.FinOn
import Lean
import PySem.Challenge.RW_uf030007_01

set_option Elab.async false
set_option autoImplicit false
set_option linter.all false

section
set_option genInjectivity false
set_option genSizeOf false
set_option genInjectivity false
set_option genSizeOf false
namespace Mine

noncomputable abbrev Lbl := Nat × Nat

inductive V where
  | none
  | bool (b : Bool)
  | int (i : Int)
  | str (s : List Nat)
  | tup (l : List V)
  | lst (l : List V)
  | ref (l : Lbl)
  | exc (c : Nat)

noncomputable instance : DecidableEq V := fun a b => Classical.propDecidable (a = b)

set_option genSizeOf false
inductive MObj where
  | list (l : List V)
  | dict (l : List (V × V))
  | tdict (l : List ((Int × List Nat) × V))
  | inst (c : Nat) (as : List (Nat × V))
noncomputable instance : DecidableEq MObj := fun a b => Classical.propDecidable (a = b)

structure MS where
  heap : Lbl → Option MObj
  cnt : Nat → Nat
  wr : Nat

inductive Res (α : Type) where
  | ok (a : α) (s : MS)
  | exc (c : Nat) (s : MS)
  | stuck

noncomputable def Res.bind {α β : Type} : Res α → (α → MS → Res β) → Res β
  | .ok a s, f => f a s
  | .exc c s, _ => .exc c s
  | .stuck, _ => .stuck

noncomputable def Res.bnd {α β : Type} : Res α → (α → MS → Res β) → Res β
  | .ok a s, f => f a s
  | _, _ => .stuck

noncomputable def MS.put (s : MS) (l : Lbl) (o : MObj) : MS := { s with heap := fun x => if x = l then some o else s.heap x, wr := s.wr + 1 }
noncomputable def MS.next (s : MS) (k : Nat) : Lbl := (k, s.cnt k)
noncomputable def MS.new (s : MS) (k : Nat) (o : MObj) : MS := { s with heap := fun x => if x = (k, s.cnt k) then some o else s.heap x, cnt := fun j => if j = k then s.cnt k + 1 else s.cnt j }

inductive Bop where | add | sub | mul | fdiv | mod | pow
inductive Cop where | eq | ne | lt | le | gt | ge | isin | notin
inductive Kind where | int | bool | str | list | tuple | valueError | cls (c : Nat)
inductive Prim where | len | max2 | int1 | sorted | tuple1 | list1 | all1
inductive Bm where | append | extend | pop | insert | count | get | join | upper

inductive E where
  | none
  | bool (b : Bool)
  | int (i : Int)
  | str (s : List Nat)
  | loc (i : Nat)
  | gint (x : PySem.Str) (i : Int)
  | gstr (x : PySem.Str) (s : List Nat)
  | neg (a : E)
  | not (a : E)
  | and (l : List E)
  | or (l : List E)
  | bin (o : Bop) (a b : E)
  | cmp (a : E) (o : Cop) (b : E)
  | cmp2 (a : E) (o : Cop) (b : E) (o2 : Cop) (c : E)
  | isC (neg : Bool) (a : E) (c : V)
  | tup (l : List E)
  | lst (l : List E)
  | lstM (k : Nat) (l : List E)
  | dictM (k : Nat) (ks : List (List Nat)) (vs : List E)
  | tdictM (k : Nat)
  | tget (a : E) (l : List E)
  | sub (a b : E)
  | slice (a : E) (lo hi : Option E)
  | attr (a : E) (i : Nat)
  | call (f : Nat) (l : List E)
  | meth (a : E) (m : Nat) (l : List E)
  | new (c : Nat) (l : List E)
  | isinst (a : E) (ks : List Kind)
  | isX (a : E) (k : Nat)
  | prim (p : Prim) (l : List E)
  | listM (k : Nat) (a : E)
  | dictC (k : Nat) (a : E)
  | bm (m : Bm) (a : E) (l : List E)
  | comp (M : Option Nat) (slot : Nat) (range : Bool) (it : E) (cond : Option E) (elt : E)

inductive T where
  | loc (i : Nat)
  | item (a b : E)

inductive S where
  | expr (e : E)
  | assign (i : Nat) (e : E)
  | setattr (a : E) (i : Nat) (e : E)
  | setitem (a b e : E)
  | tset (a b e : E)
  | unpack (ts : List T) (e : E)
  | ite (c : E) (b1 b2 : List S)
  | for_ (ts : T ⊕ List T) (range : Bool) (it : E) (body : List S)
  | while_ (c : E) (body : List S)
  | ret (e : Option E)
  | raise (c : Nat)
  | tryM (a : E) (m : Nat) (es : List E) (c i : Nat) (b : List S)
  | tryC (f : Nat) (es : List E) (c i : Nat) (b : List S)
  | try_ (body : List S) (hs : List (Nat × Option Nat × List S))
  | pass

structure Fn where
  np : Nat
  names : List PySem.Str
  body : List S

noncomputable abbrev Loc := List (Option V)

structure Prog where
  fns : Nat → Option Fn
  meths : Nat → Nat → Option Nat
  inits : Nat → Option (Nat × Nat)   -- class: kind of its labels, its __init__
  excBase : Nat → List Nat           -- classes that an exception class is under (itself too)

inductive Fl where
  | next
  | ret (v : V)

noncomputable def seqOf (s : MS) : V → Option (Bool × List V)
  | .tup l => some (false, l)
  | .lst l => some (true, l)
  | .ref r => match s.heap r with
    | some (.list l) => some (true, l)
    | _ => Option.none
  | _ => Option.none

noncomputable def zipAll (f : V → V → Option Bool) : List V → List V → Option Bool
  | [], [] => some true
  | x :: la, y :: lb => match f x y, zipAll f la lb with
    | some p, some q => some (p && q)
    | _, _ => Option.none
  | [], _ :: _ => some false
  | _ :: _, [] => some false
noncomputable def eqNotSeq : V → Option Bool
  | .none => some false
  | .bool _ => some false
  | .int _ => some false
  | .str _ => some false
  | _ => Option.none
noncomputable def eqFlat (a b : V) : Option Bool := match a with
  | .none => (match b with | .none => some true | .bool _ => some false | .int _ => some false | .str _ => some false | _ => Option.none)
  | .bool x => (match b with | .none => some false | .bool y => some (x == y) | .str _ => some false | _ => Option.none)
  | .int x => (match b with | .none => some false | .int y => some (decide (x = y)) | .str _ => some false | _ => Option.none)
  | .str x => (match b with | .none => some false | .bool _ => some false | .int _ => some false | .str y => some (decide (x = y)) | _ => Option.none)
  | _ => Option.none
noncomputable def veq (s : MS) : Nat → V → V → Option Bool
  | 0, _, _ => Option.none
  | n + 1, a, b =>
    match seqOf s a, seqOf s b with
    | some p, some q => if p.1 = q.1 then (if p.1 = true ∧ p.2.length ≠ q.2.length then some false else zipAll (veq s n) p.2 q.2) else some false
    | some _, Option.none => eqNotSeq b
    | Option.none, some _ => eqNotSeq a
    | Option.none, Option.none => eqFlat a b

noncomputable def eqDeep : Nat := 12

noncomputable def sizeMax : Nat := 2 ^ 24

noncomputable def V.isKey : V → Bool
  | .str _ => true
  | _ => false
noncomputable def keyEq (a b : V) : Bool := match a with
  | .str x => (match b with | .str y => decide (x = y) | _ => false)
  | _ => false

noncomputable def dfind (k : V) : List (V × V) → Option V
  | [] => Option.none
  | (a, v) :: r => if keyEq a k then some v else dfind k r
noncomputable def dput (k v : V) : List (V × V) → List (V × V)
  | [] => [(k, v)]
  | (a, w) :: r => if keyEq a k then (a, v) :: r else (a, w) :: dput k v r

noncomputable def afind (k : Nat) : List (Nat × V) → Option V
  | [] => Option.none
  | (a, v) :: r => if a = k then some v else afind k r
noncomputable def aput (k : Nat) (v : V) : List (Nat × V) → List (Nat × V)
  | [] => [(k, v)]
  | (a, w) :: r => if a = k then (a, v) :: r else (a, w) :: aput k v r

noncomputable def idx (i : Int) (n : Nat) : Option Nat :=
  if 0 ≤ i then (if i < n then some i.toNat else Option.none) else (if 0 ≤ i + n then some (i + n).toNat else Option.none)

noncomputable def vin (s : MS) (x : V) : List V → Option Bool
  | [] => some false
  | y :: r => match veq s eqDeep y x, vin s x r with
    | some p, some q => some (p || q)
    | _, _ => Option.none

noncomputable def okV (s : MS) (o : Option V) : Res V := match o with
  | some v => .ok v s
  | Option.none => .stuck
noncomputable def okB (s : MS) (o : Option Bool) : Res V := match o with
  | some b => .ok (.bool b) s
  | Option.none => .stuck

noncomputable def intBits (i : Int) : Nat := if i = 0 then 0 else i.natAbs.log2 + 1
noncomputable def mulOk (a b : Int) : Bool := intBits a ≤ 64 || intBits b ≤ 64 || intBits a + intBits b ≤ 134217728

noncomputable def seqAdd (a b : V) (s : MS) : Res V :=
  match seqOf s a, seqOf s b with
  | some p, some q => if p.1 = q.1 ∧ p.2.length + q.2.length ≤ sizeMax then .ok (if p.1 then .lst (p.2 ++ q.2) else .tup (p.2 ++ q.2)) s else .stuck
  | _, _ => .stuck

noncomputable def int2 (a b : V) (f : Int → Int → Res V) : Res V := match a with
  | .int x => (match b with | .int y => f x y | _ => .stuck)
  | _ => .stuck
noncomputable def str2 (a b : V) (f : List Nat → List Nat → Res V) : Res V := match a with
  | .str x => (match b with | .str y => f x y | _ => .stuck)
  | _ => .stuck
noncomputable def binOp (o : Bop) (a b : V) (s : MS) : Res V :=
  match o with
  | .add => (match a with
    | .int _ => int2 a b fun x y => .ok (.int (x + y)) s
    | .str _ => str2 a b fun x y => if x.length + y.length ≤ sizeMax then .ok (.str (x ++ y)) s else .stuck
    | _ => seqAdd a b s)
  | .sub => int2 a b fun x y => .ok (.int (x - y)) s
  | .mul => int2 a b fun x y => if mulOk x y then .ok (.int (x * y)) s else .stuck
  | .fdiv => int2 a b fun x y => if y = 0 ∨ 64 < intBits y then .stuck else .ok (.int (x.fdiv y)) s
  | .mod => int2 a b fun x y => if y = 0 then .stuck else .ok (.int (x.fmod y)) s
  | .pow => int2 a b fun x y => if 0 ≤ y ∧ (intBits x : Int) * y ≤ 134217728 then .ok (.int (x ^ y.toNat)) s else .stuck
theorem int2_ok {a b v : V} {f : Int → Int → Res V} {s : MS} (h : int2 a b f = .ok v s) : ∃ x y, a = .int x ∧ b = .int y ∧ f x y = .ok v s := by
  cases a with
  | int x => cases b with
    | int y => exact ⟨x, y, rfl, rfl, h⟩
    | _ => cases h
  | _ => cases h
theorem str2_ok {a b v : V} {f : List Nat → List Nat → Res V} {s : MS} (h : str2 a b f = .ok v s) : ∃ x y, a = .str x ∧ b = .str y ∧ f x y = .ok v s := by
  cases a with
  | str x => cases b with
    | str y => exact ⟨x, y, rfl, rfl, h⟩
    | _ => cases h
  | _ => cases h
theorem ite_ok {c : Prop} [Decidable c] {a v : V} {s s' : MS} (h : (if c then Res.ok a s else .stuck) = .ok v s') : c ∧ a = v ∧ s = s' := by
  by_cases hc : c
  · rw [if_pos hc] at h; cases h; exact ⟨hc, rfl, rfl⟩
  · rw [if_neg hc] at h; cases h
theorem ite_no {c : Prop} [Decidable c] {a v : V} {s s' : MS} (h : (if c then .stuck else Res.ok a s) = .ok v s') : ¬ c ∧ a = v ∧ s = s' := by
  by_cases hc : c
  · rw [if_pos hc] at h; cases h
  · rw [if_neg hc] at h; cases h; exact ⟨hc, rfl, rfl⟩

noncomputable def cmpOp (o : Cop) (a b : V) (s : MS) : Res V :=
  match o with
  | .eq => okB s (veq s eqDeep a b)
  | .ne => okB s ((veq s eqDeep a b).map (!·))
  | .lt => match a, b with | .int x, .int y => .ok (.bool (decide (x < y))) s | _, _ => .stuck
  | .le => match a, b with | .int x, .int y => .ok (.bool (decide (x ≤ y))) s | _, _ => .stuck
  | .gt => match a, b with | .int x, .int y => .ok (.bool (decide (y < x))) s | _, _ => .stuck
  | .ge => match a, b with | .int x, .int y => .ok (.bool (decide (y ≤ x))) s | _, _ => .stuck
  | .isin => okB s (memb a b s)
  | .notin => okB s ((memb a b s).map (!·))
where
  memb (a b : V) (s : MS) : Option Bool :=
    match seqOf s b with
    | some (_, l) => vin s a l
    | Option.none => match b with
      | .str y => match a with | .str [c] => some (decide (c ∈ y)) | _ => Option.none
      | .ref r => match s.heap r with
        | some (.dict l) => if a.isKey then some (dfind a l).isSome else Option.none
        | _ => Option.none
      | _ => Option.none

noncomputable def getItem (a b : V) (s : MS) : Res V :=
  match b with
  | .int i => match a with
    | .str x => if x.length ≤ sizeMax then okV s ((idx i x.length).bind fun j => (x[j]?).map fun c => .str [c]) else .stuck
    | a => match seqOf s a with
      | some (_, l) => okV s ((idx i l.length).bind fun j => l[j]?)
      | Option.none => .stuck
  | b => match a with
    | .ref r => match s.heap r with
      | some (.dict l) => if b.isKey then okV s (dfind b l) else .stuck
      | _ => .stuck
    | _ => .stuck

noncomputable def listAt (a : V) (s : MS) : Option (Lbl × List V) :=
  match a with
  | .ref r => match s.heap r with
    | some (.list l) => some (r, l)
    | _ => Option.none
  | _ => Option.none
noncomputable def dictAt (a : V) (s : MS) : Option (Lbl × List (V × V)) :=
  match a with
  | .ref r => match s.heap r with
    | some (.dict l) => some (r, l)
    | _ => Option.none
  | _ => Option.none
noncomputable def setItem (a b v : V) (s : MS) : Res Unit :=
  match listAt a s with
  | some p => match b with
    | .int i => if 0 ≤ i ∧ i < p.2.length then .ok () (s.put p.1 (.list (p.2.set i.toNat v))) else .stuck
    | _ => .stuck
  | Option.none => match dictAt a s with
    | some p => if b.isKey ∧ p.2.length < sizeMax then .ok () (s.put p.1 (.dict (dput b v p.2))) else .stuck
    | Option.none => .stuck

noncomputable def tdictAt (a : V) (s : MS) : Option (Lbl × List ((Int × List Nat) × V)) :=
  match a with
  | .ref r => match s.heap r with
    | some (.tdict l) => some (r, l)
    | _ => Option.none
  | _ => Option.none
noncomputable def cutAt (d : Nat) : Option V → Option Nat
  | Option.none => some d
  | some (.int i) => if 0 ≤ i then some i.toNat else Option.none
  | _ => Option.none
noncomputable def getSlice (a : V) (lo hi : Option V) (s : MS) : Res V :=
  match a with
  | .str x => match cutAt 0 lo, cutAt x.length hi with
    | some i, some j => if x.length ≤ sizeMax then .ok (.str ((x.take j).drop i)) s else .stuck
    | _, _ => .stuck
  | a => match seqOf s a with
    | some (true, l) => match cutAt 0 lo, cutAt l.length hi with
      | some i, some j => .ok (.lst ((l.take j).drop i)) s
      | _, _ => .stuck
    | _ => .stuck

noncomputable def getAttr (a : V) (i : Nat) (s : MS) : Res V :=
  match a with
  | .ref r => match s.heap r with
    | some (.inst _ as) => okV s (afind i as)
    | _ => .stuck
  | _ => .stuck
noncomputable def setAttr (a : V) (i : Nat) (v : V) (s : MS) : Res Unit :=
  match a with
  | .ref r => match s.heap r with
    | some (.inst c as) => if as.length < 1000 then .ok () (s.put r (.inst c (aput i v as))) else .stuck
    | _ => .stuck
  | _ => .stuck

inductive Tag where | none | bool | int | str | tuple | list | dict
noncomputable def tagOf (s : MS) : V → Option Tag
  | .none => some .none
  | .bool _ => some .bool
  | .int _ => some .int
  | .str _ => some .str
  | .tup _ => some .tuple
  | .lst _ => some .list
  | .ref r => match s.heap r with
    | some (.list _) => some .list
    | some (.dict _) => some .dict
    | _ => Option.none
  | .exc _ => Option.none
noncomputable def kindHas (g : Tag) : Kind → Option Bool
  | .int => some (match g with | .int | .bool => true | _ => false)
  | .bool => some (match g with | .bool => true | _ => false)
  | .str => some (match g with | .str => true | _ => false)
  | .tuple => some (match g with | .tuple => true | _ => false)
  | .list => some (match g with | .list => true | _ => false)
  | .valueError => Option.none
  | .cls _ => Option.none
noncomputable def isKind (P : Prog) (s : MS) (v : V) (k : Kind) : Option Bool :=
  match v with
  | .exc d => match k with
    | .valueError => some true
    | .cls c => some ((P.excBase d).contains c)
    | _ => Option.none
  | v => match tagOf s v with
    | some g => kindHas g k
    | Option.none => Option.none
noncomputable def isKinds (P : Prog) (s : MS) (v : V) : List Kind → Option Bool
  | [] => some false
  | k :: r => match isKind P s v k with
    | some true => some true
    | some false => isKinds P s v r
    | Option.none => Option.none

noncomputable def allTrue : List V → Option Bool
  | [] => some true
  | .bool b :: r => (allTrue r).map (b && ·)
  | _ :: _ => Option.none

noncomputable def firstInt : V → Option Int
  | .tup (.int x :: _) => some x
  | _ => Option.none
noncomputable def rising : List Int → Bool
  | x :: y :: r => decide (x < y) && rising (y :: r)
  | _ => true
noncomputable def posOf (x : Int) : List Int → Nat
  | [] => 0
  | k :: r => if x < k then 0 else posOf x r + 1
noncomputable def wantL (m pos : Nat) : List Nat := List.range pos ++ m :: (List.range (m - pos)).map (pos + ·)
noncomputable def sortedLast (l : List V) : Option (List V) :=
  match l.reverse with
  | [] => some []
  | v :: r => match firstInt v, (r.reverse).mapM firstInt with
    | some x, some ks => if rising ks && !ks.contains x && decide (l.length ≤ 6) then some ((wantL ks.length (posOf x ks)).map fun i => l.getD i .none) else Option.none
    | _, _ => Option.none

noncomputable def lenV (v : V) (s : MS) : Res V :=
  match v with
  | .str x => if x.length ≤ sizeMax then .ok (.int x.length) s else .stuck
  | v => match seqOf s v with
    | some p => .ok (.int p.2.length) s
    | Option.none => .stuck
noncomputable def prim1 (p : Prim) (v : V) (s : MS) : Res V :=
  match p with
  | .len => lenV v s
  | .int1 => match v with
    | .bool b => .ok (.int (if b then 1 else 0)) s
    | _ => .stuck
  | .tuple1 => match seqOf s v with
    | some p => .ok (.tup p.2) s
    | Option.none => .stuck
  | .list1 => match seqOf s v with
    | some p => .ok (.lst p.2) s
    | Option.none => .stuck
  | .all1 => match v with
    | .lst l => okB s (allTrue l)
    | _ => .stuck
  | .sorted => match v with
    | .lst l => match sortedLast l with
      | some m => .ok (.lst m) s
      | Option.none => .stuck
    | _ => .stuck
  | .max2 => .stuck
noncomputable def prim2 (p : Prim) (v w : V) (s : MS) : Res V :=
  match p with
  | .max2 => match v, w with
    | .int x, .int y => .ok (.int (if x < y then y else x)) s
    | _, _ => .stuck
  | _ => .stuck
noncomputable def prim (p : Prim) (l : List V) (s : MS) : Res V :=
  match l with
  | [v] => prim1 p v s
  | [v, w] => prim2 p v w s
  | _ => .stuck

noncomputable def catStrs : List V → Option (List Nat)
  | [] => some []
  | .str x :: r => (catStrs r).map (x ++ ·)
  | _ => Option.none
noncomputable def allBool : List V → Bool
  | [] => true
  | .bool _ :: r => allBool r
  | _ => false
noncomputable def bm0 (m : Bm) (a : V) (s : MS) : Res V :=
  match m with
  | .upper => match a with
    | .str x => if x.all (fun c => decide (97 ≤ c) && decide (c ≤ 122)) && decide (x.length ≤ 1000) then .ok (.str (x.map (· - 32))) s else .stuck
    | _ => .stuck
  | _ => .stuck
noncomputable def bm1 (m : Bm) (a v : V) (s : MS) : Res V :=
  match m with
  | .append => match listAt a s with
    | some p => if p.2.length < sizeMax then .ok .none (s.put p.1 (.list (p.2 ++ [v]))) else .stuck
    | Option.none => .stuck
  | .extend => match listAt a s with
    | some p => match seqOf s v with
      | some q => if p.2.length + q.2.length ≤ sizeMax then .ok .none (s.put p.1 (.list (p.2 ++ q.2))) else .stuck
      | Option.none => .stuck
    | Option.none => .stuck
  | .pop => match listAt a s with
    | some p => match v with
      | .int i => match idx i p.2.length with
        | some j => match p.2[j]? with
          | some v => .ok v (s.put p.1 (.list (p.2.eraseIdx j)))
          | Option.none => .stuck
        | Option.none => .stuck
      | _ => .stuck
    | Option.none => .stuck
  | .count => match a with
    | .lst l => match v with
      | .bool b => if b && allBool l then .ok (.int (l.countP (· = .bool true))) s else .stuck
      | _ => .stuck
    | _ => .stuck
  | .join => match a with
    | .str x0 => match x0 with
      | [] => match v with
        | .lst l => match catStrs l with
          | some x => if x.length ≤ sizeMax then .ok (.str x) s else .stuck
          | Option.none => .stuck
        | _ => .stuck
      | _ :: _ => .stuck
    | _ => .stuck
  | _ => .stuck
noncomputable def bm2 (m : Bm) (a v w : V) (s : MS) : Res V :=
  match m with
  | .insert => match listAt a s, v with
    | some p, .int i => if 0 ≤ i ∧ i ≤ p.2.length ∧ p.2.length < sizeMax then .ok .none (s.put p.1 (.list (p.2.take i.toNat ++ w :: p.2.drop i.toNat))) else .stuck
    | _, _ => .stuck
  | .get => match dictAt a s with
    | some p => if v.isKey then .ok ((dfind v p.2).getD w) s else .stuck
    | Option.none => .stuck
  | _ => .stuck
noncomputable def bmeth (m : Bm) (a : V) (l : List V) (s : MS) : Res V :=
  match l with
  | [] => bm0 m a s
  | [v] => bm1 m a v s
  | [v, w] => bm2 m a v w s
  | _ => .stuck

noncomputable def itemsOf (s : MS) (range : Bool) (v : V) : Option (List V) :=
  match range with
  | true => match v with
    | .int n => if -1000 ≤ n ∧ n ≤ sizeMax then some ((List.range n.toNat).map fun (i : Nat) => .int i) else Option.none
    | _ => Option.none
  | false => match v with
    | .str x => if x.all (fun c => decide (c < 128)) then some (x.map fun c => .str [c]) else Option.none
    | v => match dictAt v s with
      | some p => some (p.2.map (·.1))
      | Option.none => (seqOf s v).map (·.2)
noncomputable def stays (s₀ s : MS) (range : Bool) (v : V) : Bool :=
  match range, v with
  | false, .ref r => decide (s₀.heap r = s.heap r) && ((dictAt v s₀).isNone || decide (s₀.wr = s.wr))
  | _, _ => true

noncomputable abbrev Calls := Nat → List V → MS → Res V

noncomputable def truth : V → MS → Res Bool
  | .bool b, s => .ok b s
  | _, _ => .stuck

noncomputable def makeInst (P : Prog) (C : Calls) (c : Nat) (vs : List V) (s : MS) : Res V :=
  match P.inits c with
  | some (k, f) => (C f (.ref (k, s.cnt k) :: vs) (s.new k (.inst c []))).bind fun r s' => match r with
    | .none => .ok (.ref (k, s.cnt k)) s'
    | _ => .stuck
  | Option.none => .stuck
noncomputable def methOf (P : Prog) (a : V) (m : Nat) (s : MS) : Option Nat :=
  match a with
  | .ref r => match s.heap r with
    | some (.inst c _) => P.meths c m
    | _ => Option.none
  | _ => Option.none
noncomputable def bmOk (m : Bm) (a : V) (s : MS) : Bool :=
  match m with
  | .count => match a with | .lst _ => true | _ => false
  | .join => match a with | .str _ => true | _ => false
  | .upper => match a with | .str _ => true | _ => false
  | .get => (dictAt a s).isSome
  | _ => (listAt a s).isSome

noncomputable def compLoop (s₀ : MS) (range : Bool) (src : V) (slot : Nat) (cond : Option (Loc → MS → Res V)) (elt : Loc → MS → Res V) (loc : Loc) : List V → List V → MS → Res (List V)
  | acc, [], s => if stays s₀ s range src then .ok acc s else .stuck
  | acc, x :: r, s =>
    if stays s₀ s range src then
      (match cond with
        | some c => (c (loc.set slot (some x)) s).bind truth
        | Option.none => .ok true s).bind fun b s =>
      if b then (elt (loc.set slot (some x)) s).bind fun v s => if acc.length < sizeMax then compLoop s₀ range src slot cond elt loc (acc ++ [v]) r s else .stuck
      else compLoop s₀ range src slot cond elt loc acc r s
    else .stuck
theorem compLoop_nil {s₀ : MS} {range : Bool} {src : V} {slot : Nat} {cond : Option (Loc → MS → Res V)} {elt : Loc → MS → Res V} {loc : Loc} {acc : List V} {s : MS} : compLoop s₀ range src slot cond elt loc acc [] s = if stays s₀ s range src then .ok acc s else .stuck := rfl
theorem compLoop_cons {s₀ : MS} {range : Bool} {src x : V} {r : List V} {slot : Nat} {cond : Option (Loc → MS → Res V)} {elt : Loc → MS → Res V} {loc : Loc} {acc : List V} {s : MS} : compLoop s₀ range src slot cond elt loc acc (x :: r) s =
    if stays s₀ s range src then
      (match cond with
        | some c => (c (loc.set slot (some x)) s).bind truth
        | Option.none => .ok true s).bind fun b s =>
      if b then (elt (loc.set slot (some x)) s).bind fun v s => if acc.length < sizeMax then compLoop s₀ range src slot cond elt loc (acc ++ [v]) r s else .stuck
      else compLoop s₀ range src slot cond elt loc acc r s
    else .stuck := rfl

mutual
noncomputable def ev (P : Prog) (C : Calls) : E → Loc → MS → Res V
  | .none, _, s => .ok .none s
  | .bool b, _, s => .ok (.bool b) s
  | .int i, _, s => .ok (.int i) s
  | .str x, _, s => .ok (.str x) s
  | .loc i, l, s => match l[i]? with
    | some (some v) => .ok v s
    | _ => .stuck
  | .gint _ i, _, s => .ok (.int i) s
  | .gstr _ x, _, s => .ok (.str x) s
  | .neg a, l, s => (ev P C a l s).bind fun v s => match v with
    | .int i => .ok (.int (-i)) s
    | _ => .stuck
  | .not a, l, s => (ev P C a l s).bind fun v s => (truth v s).bind fun b s => .ok (.bool (!b)) s
  | .and es, l, s => evAnd P C es l s
  | .or es, l, s => evOr P C es l s
  | .bin o a b, l, s => (ev P C a l s).bind fun x s => (ev P C b l s).bind fun y s => binOp o x y s
  | .cmp a o b, l, s => (ev P C a l s).bind fun x s => (ev P C b l s).bind fun y s => cmpOp o x y s
  | .cmp2 a o b o2 c, l, s => (ev P C a l s).bind fun x s => (ev P C b l s).bind fun y s => (cmpOp o x y s).bind fun v s => (truth v s).bind fun t s =>
      if t then (ev P C c l s).bind fun z s => cmpOp o2 y z s else .ok (.bool false) s
  | .isC n a c, l, s => (ev P C a l s).bind fun v s => match c with
    | .none | .bool _ => .ok (.bool (decide (v = c) != n)) s
    | _ => .stuck
  | .tup es, l, s => (evL P C es l s).bind fun vs s => if vs.length ≤ sizeMax then .ok (.tup vs) s else .stuck
  | .lst es, l, s => (evL P C es l s).bind fun vs s => if vs.length ≤ sizeMax then .ok (.lst vs) s else .stuck
  | .lstM k es, l, s => (evL P C es l s).bind fun vs s => if vs.length ≤ sizeMax then .ok (.ref (k, s.cnt k)) (s.new k (.list vs)) else .stuck
  | .dictM k ks es, l, s => (evL P C es l s).bind fun vs s => if ks.length = vs.length ∧ ks.length ≤ 15 ∧ ks.Nodup then
      .ok (.ref (k, s.cnt k)) (s.new k (.dict ((ks.zip vs).map fun p => (.str p.1, p.2)))) else .stuck
  | .tdictM k, _, s => .ok (.ref (k, s.cnt k)) (s.new k (.tdict []))
  | .tget a es, l, s => (ev P C a l s).bind fun x s => if (tdictAt x s).isSome then .stuck else .stuck
  | .sub a b, l, s => (ev P C a l s).bind fun x s => (ev P C b l s).bind fun y s => getItem x y s
  | .slice a lo hi, l, s => (ev P C a l s).bind fun x s => (evO P C lo l s).bind fun y s => (evO P C hi l s).bind fun z s => getSlice x y z s
  | .attr a i, l, s => (ev P C a l s).bind fun x s => getAttr x i s
  | .call f es, l, s => (evL P C es l s).bind fun vs s => C f vs s
  | .meth a m es, l, s => (ev P C a l s).bind fun x s => match methOf P x m s with
    | some f => (evL P C es l s).bind fun vs s => C f (x :: vs) s
    | Option.none => .stuck
  | .new c es, l, s => (evL P C es l s).bind fun vs s => makeInst P C c vs s
  | .isinst a ks, l, s => (ev P C a l s).bind fun x s => okB s (isKinds P s x ks)
  | .isX a k, l, s => (ev P C a l s).bind fun v s => match v with
    | .exc c => if (P.excBase c).contains c then .ok (.bool ((P.excBase c).contains k)) s else .stuck
    | _ => .stuck
  | .prim p es, l, s => (evL P C es l s).bind fun vs s => prim p vs s
  | .listM k a, l, s => (ev P C a l s).bind fun x s => match seqOf s x with
    | some (_, vs) => .ok (.ref (k, s.cnt k)) (s.new k (.list vs))
    | Option.none => .stuck
  | .dictC k a, l, s => (ev P C a l s).bind fun x s => match x with
    | .ref r => match s.heap r with
      | some (.dict d) => if d.length ≤ 1000 then .ok (.ref (k, s.cnt k)) (s.new k (.dict d)) else .stuck
      | _ => .stuck
    | _ => .stuck
  | .bm m a es, l, s => (ev P C a l s).bind fun x s => if bmOk m x s then (evL P C es l s).bind fun vs s => bmeth m x vs s else .stuck
  | .comp M slot range it cond elt, l, s => (ev P C it l s).bind fun src s => match itemsOf s range src with
    | some xs => (compLoop s range src slot (evC P C cond) (ev P C elt) l [] xs s).bind fun vs s => match M with
      | Option.none => .ok (.lst vs) s
      | some k => .ok (.ref (k, s.cnt k)) (s.new k (.list vs))
    | Option.none => .stuck
noncomputable def evC (P : Prog) (C : Calls) : Option E → Option (Loc → MS → Res V)
  | Option.none => Option.none
  | some e => some (ev P C e)
noncomputable def evO (P : Prog) (C : Calls) : Option E → Loc → MS → Res (Option V)
  | Option.none, _, s => .ok Option.none s
  | some e, l, s => (ev P C e l s).bind fun v s => .ok (some v) s
noncomputable def evL (P : Prog) (C : Calls) : List E → Loc → MS → Res (List V)
  | [], _, s => .ok [] s
  | e :: r, l, s => (ev P C e l s).bind fun v s => (evL P C r l s).bind fun vs s => .ok (v :: vs) s
noncomputable def evAnd (P : Prog) (C : Calls) : List E → Loc → MS → Res V
  | [], _, _ => .stuck
  | [e], l, s => ev P C e l s
  | e :: e' :: r, l, s => (ev P C e l s).bind fun v s => (truth v s).bind fun b s => if b then evAnd P C (e' :: r) l s else .ok v s
noncomputable def evOr (P : Prog) (C : Calls) : List E → Loc → MS → Res V
  | [], _, _ => .stuck
  | [e], l, s => ev P C e l s
  | e :: e' :: r, l, s => (ev P C e l s).bind fun v s => (truth v s).bind fun b s => if b then .ok v s else evOr P C (e' :: r) l s
end
noncomputable def setT (P : Prog) (C : Calls) (t : T) (v : V) (l : Loc) (s : MS) : Res Loc :=
  match t with
  | .loc i => if i < l.length then .ok (l.set i (some v)) s else .stuck
  | .item a b => (ev P C a l s).bind fun x s => (ev P C b l s).bind fun y s => (setItem x y v s).bind fun _ s => .ok l s
noncomputable def setTs (P : Prog) (C : Calls) : List T → List V → Loc → MS → Res Loc
  | [], [], l, s => .ok l s
  | t :: ts, v :: vs, l, s => (setT P C t v l s).bind fun l s => setTs P C ts vs l s
  | _, _, _, _ => .stuck
noncomputable def unpackT (P : Prog) (C : Calls) (ts : List T) (v : V) (l : Loc) (s : MS) : Res Loc :=
  match v with
  | .tup vs => setTs P C ts vs l s
  | _ => .stuck
noncomputable def setTT (P : Prog) (C : Calls) (ts : T ⊕ List T) (v : V) (l : Loc) (s : MS) : Res Loc :=
  match ts with
  | .inl t => setT P C t v l s
  | .inr ts => unpackT P C ts v l s

noncomputable def forOk (ts : T ⊕ List T) (range : Bool) (src : V) (s : MS) : Bool :=
  match ts with
  | .inl _ => true
  | .inr _ => !range && (seqOf s src).isSome
noncomputable def forLoop (s₀ : MS) (range : Bool) (src : V) (tgt : V → Loc → MS → Res Loc) (body : Loc → MS → Res (Fl × Loc)) : List V → Loc → MS → Res (Fl × Loc)
  | [], l, s => if stays s₀ s range src then .ok (.next, l) s else .stuck
  | x :: r, l, s =>
    if stays s₀ s range src then
      (tgt x l s).bnd fun l s => (body l s).bind fun p s => match p.1 with
        | .next => forLoop s₀ range src tgt body r p.2 s
        | .ret v => .ok (.ret v, p.2) s
    else .stuck
noncomputable def whileLoop (test : Loc → MS → Res V) (body : Loc → MS → Res (Fl × Loc)) : Nat → Loc → MS → Res (Fl × Loc)
  | 0, _, _ => .stuck
  | n + 1, l, s => (test l s).bnd fun v s => (truth v s).bnd fun b s =>
    if b then (body l s).bind fun p s => match p.1 with
      | .next => whileLoop test body n p.2 s
      | .ret v => .ok (.ret v, p.2) s
    else .ok (.next, l) s

noncomputable def landOn (P : Prog) (k : Loc → MS → Res (Fl × Loc)) (c i : Nat) (l : Loc) : Res V → Res (Fl × Loc)
  | .ok _ s => .ok (.next, l) s
  | .exc c' s => if (P.excBase c').contains c' && (P.excBase c').contains c then (k (l.set i (some (.exc c'))) s).bnd fun p s => (match p.1 with | .ret v => .ok (.ret v, []) s | .next => .stuck) else .stuck
  | .stuck => .stuck

mutual
noncomputable def ex (P : Prog) (C : Calls) (n : Nat) : S → Loc → MS → Res (Fl × Loc)
  | .expr e, l, s => (ev P C e l s).bnd fun _ s => .ok (.next, l) s
  | .assign i e, l, s => (ev P C e l s).bnd fun v s => if i < l.length then .ok (.next, l.set i (some v)) s else .stuck
  | .setattr a i e, l, s => (ev P C e l s).bnd fun v s => (ev P C a l s).bnd fun x s => (setAttr x i v s).bnd fun _ s => .ok (.next, l) s
  | .setitem a b e, l, s => (ev P C e l s).bnd fun v s => (ev P C a l s).bnd fun x s => (ev P C b l s).bnd fun y s => (setItem x y v s).bnd fun _ s => .ok (.next, l) s
  | .tset a b e, l, s => (ev P C e l s).bnd fun v s => (ev P C a l s).bnd fun x s => (ev P C b l s).bnd fun y s => .stuck
  | .unpack ts e, l, s => (ev P C e l s).bnd fun v s => (unpackT P C ts v l s).bnd fun l s => .ok (.next, l) s
  | .ite c b1 b2, l, s => (ev P C c l s).bnd fun v s => (truth v s).bnd fun b s => if b then exs P C n b1 l s else exs P C n b2 l s
  | .for_ ts range it body, l, s => (ev P C it l s).bnd fun src s => match itemsOf s range src with
    | some xs => if forOk ts range src s then forLoop s range src (setTT P C ts) (exs P C n body) xs l s else .stuck
    | Option.none => .stuck
  | .while_ c body, l, s => whileLoop (ev P C c) (exs P C n body) n l s
  | .ret e, l, s => match e with
    | some e => (ev P C e l s).bnd fun v s => .ok (.ret v, l) s
    | Option.none => .ok (.ret .none, l) s
  | .raise c, _, s => .exc c s
  | .tryM a m es c i b, l, s => (ev P C a l s).bnd fun x s => match methOf P x m s with
    | some f => (evL P C es l s).bnd fun vs s => landOn P (exs P C n b) c i l (C f (x :: vs) s)
    | Option.none => .stuck
  | .tryC f es c i b, l, s => (evL P C es l s).bnd fun vs s => landOn P (exs P C n b) c i l (C f vs s)
  | .try_ body hs, l, s => match exs P C n body l s with
    | .ok p s => .ok p s
    | .stuck => .stuck
    | .exc c s => exH P C n hs c l s
  | .pass, l, s => .ok (.next, l) s
noncomputable def exs (P : Prog) (C : Calls) (n : Nat) : List S → Loc → MS → Res (Fl × Loc)
  | [], l, s => .ok (.next, l) s
  | st :: r, l, s => (ex P C n st l s).bind fun p s => match p.1 with
    | .next => exs P C n r p.2 s
    | .ret v => .ok (.ret v, p.2) s
noncomputable def exH (P : Prog) (C : Calls) (n : Nat) : List (Nat × Option Nat × List S) → Nat → Loc → MS → Res (Fl × Loc)
  | [], c, _, s => .exc c s
  | (k, x, b) :: r, c, l, s => if (P.excBase c).contains k then
      (exs P C n b (match x with | some i => l.set i (some (.exc c)) | Option.none => l) s).bind fun p s =>
        .ok (p.1, match x with | some i => p.2.set i Option.none | Option.none => p.2) s
    else exH P C n r c l s
end
noncomputable def run (P : Prog) : Nat → Calls
  | 0, _, _, _ => .stuck
  | n + 1, f, vs, s => match P.fns f with
    | some fn => if vs.length = fn.np then
        (exs P (run P n) n fn.body (vs.map some ++ List.replicate (fn.names.length - fn.np) Option.none) s).bind fun p s => .ok (match p.1 with | .ret v => v | .next => .none) s
      else .stuck
    | Option.none => .stuck

theorem ev_none (P : Prog) (C : Calls) : ∀ l s, ev P C (.none) l s = .ok .none s := by intros; rfl
theorem ev_bool (P : Prog) (C : Calls) : ∀ b l s, ev P C (.bool b) l s = .ok (.bool b) s := by intros; rfl
theorem ev_int (P : Prog) (C : Calls) : ∀ i l s, ev P C (.int i) l s = .ok (.int i) s := by intros; rfl
theorem ev_str (P : Prog) (C : Calls) : ∀ x l s, ev P C (.str x) l s = .ok (.str x) s := by intros; rfl
theorem ev_loc (P : Prog) (C : Calls) : ∀ i l s, ev P C (.loc i) l s = match l[i]? with
    | some (some v) => .ok v s
    | _ => .stuck := by intros; rfl
theorem ev_gint (P : Prog) (C : Calls) : ∀ u1 i l s, ev P C (.gint u1 i) l s = .ok (.int i) s := by intros; rfl
theorem ev_gstr (P : Prog) (C : Calls) : ∀ u1 x l s, ev P C (.gstr u1 x) l s = .ok (.str x) s := by intros; rfl
theorem ev_neg (P : Prog) (C : Calls) : ∀ a l s, ev P C (.neg a) l s = (ev P C a l s).bind fun v s => match v with
    | .int i => .ok (.int (-i)) s
    | _ => .stuck := by intros; rfl
theorem ev_not (P : Prog) (C : Calls) : ∀ a l s, ev P C (.not a) l s = (ev P C a l s).bind fun v s => (truth v s).bind fun b s => .ok (.bool (!b)) s := by intros; rfl
theorem ev_and (P : Prog) (C : Calls) : ∀ es l s, ev P C (.and es) l s = evAnd P C es l s := by intros; rfl
theorem ev_or (P : Prog) (C : Calls) : ∀ es l s, ev P C (.or es) l s = evOr P C es l s := by intros; rfl
theorem ev_bin (P : Prog) (C : Calls) : ∀ o a b l s, ev P C (.bin o a b) l s = (ev P C a l s).bind fun x s => (ev P C b l s).bind fun y s => binOp o x y s := by intros; rfl
theorem ev_cmp (P : Prog) (C : Calls) : ∀ a o b l s, ev P C (.cmp a o b) l s = (ev P C a l s).bind fun x s => (ev P C b l s).bind fun y s => cmpOp o x y s := by intros; rfl
theorem ev_cmp2 (P : Prog) (C : Calls) : ∀ a o b o2 c l s, ev P C (.cmp2 a o b o2 c) l s = (ev P C a l s).bind fun x s => (ev P C b l s).bind fun y s => (cmpOp o x y s).bind fun v s => (truth v s).bind fun t s =>
      if t then (ev P C c l s).bind fun z s => cmpOp o2 y z s else .ok (.bool false) s := by intros; rfl
theorem ev_isC (P : Prog) (C : Calls) : ∀ n a c l s, ev P C (.isC n a c) l s = (ev P C a l s).bind fun v s => match c with
    | .none | .bool _ => .ok (.bool (decide (v = c) != n)) s
    | _ => .stuck := by intros; rfl
theorem ev_tup (P : Prog) (C : Calls) : ∀ es l s, ev P C (.tup es) l s = (evL P C es l s).bind fun vs s => if vs.length ≤ sizeMax then .ok (.tup vs) s else .stuck := by intros; rfl
theorem ev_lst (P : Prog) (C : Calls) : ∀ es l s, ev P C (.lst es) l s = (evL P C es l s).bind fun vs s => if vs.length ≤ sizeMax then .ok (.lst vs) s else .stuck := by intros; rfl
theorem ev_lstM (P : Prog) (C : Calls) : ∀ k es l s, ev P C (.lstM k es) l s = (evL P C es l s).bind fun vs s => if vs.length ≤ sizeMax then .ok (.ref (k, s.cnt k)) (s.new k (.list vs)) else .stuck := by intros; rfl
theorem ev_dictM (P : Prog) (C : Calls) : ∀ k ks es l s, ev P C (.dictM k ks es) l s = (evL P C es l s).bind fun vs s => if ks.length = vs.length ∧ ks.length ≤ 15 ∧ ks.Nodup then
      .ok (.ref (k, s.cnt k)) (s.new k (.dict ((ks.zip vs).map fun p => (.str p.1, p.2)))) else .stuck := by intros; rfl
theorem ev_sub (P : Prog) (C : Calls) : ∀ a b l s, ev P C (.sub a b) l s = (ev P C a l s).bind fun x s => (ev P C b l s).bind fun y s => getItem x y s := by intros; rfl
theorem ev_slice (P : Prog) (C : Calls) : ∀ a lo hi l s, ev P C (.slice a lo hi) l s = (ev P C a l s).bind fun x s => (evO P C lo l s).bind fun y s => (evO P C hi l s).bind fun z s => getSlice x y z s := by intros; rfl
theorem ev_attr (P : Prog) (C : Calls) : ∀ a i l s, ev P C (.attr a i) l s = (ev P C a l s).bind fun x s => getAttr x i s := by intros; rfl
theorem ev_call (P : Prog) (C : Calls) : ∀ f es l s, ev P C (.call f es) l s = (evL P C es l s).bind fun vs s => C f vs s := by intros; rfl
theorem ev_meth (P : Prog) (C : Calls) : ∀ a m es l s, ev P C (.meth a m es) l s = (ev P C a l s).bind fun x s => match methOf P x m s with
    | some f => (evL P C es l s).bind fun vs s => C f (x :: vs) s
    | Option.none => .stuck := by intros; rfl
theorem ev_new (P : Prog) (C : Calls) : ∀ c es l s, ev P C (.new c es) l s = (evL P C es l s).bind fun vs s => makeInst P C c vs s := by intros; rfl
theorem ev_isinst (P : Prog) (C : Calls) : ∀ a ks l s, ev P C (.isinst a ks) l s = (ev P C a l s).bind fun x s => okB s (isKinds P s x ks) := by intros; rfl
theorem ev_isX (P : Prog) (C : Calls) : ∀ a k l s, ev P C (.isX a k) l s = (ev P C a l s).bind fun v s => match v with
    | .exc c => if (P.excBase c).contains c then .ok (.bool ((P.excBase c).contains k)) s else .stuck
    | _ => .stuck := by intros; rfl
theorem ev_prim (P : Prog) (C : Calls) : ∀ p es l s, ev P C (.prim p es) l s = (evL P C es l s).bind fun vs s => prim p vs s := by intros; rfl
theorem ev_listM (P : Prog) (C : Calls) : ∀ k a l s, ev P C (.listM k a) l s = (ev P C a l s).bind fun x s => match seqOf s x with
    | some (_, vs) => .ok (.ref (k, s.cnt k)) (s.new k (.list vs))
    | Option.none => .stuck := by intros; rfl
theorem ev_dictC (P : Prog) (C : Calls) : ∀ k a l s, ev P C (.dictC k a) l s = (ev P C a l s).bind fun x s => match x with
    | .ref r => match s.heap r with
      | some (.dict d) => if d.length ≤ 1000 then .ok (.ref (k, s.cnt k)) (s.new k (.dict d)) else .stuck
      | _ => .stuck
    | _ => .stuck := by intros; rfl
theorem ev_bm (P : Prog) (C : Calls) : ∀ m a es l s, ev P C (.bm m a es) l s = (ev P C a l s).bind fun x s => if bmOk m x s then (evL P C es l s).bind fun vs s => bmeth m x vs s else .stuck := by intros; rfl
theorem ev_comp (P : Prog) (C : Calls) : ∀ M slot range it cond elt l s, ev P C (.comp M slot range it cond elt) l s = (ev P C it l s).bind fun src s => match itemsOf s range src with
    | some xs => (compLoop s range src slot (evC P C cond) (ev P C elt) l [] xs s).bind fun vs s => match M with
      | Option.none => .ok (.lst vs) s
      | some k => .ok (.ref (k, s.cnt k)) (s.new k (.list vs))
    | Option.none => .stuck := by intros; rfl
theorem evO_none (P : Prog) (C : Calls) : ∀ l s, evO P C Option.none l s = .ok Option.none s := by intros; rfl
theorem evO_some (P : Prog) (C : Calls) : ∀ e l s, evO P C (some e) l s = (ev P C e l s).bind fun v s => .ok (some v) s := by intros; rfl
theorem evL_nil (P : Prog) (C : Calls) : ∀ l s, evL P C [] l s = .ok [] s := by intros; rfl
theorem evL_cons (P : Prog) (C : Calls) : ∀ e r l s, evL P C (e :: r) l s = (ev P C e l s).bind fun v s => (evL P C r l s).bind fun vs s => .ok (v :: vs) s := by intros; rfl
theorem evAnd_nil (P : Prog) (C : Calls) : ∀ l s, evAnd P C [] l s = .stuck := by intros; rfl
theorem evAnd_one (P : Prog) (C : Calls) : ∀ e l s, evAnd P C [e] l s = ev P C e l s := by intros; rfl
theorem evAnd_cons (P : Prog) (C : Calls) : ∀ e e' r l s, evAnd P C (e :: e' :: r) l s = (ev P C e l s).bind fun v s => (truth v s).bind fun b s => if b then evAnd P C (e' :: r) l s else .ok v s := by intros; rfl
theorem evOr_nil (P : Prog) (C : Calls) : ∀ l s, evOr P C [] l s = .stuck := by intros; rfl
theorem evOr_one (P : Prog) (C : Calls) : ∀ e l s, evOr P C [e] l s = ev P C e l s := by intros; rfl
theorem evOr_cons (P : Prog) (C : Calls) : ∀ e e' r l s, evOr P C (e :: e' :: r) l s = (ev P C e l s).bind fun v s => (truth v s).bind fun b s => if b then .ok v s else evOr P C (e' :: r) l s := by intros; rfl
theorem ex_expr (P : Prog) (C : Calls) (n : Nat) : ∀ e l s, ex P C n (.expr e) l s = (ev P C e l s).bnd fun _ s => .ok (.next, l) s := by intros; rfl
theorem ex_assign (P : Prog) (C : Calls) (n : Nat) : ∀ i e l s, ex P C n (.assign i e) l s = (ev P C e l s).bnd fun v s => if i < l.length then .ok (.next, l.set i (some v)) s else .stuck := by intros; rfl
theorem ex_setattr (P : Prog) (C : Calls) (n : Nat) : ∀ a i e l s, ex P C n (.setattr a i e) l s = (ev P C e l s).bnd fun v s => (ev P C a l s).bnd fun x s => (setAttr x i v s).bnd fun _ s => .ok (.next, l) s := by intros; rfl
theorem ex_setitem (P : Prog) (C : Calls) (n : Nat) : ∀ a b e l s, ex P C n (.setitem a b e) l s = (ev P C e l s).bnd fun v s => (ev P C a l s).bnd fun x s => (ev P C b l s).bnd fun y s => (setItem x y v s).bnd fun _ s => .ok (.next, l) s := by intros; rfl
theorem ex_unpack (P : Prog) (C : Calls) (n : Nat) : ∀ ts e l s, ex P C n (.unpack ts e) l s = (ev P C e l s).bnd fun v s => (unpackT P C ts v l s).bnd fun l s => .ok (.next, l) s := by intros; rfl
theorem ex_ite (P : Prog) (C : Calls) (n : Nat) : ∀ c b1 b2 l s, ex P C n (.ite c b1 b2) l s = (ev P C c l s).bnd fun v s => (truth v s).bnd fun b s => if b then exs P C n b1 l s else exs P C n b2 l s := by intros; rfl
theorem ex_for (P : Prog) (C : Calls) (n : Nat) : ∀ ts range it body l s, ex P C n (.for_ ts range it body) l s = (ev P C it l s).bnd fun src s => match itemsOf s range src with
    | some xs => if forOk ts range src s then forLoop s range src (setTT P C ts) (exs P C n body) xs l s else .stuck
    | Option.none => .stuck := by intros; rfl
theorem ex_while (P : Prog) (C : Calls) (n : Nat) : ∀ c body l s, ex P C n (.while_ c body) l s = whileLoop (ev P C c) (exs P C n body) n l s := by intros; rfl
theorem ex_ret (P : Prog) (C : Calls) (n : Nat) : ∀ e l s, ex P C n (.ret e) l s = match e with
    | some e => (ev P C e l s).bnd fun v s => .ok (.ret v, l) s
    | Option.none => .ok (.ret .none, l) s := by intros; rfl
theorem ex_raise (P : Prog) (C : Calls) (n : Nat) : ∀ c l s, ex P C n (.raise c) l s = .exc c s := by intros; rfl
theorem ex_tryC (P : Prog) (C : Calls) (n : Nat) : ∀ f es c i b l s, ex P C n (.tryC f es c i b) l s = (evL P C es l s).bnd fun vs s => landOn P (exs P C n b) c i l (C f vs s) := by intros; rfl
theorem ex_try (P : Prog) (C : Calls) (n : Nat) : ∀ body hs l s, ex P C n (.try_ body hs) l s = match exs P C n body l s with
    | .ok p s => .ok p s
    | .stuck => .stuck
    | .exc c s => exH P C n hs c l s := by intros; rfl
theorem ex_pass (P : Prog) (C : Calls) (n : Nat) : ∀ l s, ex P C n (.pass) l s = .ok (.next, l) s := by intros; rfl
theorem exs_nil (P : Prog) (C : Calls) (n : Nat) : ∀ l s, exs P C n [] l s = .ok (.next, l) s := by intros; rfl
theorem exs_cons (P : Prog) (C : Calls) (n : Nat) : ∀ st r l s, exs P C n (st :: r) l s = (ex P C n st l s).bind fun p s => match p.1 with
    | .next => exs P C n r p.2 s
    | .ret v => .ok (.ret v, p.2) s := by intros; rfl
theorem byQ {A : Prop} (h : ∀ Q : Prop, (A → Q) → Q) : A := h A id
end Mine
end

section
set_option genInjectivity false
set_option genSizeOf false
namespace Mine
open PySem PySem.W PyProof.Rows

structure Tie where
  ρ : Lbl → Option Addr
  δ : Lbl → Option Addr
  pv : Addr → Prop
  wr : Nat
  st : List Env

noncomputable def Tie.Own (t : Tie) (a : Addr) : Prop := ∃ l, t.ρ l = some a ∨ t.δ l = some a
noncomputable def Tie.Fr (t : Tie) (a : Addr) : Prop := t.pv a ∧ ∃ e, e ∈ t.st ∧ e.frame = some a
noncomputable def Tie.Avoid (t : Tie) (a : Addr) : Prop := t.Own a ∨ t.pv a

structure Tie.Le (t t' : Tie) : Prop where
  ρ : ∀ l a, t.ρ l = some a → t'.ρ l = some a
  δ : ∀ l a, t.δ l = some a → t'.δ l = some a
  pv : t'.pv = t.pv
  wr : t.wr ≤ t'.wr
  st : t'.st = t.st

theorem Tie.Le.refl (t : Tie) : t.Le t := ⟨fun _ _ e => e, fun _ _ e => e, rfl, Nat.le_refl _, rfl⟩
theorem Tie.Le.fr {t t' : Tie} (x : t.Le t') {a : Addr} (f : t'.Fr a) : t.Fr a := ⟨x.pv ▸ f.1, x.st ▸ f.2⟩
theorem Tie.Le.fr' {t t' : Tie} (x : t.Le t') {a : Addr} (f : t.Fr a) : t'.Fr a := ⟨x.pv ▸ f.1, x.st ▸ f.2⟩
theorem Tie.Le.trans {t t' t'' : Tie} (x : t.Le t') (y : t'.Le t'') : t.Le t'' := ⟨fun l a e => y.ρ l a (x.ρ l a e), fun l a e => y.δ l a (x.δ l a e), y.pv.trans x.pv, Nat.le_trans x.wr y.wr, y.st.trans x.st⟩
theorem Tie.Le.own {t t' : Tie} (x : t.Le t') {a : Addr} (o : t.Own a) : t'.Own a := by
  obtain ⟨l, e | e⟩ := o
  · exact ⟨l, .inl (x.ρ l a e)⟩
  · exact ⟨l, .inr (x.δ l a e)⟩

noncomputable def PL (h : Heap) (a : Addr) (vs : Array Value) : Prop := ∃ n, h.get? a = some { cls := .type "list", data := .seq vs n }
noncomputable def PT (h : Heap) (a : Addr) (vs : Array Value) : Prop := ∃ n, h.get? a = some { cls := .type "tuple", data := .seq vs n }
theorem PL.isList {h : Heap} {a : Addr} {vs : Array Value} (x : PL h a vs) : h.IsList a vs := let ⟨n, e⟩ := x; ⟨_, e, rfl, n, rfl⟩
theorem PT.isTuple {h : Heap} {a : Addr} {vs : Array Value} (x : PT h a vs) : h.IsTuple a vs := let ⟨n, e⟩ := x; ⟨_, e, rfl, n, rfl⟩
theorem PT.isTup {h : Heap} {a : Addr} {vs : Array Value} (x : PT h a vs) : IsTup h a vs := let ⟨n, e⟩ := x; ⟨_, e, rfl, n, rfl⟩

mutual
noncomputable def VRel (t : Tie) (h : Heap) : V → Value → Prop
  | .none, v => v = .none
  | .bool b, v => v = .bool b
  | .int i, v => ∃ k, v = .int i k
  | .str x, v => ∃ k, v = .str (Str.mk x.toArray) k
  | .tup l, v => ∃ a vs, v = .ref a ∧ PT h a vs ∧ ¬ t.Avoid a ∧ l.length ≤ sizeMax ∧ VRels t h l vs.toList
  | .lst l, v => ∃ a vs, v = .ref a ∧ PL h a vs ∧ ¬ t.Avoid a ∧ l.length ≤ sizeMax ∧ VRels t h l vs.toList
  | .ref l, v => ∃ a, v = .ref a ∧ t.ρ l = some a
  | .exc c, v => ∃ e o, v = .ref e ∧ h.get? e = some o ∧ o.cls = .ref c ∧ ¬ t.Avoid e
noncomputable def VRels (t : Tie) (h : Heap) : List V → List Value → Prop
  | [], vs => vs = []
  | x :: l, vs => ∃ v r, vs = v :: r ∧ VRel t h x v ∧ VRels t h l r
end
structure Step (X : Addr → Prop) (t t' : Tie) (s s' : Shared) : Prop where
  le : t.Le t'
  keepW : ∀ a o, s.heap.get? a = some o → (t.Own a → t'.wr = t.wr) → ¬ X a → ¬ t.Fr a → s'.heap.get? a = some o
  slots : ∀ a o, s.heap.get? a = some o → ¬ t.Own a → ¬ X a → t.Fr a → ∃ sl, s'.heap.get? a = some { o with slots := sl }
  new : ∀ a, t'.Own a → t.Own a ∨ s.heap.get? a = none
  live : ∀ a o, s.heap.get? a = some o → (s'.heap.get? a).isSome = true
  gens : s'.gens = s.gens
  os : s'.os = s.os

theorem Step.refl (X : Addr → Prop) (t : Tie) (s : Shared) : Step X t t s s := ⟨.refl t, fun _ _ e _ _ _ => e, fun _ o e _ _ _ => ⟨o.slots, e⟩, fun _ o => .inl o, fun _ _ e => by rw [e]; rfl, rfl, rfl⟩
theorem Step.keep {X : Addr → Prop} {t t' : Tie} {s s' : Shared} (x : Step X t t' s s') (a : Addr) (o : Obj) (e : s.heap.get? a = some o) (n : ¬ t.Own a) (nx : ¬ X a) (nf : ¬ t.Fr a) : s'.heap.get? a = some o := x.keepW a o e (fun q => (n q).elim) nx nf
theorem Step.trans {X : Addr → Prop} {t t' t'' : Tie} {s s' s'' : Shared} (x : Step X t t' s s') (y : Step X t' t'' s' s'') : Step X t t'' s s'' where
  le := x.le.trans y.le
  keepW a o e n nx nf := by
    have sq : t.Own a → t'.wr = t.wr ∧ t''.wr = t'.wr := fun q => by have := n q; have := x.le.wr; have := y.le.wr; omega
    exact y.keepW a o (x.keepW a o e (fun q => (sq q).1) nx nf) (fun q => (x.new a q).elim (fun q => (sq q).2) fun z => by rw [e] at z; cases z) nx fun q => nf (x.le.fr q)
  slots a o e n nx f := by
    obtain ⟨sl, e1⟩ := x.slots a o e n nx f
    obtain ⟨sl2, e2⟩ := y.slots a _ e1 (fun q => (x.new a q).elim n fun z => by rw [e] at z; cases z) nx (x.le.fr' f)
    exact ⟨sl2, e2⟩
  new a o := (y.new a o).elim (x.new a) fun z => by
    cases q : s.heap.get? a with
    | none => exact .inr rfl
    | some ob =>
      have := x.live a ob q
      rw [z] at this; cases this
  live a o e := by
    have := x.live a o e
    obtain ⟨o', e'⟩ := Option.isSome_iff_exists.mp this
    exact y.live a o' e'
  gens := y.gens.trans x.gens
  os := y.os.trans x.os
theorem Step.mono {X Y : Addr → Prop} {t t' : Tie} {s s' : Shared} (x : Step X t t' s s') (xy : ∀ a, X a → Y a) : Step Y t t' s s' := ⟨x.le, fun a o e n ny => x.keepW a o e n fun q => ny (xy a q), fun a o e n ny => x.slots a o e n fun q => ny (xy a q), x.new, x.live, x.gens, x.os⟩
noncomputable def noX : Addr → Prop := fun _ => False

mutual
theorem VRel.map {t t' : Tie} {h h' : Heap} (hρ : ∀ l a, t.ρ l = some a → t'.ρ l = some a) (k : ∀ a o, ¬ t.Avoid a → h.get? a = some o → h'.get? a = some o ∧ ¬ t'.Avoid a) : ∀ (x : V) {v : Value}, VRel t h x v → VRel t' h' x v
  | .none, _, e => e
  | .bool _, _, e => e
  | .int _, _, e => e
  | .str _, _, e => e
  | .tup l, _, ⟨a, vs, e, ⟨n, ho⟩, na, sz, r⟩ => ⟨a, vs, e, ⟨n, (k a _ na ho).1⟩, (k a _ na ho).2, sz, VRels.map hρ k l r⟩
  | .lst l, _, ⟨a, vs, e, ⟨n, ho⟩, na, sz, r⟩ => ⟨a, vs, e, ⟨n, (k a _ na ho).1⟩, (k a _ na ho).2, sz, VRels.map hρ k l r⟩
  | .ref l, _, ⟨a, e, r⟩ => ⟨a, e, hρ l a r⟩
  | .exc _, _, ⟨e, o, h1, h2, h3, h4⟩ => ⟨e, o, h1, (k e o h4 h2).1, h3, (k e o h4 h2).2⟩
theorem VRels.map {t t' : Tie} {h h' : Heap} (hρ : ∀ l a, t.ρ l = some a → t'.ρ l = some a) (k : ∀ a o, ¬ t.Avoid a → h.get? a = some o → h'.get? a = some o ∧ ¬ t'.Avoid a) : ∀ (l : List V) {vs : List Value}, VRels t h l vs → VRels t' h' l vs
  | [], _, e => e
  | x :: l, _, ⟨v, r, e, a, b⟩ => ⟨v, r, e, VRel.map hρ k x a, VRels.map hρ k l b⟩
end
theorem Step.val {X : Addr → Prop} {t t' : Tie} {σ σ' : Shared} (s : Step X t t' σ σ') (xp : ∀ a, X a → t.pv a) (a : Addr) (o : Obj) (na : ¬ t.Avoid a) (ho : σ.heap.get? a = some o) : σ'.heap.get? a = some o ∧ ¬ t'.Avoid a :=
  ⟨s.keep a o ho (fun q => na (.inl q)) (fun q => na (.inr (xp a q))) (fun q => na (.inr q.1)), fun q => q.elim (fun q => (s.new a q).elim (fun q => na (.inl q)) fun z => by rw [ho] at z; cases z) (fun q => na (.inr (by rw [s.le.pv] at q; exact q)))⟩
theorem VRel.step {X : Addr → Prop} {t t' : Tie} {σ σ' : Shared} (s : Step X t t' σ σ') (xp : ∀ a, X a → t.pv a) (x : V) {v : Value} (r : VRel t σ.heap x v) : VRel t' σ'.heap x v := VRel.map s.le.ρ (s.val xp) x r
theorem VRels.step {X : Addr → Prop} {t t' : Tie} {σ σ' : Shared} (s : Step X t t' σ σ') (xp : ∀ a, X a → t.pv a) (l : List V) {vs : List Value} (r : VRels t σ.heap l vs) : VRels t' σ'.heap l vs := VRels.map s.le.ρ (s.val xp) l r

noncomputable def Tie.hideS (t : Tie) (P : Addr → Prop) (l : List Env) : Tie := { t with pv := fun a => t.pv a ∨ P a, st := l }
noncomputable abbrev Tie.hide (t : Tie) (P : Addr → Prop) : Tie := t.hideS P t.st
theorem Tie.hid {t : Tie} {h : Heap} {P : Addr → Prop} {l : List Env} (np : ∀ a, P a → h.get? a = none) (a : Addr) (o : Obj) (na : ¬ t.Avoid a) (ho : h.get? a = some o) : h.get? a = some o ∧ ¬ (t.hideS P l).Avoid a :=
  ⟨ho, fun q => Or.elim q (fun q => na (.inl q)) fun q => Or.elim q (fun q => na (.inr q)) fun q => absurd ((np a q).symm.trans ho) nofun⟩
theorem VRel.hide {t : Tie} {h : Heap} {P : Addr → Prop} {l : List Env} (np : ∀ a, P a → h.get? a = none) (x : V) {v : Value} (r : VRel t h x v) : VRel (t.hideS P l) h x v := VRel.map (t := t) (t' := t.hideS P l) (fun _ _ e => e) (Tie.hid np) x r
theorem VRels.hide {t : Tie} {h : Heap} {P : Addr → Prop} {k : List Env} (np : ∀ a, P a → h.get? a = none) (l : List V) {vs : List Value} (r : VRels t h l vs) : VRels (t.hideS P k) h l vs := VRels.map (t := t) (t' := t.hideS P k) (fun _ _ e => e) (Tie.hid np) l r

theorem VRels.length {t : Tie} {h : Heap} : ∀ {l : List V} {vs : List Value}, VRels t h l vs → vs.length = l.length
  | [], _, e => by cases e; rfl
  | _ :: l, _, ⟨v, r, e, _, b⟩ => by subst e; simp [VRels.length b]
theorem VRels.append {t : Tie} {h : Heap} : ∀ {l m : List V} {vs ws : List Value}, VRels t h l vs → VRels t h m ws → VRels t h (l ++ m) (vs ++ ws)
  | [], _, _, _, e, b => by cases e; exact b
  | _ :: _, _, _, _, ⟨v, r, e, a, c⟩, b => by subst e; exact ⟨v, _, rfl, a, VRels.append c b⟩
theorem VRels.get {t : Tie} {h : Heap} : ∀ {l : List V} {vs : List Value} {i : Nat} {x : V}, VRels t h l vs → l[i]? = some x → ∃ v, vs[i]? = some v ∧ VRel t h x v
  | x :: l, _, 0, _, ⟨v, r, e, a, b⟩, q => by subst e; cases q; exact ⟨v, rfl, a⟩
  | x :: l, _, i + 1, _, ⟨v, r, e, a, b⟩, q => by subst e; exact VRels.get (l := l) (vs := r) b q
theorem VRels.take {t : Tie} {h : Heap} : ∀ {l : List V} {vs : List Value} (n : Nat), VRels t h l vs → VRels t h (l.take n) (vs.take n)
  | [], _, n, e => by cases e; simp [VRels]
  | x :: l, _, 0, _ => rfl
  | x :: l, _, n + 1, ⟨v, r, e, a, b⟩ => by subst e; exact ⟨v, _, rfl, a, VRels.take n b⟩
theorem VRels.drop {t : Tie} {h : Heap} : ∀ {l : List V} {vs : List Value} (n : Nat), VRels t h l vs → VRels t h (l.drop n) (vs.drop n)
  | [], _, n, e => by cases e; simp [VRels]
  | x :: l, vs, 0, r => r
  | x :: l, _, n + 1, ⟨v, r, e, a, b⟩ => by subst e; exact VRels.drop n b
theorem VRels.set {t : Tie} {h : Heap} : ∀ {l : List V} {vs : List Value} (i : Nat) {x : V} {v : Value}, VRels t h l vs → VRel t h x v → VRels t h (l.set i x) (vs.set i v)
  | [], _, i, _, _, e, _ => by cases e; simp [VRels]
  | y :: l, _, 0, _, _, ⟨v, r, e, a, b⟩, q => by subst e; exact ⟨_, _, rfl, q, b⟩
  | y :: l, _, i + 1, _, _, ⟨v, r, e, a, b⟩, q => by subst e; exact ⟨v, _, rfl, a, VRels.set i b q⟩
theorem VRels.eraseIdx {t : Tie} {h : Heap} : ∀ {l : List V} {vs : List Value} (i : Nat), VRels t h l vs → VRels t h (l.eraseIdx i) (vs.eraseIdx i)
  | [], _, i, e => by cases e; simp [VRels]
  | y :: l, _, 0, ⟨v, r, e, a, b⟩ => by subst e; exact b
  | y :: l, _, i + 1, ⟨v, r, e, a, b⟩ => by subst e; exact ⟨v, _, rfl, a, VRels.eraseIdx i b⟩

end Mine
end

section
namespace Mine
end Mine
end

section
set_option genInjectivity false
set_option genSizeOf false
namespace Mine
open PySem PySem.W PyProof.Rows

structure Gd where
  prog : Program
  w : World
  K : Frag
  mg : PySem.Str → Option Value
  mb : PySem.Str → Option Value
  h₀ : Heap
  P : Prog
  fa : Nat → Option Addr
  ca : Nat → Option Addr
  an : Nat → PySem.Str

noncomputable abbrev Gd.M (G : Gd) : Model := model G.prog G.w
noncomputable abbrev toStr (x : List Nat) : PySem.Str := Str.mk x.toArray

noncomputable def DRel (t : Tie) (h : Heap) : List (V × V) → List (PySem.Str × Value) → Prop
  | [], kvs => kvs = []
  | (k, v) :: r, kvs => ∃ x y rest, k = .str x ∧ kvs = (toStr x, y) :: rest ∧ VRel t h v y ∧ DRel t h r rest

noncomputable def ARel (G : Gd) (t : Tie) (h : Heap) (as : List (Nat × V)) (m : PySem.Str → Option Value) : Prop :=
  (∀ i v, afind i as = some v → ∃ y, m (G.an i) = some y ∧ VRel t h v y) ∧ ∀ x y, m x = some y → ∃ i v, x = G.an i ∧ afind i as = some v

noncomputable def NsZ (h : Heap) (a : Addr) (m : PySem.Str → Option Value) (n : Nat) : Prop :=
  ∃ o es ep, h.get? a = some o ∧ o.data = .dict es ep ∧ StrKeys es ∧ (∀ name, nsFind es name = m name) ∧ es.size ≤ n
theorem NsZ.ns {h : Heap} {a : Addr} {m : PySem.Str → Option Value} {n : Nat} (x : NsZ h a m n) : h.Ns a m := let ⟨o, es, ep, h1, h2, h3, h4, _⟩ := x; ⟨o, es, ep, h1, h2, h3, h4⟩

noncomputable def ObjOk (G : Gd) (t : Tie) (h : Heap) (l : Lbl) : MObj → Prop
  | .list xs => ∃ a vs, t.ρ l = some a ∧ PL h a vs ∧ xs.length ≤ sizeMax ∧ VRels t h xs vs.toList
  | .dict d => ∃ a kvs, t.ρ l = some a ∧ h.DictOf (strKind G.prog G.w) a kvs ∧ DRel t h d kvs
  | .tdict _ => False
  | .inst c as => ∃ a d C m, t.ρ l = some a ∧ t.δ l = some d ∧ G.ca c = some C ∧ h.get? a = some (instObj C d) ∧ NsZ h d m as.length ∧ ARel G t h as m

structure Rel (G : Gd) (t : Tie) (st : MS) (s : Shared) : Prop where
  base : ∀ b o, G.h₀.get? b = some o → s.heap.get? b = some o
  apart : ∀ a, t.Avoid a → G.h₀.get? a = none
  live : ∀ a, t.Avoid a → (s.heap.get? a).isSome = true
  pv : ∀ a, t.pv a → ¬ t.Own a
  injρ : ∀ l l' a, t.ρ l = some a → t.ρ l' = some a → l = l'
  injδ : ∀ l l' a, t.δ l = some a → t.δ l' = some a → l = l'
  two : ∀ l l' a, t.ρ l = some a → t.δ l' = some a → False
  objs : ∀ l o, st.heap l = some o → ObjOk G t s.heap l o
  cnt : ∀ k i, st.cnt k ≤ i → t.ρ (k, i) = none ∧ t.δ (k, i) = none ∧ st.heap (k, i) = none
  sys : ∀ l, t.ρ l ≠ some sysModules
  wr : t.wr = st.wr

theorem DRel.map {t t' : Tie} {h h' : Heap} (k : ∀ (x : V) {v : Value}, VRel t h x v → VRel t' h' x v) : ∀ {d : List (V × V)} {kvs : List (PySem.Str × Value)}, DRel t h d kvs → DRel t' h' d kvs
  | [], _, e => e
  | (_, v) :: _, _, ⟨x, y, r, e1, e2, a, b⟩ => ⟨x, y, r, e1, e2, k v a, DRel.map k b⟩
theorem DRel.step {X : Addr → Prop} {t t' : Tie} {σ σ' : Shared} (s : Step X t t' σ σ') (xp : ∀ a, X a → t.pv a) {d : List (V × V)} {kvs : List (PySem.Str × Value)} (r : DRel t σ.heap d kvs) : DRel t' σ'.heap d kvs := DRel.map (VRel.step s xp) r
theorem ObjOk.map {G : Gd} {t t' : Tie} {h h' : Heap} {l : Lbl} (hρ : ∀ l a, t.ρ l = some a → t'.ρ l = some a) (hδ : ∀ l a, t.δ l = some a → t'.δ l = some a) (k : ∀ a o, ¬ t.Avoid a → h.get? a = some o → h'.get? a = some o ∧ ¬ t'.Avoid a)
    (same : ∀ a o, (t.ρ l = some a ∨ t.δ l = some a) → h.get? a = some o → h'.get? a = some o) {o : MObj} (r : ObjOk G t h l o) : ObjOk G t' h' l o := by
  cases o with
  | list => obtain ⟨a, vs, e, ⟨n, ho⟩, sz, b⟩ := r; exact ⟨a, vs, hρ l a e, ⟨n, same a _ (.inl e) ho⟩, sz, VRels.map hρ k _ b⟩
  | dict => obtain ⟨a, kvs, e, ⟨o, es, ep, ho, r⟩, b⟩ := r; exact ⟨a, kvs, hρ l a e, ⟨o, es, ep, same a o (.inl e) ho, r⟩, DRel.map (VRel.map hρ k) b⟩
  | tdict => exact r.elim
  | inst =>
    obtain ⟨a, d, C, m, e, f, c, ho, ⟨od, es, ep, hd, r⟩, b⟩ := r
    exact ⟨a, d, C, m, hρ l a e, hδ l d f, c, same a _ (.inl e) ho, ⟨od, es, ep, same d _ (.inr f) hd, r⟩, fun i v e => let ⟨y, e1, e2⟩ := b.1 i v e; ⟨y, e1, VRel.map hρ k v e2⟩, b.2⟩
theorem ObjOk.step {G : Gd} {X : Addr → Prop} {t t' : Tie} {σ σ' : Shared} {l : Lbl} (s : Step X t t' σ σ') (xp : ∀ a, X a → t.pv a)
    (same : ∀ a o, (t.ρ l = some a ∨ t.δ l = some a) → σ.heap.get? a = some o → σ'.heap.get? a = some o) {o : MObj} (r : ObjOk G t σ.heap l o) : ObjOk G t' σ'.heap l o := ObjOk.map s.le.ρ s.le.δ (s.val xp) same r

section
variable {G : Gd} {t : Tie} {st : MS} {s : Shared}

theorem Rel.fresh (R : Rel G t st s) {a : Addr} (e : s.heap.get? a = none) : ¬ t.Avoid a := fun q => by
  have := R.live a q; rw [e] at this; cases this

theorem Step.grow (_R : Rel G t st s) {s' : Shared} (hk : ∀ b o, s.heap.get? b = some o → s'.heap.get? b = some o) (hg : s'.gens = s.gens) (ho : s'.os = s.os) : Step noX t t s s' :=
  ⟨.refl t, fun a o e _ _ _ => hk a o e, fun a o e _ _ _ => ⟨o.slots, hk a o e⟩, fun _ o => .inl o, fun a o e => by rw [hk a o e]; rfl, hg, ho⟩
theorem Rel.grow (R : Rel G t st s) {s' : Shared} (hk : ∀ b o, s.heap.get? b = some o → s'.heap.get? b = some o) (hg : s'.gens = s.gens) (ho : s'.os = s.os) : Rel G t st s' where
  base b o e := hk b o (R.base b o e)
  apart := R.apart
  live a q := by obtain ⟨o, e⟩ := Option.isSome_iff_exists.mp (R.live a q); rw [hk a o e]; rfl
  pv := R.pv
  injρ := R.injρ
  injδ := R.injδ
  two := R.two
  objs l o e := (R.objs l o e).step (Step.grow R hk hg ho) (fun _ x => x.elim) fun a o _ e => hk a o e
  cnt := R.cnt
  sys := R.sys
  wr := R.wr

theorem Rel.toks (R : Rel G t st s) (n : Nat) : Rel G t st { s with toks := n } := R.grow (fun _ _ e => e) rfl rfl
theorem Step.toks (X : Addr → Prop) (t : Tie) (s : Shared) (n : Nat) : Step X t t s { s with toks := n } := ⟨.refl t, fun _ _ e _ _ _ => e, fun _ o e _ _ _ => ⟨o.slots, e⟩, fun _ o => .inl o, fun _ _ e => by show (s.heap.get? _).isSome = true; rw [e]; rfl, rfl, rfl⟩

noncomputable def Tie.tick (t : Tie) : Tie := { t with wr := t.wr + 1 }
theorem Step.upd {a : Addr} {h' : Heap} {tk : Nat} (own : t.Own a) (hl : (h'.get? a).isSome = true) (hs : Heap.SameBut a s.heap h') : Step noX t t.tick s { s with heap := h', toks := tk } :=
  ⟨⟨fun _ _ e => e, fun _ _ e => e, rfl, Nat.le_succ _, rfl⟩, fun b o e n _ _ => (hs.2 b fun (q : b = a) => Nat.succ_ne_self _ (n (q ▸ own))).trans e, fun b o e n _ _ => ⟨o.slots, (hs.2 b fun (q : b = a) => n (q ▸ own)).trans e⟩, fun _ o => .inl o, fun b o e => by
    by_cases q : b = a
    · subst q; exact hl
    · show (h'.get? b).isSome = true; rw [hs.2 b q, e]; rfl, rfl, rfl⟩
theorem Rel.upd (R : Rel G t st s) {l : Lbl} {a : Addr} {h' : Heap} {tk : Nat} {o : MObj} (own : t.ρ l = some a ∨ t.δ l = some a) (hl : (h'.get? a).isSome = true) (hs : Heap.SameBut a s.heap h') (hn : st.heap l ≠ none)
    (ho : ObjOk G t.tick h' l o) : Rel G t.tick (st.put l o) { s with heap := h', toks := tk } where
  base b ob e := (hs.2 b fun (q : b = a) => by rw [q, R.apart a (.inl ⟨l, own⟩)] at e; cases e).trans (R.base b ob e)
  apart := R.apart
  live b q := by
    by_cases z : b = a
    · subst z; exact hl
    · show (h'.get? b).isSome = true; rw [hs.2 b z]; exact R.live b q
  pv := R.pv
  injρ := R.injρ
  injδ := R.injδ
  two := R.two
  objs l' o' e := by
    unfold MS.put at e
    dsimp only at e
    by_cases z : l' = l
    · rw [if_pos z] at e; cases e; subst z; exact ho
    · rw [if_neg z] at e
      refine (R.objs l' o' e).step (Step.upd ⟨l, own⟩ hl hs) (fun _ x => x.elim) fun b ob hb eb => (hs.2 b fun (q : b = a) => z ?_).trans eb
      subst q
      rcases hb with hb | hb <;> rcases own with ow | ow
      · exact R.injρ l' l b hb ow
      · exact (R.two l' l b hb ow).elim
      · exact (R.two l l' b ow hb).elim
      · exact R.injδ l' l b hb ow
  cnt k i e := by
    obtain ⟨c1, c2, c3⟩ := R.cnt k i e
    refine ⟨c1, c2, ?_⟩
    show (if (k, i) = l then some o else st.heap (k, i)) = none
    rw [if_neg (fun (q : (k, i) = l) => hn (by rw [← q]; exact c3)), c3]
  sys := R.sys
  wr := congrArg Nat.succ R.wr

noncomputable def Tie.bind (t : Tie) (l : Lbl) (a : Addr) (d : Option Addr) : Tie := { t with ρ := fun x => if x = l then some a else t.ρ x, δ := fun x => if x = l then d else t.δ x }

theorem Step.bind {k : Nat} {a : Addr} {d : Option Addr} {s' : Shared} (R : Rel G t st s) (hk : ∀ b o, s.heap.get? b = some o → s'.heap.get? b = some o) (hg : s'.gens = s.gens) (ho : s'.os = s.os)
    (fa : s.heap.get? a = none) (fd : ∀ x, d = some x → s.heap.get? x = none) : Step noX t (t.bind (k, st.cnt k) a d) s s' where
  le := ⟨fun l b e => by
      obtain ⟨c1, _, _⟩ := R.cnt k _ (Nat.le_refl _)
      show (if l = (k, st.cnt k) then some a else t.ρ l) = some b
      rw [if_neg (fun q => by rw [q, c1] at e; cases e)]; exact e,
    fun l b e => by
      obtain ⟨_, c2, _⟩ := R.cnt k _ (Nat.le_refl _)
      show (if l = (k, st.cnt k) then d else t.δ l) = some b
      rw [if_neg (fun q => by rw [q, c2] at e; cases e)]; exact e, rfl, Nat.le_refl _, rfl⟩
  keepW b o e _ _ _ := hk b o e
  slots b o e _ _ _ := ⟨o.slots, hk b o e⟩
  new b := by
    rintro ⟨l, e | e⟩
    · change (if l = (k, st.cnt k) then some a else t.ρ l) = some b at e
      split at e
      · cases e; exact .inr fa
      · exact .inl ⟨l, .inl e⟩
    · change (if l = (k, st.cnt k) then d else t.δ l) = some b at e
      split at e
      · exact .inr (fd b e)
      · exact .inl ⟨l, .inr e⟩
  live b o e := by rw [hk b o e]; rfl
  gens := hg
  os := ho

theorem Rel.bind {k : Nat} {a : Addr} {d : Option Addr} {s' : Shared} {o : MObj} (R : Rel G t st s) (hk : ∀ b o, s.heap.get? b = some o → s'.heap.get? b = some o) (hg : s'.gens = s.gens) (ho : s'.os = s.os)
    (fa : s.heap.get? a = none) (fd : ∀ x, d = some x → s.heap.get? x = none ∧ x ≠ a ∧ (s'.heap.get? x).isSome = true) (la : (s'.heap.get? a).isSome = true) (hsys : a ≠ sysModules)
    (hO : ObjOk G (t.bind (k, st.cnt k) a d) s'.heap (k, st.cnt k) o) : Rel G (t.bind (k, st.cnt k) a d) (st.new k o) s' := by
  have S := Step.bind (k := k) (d := d) R hk hg ho fa fun x e => (fd x e).1
  have c := R.cnt k _ (Nat.le_refl _)
  have nr : ∀ {l : Lbl} {b : Addr}, (t.bind (k, st.cnt k) a d).ρ l = some b → (l = (k, st.cnt k) ∧ b = a) ∨ (l ≠ (k, st.cnt k) ∧ t.ρ l = some b) := fun {l b} e => by
    change (if l = (k, st.cnt k) then some a else t.ρ l) = some b at e
    split at e
    · rename_i q; cases e; exact .inl ⟨q, rfl⟩
    · rename_i q; exact .inr ⟨q, e⟩
  have nd : ∀ {l : Lbl} {b : Addr}, (t.bind (k, st.cnt k) a d).δ l = some b → (l = (k, st.cnt k) ∧ d = some b) ∨ (l ≠ (k, st.cnt k) ∧ t.δ l = some b) := fun {l b} e => by
    change (if l = (k, st.cnt k) then d else t.δ l) = some b at e
    split at e
    · rename_i q; exact .inl ⟨q, e⟩
    · rename_i q; exact .inr ⟨q, e⟩
  have na : ¬ t.Avoid a := R.fresh fa
  have nx : ∀ x, d = some x → ¬ t.Avoid x := fun x e => R.fresh (fd x e).1
  refine ⟨fun b ob e => hk b ob (R.base b ob e), ?_, ?_, ?_, ?_, ?_, ?_, ?_, ?_, fun l e => by rcases nr e with ⟨_, z⟩ | ⟨_, z⟩; exact hsys z.symm; exact R.sys l z, R.wr⟩
  · rintro b (⟨l, e | e⟩ | e)
    · rcases nr e with ⟨_, rfl⟩ | ⟨_, e⟩
      · cases q : G.h₀.get? b with
        | none => rfl
        | some ob => rw [R.base b ob q] at fa; cases fa
      · exact R.apart b (.inl ⟨l, .inl e⟩)
    · rcases nd e with ⟨_, e⟩ | ⟨_, e⟩
      · cases q : G.h₀.get? b with
        | none => rfl
        | some ob => have := (fd b e).1; rw [R.base b ob q] at this; cases this
      · exact R.apart b (.inl ⟨l, .inr e⟩)
    · exact R.apart b (.inr e)
  · rintro b (⟨l, e | e⟩ | e)
    · rcases nr e with ⟨_, rfl⟩ | ⟨_, e⟩
      · exact la
      · obtain ⟨ob, q⟩ := Option.isSome_iff_exists.mp (R.live b (.inl ⟨l, .inl e⟩)); rw [hk b ob q]; rfl
    · rcases nd e with ⟨_, e⟩ | ⟨_, e⟩
      · exact (fd b e).2.2
      · obtain ⟨ob, q⟩ := Option.isSome_iff_exists.mp (R.live b (.inl ⟨l, .inr e⟩)); rw [hk b ob q]; rfl
    · obtain ⟨ob, q⟩ := Option.isSome_iff_exists.mp (R.live b (.inr e)); rw [hk b ob q]; rfl
  · rintro b p ⟨l, e | e⟩
    · rcases nr e with ⟨_, rfl⟩ | ⟨_, e⟩
      · exact na (.inr p)
      · exact R.pv b p ⟨l, .inl e⟩
    · rcases nd e with ⟨_, e⟩ | ⟨_, e⟩
      · exact nx b e (.inr p)
      · exact R.pv b p ⟨l, .inr e⟩
  · intro l l' b e e'
    rcases nr e with ⟨q1, z1⟩ | ⟨_, e1⟩ <;> rcases nr e' with ⟨q, z⟩ | ⟨_, e2⟩
    · exact q1.trans q.symm
    · exact (na (.inl ⟨l', .inl (z1 ▸ e2)⟩)).elim
    · exact (na (.inl ⟨l, .inl (z ▸ e1)⟩)).elim
    · exact R.injρ l l' b e1 e2
  · intro l l' b e e'
    rcases nd e with ⟨q1, z1⟩ | ⟨_, e1⟩ <;> rcases nd e' with ⟨q, z⟩ | ⟨_, e2⟩
    · exact q1.trans q.symm
    · exact (nx b z1 (.inl ⟨l', .inr e2⟩)).elim
    · exact (nx b z (.inl ⟨l, .inr e1⟩)).elim
    · exact R.injδ l l' b e1 e2
  · intro l l' b e e'
    rcases nr e with ⟨q1, z1⟩ | ⟨_, e1⟩ <;> rcases nd e' with ⟨q, z⟩ | ⟨_, e2⟩
    · exact (fd b z).2.1 z1
    · exact na (.inl ⟨l', .inr (z1 ▸ e2)⟩)
    · exact nx b z (.inl ⟨l, .inl e1⟩)
    · exact R.two l l' b e1 e2
  · intro l o' e
    change (if l = (k, st.cnt k) then some o else st.heap l) = some o' at e
    split at e
    · rename_i q; cases e; subst q; exact hO
    · exact (R.objs l o' e).step S (fun _ x => x.elim) fun b ob _ e => hk b ob e
  · intro k' i e
    change (if k' = k then st.cnt k + 1 else st.cnt k') ≤ i at e
    have ne : (k', i) ≠ (k, st.cnt k) := fun q => by
      cases q; rw [if_pos rfl] at e; omega
    have le : st.cnt k' ≤ i := by
      by_cases q : k' = k
      · subst q; rw [if_pos rfl] at e; omega
      · rw [if_neg q] at e; exact e
    obtain ⟨c1, c2, c3⟩ := R.cnt k' i le
    refine ⟨?_, ?_, ?_⟩
    · show (if (k', i) = (k, st.cnt k) then some a else t.ρ (k', i)) = none
      rw [if_neg ne]; exact c1
    · show (if (k', i) = (k, st.cnt k) then d else t.δ (k', i)) = none
      rw [if_neg ne]; exact c2
    · show (if (k', i) = (k, st.cnt k) then some o else st.heap (k', i)) = none
      rw [if_neg ne]; exact c3
end
end Mine
end

section
set_option genInjectivity false
set_option genSizeOf false
namespace Mine
open PySem PySem.W PyProof.Rows

structure Names where
  fn : Nat → PySem.Str
  cls : Nat → PySem.Str
  meth : Nat → PySem.Str
  attr : Nat → PySem.Str
  exc : Nat → PySem.Str
  gi : List (PySem.Str × Int)
  gs : List (PySem.Str × List Nat)
  xs : List (PySem.Str × Nat)
  xf : Nat → Bool
  xm : Nat → Bool
  qf : Nat → Bool

noncomputable abbrev Sc := List (PySem.Str × NameKind)
noncomputable abbrev Gam := List (Option PySem.Str)

noncomputable def glob (sc : Sc) (x : PySem.Str) : Bool := sc.lookup x == some .globalImplicit && x != ("__debug__" : PySem.Str)
noncomputable def kindName : Kind → Option PySem.Str
  | .int => some "int"
  | .bool => some "bool"
  | .str => some "str"
  | .list => some "list"
  | .tuple => some "tuple"
  | .valueError => some "ValueError"
  | .cls _ => none
noncomputable def chkKind (N : Names) (sc : Sc) (k : Kind) (y : PySem.Expr) : Bool := match y with
  | .Name x _ => kindName k == some x && glob sc x
  | _ => false
noncomputable def chkKinds (N : Names) (sc : Sc) : List Kind → List PySem.Expr → Bool
  | [], [] => true
  | k :: ks, e :: es => chkKind N sc k e && chkKinds N sc ks es
  | _, _ => false
noncomputable def opOf : Bop → Operator
  | .add => .Add | .sub => .Sub | .mul => .Mult | .fdiv => .FloorDiv | .mod => .Mod | .pow => .Pow
noncomputable def cmpOf : Cop → CmpOp
  | .eq => .Eq | .ne => .NotEq | .lt => .Lt | .le => .LtE | .gt => .Gt | .ge => .GtE | .isin => .In | .notin => .NotIn
noncomputable def primName : Prim → PySem.Str
  | .len => "len" | .max2 => "max" | .int1 => "int" | .sorted => "sorted" | .tuple1 => "tuple" | .list1 => "list" | .all1 => "all"
noncomputable def bmName : Bm → PySem.Str
  | .append => "append" | .extend => "extend" | .pop => "pop" | .insert => "insert" | .count => "count" | .get => "get" | .join => "join" | .upper => "upper"
noncomputable def compSc (sc : Sc) (names : Sc) : Sc := names.map fun x => if x.2 == .free && sc.lookup x.1 == some .cell then (x.1, .cell) else x
noncomputable def compGam (sc' : Sc) (Γ : Gam) (slot : Nat) (x : PySem.Str) : Gam := (Γ.map fun y => match y with | some n => if sc'.lookup n == some .cell then some n else none | none => none).set slot (some x)
noncomputable def compOk (sc : Sc) (scope : Scope) (slot : Nat) (Γ : Gam) (x : PySem.Str) : Bool :=
  scope.kind == .function && decide (slot < Γ.length) && scope.names.lookup x == some .local &&
  scope.names.all (fun y => y.2 != .cell && (y.2 != .local || scope.names.lookup y.1 == some .local) && (y.2 != .free || sc.lookup y.1 == some .cell))
noncomputable def isNot : CmpOp → Bool → Bool
  | .Is, b => !b
  | .IsNot, b => b
  | _, _ => false

end Mine
end

section
set_option genInjectivity false
set_option genSizeOf false
namespace Mine
open PySem PySem.W PyProof.Rows

structure Dp where
  n : Nat
  q : Bool
structure AOk (d : Dp) (A : Around) : Prop where
  hd : d.q = true → A.handled = none
  dep : A.depth + 2 * d.n + 6 ≤ recursionLimit
  un : A.units + 20 * d.n + 110 ≤ cLine
structure AC (d : Dp) (A : Around) : Prop where
  hd : d.q = true → A.handled = none
  dep : A.depth + 2 * d.n + 5 ≤ recursionLimit
  un : A.units + 20 * d.n + 105 ≤ cLine
theorem AOk.ac {d : Dp} {A : Around} (h : AOk d A) : AC d A := ⟨h.hd, by have := h.dep; omega, by have := h.un; omega⟩

structure Stk (A : Around) (t : Tie) (h : Heap) : Prop where
  fr : A.frames = some t.st
  ob : ∀ e, e ∈ t.st → e.scope.kind ≠ .module ∧ ∃ L o, e.frame = some L ∧ t.pv L ∧ h.get? L = some o ∧ ∀ vs, o.data ≠ .fields vs
theorem Stk.step {G : Gd} {A : Around} {X : Addr → Prop} {t t' : Tie} {st : MS} {s s' : Shared} (K : Stk A t s.heap) (R : Rel G t st s) (S : Step X t t' s s') (hX : ∀ a, X a → t.Fr a → ∀ o, s'.heap.get? a = some o → ∀ vs, o.data ≠ .fields vs) : Stk A t' s'.heap where
  fr := by rw [S.le.st]; exact K.fr
  ob e he := by
    rw [S.le.st] at he
    obtain ⟨h1, L, o, h2, h3, h4, h5⟩ := K.ob e he
    refine ⟨h1, L, ?_⟩
    by_cases x : X L
    · obtain ⟨o', e'⟩ := Option.isSome_iff_exists.mp (S.live L o h4)
      exact ⟨o', h2, by rw [S.le.pv]; exact h3, e', hX L x ⟨h3, e, he, h2⟩ o' e'⟩
    · obtain ⟨sl, e'⟩ := S.slots L o h4 (R.pv L h3) x ⟨h3, e, he, h2⟩
      exact ⟨_, h2, by rw [S.le.pv]; exact h3, e', h5⟩
theorem Stk.step0 {G : Gd} {A : Around} {t t' : Tie} {st : MS} {s s' : Shared} (K : Stk A t s.heap) (R : Rel G t st s) (S : Step noX t t' s s') : Stk A t' s'.heap := K.step R S fun _ x => x.elim
theorem Stk.fresh {A : Around} {t : Tie} {h : Heap} (K : Stk A t h) {P : Addr → Prop} {a : Addr} (np : h.get? a = none) : ¬ (t.hide P).Fr a := fun f => by
  obtain ⟨-, e, h1, h2⟩ := f
  obtain ⟨-, L, o, h3, -, h4, -⟩ := K.ob e h1
  rw [h3] at h2; cases h2
  rw [np] at h4; cases h4
theorem Step.pvk {G : Gd} {X : Addr → Prop} {t t' : Tie} {st : MS} {s s' : Shared} (S : Step X t t' s s') (R : Rel G t st s) {a : Addr} {o : Obj} (hp : t.pv a) (nx : ¬ X a) (e : s.heap.get? a = some o) : ∃ sl, s'.heap.get? a = some { o with slots := sl } := by
  by_cases f : t.Fr a
  · exact S.slots a o e (R.pv a hp) nx f
  · exact ⟨o.slots, S.keep a o e (R.pv a hp) nx f⟩

structure FrOk (G : Gd) (A : Around) (t : Tie) (env : Env) (Γ : Gam) (loc : Loc) (s : Shared) : Prop where
  sk : Stk A t s.heap
  fn : env.scope.kind = .function
  gl : env.globals = mainGlobals
  bl : env.builtins = builtinsNs
  pvl : t.pv env.locals
  pvc : ∀ n c, env.cells.lookup n = some c → t.pv c
  apart : ∀ n n' c, env.cells.lookup n = some c → env.cells.lookup n' = some c → n = n'
  ex : ∃ m cm : PySem.Str → Option Value, s.heap.Ns env.locals m ∧ (∀ n c, env.cells.lookup n = some c → s.heap.IsCell c (cm n)) ∧ (∀ x, env.kindOf x = some .cell → (env.cells.lookup x).isSome = true) ∧
    ∀ (i : Nat) (x : PySem.Str) (X : V), Γ[i]? = some (some x) → loc[i]? = some (some X) → ∃ v, VRel t s.heap X v ∧ ((env.kindOf x = some .local ∧ m x = some v) ∨ (env.kindOf x = some .cell ∧ cm x = some v))

theorem FrOk.step {G : Gd} {A : Around} {t t' : Tie} {env : Env} {Γ : Gam} {loc : Loc} {st : MS} {s s' : Shared} (F : FrOk G A t env Γ loc s) (R : Rel G t st s) (S : Step noX t t' s s') : FrOk G A t' env Γ loc s' where
  sk := F.sk.step0 R S
  fn := F.fn
  gl := F.gl
  bl := F.bl
  pvl := by rw [S.le.pv]; exact F.pvl
  pvc n c h := by rw [S.le.pv]; exact F.pvc n c h
  apart := F.apart
  ex := by
    obtain ⟨m, cm, ⟨o, es, ep, ho, r⟩, hc, hz, hs⟩ := F.ex
    obtain ⟨sl, ho'⟩ := Step.pvk S R F.pvl (fun q => q) ho
    refine ⟨m, cm, ⟨_, es, ep, ho', r⟩, fun n c e => ?_, hz, fun i x X e1 e2 => ?_⟩
    · obtain ⟨oc, h1, h2⟩ := hc n c e
      obtain ⟨sl, h1'⟩ := Step.pvk S R (F.pvc n c e) (fun q => q) h1
      exact ⟨_, h1', h2⟩
    · obtain ⟨v, hv, r⟩ := hs i x X e1 e2
      exact ⟨v, VRel.step S (fun _ q => q.elim) X hv, r⟩

noncomputable def Sim (G : Gd) (A : Around) {α : Type} (t : Tie) (s : Shared) (tree : Sem α) (st' : MS) (rel : Tie → Shared → α → Prop) : Prop :=
  ∀ (Q : α → Shared → Prop) (E : Value → Shared → Prop), (∀ v t' s', Step noX t t' s s' → Rel G t' st' s' → rel t' s' v → Q v s') → wpAny G.M A tree Q E s

noncomputable abbrev vrel (X : V) : Tie → Shared → Value → Prop := fun t s v => VRel t s.heap X v
noncomputable abbrev vrels (X : List V) : Tie → Shared → List Value → Prop := fun t s v => VRels t s.heap X v

theorem Res.bind_ok {α β : Type} {r : Res α} {f : α → MS → Res β} {b : β} {s' : MS} (e : r.bind f = .ok b s') : ∃ a s, r = .ok a s ∧ f a s = .ok b s' := by
  cases r with
  | ok a s => exact ⟨a, s, rfl, e⟩
  | exc _ _ => cases e
  | stuck => cases e

theorem Res.bnd_ok {α β : Type} {r : Res α} {f : α → MS → Res β} {b : β} {s' : MS} (e : r.bnd f = .ok b s') : ∃ a s, r = .ok a s ∧ f a s = .ok b s' := by
  cases r with
  | ok a s => exact ⟨a, s, rfl, e⟩
  | exc _ _ => cases e
  | stuck => cases e
theorem Res.bnd_exc {α β : Type} {r : Res α} {f : α → MS → Res β} {c : Nat} {s' : MS} (e : r.bnd f = .exc c s') : ∃ a s, r = .ok a s ∧ f a s = .exc c s' := by
  cases r with
  | ok a s => exact ⟨a, s, rfl, e⟩
  | exc _ _ => cases e
  | stuck => cases e
theorem Res.bind_exc {α β : Type} {r : Res α} {f : α → MS → Res β} {c : Nat} {s' : MS} (e : r.bind f = .exc c s') : r = .exc c s' ∨ ∃ a s, r = .ok a s ∧ f a s = .exc c s' := by
  cases r with
  | ok a s => exact .inr ⟨a, s, rfl, e⟩
  | exc _ _ => cases e; exact .inl rfl
  | stuck => cases e

noncomputable def CallAt (G : Gd) (C : Calls) (d : Dp) (f : Nat) : Prop :=
  ∀ vs st X st', C f vs st = .ok X st' → ∀ A, AC d A → ∃ a, G.fa f = some a ∧ ∀ t s args, Stk A t s.heap → Rel G t st s → VRels t s.heap vs args → ∀ (B : Result → Shared → Prop),
    (∀ v t' s', Step noX t t' s s' → Rel G t' st' s' → VRel t' s'.heap X v → B (.ok (.ret v)) s') → codeAny G.M A (.call (.ref a) ⟨args, []⟩) B s
noncomputable def CallsOk (G : Gd) (C : Calls) (d : Dp) : Prop := ∀ f, CallAt G C d f

structure Gd.Ok (G : Gd) (N : Names) : Prop where
  K : G.K.In G.h₀
  g : G.h₀.Ns mainGlobals G.mg
  b : G.h₀.Ns builtinsNs G.mb
  bi : ∀ x : PySem.Str, x ≠ "__name__" → G.mb x = bootBuiltins x
  lim : G.h₀.NoLimit
  gi : ∀ x i, N.gi.contains (x, i) = true → ∃ k, G.mg x = some (.int i k)
  gs : ∀ x l, N.gs.contains (x, l) = true → ∃ k, G.mg x = some (.str (toStr l) k)
  an : ∀ i j, G.an i = G.an j → i = j
  attr : N.attr = G.an
  none : ∀ x, x ∈ (["len", "max", "int", "sorted", "tuple", "list", "all", "isinstance", "range", "dict", "bool", "str", "ValueError"] : List PySem.Str) → G.mg x = none

noncomputable def SimE (G : Gd) (C : Calls) (d : Dp) (sc : Sc) (Γ : Gam) (e : E) (ast : PySem.Expr) : Prop :=
  ∀ t st s env loc X st' A, AOk d A → env.scope.names = sc → FrOk G A t env Γ loc s → Rel G t st s → ev G.P C e loc st = .ok X st' → Sim G A t s (eval ast env) st' (vrel X)
noncomputable def SimEs (G : Gd) (C : Calls) (d : Dp) (sc : Sc) (Γ : Gam) (l : List E) (m : List PySem.Expr) : Prop :=
  ∀ pos t st s env loc Xs st' A, AOk d A → env.scope.names = sc → FrOk G A t env Γ loc s → Rel G t st s → evL G.P C l loc st = .ok Xs st' → Sim G A t s (spliced (backTo pos (starEach m env))) st' (vrels Xs)

section
variable {G : Gd} {N : Names} {C : Calls} {d : Dp} {sc : Sc} {Γ : Gam}

theorem Sim.here {A : Around} {α : Type} {t : Tie} {st : MS} {s : Shared} {tree : Sem α} {rel : Tie → Shared → α → Prop} (R : Rel G t st s)
    (h : ∀ (Q : α → Shared → Prop) (E : Value → Shared → Prop), (∀ v tk, rel t { s with toks := tk } v → Q v { s with toks := tk }) → wpAny G.M A tree Q E s) : Sim G A t s tree st rel :=
  fun Q E k => h Q E fun v tk r => k v t _ (Step.toks _ t s tk) (R.toks tk) r

theorem VRel.flat {t : Tie} {h h' : Heap} {X : V} {v : Value} (r : VRel t h X v) (e : h' = h) : VRel t h' X v := e ▸ r

theorem sim_none {k : Nat} {pos : Pos} : SimE G C d sc Γ .none (.Constant .none k pos) := by
  intro t st s env loc X st' A hA hsc F R e
  cases e
  exact Sim.here R fun Q E k => fun _ _ _ => k .none s.toks rfl
theorem sim_bool {b : Bool} {k : Nat} {pos : Pos} : SimE G C d sc Γ (.bool b) (.Constant (.bool b) k pos) := by
  intro t st s env loc X st' A hA hsc F R e
  cases e
  exact Sim.here R fun Q E k => fun _ _ _ => k (.bool b) s.toks rfl
theorem sim_int {i : Int} {k : Nat} {pos : Pos} : SimE G C d sc Γ (.int i) (.Constant (.int i) k pos) := by
  intro t st s env loc X st' A hA hsc F R e
  cases e
  exact Sim.here R fun Q E k => wpAny_Constant_int (k _ _ ⟨_, rfl⟩)
theorem sim_str {x : List Nat} {k : Nat} {pos : Pos} : SimE G C d sc Γ (.str x) (.Constant (.str (toStr x)) k pos) := by
  intro t st s env loc X st' A hA hsc F R e
  cases e
  exact Sim.here R fun Q E k => wpAny_Constant_str (k _ _ ⟨_, rfl⟩)
theorem sim_loc {i : Nat} {x : PySem.Str} {pos : Pos} (hx : Γ[i]? = some (some x)) (hd : (x == ("__debug__" : PySem.Str)) = false) : SimE G C d sc Γ (.loc i) (.Name x pos) := by
  intro t st s env loc X st' A hA hsc F R e
  rw [ev_loc] at e
  split at e
  · rename_i v hv
    cases e
    obtain ⟨m, cm, hn, hc, hz, hs⟩ := F.ex
    obtain ⟨y, hy, r⟩ := hs i x X hx hv
    refine Sim.here R fun Q E k => wpAny_Name ?_ hd
    rcases r with ⟨hk, hm⟩ | ⟨hk, hm⟩
    · exact wpAny_loadName_local F.fn hk hn hm (k y s.toks hy)
    · obtain ⟨c, hcl⟩ := Option.isSome_iff_exists.mp (hz x hk)
      exact wpAny_loadName_cell F.fn hk hcl (hm ▸ hc x c hcl) (k y s.toks hy)
  · cases e

theorem glob_name {A : Around} {t : Tie} {st : MS} {s : Shared} {env : Env} {loc : Loc} {x : PySem.Str} {pos : Pos} {v : Value} {Q : Value → Shared → Prop} {E : Value → Shared → Prop} (O : G.Ok N) (F : FrOk G A t env Γ loc s) (R : Rel G t st s)
    (hsc : env.scope.names = sc) (hg : glob sc x = true) (hm : G.mg x = some v) (h : Q v s) : wpAny G.M A (eval (.Name x pos) env) Q E s := by
  simp only [glob, Bool.and_eq_true, beq_iff_eq, bne_iff_ne, ne_eq] at hg
  refine Calls.Name_function_global F.fn (by unfold Env.kindOf; rw [hsc]; exact hg.1) (Calls.loadGlobal_global (by rw [F.gl]; exact O.g.keeps R.base) hm h) (by simpa using hg.2)
theorem glob_built {A : Around} {t : Tie} {st : MS} {s : Shared} {env : Env} {loc : Loc} {x : PySem.Str} {pos : Pos} {v : Value} {Q : Value → Shared → Prop} {E : Value → Shared → Prop} (O : G.Ok N) (F : FrOk G A t env Γ loc s) (R : Rel G t st s)
    (hsc : env.scope.names = sc) (hg : glob sc x = true) (hm : G.mg x = none) (hb : bootBuiltins x = some v) (hn : x ≠ "__name__") (h : Q v s) : wpAny G.M A (eval (.Name x pos) env) Q E s := by
  simp only [glob, Bool.and_eq_true, beq_iff_eq, bne_iff_ne, ne_eq] at hg
  refine Calls.Name_function_global F.fn (by unfold Env.kindOf; rw [hsc]; exact hg.1) (Calls.loadGlobal_builtin (by rw [F.gl]; exact O.g.keeps R.base) hm (by rw [F.bl]; exact O.b.keeps R.base) ((O.bi x hn).trans hb) h) (by simpa using hg.2)

theorem sim_gint (O : G.Ok N) {x : PySem.Str} {i : Int} {pos : Pos} (hg : glob sc x = true) (hi : N.gi.contains (x, i) = true) : SimE G C d sc Γ (.gint x i) (.Name x pos) := by
  intro t st s env loc X st' A hA hsc F R e
  cases e
  obtain ⟨k', hk⟩ := O.gi x i hi
  exact Sim.here R fun Q E k => glob_name O F R hsc hg hk (k _ s.toks ⟨_, rfl⟩)
theorem sim_es_nil : SimEs G C d sc Γ [] [] := by
  intro pos t st s env loc X st' A hA hsc F R e
  cases e
  exact fun Q E k => Calls.spliced_nil (k [] t s (.refl _ _ _) R rfl)
theorem sim_es_cons {e : E} {l : List E} {x : PySem.Expr} {m : List PySem.Expr} (hx : isStarred x = false) (h1 : SimE G C d sc Γ e x) (h2 : SimEs G C d sc Γ l m) : SimEs G C d sc Γ (e :: l) (x :: m) := by
  intro pos t st s env loc X st' A hA hsc F R q
  rw [evL_cons] at q
  obtain ⟨v, s1, q1, q⟩ := Res.bind_ok q
  obtain ⟨vs, s2, q2, q⟩ := Res.bind_ok q
  cases q
  intro Q E k
  have he : starEach (x :: m) env = (false, eval x env) :: starEach m env := by cases x <;> first | rfl | cases hx
  refine wpAny_items_cons (h1 t st s env loc v s1 A hA hsc F R q1 _ _ fun y t1 σ1 S1 R1 r1 => ?_) he
  refine h2 pos t1 s1 σ1 env loc vs st' A hA hsc (F.step R S1) R1 q2 _ _ fun ys t2 σ2 S2 R2 r2 => ?_
  exact k _ t2 σ2 (S1.trans S2) R2 ⟨y, ys, rfl, VRel.step S2 (fun _ z => z.elim) v r1, r2⟩
end
end Mine
end

section
set_option genInjectivity false
set_option genSizeOf false
namespace Mine
open PySem PySem.W PyProof.Rows PySem.SeqAt

section
variable {G : Gd} {t : Tie} {st : MS} {s : Shared}

theorem seqOf_real (R : Rel G t st s) {X : V} {v : Value} {k : Bool} {l : List V} (r : VRel t s.heap X v) (e : seqOf st X = some (k, l)) :
    ∃ a vs, v = .ref a ∧ (if k = true then PL s.heap a vs else PT s.heap a vs) ∧ VRels t s.heap l vs.toList ∧ l.length ≤ sizeMax := by
  cases X with
  | tup m => cases e; obtain ⟨a, vs, e1, e2, _, sz, e3⟩ := r; exact ⟨a, vs, e1, e2, e3, sz⟩
  | lst m => cases e; obtain ⟨a, vs, e1, e2, _, sz, e3⟩ := r; exact ⟨a, vs, e1, e2, e3, sz⟩
  | ref lb =>
    simp only [seqOf] at e
    split at e
    · rename_i m hm
      cases e
      obtain ⟨a, vs, h1, h2, sz, h3⟩ := R.objs lb _ hm
      obtain ⟨a', e1, e2⟩ := r
      rw [h1] at e2; cases e2
      exact ⟨a, vs, e1, h2, h3, sz⟩
    · cases e
  | _ => cases e

mutual
theorem VRel.inj (R : Rel G t st s) : ∀ (X Y : V) {v : Value}, VRel t s.heap X v → VRel t s.heap Y v → X = Y
  | .none, Y, v, h, h' => by
    cases h
    cases Y <;> first | rfl | (cases h'; done) | (obtain ⟨_, e⟩ := h'; cases e; done) | (obtain ⟨_, _, e, _⟩ := h'; cases e; done) | (obtain ⟨_, e, _⟩ := h'; cases e; done)
  | .bool b, Y, v, h, h' => by
    cases h
    cases Y <;> first | (cases h'; rfl) | (cases h'; done) | (obtain ⟨_, e⟩ := h'; cases e; done) | (obtain ⟨_, _, e, _⟩ := h'; cases e; done) | (obtain ⟨_, e, _⟩ := h'; cases e; done)
  | .int i, Y, v, ⟨k, h⟩, h' => by
    cases h
    cases Y <;> first | (obtain ⟨_, e⟩ := h'; cases e; first | rfl | done) | (cases h'; done) | (obtain ⟨_, _, e, _⟩ := h'; cases e; done) | (obtain ⟨_, e, _⟩ := h'; cases e; done)
  | .str x, Y, v, ⟨k, h⟩, h' => by
    cases h
    cases Y with
    | str y => obtain ⟨_, e⟩ := h'; simp only [Value.str.injEq, Str.mk.injEq] at e; have := congrArg Array.toList e.1; simp only [List.toList_toArray] at this; rw [this]
    | _ => first | (cases h'; done) | (obtain ⟨_, e⟩ := h'; cases e; done) | (obtain ⟨_, _, e, _⟩ := h'; cases e; done) | (obtain ⟨_, e, _⟩ := h'; cases e; done)
  | .tup l, Y, v, ⟨a, vs, h, ⟨n, ho⟩, na, _, hr⟩, h' => by
    cases h
    cases Y with
    | tup m =>
      obtain ⟨b, ws, e, ⟨n', ho'⟩, _, _, hr'⟩ := h'
      cases e; rw [ho] at ho'; cases ho'
      rw [VRels.inj R l m hr hr']
    | lst m =>
      obtain ⟨b, ws, e, ⟨n', ho'⟩, _, _, hr'⟩ := h'
      cases e; rw [ho] at ho'; simp at ho'
    | ref r => obtain ⟨b, e, hb⟩ := h'; cases e; exact (na (.inl ⟨r, .inl hb⟩)).elim
    | exc c => obtain ⟨b, o', e, ho', hc', _⟩ := h'; cases e; rw [ho] at ho'; cases ho'; cases hc'
    | _ => first | (cases h'; done) | (obtain ⟨_, e⟩ := h'; cases e; done)
  | .lst l, Y, v, ⟨a, vs, h, ⟨n, ho⟩, na, _, hr⟩, h' => by
    cases h
    cases Y with
    | lst m =>
      obtain ⟨b, ws, e, ⟨n', ho'⟩, _, _, hr'⟩ := h'
      cases e; rw [ho] at ho'; cases ho'
      rw [VRels.inj R l m hr hr']
    | tup m =>
      obtain ⟨b, ws, e, ⟨n', ho'⟩, _, _, hr'⟩ := h'
      cases e; rw [ho] at ho'; simp at ho'
    | ref r => obtain ⟨b, e, hb⟩ := h'; cases e; exact (na (.inl ⟨r, .inl hb⟩)).elim
    | exc c => obtain ⟨b, o', e, ho', hc', _⟩ := h'; cases e; rw [ho] at ho'; cases ho'; cases hc'
    | _ => first | (cases h'; done) | (obtain ⟨_, e⟩ := h'; cases e; done)
  | .ref l, Y, v, ⟨a, h, hl⟩, h' => by
    cases h
    cases Y with
    | ref r => obtain ⟨b, e, hb⟩ := h'; cases e; rw [R.injρ l r a hl hb]
    | tup m => obtain ⟨b, ws, e, _, na, _, _⟩ := h'; cases e; exact (na (.inl ⟨l, .inl hl⟩)).elim
    | lst m => obtain ⟨b, ws, e, _, na, _, _⟩ := h'; cases e; exact (na (.inl ⟨l, .inl hl⟩)).elim
    | exc c => obtain ⟨b, o', e, _, _, na⟩ := h'; cases e; exact (na (.inl ⟨l, .inl hl⟩)).elim
    | _ => first | (cases h'; done) | (obtain ⟨_, e⟩ := h'; cases e; done)
  | .exc c, Y, v, ⟨a, o, h, ho, hc, na⟩, h' => by
    cases h
    cases Y with
    | exc c' =>
      obtain ⟨b, o', e, ho', hc', _⟩ := h'
      cases e; rw [ho] at ho'; cases ho'; rw [hc] at hc'; cases hc'; rfl
    | tup m => obtain ⟨b, ws, e, ⟨n', ho'⟩, _⟩ := h'; cases e; rw [ho] at ho'; cases ho'; cases hc
    | lst m => obtain ⟨b, ws, e, ⟨n', ho'⟩, _⟩ := h'; cases e; rw [ho] at ho'; cases ho'; cases hc
    | ref r => obtain ⟨b, e, hb⟩ := h'; cases e; exact (na (.inl ⟨r, .inl hb⟩)).elim
    | _ => first | (cases h'; done) | (obtain ⟨_, e⟩ := h'; cases e; done)
theorem VRels.inj (R : Rel G t st s) : ∀ (l m : List V) {vs : List Value}, VRels t s.heap l vs → VRels t s.heap m vs → l = m
  | [], m, vs, h, h' => by
    cases h
    cases m with
    | nil => rfl
    | cons y m => obtain ⟨_, _, e, _⟩ := h'; cases e
  | x :: l, m, vs, ⟨v, r, e, a, b⟩, h' => by
    subst e
    cases m with
    | nil => cases h'
    | cons y m => obtain ⟨v', r', e, a', b'⟩ := h'; cases e; rw [VRel.inj R x y a a', VRels.inj R l m b b']
end
theorem veq_go_spec (st : MS) (n : Nat) : ∀ (la lb : List V) (r : Bool), zipAll (veq st n) la lb = some r →
    (∀ (j : Nat) (x y : V), la[j]? = some x → lb[j]? = some y → ∃ b, veq st n x y = some b) ∧
    r = ((List.range (min la.length lb.length)).all (fun j => (veq st n ((la[j]?).getD .none) ((lb[j]?).getD .none)).getD false) && la.length == lb.length)
  | [], [], r, e => by simp only [zipAll] at e; cases e; exact ⟨fun j x y e => by simp at e, rfl⟩
  | [], y :: lb, r, e => by simp only [zipAll] at e; cases e; exact ⟨fun j x y e => by simp at e, by simp⟩
  | x :: la, [], r, e => by simp only [zipAll] at e; cases e; exact ⟨fun j x y _ e => by simp at e, by simp⟩
  | x :: la, y :: lb, r, e => by
    simp only [zipAll] at e
    split at e
    · rename_i p q hp hq
      cases e
      obtain ⟨h1, h2⟩ := veq_go_spec st n la lb q hq
      refine ⟨fun j x' y' e1 e2 => ?_, ?_⟩
      · cases j with
        | zero => simp at e1 e2; subst e1 e2; exact ⟨p, hp⟩
        | succ j => simp at e1 e2; exact h1 j x' y' e1 e2
      · have : min (x :: la).length (y :: lb).length = min la.length lb.length + 1 := by simp only [List.length_cons]; omega
        rw [this, List.range_succ_eq_map, List.all_cons, List.all_map, h2]
        simp [hp, Function.comp_def, Bool.and_assoc]
    · cases e

theorem zip_rfl {f : V → V → Option Bool} (h : ∀ x b, f x x = some b → b = true) : ∀ (l : List V) (r : Bool), zipAll f l l = some r → r = true
  | [], _, e => by cases e; rfl
  | x :: l, r, e => by
    have e : (match f x x, zipAll f l l with | some p, some q => some (p && q) | _, _ => none) = some r := e
    cases hp : f x x with
    | none => rw [hp] at e; cases e
    | some p =>
      cases hq : zipAll f l l with
      | none => rw [hp, hq] at e; cases e
      | some q =>
        rw [hp, hq] at e
        cases e
        rw [h x p hp, zip_rfl h l q hq]; rfl
theorem flat_rfl {X : V} {r : Bool} (e : eqFlat X X = some r) : r = true := by
  cases X with
  | bool b => cases e; cases b <;> rfl
  | int i => cases e; exact decide_eq_true rfl
  | str x => cases e; exact decide_eq_true rfl
  | none => cases e; rfl
  | _ => cases e
theorem veq_refl (st : MS) : ∀ (n : Nat) (X : V) (r : Bool), veq st n X X = some r → r = true
  | 0, _, _, e => by cases e
  | n + 1, X, r, e => by
    have e : (match seqOf st X, seqOf st X with
      | some p, some q => if p.1 = q.1 then (if p.1 = true ∧ p.2.length ≠ q.2.length then some false else zipAll (veq st n) p.2 q.2) else some false
      | some _, Option.none => eqNotSeq X
      | Option.none, some _ => eqNotSeq X
      | Option.none, Option.none => eqFlat X X) = some r := e
    cases h : seqOf st X with
    | none => rw [h] at e; exact flat_rfl e
    | some p =>
      rw [h] at e
      have e : (if p.1 = p.1 then (if p.1 = true ∧ p.2.length ≠ p.2.length then some false else zipAll (veq st n) p.2 p.2) else some false) = some r := e
      rw [if_pos rfl, if_neg fun q => q.2 rfl] at e
      exact zip_rfl (veq_refl st n) p.2 r e

theorem VRels.at {h : Heap} {l : List V} {vs : Array Value} (r : VRels t h l vs.toList) {j : Nat} (hj : j < vs.size) : ∃ x, l[j]? = some x ∧ VRel t h x vs[j] := by
  have hl := r.length
  have : j < l.length := by rw [← hl]; simpa using hj
  obtain ⟨v, e1, e2⟩ := r.get (i := j) (x := l[j]) (by simp [this])
  refine ⟨l[j], by simp [this], ?_⟩
  rw [Array.getElem?_toList, Array.getElem?_eq_getElem hj] at e1
  cases e1; exact e2

theorem veq_sound (R : Rel G t st s) : ∀ (n : Nat) (X Y : V) (v w : Value) (r : Bool) (A : Around), veq st n X Y = some r → VRel t s.heap X v → VRel t s.heap Y w → A.units + n < cLine → EqAt A s v w r
  | 0, _, _, _, _, _, _, e, _, _, _ => by simp [veq] at e
  | n + 1, X, Y, v, w, r, A, e, hX, hY, hu => by
    have e' := e
    unfold veq at e
    have hu0 : A.units < cLine := by omega
    cases hx : seqOf st X with
    | some p =>
      obtain ⟨ka, la⟩ := p
      obtain ⟨a, vs, rfl, ia, ra, _⟩ := seqOf_real R hX hx
      cases hy : seqOf st Y with
      | some p =>
        obtain ⟨kb, lb⟩ := p
        obtain ⟨b, ws, rfl, ib, rb, _⟩ := seqOf_real R hY hy
        rw [hx, hy] at e
        simp only at e
        by_cases hab : a = b
        · subst hab
          have : X = Y := VRel.inj R X Y hX hY
          subst this
          rw [veq_refl st _ X r e']
          exact EqAt.same _
        split at e
        · rename_i hk
          subst hk
          have hls : vs.size = la.length := by rw [← ra.length]; simp
          have hlb : ws.size = lb.length := by rw [← rb.length]; simp
          cases ka with
          | true =>
            simp only [if_true] at ia ib
            split at e
            · rename_i hne
              cases e
              exact .of_refs hab (RcAt.lists_lengths ia.isList ib.isList (by simp only [bne_iff_ne, ne_eq]; rw [hls, hlb]; exact hne.2) hu0)
            · rename_i hne
              have hlen : la.length = lb.length := by simpa using hne
              obtain ⟨g1, g2⟩ := veq_go_spec st n la lb r e
              refine .of_refs hab ?_
              have := RcAt.lists (e := fun j => (veq st n ((la[j]?).getD .none) ((lb[j]?).getD .none)).getD false) ia.isList ib.isList (by rw [hls, hlb]; exact hlen) hu0 (fun j h1 h2 => by
                obtain ⟨x, q1, q2⟩ := ra.at h1
                obtain ⟨y, q3, q4⟩ := rb.at h2
                obtain ⟨z, hz⟩ := g1 j x y q1 q3
                rw [q1, q3, Option.getD_some, Option.getD_some, hz]
                exact veq_sound R n x y _ _ z A.in1 hz q2 q4 (by show A.units + 1 + n < cLine; omega))
              rw [hls] at this
              rw [g2]
              have hm : min la.length lb.length = la.length := by omega
              rw [hm, hlen]
              rw [hlen] at this
              simpa using this
          | false =>
            simp only [Bool.false_eq_true, if_false, false_and] at ia ib e
            obtain ⟨g1, g2⟩ := veq_go_spec st n la lb r e
            refine .of_refs hab ?_
            have := RcAt.tuples (e := fun j => (veq st n ((la[j]?).getD .none) ((lb[j]?).getD .none)).getD false) ia.isTuple ib.isTuple hu0 (fun j h1 h2 => by
              obtain ⟨x, q1, q2⟩ := ra.at h1
              obtain ⟨y, q3, q4⟩ := rb.at h2
              obtain ⟨z, hz⟩ := g1 j x y q1 q3
              rw [q1, q3, Option.getD_some, Option.getD_some, hz]
              exact veq_sound R n x y _ _ z A.in1 hz q2 q4 (by show A.units + 1 + n < cLine; omega))
            rw [hls, hlb] at this
            rw [g2]; exact this
        · rename_i hk
          cases e
          cases ka <;> cases kb <;> simp at hk ia ib
          · exact EqAt.tuple_list ia.isTuple ib.isList hu0
          · exact EqAt.list_tuple ia.isList ib.isTuple hu0
      | none =>
        rw [hx, hy] at e
        cases ka with
        | true =>
          simp only [if_true] at ia
          cases Y <;> simp [eqNotSeq, eqFlat] at e
          · subst e; cases hY; exact EqAt.list_none ia.isList hu0
          · subst e; cases hY; exact EqAt.list_bool _ ia.isList hu0
          · subst e; obtain ⟨_, rfl⟩ := hY; exact EqAt.list_int _ _ ia.isList hu0
          · subst e; obtain ⟨_, rfl⟩ := hY; exact EqAt.list_str _ _ ia.isList hu0
        | false =>
          simp only [Bool.false_eq_true, if_false] at ia
          cases Y <;> simp [eqNotSeq, eqFlat] at e
          · subst e; cases hY; exact EqAt.tuple_none ia.isTuple hu0
          · subst e; cases hY; exact EqAt.tuple_bool _ ia.isTuple hu0
          · subst e; obtain ⟨_, rfl⟩ := hY; exact EqAt.tuple_int _ _ ia.isTuple hu0
          · subst e; obtain ⟨_, rfl⟩ := hY; exact EqAt.tuple_str _ _ ia.isTuple hu0
    | none =>
      cases hy : seqOf st Y with
      | some p =>
        obtain ⟨kb, lb⟩ := p
        obtain ⟨b, ws, rfl, ib, rb, _⟩ := seqOf_real R hY hy
        rw [hx, hy] at e
        cases kb with
        | true =>
          simp only [if_true] at ib
          cases X <;> simp [eqNotSeq, eqFlat] at e
          · subst e; cases hX; exact EqAt.none_list ib.isList hu0
          · subst e; cases hX; exact EqAt.bool_list _ ib.isList hu0
          · subst e; obtain ⟨_, rfl⟩ := hX; exact EqAt.int_list _ _ ib.isList hu0
          · subst e; obtain ⟨_, rfl⟩ := hX; exact EqAt.str_list _ _ ib.isList hu0
        | false =>
          simp only [Bool.false_eq_true, if_false] at ib
          cases X <;> simp [eqNotSeq, eqFlat] at e
          · subst e; cases hX; exact EqAt.none_tuple ib.isTuple hu0
          · subst e; cases hX; exact EqAt.bool_tuple _ ib.isTuple hu0
          · subst e; obtain ⟨_, rfl⟩ := hX; exact EqAt.int_tuple _ _ ib.isTuple hu0
          · subst e; obtain ⟨_, rfl⟩ := hX; exact EqAt.str_tuple _ _ ib.isTuple hu0
      | none =>
        rw [hx, hy] at e
        have strEq : ∀ a b : List Nat, (toStr a == toStr b) = decide (a = b) := fun a b => by
          by_cases q : a = b
          · subst q; simp
          · simp only [q, decide_false, beq_eq_false_iff_ne, ne_eq, Str.mk.injEq]; intro z; exact q (by simpa using congrArg Array.toList z)
        cases X with
        | none =>
          cases hX
          cases Y with
          | none => simp [eqNotSeq, eqFlat] at e; subst e; cases hY; exact EqAt.same _
          | bool y => simp [eqNotSeq, eqFlat] at e; subst e; cases hY; exact EqAt.none_bool _
          | int y => simp [eqNotSeq, eqFlat] at e; subst e; obtain ⟨_, rfl⟩ := hY; exact EqAt.none_int _ _
          | str y => simp [eqNotSeq, eqFlat] at e; subst e; obtain ⟨_, rfl⟩ := hY; exact EqAt.none_str _ _
          | _ => simp [eqNotSeq, eqFlat] at e
        | bool x =>
          cases hX
          cases Y with
          | none => simp [eqNotSeq, eqFlat] at e; subst e; cases hY; exact EqAt.bool_none _
          | bool y => simp [eqNotSeq, eqFlat] at e; subst e; cases hY; exact EqAt.bool_bool _ _
          | str y => simp [eqNotSeq, eqFlat] at e; subst e; obtain ⟨_, rfl⟩ := hY; exact EqAt.bool_str _ _ _
          | _ => simp [eqNotSeq, eqFlat] at e
        | int x =>
          obtain ⟨k, rfl⟩ := hX
          cases Y with
          | none => simp [eqNotSeq, eqFlat] at e; subst e; cases hY; exact EqAt.int_none _ _
          | int y => simp [eqNotSeq, eqFlat] at e; subst e; obtain ⟨_, rfl⟩ := hY; exact EqAt.int_int _ _ _ _
          | str y => simp [eqNotSeq, eqFlat] at e; subst e; obtain ⟨_, rfl⟩ := hY; exact EqAt.int_str _ _ _ _
          | _ => simp [eqNotSeq, eqFlat] at e
        | str x =>
          obtain ⟨k, rfl⟩ := hX
          cases Y with
          | none => simp [eqNotSeq, eqFlat] at e; subst e; cases hY; exact EqAt.str_none _ _
          | bool y => simp [eqNotSeq, eqFlat] at e; subst e; cases hY; exact EqAt.str_bool _ _ _
          | int y => simp [eqNotSeq, eqFlat] at e; subst e; obtain ⟨_, rfl⟩ := hY; exact EqAt.str_int _ _ _ _
          | str y => simp [eqNotSeq, eqFlat] at e; subst e; obtain ⟨_, rfl⟩ := hY; rw [← strEq]; exact EqAt.str_str _ _ _ _
          | _ => simp [eqNotSeq, eqFlat] at e
        | _ => simp [eqNotSeq, eqFlat] at e
end
end Mine
end

section
set_option genInjectivity false
set_option genSizeOf false
namespace Mine
open PySem PySem.W PyProof.Rows PySem.SeqAt

section
variable {G : Gd} {t : Tie} {st : MS} {s : Shared}

theorem strEq (a b : List Nat) : (toStr a == toStr b) = decide (a = b) := by
  by_cases q : a = b
  · subst q; simp
  · simp only [q, decide_false, beq_eq_false_iff_ne, ne_eq, Str.mk.injEq]; intro z; exact q (by simpa using congrArg Array.toList z)

theorem rc_sound (R : Rel G t st s) {n : Nat} {X Y : V} {v w : Value} {r : Bool} {A : Around} (e : veq st n X Y = some r) (hX : VRel t s.heap X v) (hY : VRel t s.heap Y w) (hu : A.units + n < cLine) :
    RcAt A s v w r ∧ RcNeAt A s v w (!r) := by
  cases n with
  | zero => simp [veq] at e
  | succ n =>
    unfold veq at e
    have hu0 : A.units < cLine := by omega
    cases hx : seqOf st X with
    | some p =>
      obtain ⟨ka, la⟩ := p
      obtain ⟨a, vs, rfl, ia, ra, _⟩ := seqOf_real R hX hx
      cases hy : seqOf st Y with
      | some p =>
        obtain ⟨kb, lb⟩ := p
        obtain ⟨b, ws, rfl, ib, rb, _⟩ := seqOf_real R hY hy
        rw [hx, hy] at e
        simp only at e
        have hls : vs.size = la.length := by rw [← ra.length]; simp
        have hlb : ws.size = lb.length := by rw [← rb.length]; simp
        split at e
        · rename_i hk
          subst hk
          cases ka with
          | true =>
            simp only [if_true] at ia ib
            split at e
            · rename_i hne
              cases e
              have : (vs.size != ws.size) = true := by simp only [bne_iff_ne, ne_eq]; rw [hls, hlb]; exact hne.2
              exact ⟨RcAt.lists_lengths ia.isList ib.isList this hu0, RcNeAt.lists_lengths ia.isList ib.isList this hu0⟩
            · rename_i hne
              have hlen : la.length = lb.length := by simpa using hne
              obtain ⟨g1, g2⟩ := veq_go_spec st n la lb r e
              have items : ∀ j (h1 : j < vs.size) (h2 : j < ws.size), EqAt A.in1 s vs[j] ws[j] ((veq st n ((la[j]?).getD .none) ((lb[j]?).getD .none)).getD false) := fun j h1 h2 => by
                obtain ⟨x, q1, q2⟩ := ra.at h1
                obtain ⟨y, q3, q4⟩ := rb.at h2
                obtain ⟨z, hz⟩ := g1 j x y q1 q3
                rw [q1, q3, Option.getD_some, Option.getD_some, hz]
                exact veq_sound R n x y _ _ z A.in1 hz q2 q4 (by show A.units + 1 + n < cLine; omega)
              have e1 := RcAt.lists (e := fun j => (veq st n ((la[j]?).getD .none) ((lb[j]?).getD .none)).getD false) ia.isList ib.isList (by rw [hls, hlb]; exact hlen) hu0 items
              have e2 := RcNeAt.lists (e := fun j => (veq st n ((la[j]?).getD .none) ((lb[j]?).getD .none)).getD false) ia.isList ib.isList (by rw [hls, hlb]; exact hlen) hu0 items
              have : r = (List.range vs.size).all fun j => (veq st n ((la[j]?).getD .none) ((lb[j]?).getD .none)).getD false := by
                rw [g2, hls, hlen]; simp
              rw [this]
              exact ⟨e1, e2⟩
          | false =>
            simp only [Bool.false_eq_true, if_false, false_and] at ia ib e
            obtain ⟨g1, g2⟩ := veq_go_spec st n la lb r e
            have items : ∀ j (h1 : j < vs.size) (h2 : j < ws.size), EqAt A.in1 s vs[j] ws[j] ((veq st n ((la[j]?).getD .none) ((lb[j]?).getD .none)).getD false) := fun j h1 h2 => by
              obtain ⟨x, q1, q2⟩ := ra.at h1
              obtain ⟨y, q3, q4⟩ := rb.at h2
              obtain ⟨z, hz⟩ := g1 j x y q1 q3
              rw [q1, q3, Option.getD_some, Option.getD_some, hz]
              exact veq_sound R n x y _ _ z A.in1 hz q2 q4 (by show A.units + 1 + n < cLine; omega)
            have e1 := RcAt.tuples (e := fun j => (veq st n ((la[j]?).getD .none) ((lb[j]?).getD .none)).getD false) ia.isTuple ib.isTuple hu0 items
            have e2 := RcNeAt.tuples (e := fun j => (veq st n ((la[j]?).getD .none) ((lb[j]?).getD .none)).getD false) ia.isTuple ib.isTuple hu0 items
            rw [hls, hlb, ← g2] at e1 e2
            exact ⟨e1, e2⟩
        · rename_i hk
          cases e
          cases ka <;> cases kb <;> simp at hk ia ib
          · exact ⟨RcAt.tuple_list ia.isTuple ib.isList hu0, RcNeAt.tuple_list ia.isTuple ib.isList hu0⟩
          · exact ⟨RcAt.list_tuple ia.isList ib.isTuple hu0, RcNeAt.list_tuple ia.isList ib.isTuple hu0⟩
      | none =>
        rw [hx, hy] at e
        cases ka with
        | true =>
          simp only [if_true] at ia
          cases Y <;> simp [eqNotSeq] at e
          · subst e; cases hY; exact ⟨RcAt.list_none ia.isList hu0, RcNeAt.list_none ia.isList hu0⟩
          · subst e; cases hY; exact ⟨RcAt.list_bool _ ia.isList hu0, RcNeAt.list_bool _ ia.isList hu0⟩
          · subst e; obtain ⟨_, rfl⟩ := hY; exact ⟨RcAt.list_int _ _ ia.isList hu0, RcNeAt.list_int _ _ ia.isList hu0⟩
          · subst e; obtain ⟨_, rfl⟩ := hY; exact ⟨RcAt.list_str _ _ ia.isList hu0, RcNeAt.list_str _ _ ia.isList hu0⟩
        | false =>
          simp only [Bool.false_eq_true, if_false] at ia
          cases Y <;> simp [eqNotSeq] at e
          · subst e; cases hY; exact ⟨RcAt.tuple_none ia.isTuple hu0, RcNeAt.tuple_none ia.isTuple hu0⟩
          · subst e; cases hY; exact ⟨RcAt.tuple_bool _ ia.isTuple hu0, RcNeAt.tuple_bool _ ia.isTuple hu0⟩
          · subst e; obtain ⟨_, rfl⟩ := hY; exact ⟨RcAt.tuple_int _ _ ia.isTuple hu0, RcNeAt.tuple_int _ _ ia.isTuple hu0⟩
          · subst e; obtain ⟨_, rfl⟩ := hY; exact ⟨RcAt.tuple_str _ _ ia.isTuple hu0, RcNeAt.tuple_str _ _ ia.isTuple hu0⟩
    | none =>
      cases hy : seqOf st Y with
      | some p =>
        obtain ⟨kb, lb⟩ := p
        obtain ⟨b, ws, rfl, ib, rb, _⟩ := seqOf_real R hY hy
        rw [hx, hy] at e
        cases kb with
        | true =>
          simp only [if_true] at ib
          cases X <;> simp [eqNotSeq] at e
          · subst e; cases hX; exact ⟨RcAt.none_list ib.isList hu0, RcNeAt.none_list ib.isList hu0⟩
          · subst e; cases hX; exact ⟨RcAt.bool_list _ ib.isList hu0, RcNeAt.bool_list _ ib.isList hu0⟩
          · subst e; obtain ⟨_, rfl⟩ := hX; exact ⟨RcAt.int_list _ _ ib.isList hu0, RcNeAt.int_list _ _ ib.isList hu0⟩
          · subst e; obtain ⟨_, rfl⟩ := hX; exact ⟨RcAt.str_list _ _ ib.isList hu0, RcNeAt.str_list _ _ ib.isList hu0⟩
        | false =>
          simp only [Bool.false_eq_true, if_false] at ib
          cases X <;> simp [eqNotSeq] at e
          · subst e; cases hX; exact ⟨RcAt.none_tuple ib.isTuple hu0, RcNeAt.none_tuple ib.isTuple hu0⟩
          · subst e; cases hX; exact ⟨RcAt.bool_tuple _ ib.isTuple hu0, RcNeAt.bool_tuple _ ib.isTuple hu0⟩
          · subst e; obtain ⟨_, rfl⟩ := hX; exact ⟨RcAt.int_tuple _ _ ib.isTuple hu0, RcNeAt.int_tuple _ _ ib.isTuple hu0⟩
          · subst e; obtain ⟨_, rfl⟩ := hX; exact ⟨RcAt.str_tuple _ _ ib.isTuple hu0, RcNeAt.str_tuple _ _ ib.isTuple hu0⟩
      | none =>
        rw [hx, hy] at e
        cases X with
        | none =>
          cases hX
          cases Y with
          | none => simp [eqFlat] at e; subst e; cases hY; exact ⟨RcAt.none_none, RcNeAt.none_none⟩
          | bool y => simp [eqFlat] at e; subst e; cases hY; exact ⟨RcAt.none_bool _, RcNeAt.none_bool _⟩
          | int y => simp [eqFlat] at e; subst e; obtain ⟨_, rfl⟩ := hY; exact ⟨RcAt.none_int _ _, RcNeAt.none_int _ _⟩
          | str y => simp [eqFlat] at e; subst e; obtain ⟨_, rfl⟩ := hY; exact ⟨RcAt.none_str _ _, RcNeAt.none_str _ _⟩
          | _ => simp [eqFlat] at e
        | bool x =>
          cases hX
          cases Y with
          | none => simp [eqFlat] at e; subst e; cases hY; exact ⟨RcAt.bool_none _, RcNeAt.bool_none _⟩
          | bool y => simp only [eqFlat] at e; cases e; cases hY; exact ⟨RcAt.bool_bool _ _, RcNeAt.bool_bool _ _⟩
          | str y => simp [eqFlat] at e; subst e; obtain ⟨_, rfl⟩ := hY; exact ⟨RcAt.bool_str _ _ _, RcNeAt.bool_str _ _ _⟩
          | _ => simp [eqFlat] at e
        | int x =>
          obtain ⟨k, rfl⟩ := hX
          cases Y with
          | none => simp [eqFlat] at e; subst e; cases hY; exact ⟨RcAt.int_none _ _, RcNeAt.int_none _ _⟩
          | int y => simp only [eqFlat] at e; cases e; obtain ⟨_, rfl⟩ := hY; exact ⟨RcAt.int_int _ _ _ _, RcNeAt.int_int _ _ _ _⟩
          | str y => simp [eqFlat] at e; subst e; obtain ⟨_, rfl⟩ := hY; exact ⟨RcAt.int_str _ _ _ _, RcNeAt.int_str _ _ _ _⟩
          | _ => simp [eqFlat] at e
        | str x =>
          obtain ⟨k, rfl⟩ := hX
          cases Y with
          | none => simp [eqFlat] at e; subst e; cases hY; exact ⟨RcAt.str_none _ _, RcNeAt.str_none _ _⟩
          | bool y => simp [eqFlat] at e; subst e; cases hY; exact ⟨RcAt.str_bool _ _ _, RcNeAt.str_bool _ _ _⟩
          | int y => simp [eqFlat] at e; subst e; obtain ⟨_, rfl⟩ := hY; exact ⟨RcAt.str_int _ _ _ _, RcNeAt.str_int _ _ _ _⟩
          | str y => simp only [eqFlat] at e; cases e; obtain ⟨_, rfl⟩ := hY; rw [← strEq]; exact ⟨RcAt.str_str _ _ _ _, RcNeAt.str_str _ _ _ _⟩
          | _ => simp [eqFlat] at e
        | _ => simp [eqFlat] at e

theorem vin_spec (st : MS) (x : V) : ∀ (l : List V) (r : Bool), vin st x l = some r → (∀ y ∈ l, ∃ b, veq st eqDeep y x = some b) ∧ r = l.any fun y => (veq st eqDeep y x).getD false
  | [], r, e => by simp only [vin] at e; cases e; simp
  | y :: l, r, e => by
    simp only [vin] at e
    split at e
    · rename_i p q hp hq
      cases e
      obtain ⟨h1, h2⟩ := vin_spec st x l q hq
      refine ⟨fun z hz => ?_, ?_⟩
      · rcases List.mem_cons.mp hz with rfl | hz
        · exact ⟨p, hp⟩
        · exact h1 z hz
      · rw [List.any_cons, hp, h2]; rfl
    · cases e
end
end Mine
end

section
set_option genInjectivity false
set_option genSizeOf false
namespace Mine
open PySem PySem.W PyProof.Rows PySem.SeqAt

section
variable {G : Gd} {N : Names} {C : Calls} {d : Dp} {sc : Sc} {Γ : Gam} {t : Tie} {st st' : MS} {s : Shared} {A : Around} {X Y Z : V} {v w : Value}

theorem AOk.u12 (h : AOk d A) : A.units + eqDeep < cLine := by have := h.un; unfold eqDeep; omega
theorem AOk.u1 (h : AOk d A) : A.units < cLine := by have := h.un; omega

theorem DRel.find {h : Heap} : ∀ {dd : List (V × V)} {kvs : List (PySem.Str × Value)} {x : List Nat}, DRel t h dd kvs →
    (match dfind (.str x) dd with | some X => ∃ y, valueAt kvs (toStr x) = some y ∧ VRel t h X y | none => valueAt kvs (toStr x) = none)
  | [], _, x, e => by cases e; rfl
  | (k, u) :: r, _, x, ⟨z, y, rest, e1, e2, e3, e4⟩ => by
    subst e1 e2
    have ih := DRel.find (x := x) e4
    have hh : dfind (.str x) ((V.str z, u) :: r) = if decide (z = x) = true then some u else dfind (.str x) r := rfl
    rw [hh]
    by_cases q : z = x
    · subst q; rw [if_pos (decide_eq_true rfl)]; exact ⟨y, by simp [valueAt], e3⟩
    · rw [if_neg (by rw [decide_eq_false q]; exact Bool.false_ne_true)]
      have q2 : ¬ (toStr z = toStr x) := fun z' => q (by simpa using congrArg Array.toList (Str.mk.inj z'))
      have : valueAt ((toStr z, y) :: rest) (toStr x) = valueAt rest (toStr x) := by simp [valueAt, q2]
      rw [this]; exact ih

theorem cmp_sound {o : Cop} (R : Rel G t st s) (hA : AOk d A) (hX : VRel t s.heap X v) (hY : VRel t s.heap Y w) (e : cmpOp o X Y st = .ok Z st') : Sim G A t s (compareOp (cmpOf o) v w) st' (vrel Z) := by
  have plain : ∀ {op : CmpOp} {b : Bool}, (∀ (Q : Value → Shared → Prop) (E : Value → Shared → Prop), Q (.bool b) s → wpAny G.M A (compareOp op v w) Q E s) → Sim G A t s (compareOp op v w) st (vrel (.bool b)) :=
    fun h Q E k => h Q E (k _ t s (.refl _ _ _) R rfl)
  have memb : ∀ {b : Bool}, cmpOp.memb X Y st = some b → (∃ tk, ∀ (Q : Value → Shared → Prop) (E : Value → Shared → Prop), Q (.bool b) { s with toks := tk } → wpAny G.M A (compareOp .In v w) Q E s) ∧
      (∃ tk, ∀ (Q : Value → Shared → Prop) (E : Value → Shared → Prop), Q (.bool (!b)) { s with toks := tk } → wpAny G.M A (compareOp .NotIn v w) Q E s) := by
    intro b hb
    unfold cmpOp.memb at hb
    cases hs : seqOf st Y with
    | some p =>
      obtain ⟨k, l⟩ := p
      rw [hs] at hb
      simp only at hb
      obtain ⟨a, vs, rfl, ia, ra, _⟩ := seqOf_real R hY hs
      obtain ⟨g1, g2⟩ := vin_spec st X l b hb
      let e : Value → Bool := fun y => (l.zip vs.toList).any fun p => decide (p.2 = y) && (veq st eqDeep p.1 X).getD false
      have key : ∀ {m : List V} {ws : List Value}, VRels t s.heap m ws → (∀ y ∈ ws, ∃ Y', Y' ∈ m ∧ VRel t s.heap Y' y) := by
        intro m
        induction m with
        | nil => intro ws h y hy; cases h; cases hy
        | cons x m ih =>
          rintro ws ⟨u, r, rfl, h1, h2⟩ y hy
          rcases List.mem_cons.mp hy with rfl | hy
          · exact ⟨x, .head _, h1⟩
          · obtain ⟨Y', h3, h4⟩ := ih h2 y hy; exact ⟨Y', .tail _ h3, h4⟩
      have zipm : ∀ {m : List V} {ws : List Value}, VRels t s.heap m ws → ∀ p ∈ m.zip ws, VRel t s.heap p.1 p.2 := by
        intro m
        induction m with
        | nil => intro ws h p hp; simp at hp
        | cons x m ih =>
          rintro ws ⟨u, r, rfl, h1, h2⟩ p hp
          rcases List.mem_cons.mp hp with rfl | hp
          · exact h1
          · exact ih h2 p hp
      have zipin : ∀ {m : List V} {ws : List Value}, VRels t s.heap m ws → ∀ y ∈ ws, ∃ Y', (Y', y) ∈ m.zip ws := by
        intro m
        induction m with
        | nil => intro ws h y hy; cases h; cases hy
        | cons x m ih =>
          rintro ws ⟨u, r, rfl, h1, h2⟩ y hy
          rcases List.mem_cons.mp hy with rfl | hy
          · exact ⟨x, .head _⟩
          · obtain ⟨Y', h3⟩ := ih h2 y hy; exact ⟨Y', .tail _ h3⟩
      have ev : ∀ y ∈ vs, EqAt A.in1 s y v (e y) := by
        intro y hy
        obtain ⟨Y', h1⟩ := zipin ra y (Array.mem_toList_iff.mpr hy)
        have h2 := zipm ra _ h1
        obtain ⟨z, hz⟩ := g1 Y' (List.of_mem_zip h1).1
        have : e y = z := by
          show (l.zip vs.toList).any _ = z
          cases z with
          | true => exact List.any_eq_true.mpr ⟨_, h1, by simp [hz]⟩
          | false =>
            refine List.any_eq_false.mpr fun p hp => ?_
            by_cases q : p.2 = y
            · have h3 := zipm ra p hp
              rw [q] at h3
              have : p.1 = Y' := VRel.inj R _ _ h3 h2
              simp [q, this, hz]
            · simp [q]
        rw [this]
        exact veq_sound R _ Y' X y v z A.in1 hz h2 hX (by show A.units + 1 + eqDeep < cLine; have := hA.un; unfold eqDeep; omega)
      have anyE : vs.any e = b := by
        rw [g2, ← Array.any_toList]
        have : ∀ (m : List V) (ws : List Value), VRels t s.heap m ws → (∀ p ∈ m.zip ws, p ∈ l.zip vs.toList) → ws.any e = m.any fun y => (veq st eqDeep y X).getD false := by
          intro m
          induction m with
          | nil => intro ws h _; cases h; rfl
          | cons x m ih =>
            rintro ws ⟨u, r, rfl, h1, h2⟩ hsub
            rw [List.any_cons, List.any_cons, ih r h2 fun p hp => hsub p (.tail _ hp)]
            congr 1
            have hin : (x, u) ∈ l.zip vs.toList := hsub _ (.head _)
            obtain ⟨z, hz⟩ := g1 x (List.of_mem_zip hin).1
            show (l.zip vs.toList).any _ = _
            rw [hz, Option.getD_some]
            cases z with
            | true => exact List.any_eq_true.mpr ⟨_, hin, by simp [hz]⟩
            | false =>
              refine List.any_eq_false.mpr fun p hp => ?_
              by_cases q : p.2 = u
              · have h3 := zipm ra p hp
                rw [q] at h3
                have : p.1 = x := VRel.inj R _ _ h3 h1
                simp [q, this, hz]
              · simp [q]
        exact this l vs.toList ra fun p hp => hp
      cases k with
      | true =>
        simp only [if_true] at ia
        exact ⟨⟨s.toks, fun Q E q => in_listAt e ia.isList ev (by rw [anyE]; exact q)⟩, ⟨s.toks, fun Q E q => notIn_listAt e ia.isList ev (by rw [anyE]; exact q)⟩⟩
      | false =>
        simp only [Bool.false_eq_true, if_false] at ia
        exact ⟨⟨s.toks, fun Q E q => in_tupleAt e ia.isTuple ev (by rw [anyE]; exact q)⟩, ⟨s.toks, fun Q E q => notIn_tupleAt e ia.isTuple ev (by rw [anyE]; exact q)⟩⟩
    | none =>
      rw [hs] at hb
      cases Y with
      | str y =>
        simp only at hb
        split at hb
        · rename_i c
          cases hb
          obtain ⟨k1, rfl⟩ := hX
          obtain ⟨k2, rfl⟩ := hY
          have q := StrLaws.found_one (toStr y) c
          have q2 : (toStr y).cps.toList = y := by simp
          rw [q2] at q
          exact ⟨⟨s.toks, fun Q E h => PyProof.Rows.in_str (by rw [q]; exact h)⟩, ⟨s.toks, fun Q E h => PyProof.Rows.notIn_str (by rw [q]; exact h)⟩⟩
        · cases hb
      | ref r =>
        simp only at hb
        split at hb
        · rename_i dd hdd
          split at hb
          · rename_i hk
            cases hb
            obtain ⟨a, kvs, h1, h2, h3⟩ := R.objs r _ hdd
            obtain ⟨a', rfl, e2⟩ := hY
            rw [h1] at e2; cases e2
            have hsys : (a == sysModules) = false := by simp only [beq_eq_false_iff_ne, ne_eq]; rintro rfl; exact R.sys r h1
            cases X with
            | str x =>
              obtain ⟨k1, rfl⟩ := hX
              have f := DRel.find (x := x) h3
              have : (valueAt kvs (toStr x)).isSome = (dfind (.str x) dd).isSome := by
                cases q : dfind (.str x) dd with
                | none => rw [q] at f; rw [f]; rfl
                | some z => rw [q] at f; obtain ⟨y, e1, _⟩ := f; rw [e1]; rfl
              exact ⟨⟨s.toks + 1, fun Q E h => wpAny_in_of (strKind_is G.prog G.w (toStr x) k1) hsys h2.mapOf (by rw [this]; exact h)⟩,
                ⟨s.toks + 1, fun Q E h => wpAny_notIn_of (strKind_is G.prog G.w (toStr x) k1) hsys h2.mapOf (by rw [this]; exact h)⟩⟩
            | _ => cases hk
          · cases hb
        · cases hb
      | _ => simp [seqOf] at hs hb
  have okB' : ∀ {o : Option Bool}, okB st o = .ok Z st' → ∃ b, o = some b ∧ Z = .bool b ∧ st' = st := by
    intro o h; cases o with | none => cases h | some b => cases h; exact ⟨b, rfl, rfl, rfl⟩
  have intsW : ∀ {f : Int → Int → Bool}, (match X, Y with | .int x, .int y => Res.ok (V.bool (f x y)) st | _, _ => Res.stuck) = .ok Z st' → ∃ x y k1 k2, v = .int x k1 ∧ w = .int y k2 ∧ Z = .bool (f x y) ∧ st' = st := by
    intro f h
    split at h
    · cases h; obtain ⟨k1, rfl⟩ := hX; obtain ⟨k2, rfl⟩ := hY; exact ⟨_, _, k1, k2, rfl, rfl, rfl, rfl⟩
    · cases h
  cases o with
  | eq =>
    obtain ⟨b, h1, rfl, rfl⟩ := okB' e
    exact plain fun Q E q => (rc_sound R h1 hX hY hA.u12).1 _ _ _ _ q
  | ne =>
    obtain ⟨b, h1, rfl, rfl⟩ := okB' e
    obtain ⟨b', h2, rfl⟩ := Option.map_eq_some_iff.mp h1
    exact plain fun Q E q => (rc_sound R h2 hX hY hA.u12).2 _ _ _ _ q
  | lt => obtain ⟨x, y, k1, k2, rfl, rfl, rfl, rfl⟩ := intsW (f := fun x y => decide (x < y)) e; exact plain fun Q E q => PyProof.Rows.lt_int q
  | le => obtain ⟨x, y, k1, k2, rfl, rfl, rfl, rfl⟩ := intsW (f := fun x y => decide (x ≤ y)) e; exact plain fun Q E q => PyProof.Rows.le_int q
  | gt => obtain ⟨x, y, k1, k2, rfl, rfl, rfl, rfl⟩ := intsW (f := fun x y => decide (y < x)) e; exact plain fun Q E q => PyProof.Rows.gt_int q
  | ge => obtain ⟨x, y, k1, k2, rfl, rfl, rfl, rfl⟩ := intsW (f := fun x y => decide (y ≤ x)) e; exact plain fun Q E q => PyProof.Rows.ge_int q
  | isin =>
    obtain ⟨b, h1, rfl, rfl⟩ := okB' e
    obtain ⟨tk, h⟩ := (memb h1).1
    exact fun Q E k => h Q E (k _ t _ (Step.toks _ t s tk) (R.toks tk) rfl)
  | notin =>
    obtain ⟨b, h1, rfl, rfl⟩ := okB' e
    obtain ⟨b', h2, rfl⟩ := Option.map_eq_some_iff.mp h1
    obtain ⟨tk, h⟩ := (memb h2).2
    exact fun Q E k => h Q E (k _ t _ (Step.toks _ t s tk) (R.toks tk) rfl)
end
end Mine
end

section
set_option genInjectivity false
set_option genSizeOf false
namespace Mine
open PySem PySem.W PyProof.Rows PySem.SeqAt

section
variable {G : Gd} {N : Names} {C : Calls} {d : Dp} {sc : Sc} {Γ : Gam} {t : Tie} {st st' : MS} {s : Shared} {A : Around} {X Y Z : V} {v w : Value}

theorem size_none (h : Heap) : h.get? h.objs.size = none := by
  cases e : h.get? h.objs.size with
  | none => rfl
  | some o => exact absurd (Heap.lt_size e) (Nat.lt_irrefl _)

theorem Rel.push (R : Rel G t st s) (o : Obj) : Rel G t st { s with heap := s.heap.push o } := R.grow (fun _ _ e => Heap.get?_push_of_some o e) rfl rfl
theorem Step.push (R : Rel G t st s) (o : Obj) : Step noX t t s { s with heap := s.heap.push o } := Step.grow R (fun _ _ e => Heap.get?_push_of_some o e) rfl rfl
theorem VRel.newL (R : Rel G t st s) {l : List V} {vs : List Value} (r : VRels t s.heap l vs) (sz : l.length ≤ sizeMax) : VRel t (s.heap.push { cls := .type "list", data := .seq vs.toArray }) (.lst l) (.ref s.heap.objs.size) :=
  ⟨_, vs.toArray, rfl, ⟨_, Heap.get?_push_size _ rfl⟩, R.fresh (size_none _), sz, VRels.step (σ' := { s with heap := s.heap.push _ }) (Step.push R _) (fun _ q => q.elim) l r⟩
theorem VRel.newT (R : Rel G t st s) {l : List V} {vs : List Value} (r : VRels t s.heap l vs) (sz : l.length ≤ sizeMax) : VRel t (s.heap.push { cls := .type "tuple", data := .seq vs.toArray }) (.tup l) (.ref s.heap.objs.size) :=
  ⟨_, vs.toArray, rfl, ⟨_, Heap.get?_push_size _ rfl⟩, R.fresh (size_none _), sz, VRels.step (σ' := { s with heap := s.heap.push _ }) (Step.push R _) (fun _ q => q.elim) l r⟩
theorem Sim.newL (R : Rel G t st s) {l : List V} {vs : List Value} (r : VRels t s.heap l vs) (sz : l.length ≤ sizeMax) {tree : Sem Value}
    (h : ∀ (Q : Value → Shared → Prop) (E : Value → Shared → Prop), Q (.ref s.heap.objs.size) { s with heap := s.heap.push { cls := .type "list", data := .seq vs.toArray } } → wpAny G.M A tree Q E s) : Sim G A t s tree st (vrel (.lst l)) :=
  fun Q E k => h Q E (k _ t _ (Step.push R _) (R.push _) (VRel.newL R r sz))
theorem Sim.newT (R : Rel G t st s) {l : List V} {vs : List Value} (r : VRels t s.heap l vs) (sz : l.length ≤ sizeMax) {tree : Sem Value}
    (h : ∀ (Q : Value → Shared → Prop) (E : Value → Shared → Prop), Q (.ref s.heap.objs.size) { s with heap := s.heap.push { cls := .type "tuple", data := .seq vs.toArray } } → wpAny G.M A tree Q E s) : Sim G A t s tree st (vrel (.tup l)) :=
  fun Q E k => h Q E (k _ t _ (Step.push R _) (R.push _) (VRel.newT R r sz))
theorem intBits_eq (i : Int) : intBits i = Builtin.Int.intBits i := by
  unfold intBits Builtin.Int.intBits
  simp only [beq_iff_eq]

theorem mulOk_real {a b : Int} (h : mulOk a b = true) : IntMulOk a b := by
  simp only [mulOk, Bool.or_eq_true, decide_eq_true_eq] at h
  rcases h with (h | h) | h
  · exact IntMulOk.of_left (by rw [← intBits_eq]; exact h)
  · exact IntMulOk.of_right (by rw [← intBits_eq]; exact h)
  · exact mulOk_of_bits (m := intBits a) (n := intBits b) (by rw [intBits_eq]; exact Nat.le_refl _) (by rw [intBits_eq]; exact Nat.le_refl _) h

theorem noPylong {x y : Int} (h : ¬ 64 < intBits y) : Builtin.divisionGoesByPylong x y = false := by
  unfold Builtin.divisionGoesByPylong
  dsimp only
  have : ¬ ((if (y == 0) = true then 0 else y.natAbs.log2 / 30 + 1) > 300) := by
    unfold intBits at h
    split
    · omega
    · rename_i q
      rw [if_neg (by simpa using q)] at h
      omega
  rw [decide_eq_false this]; rfl

theorem seqAdd_sound (R : Rel G t st s) (hX : VRel t s.heap X v) (hY : VRel t s.heap Y w) (e : seqAdd X Y st = .ok Z st') : Sim G A t s (binaryOp .Add v w) st' (vrel Z) := by
  unfold seqAdd at e
  split at e
  · rename_i p q h1 h2
    obtain ⟨ka, x⟩ := p
    obtain ⟨kb, y⟩ := q
    split at e
    · rename_i hm
      cases e
      obtain ⟨rfl, hz⟩ := hm
      obtain ⟨aa, vs, rfl, ia, ra, _⟩ := seqOf_real R hX h1
      obtain ⟨bb, ws, rfl, ib, rb, _⟩ := seqOf_real R hY h2
      have e1 : (vs ++ ws) = (vs.toList ++ ws.toList).toArray := by simp
      have hls : vs.size = x.length := by rw [← ra.length]; simp
      have hlb : ws.size = y.length := by rw [← rb.length]; simp
      have hsz : vs.size + ws.size ≤ sizeLine := by rw [hls, hlb]; exact hz
      dsimp only at ia ib ⊢
      cases ka with
      | true =>
        simp only [if_true] at ia ib ⊢
        obtain ⟨n, ha⟩ := ia
        obtain ⟨n2, hb⟩ := ib
        refine Sim.newL R (ra.append rb) (by rw [List.length_append]; exact hz) fun Q E q => P.add_list ha hb (by rw [e1]; exact q) hsz
      | false =>
        simp only [Bool.false_eq_true, if_false] at ia ib ⊢
        obtain ⟨n, ha⟩ := ia
        obtain ⟨n2, hb⟩ := ib
        have hX' : VRel t s.heap (.tup x) (.ref aa) := by
          cases X with
          | tup m => cases h1; exact hX
          | lst m => cases h1
          | ref r => simp only [seqOf] at h1; split at h1 <;> cases h1
          | _ => cases h1
        have hY' : VRel t s.heap (.tup y) (.ref bb) := by
          cases Y with
          | tup m => cases h2; exact hY
          | lst m => cases h2
          | ref r => simp only [seqOf] at h2; split at h2 <;> cases h2
          | _ => cases h2
        by_cases q1 : vs.isEmpty = true
        · have : x = [] := by
            have : vs = #[] := by simpa using q1
            subst this; exact List.length_eq_zero_iff.mp hls.symm
          subst this
          intro Q E k
          exact concat_meets ⟨_, ha, rfl⟩ ⟨_, hb, rfl⟩ noFill_tuple_add seq_tuple_add PySem.F.slot_tuple_add PySem.F.entry_tuple_add (PySem.F.args_tuple_add_2 _ _)
            (tuple_addW0 aa bb vs ws n n2 none none #[] #[] q1) ⟨ha, hb, k _ t s (.refl _ _ _) R hY'⟩
        · by_cases q2 : ws.isEmpty = true
          · have : y = [] := by
              have : ws = #[] := by simpa using q2
              subst this; exact List.length_eq_zero_iff.mp hlb.symm
            subst this
            intro Q E k
            exact concat_meets ⟨_, ha, rfl⟩ ⟨_, hb, rfl⟩ noFill_tuple_add seq_tuple_add PySem.F.slot_tuple_add PySem.F.entry_tuple_add (PySem.F.args_tuple_add_2 _ _)
              (tuple_addW1 aa bb vs ws n n2 none none #[] #[] q1 q2) ⟨ha, hb, k _ t s (.refl _ _ _) R (by rw [List.append_nil]; exact hX')⟩
          · refine Sim.newT R (ra.append rb) (by rw [List.length_append]; exact hz) fun Q E q => P.add_tuple ha hb q1 q2 (by rw [e1]; exact q) hsz
    · cases e
  · cases e

theorem p27 : (2 : Int) ^ 27 = 134217728 := by decide
theorem addS_sound {x y : List Nat} (R : Rel G t st s) (hX : VRel t s.heap (.str x) v) (hY : VRel t s.heap (.str y) w) (hm : x.length + y.length ≤ sizeMax) : Sim G A t s (binaryOp .Add v w) st (vrel (.str (x ++ y))) := by
  obtain ⟨k1, rfl⟩ := hX; obtain ⟨k2, rfl⟩ := hY
  intro Q E k
  refine PyProof.Rows.add_str (fun t' tk => ?_) ?_
  · refine k _ t _ (Step.toks _ t s tk) (R.toks tk) ⟨t', ?_⟩
    show Value.str (Str.mk x.toArray ++ Str.mk y.toArray) t' = _
    congr 1
    show Str.mk (x.toArray ++ y.toArray) = _
    simp
  · simpa [Str.length, sizeMax, sizeLine] using hm
theorem bin_sound {o : Bop} (O : G.Ok N) (R : Rel G t st s) (hA : AOk d A) (hX : VRel t s.heap X v) (hY : VRel t s.heap Y w) (e : binOp o X Y st = .ok Z st') : Sim G A t s (binaryOp (opOf o) v w) st' (vrel Z) := by
  have flat : ∀ {op : Operator} {x y z : Int}, (∀ (k1 k2 : Tok) (Q : Value → Shared → Prop) (E : Value → Shared → Prop), Q (.int z s.toks) { s with toks := s.toks + 1 } → wpAny G.M A (binaryOp op (.int x k1) (.int y k2)) Q E s) → VRel t s.heap (.int x) v → VRel t s.heap (.int y) w → Sim G A t s (binaryOp op v w) st (vrel (.int z)) := by
    rintro op x y z h ⟨k1, rfl⟩ ⟨k2, rfl⟩ Q E k
    exact h k1 k2 Q E (k _ t _ (Step.toks _ t s _) (R.toks _) ⟨_, rfl⟩)
  have addI : int2 X Y (fun x y => .ok (.int (x + y)) st) = .ok Z st' → Sim G A t s (binaryOp .Add v w) st' (vrel Z) := by
    intro e
    obtain ⟨x, y, rfl, rfl, e⟩ := int2_ok e
    cases e
    exact flat (fun _ _ Q E q => PyProof.Rows.add_int q) hX hY
  have mulI : int2 X Y (fun x y => if mulOk x y then .ok (.int (x * y)) st else .stuck) = .ok Z st' → Sim G A t s (binaryOp .Mult v w) st' (vrel Z) := by
    intro e
    obtain ⟨x, y, rfl, rfl, e⟩ := int2_ok e
    obtain ⟨hm, rfl, rfl⟩ := ite_ok e
    exact flat (fun _ _ Q E q => PyProof.Rows.mul_int q (mulOk_real hm)) hX hY
  cases o with
  | add =>
    cases X with
    | int x => exact addI e
    | str x =>
      obtain ⟨x, y, ex, rfl, e⟩ := str2_ok (a := .str x) (b := Y) (f := fun x y => if x.length + y.length ≤ sizeMax then .ok (.str (x ++ y)) st else .stuck) e
      obtain ⟨hm, rfl, rfl⟩ := ite_ok e
      cases ex
      exact addS_sound R hX hY hm
    | _ => exact seqAdd_sound R hX hY e
  | sub =>
    obtain ⟨x, y, rfl, rfl, e⟩ := int2_ok e
    cases e
    exact flat (fun _ _ Q E q => PyProof.Rows.sub_int q) hX hY
  | mul => exact mulI e
  | fdiv =>
    obtain ⟨x, y, rfl, rfl, e⟩ := int2_ok e
    obtain ⟨hm, rfl, rfl⟩ := ite_no e
    exact flat (fun _ _ Q E q => PyProof.Rows.floordiv_int (fun z => hm (.inl z)) q (.inl (noPylong fun z => hm (.inr z)))) hX hY
  | mod =>
    obtain ⟨x, y, rfl, rfl, e⟩ := int2_ok e
    obtain ⟨hm, rfl, rfl⟩ := ite_no e
    exact flat (fun _ _ Q E q => PyProof.Rows.mod_int' hm q) hX hY
  | pow =>
    obtain ⟨x, y, rfl, rfl, e⟩ := int2_ok e
    obtain ⟨hm, rfl, rfl⟩ := ite_ok e
    exact flat (fun _ _ Q E q => PyProof.Rows.pow_int hm.1 (by rw [← intBits_eq, p27]; exact hm.2) q) hX hY
end
end Mine
end

section
set_option genInjectivity false
set_option genSizeOf false
namespace Mine
open PySem PySem.W PyProof.Rows PySem.SeqAt

section
variable {G : Gd} {N : Names} {C : Calls} {d : Dp} {sc : Sc} {Γ : Gam}

theorem truth_ok {X : V} {st st' : MS} {b : Bool} (e : truth X st = .ok b st') : X = .bool b ∧ st' = st := by
  cases X <;> first | (cases e; exact ⟨rfl, rfl⟩) | cases e

theorem sim_neg {a : E} {x : PySem.Expr} {pos : Pos} (ha : SimE G C d sc Γ a x) : SimE G C d sc Γ (.neg a) (.UnaryOp .USub x pos) := by
  intro t st s env loc X st' A hA hsc F R e Q E k
  simp only [ev_none, ev_bool, ev_int, ev_str, ev_loc, ev_gint, ev_gstr, ev_neg, ev_not, ev_and, ev_or, ev_bin, ev_cmp, ev_cmp2, ev_isC, ev_tup, ev_lst, ev_lstM, ev_dictM, ev_sub, ev_slice, ev_attr, ev_call, ev_meth, ev_new, ev_isinst, ev_prim, ev_listM, ev_dictC, ev_bm, ev_comp] at e
  obtain ⟨v, s1, e1, e⟩ := Res.bind_ok e
  split at e
  · cases e
    refine wpAny_UnaryOp (ha t st s env loc _ _ A hA hsc F R e1 _ _ fun y t1 σ1 S1 R1 r1 => ?_)
    obtain ⟨k1, rfl⟩ := r1
    exact neg_int (k _ t1 _ (S1.trans (Step.toks _ t1 σ1 _)) (R1.toks _) ⟨_, rfl⟩)
  · cases e

theorem sim_not {a : E} {x : PySem.Expr} {pos : Pos} (ha : SimE G C d sc Γ a x) : SimE G C d sc Γ (.not a) (.UnaryOp .Not x pos) := by
  intro t st s env loc X st' A hA hsc F R e Q E k
  simp only [ev_none, ev_bool, ev_int, ev_str, ev_loc, ev_gint, ev_gstr, ev_neg, ev_not, ev_and, ev_or, ev_bin, ev_cmp, ev_cmp2, ev_isC, ev_tup, ev_lst, ev_lstM, ev_dictM, ev_sub, ev_slice, ev_attr, ev_call, ev_meth, ev_new, ev_isinst, ev_prim, ev_listM, ev_dictC, ev_bm, ev_comp] at e
  obtain ⟨v, s1, e1, e⟩ := Res.bind_ok e
  obtain ⟨b, s2, e2, e⟩ := Res.bind_ok e
  obtain ⟨rfl, rfl⟩ := truth_ok e2
  cases e
  refine wpAny_UnaryOp (ha t st s env loc _ _ A hA hsc F R e1 _ _ fun y t1 σ1 S1 R1 r1 => ?_)
  cases r1
  exact not_of (wpAny_truthy_bool (k _ t1 _ S1 R1 rfl))

theorem sim_bin (O : G.Ok N) {o : Bop} {a b : E} {x y : PySem.Expr} {pos : Pos} (ha : SimE G C d sc Γ a x) (hb : SimE G C d sc Γ b y) : SimE G C d sc Γ (.bin o a b) (.BinOp x (opOf o) y pos) := by
  intro t st s env loc X st' A hA hsc F R e Q E k
  simp only [ev_none, ev_bool, ev_int, ev_str, ev_loc, ev_gint, ev_gstr, ev_neg, ev_not, ev_and, ev_or, ev_bin, ev_cmp, ev_cmp2, ev_isC, ev_tup, ev_lst, ev_lstM, ev_dictM, ev_sub, ev_slice, ev_attr, ev_call, ev_meth, ev_new, ev_isinst, ev_prim, ev_listM, ev_dictC, ev_bm, ev_comp] at e
  obtain ⟨v1, s1, e1, e⟩ := Res.bind_ok e
  obtain ⟨v2, s2, e2, e⟩ := Res.bind_ok e
  refine wpAny_BinOp (ha t st s env loc _ _ A hA hsc F R e1 _ _ fun u t1 σ1 S1 R1 r1 => ?_)
  refine hb t1 s1 σ1 env loc _ _ A hA hsc (F.step R S1) R1 e2 _ _ fun w t2 σ2 S2 R2 r2 => ?_
  exact bin_sound O R2 hA (VRel.step S2 (fun _ z => z.elim) _ r1) r2 e _ _ fun z t3 σ3 S3 R3 r3 => k z t3 σ3 ((S1.trans S2).trans S3) R3 r3

theorem sim_cmp {o : Cop} {a b : E} {x y : PySem.Expr} {pos : Pos} (hm : behindInMarks (cmpOf o) y = false) (ha : SimE G C d sc Γ a x) (hb : SimE G C d sc Γ b y) : SimE G C d sc Γ (.cmp a o b) (.Compare x [cmpOf o] [y] pos) := by
  intro t st s env loc X st' A hA hsc F R e Q E k
  simp only [ev_none, ev_bool, ev_int, ev_str, ev_loc, ev_gint, ev_gstr, ev_neg, ev_not, ev_and, ev_or, ev_bin, ev_cmp, ev_cmp2, ev_isC, ev_tup, ev_lst, ev_lstM, ev_dictM, ev_sub, ev_slice, ev_attr, ev_call, ev_meth, ev_new, ev_isinst, ev_prim, ev_listM, ev_dictC, ev_bm, ev_comp] at e
  obtain ⟨v1, s1, e1, e⟩ := Res.bind_ok e
  obtain ⟨v2, s2, e2, e⟩ := Res.bind_ok e
  refine wpAny_Compare1 (ha t st s env loc _ _ A hA hsc F R e1 _ _ fun u t1 σ1 S1 R1 r1 => ?_) hm
  refine hb t1 s1 σ1 env loc _ _ A hA hsc (F.step R S1) R1 e2 _ _ fun w t2 σ2 S2 R2 r2 => ?_
  exact cmp_sound R2 hA (VRel.step S2 (fun _ z => z.elim) _ r1) r2 e _ _ fun z t3 σ3 S3 R3 r3 => k z t3 σ3 ((S1.trans S2).trans S3) R3 r3

theorem sim_cmp2 {o o2 : Cop} {a b c : E} {x y z : PySem.Expr} {pos : Pos} (hm : behindInMarks (cmpOf o2) z = false) (ha : SimE G C d sc Γ a x) (hb : SimE G C d sc Γ b y) (hc : SimE G C d sc Γ c z) :
    SimE G C d sc Γ (.cmp2 a o b o2 c) (.Compare x [cmpOf o, cmpOf o2] [y, z] pos) := by
  intro t st s env loc X st' A hA hsc F R e Q E k
  simp only [ev_none, ev_bool, ev_int, ev_str, ev_loc, ev_gint, ev_gstr, ev_neg, ev_not, ev_and, ev_or, ev_bin, ev_cmp, ev_cmp2, ev_isC, ev_tup, ev_lst, ev_lstM, ev_dictM, ev_sub, ev_slice, ev_attr, ev_call, ev_meth, ev_new, ev_isinst, ev_prim, ev_listM, ev_dictC, ev_bm, ev_comp] at e
  obtain ⟨v1, s1, e1, e⟩ := Res.bind_ok e
  obtain ⟨v2, s2, e2, e⟩ := Res.bind_ok e
  obtain ⟨v3, s3, e3, e⟩ := Res.bind_ok e
  obtain ⟨b3, s4, e4, ee⟩ := Res.bind_ok e
  obtain ⟨rfl, rfl⟩ := truth_ok e4
  have mk : markedEach [cmpOf o, cmpOf o2] [y, z] (evalEach [y, z] env) = [eval y env, eval z env] := by
    show eval y env :: [markedBehindIn (cmpOf o2) z (eval z env)] = _
    rw [markedBehindIn_of_false hm]
  show wpAny G.M A (do compareChain pos (← eval x env) [cmpOf o, cmpOf o2] (markedEach [cmpOf o, cmpOf o2] [y, z] (evalEach [y, z] env))) Q E s
  rw [mk]
  refine wpAny_bind (ha t st s env loc _ _ A hA hsc F R e1 _ _ fun u t1 σ1 S1 R1 r1 => ?_)
  unfold compareChain
  refine wpAny_bind (wpAny_holding (hb t1 s1 σ1 env loc _ _ A hA hsc (F.step R S1) R1 e2 _ _ fun w t2 σ2 S2 R2 r2 => ?_))
  refine wpAny_bind (wpAny_standAt (wpAny_bind (wpAny_holding ?_)))
  refine cmp_sound R2 hA (VRel.step S2 (fun _ z => z.elim) _ r1) r2 e3 _ _ fun q t3 σ3 S3 R3 r3 => ?_
  cases r3
  refine wpAny_bind (wpAny_release (wpAny_bind (wpAny_holding (wpAny_truthy_bool ?_))))
  cases b3 with
  | false =>
    simp only [Bool.false_eq_true, if_false] at ee ⊢
    cases ee
    exact wpAny_pure (k _ t3 σ3 ((S1.trans S2).trans S3) R3 rfl)
  | true =>
    simp only [if_true] at ee ⊢
    obtain ⟨v5, s5, e5, e6⟩ := Res.bind_ok ee
    unfold compareChain
    refine wpAny_bind (wpAny_holding (hc t3 _ σ3 env loc _ _ A hA hsc (((F.step R S1).step R1 S2).step R2 S3) R3 e5 _ _ fun w' t4 σ4 S4 R4 r4 => ?_))
    refine wpAny_bind (wpAny_standAt (wpAny_operating ?_))
    exact cmp_sound R4 hA (VRel.step (S3.trans S4) (fun _ z => z.elim) _ r2) r4 e6 _ _ fun z t5 σ5 S5 R5 r5 => k z t5 σ5 ((((S1.trans S2).trans S3).trans S4).trans S5) R5 r5

theorem isSame_b (v : Value) (b : Bool) (hv : ∀ i, v ≠ .builtin i) : isSame v (.bool b) = pure (v == .bool b) := by cases v <;> first | rfl | exact absurd rfl (hv _)
theorem VRel.notB {t : Tie} {h : Heap} {X : V} {v : Value} (r : VRel t h X v) : ∀ i, v ≠ .builtin i := by
  intro i q
  subst q
  cases X with
  | none => cases r
  | bool => cases r
  | int => obtain ⟨_, e⟩ := r; cases e
  | str => obtain ⟨_, e⟩ := r; cases e
  | tup => obtain ⟨_, _, e, _⟩ := r; cases e
  | lst => obtain ⟨_, _, e, _⟩ := r; cases e
  | ref => obtain ⟨_, e, _⟩ := r; cases e
  | exc => obtain ⟨_, _, e, _⟩ := r; cases e

theorem sim_isN {n : Bool} {a : E} {x : PySem.Expr} {p : CmpOp} {pos p2 : Pos} {j : Nat} (hp : isNot p n = true) (ha : SimE G C d sc Γ a x) : SimE G C d sc Γ (.isC n a .none) (.Compare x [p] [.Constant .none j p2] pos) := by
  intro t st s env loc X st' A hA hsc F R e Q E k
  simp only [ev_none, ev_bool, ev_int, ev_str, ev_loc, ev_gint, ev_gstr, ev_neg, ev_not, ev_and, ev_or, ev_bin, ev_cmp, ev_cmp2, ev_isC, ev_tup, ev_lst, ev_lstM, ev_dictM, ev_sub, ev_slice, ev_attr, ev_call, ev_meth, ev_new, ev_isinst, ev_prim, ev_listM, ev_dictC, ev_bm, ev_comp] at e
  obtain ⟨v, s1, e1, e⟩ := Res.bind_ok e
  cases e
  refine wpAny_Compare1 (ha t st s env loc _ _ A hA hsc F R e1 _ _ fun u t1 σ1 S1 R1 r1 => ?_) rfl
  refine wpAny_Constant_none ?_
  have key : (u == Value.none) = decide (v = .none) := by
    cases v with
    | none => cases r1; (first | exact (decide_eq_true rfl).symm | exact (decide_eq_false nofun).symm)
    | bool => cases r1; (first | exact (decide_eq_true rfl).symm | exact (decide_eq_false nofun).symm)
    | int => obtain ⟨_, rfl⟩ := r1; (first | exact (decide_eq_true rfl).symm | exact (decide_eq_false nofun).symm)
    | str => obtain ⟨_, rfl⟩ := r1; (first | exact (decide_eq_true rfl).symm | exact (decide_eq_false nofun).symm)
    | tup => obtain ⟨_, _, rfl, _⟩ := r1; (first | exact (decide_eq_true rfl).symm | exact (decide_eq_false nofun).symm)
    | lst => obtain ⟨_, _, rfl, _⟩ := r1; (first | exact (decide_eq_true rfl).symm | exact (decide_eq_false nofun).symm)
    | ref => obtain ⟨_, rfl, _⟩ := r1; (first | exact (decide_eq_true rfl).symm | exact (decide_eq_false nofun).symm)
    | exc => obtain ⟨_, _, rfl, _⟩ := r1; (first | exact (decide_eq_true rfl).symm | exact (decide_eq_false nofun).symm)
  cases p <;> simp only [isNot] at hp <;> (try contradiction)
  · have : n = false := by simpa using hp
    subst this
    exact is_none (k _ t1 _ S1 R1 (by rw [key]; show Value.bool _ = Value.bool _; congr 1; cases decide (v = V.none) <;> rfl))
  · have : n = true := hp
    subst this
    exact isNot_none (k _ t1 _ S1 R1 (by rw [key]; show Value.bool _ = Value.bool _; congr 1; cases decide (v = V.none) <;> rfl))

theorem sim_isB {n b : Bool} {a : E} {x : PySem.Expr} {p : CmpOp} {pos p2 : Pos} {j : Nat} (hp : isNot p n = true) (ha : SimE G C d sc Γ a x) : SimE G C d sc Γ (.isC n a (.bool b)) (.Compare x [p] [.Constant (.bool b) j p2] pos) := by
  intro t st s env loc X st' A hA hsc F R e Q E k
  simp only [ev_none, ev_bool, ev_int, ev_str, ev_loc, ev_gint, ev_gstr, ev_neg, ev_not, ev_and, ev_or, ev_bin, ev_cmp, ev_cmp2, ev_isC, ev_tup, ev_lst, ev_lstM, ev_dictM, ev_sub, ev_slice, ev_attr, ev_call, ev_meth, ev_new, ev_isinst, ev_prim, ev_listM, ev_dictC, ev_bm, ev_comp] at e
  obtain ⟨v, s1, e1, e⟩ := Res.bind_ok e
  cases e
  refine wpAny_Compare1 (ha t st s env loc _ _ A hA hsc F R e1 _ _ fun u t1 σ1 S1 R1 r1 => ?_) rfl
  refine wpAny_Constant_bool ?_
  have key : (u == Value.bool b) = decide (v = .bool b) := by
    cases v with
    | bool c => cases r1; cases b <;> cases c <;> first | exact (decide_eq_true rfl).symm | exact (decide_eq_false nofun).symm
    | none => cases r1; (first | exact (decide_eq_true rfl).symm | exact (decide_eq_false nofun).symm)
    | int => obtain ⟨_, rfl⟩ := r1; (first | exact (decide_eq_true rfl).symm | exact (decide_eq_false nofun).symm)
    | str => obtain ⟨_, rfl⟩ := r1; (first | exact (decide_eq_true rfl).symm | exact (decide_eq_false nofun).symm)
    | tup => obtain ⟨_, _, rfl, _⟩ := r1; (first | exact (decide_eq_true rfl).symm | exact (decide_eq_false nofun).symm)
    | lst => obtain ⟨_, _, rfl, _⟩ := r1; (first | exact (decide_eq_true rfl).symm | exact (decide_eq_false nofun).symm)
    | ref => obtain ⟨_, rfl, _⟩ := r1; (first | exact (decide_eq_true rfl).symm | exact (decide_eq_false nofun).symm)
    | exc => obtain ⟨_, _, rfl, _⟩ := r1; (first | exact (decide_eq_true rfl).symm | exact (decide_eq_false nofun).symm)
  cases p <;> simp only [isNot] at hp <;> (try contradiction)
  · have : n = false := by simpa using hp
    subst this
    show wpAny G.M A (do return .bool (← isSame u (.bool b))) Q E σ1
    rw [isSame_b _ _ r1.notB]
    exact wpAny_bind (wpAny_pure (wpAny_pure (k _ t1 _ S1 R1 (by rw [key]; show Value.bool _ = Value.bool _; congr 1; cases decide (v = V.bool b) <;> rfl))))
  · have : n = true := hp
    subst this
    show wpAny G.M A (do return .bool (!(← isSame u (.bool b)))) Q E σ1
    rw [isSame_b _ _ r1.notB]
    exact wpAny_bind (wpAny_pure (wpAny_pure (k _ t1 _ S1 R1 (by rw [key]; show Value.bool _ = Value.bool _; congr 1; cases decide (v = V.bool b) <;> rfl))))

theorem sim_tup {l : List E} {m : List PySem.Expr} {j : Nat} {pos : Pos} (h : SimEs G C d sc Γ l m) : SimE G C d sc Γ (.tup l) (.Tuple m j pos) := by
  intro t st s env loc X st' A hA hsc F R e Q E k
  simp only [ev_none, ev_bool, ev_int, ev_str, ev_loc, ev_gint, ev_gstr, ev_neg, ev_not, ev_and, ev_or, ev_bin, ev_cmp, ev_cmp2, ev_isC, ev_tup, ev_lst, ev_lstM, ev_dictM, ev_sub, ev_slice, ev_attr, ev_call, ev_meth, ev_new, ev_isinst, ev_prim, ev_listM, ev_dictC, ev_bm, ev_comp] at e
  obtain ⟨vs, s1, e1, e⟩ := Res.bind_ok e
  split at e
  · rename_i hz
    cases e
    refine wpAny_Tuple (h pos t st s env loc _ _ A hA hsc F R e1 _ _ fun ys t1 σ1 S1 R1 r1 => ⟨by rw [r1.length]; exact hz, ?_⟩)
    exact k _ t1 _ (S1.trans (Step.push R1 _)) (R1.push _) (VRel.newT R1 r1 hz)
  · cases e
theorem sim_lst {l : List E} {m : List PySem.Expr} {pos : Pos} (h : SimEs G C d sc Γ l m) : SimE G C d sc Γ (.lst l) (.List m pos) := by
  intro t st s env loc X st' A hA hsc F R e Q E k
  simp only [ev_none, ev_bool, ev_int, ev_str, ev_loc, ev_gint, ev_gstr, ev_neg, ev_not, ev_and, ev_or, ev_bin, ev_cmp, ev_cmp2, ev_isC, ev_tup, ev_lst, ev_lstM, ev_dictM, ev_sub, ev_slice, ev_attr, ev_call, ev_meth, ev_new, ev_isinst, ev_prim, ev_listM, ev_dictC, ev_bm, ev_comp] at e
  obtain ⟨vs, s1, e1, e⟩ := Res.bind_ok e
  split at e
  · rename_i hz
    cases e
    refine wpAny_List (h pos t st s env loc _ _ A hA hsc F R e1 _ _ fun ys t1 σ1 S1 R1 r1 => ⟨by rw [r1.length]; exact hz, ?_⟩)
    exact k _ t1 _ (S1.trans (Step.push R1 _)) (R1.push _) (VRel.newL R1 r1 hz)
  · cases e
end
end Mine
end

section
set_option genInjectivity false
set_option genSizeOf false
namespace Mine
open PySem PySem.W PyProof.Rows PySem.SeqAt

noncomputable def SimT (G : Gd) (C : Calls) (d : Dp) (sc : Sc) (Γ : Gam) (e : E) (ast : PySem.Expr) : Prop :=
  ∀ t st s env loc b st' A, AOk d A → env.scope.names = sc → FrOk G A t env Γ loc s → Rel G t st s → ev G.P C e loc st = .ok (.bool b) st' → Sim G A t s (isTrue ast env (eval ast env)) st' (fun _ _ b' => b' = b)

inductive SimL (G : Gd) (C : Calls) (d : Dp) (sc : Sc) (Γ : Gam) : List E → List PySem.Expr → Prop
  | nil : SimL G C d sc Γ [] []
  | cons {e : E} {l : List E} {x : PySem.Expr} {m : List PySem.Expr} : SimE G C d sc Γ e x → SimT G C d sc Γ e x → SimL G C d sc Γ l m → SimL G C d sc Γ (e :: l) (x :: m)

noncomputable def plainTest : PySem.Expr → Bool
  | .UnaryOp .Not _ _ | .BoolOp .. | .IfExp .. | .Compare .. => false
  | _ => true

section
variable {G : Gd} {N : Names} {C : Calls} {d : Dp} {sc : Sc} {Γ : Gam}

theorem sim_and {pos : Pos} : ∀ {l : List E} {m : List PySem.Expr}, SimL G C d sc Γ l m → ∀ t st s env loc X st' A, AOk d A → env.scope.names = sc → FrOk G A t env Γ loc s → Rel G t st s → evAnd G.P C l loc st = .ok X st' →
    Sim G A t s (boolOp pos .And (evalEach m env)) st' (vrel X)
  | [], _, _ => by intro t st s env loc X st' A hA hsc F R e; simp only [evAnd_nil, evAnd_one, evAnd_cons] at e; cases e
  | [e], _, .cons he _ .nil => by
    intro t st s env loc X st' A hA hsc F R q Q E k
    simp only [evAnd_nil, evAnd_one, evAnd_cons] at q
    exact he t st s env loc X st' A hA hsc F R q Q E k
  | e :: e' :: l, _, .cons he _ (.cons (x := x') (m := m') he' ht' r) => by
    intro t st s env loc X st' A hA hsc F R q Q E k
    simp only [evAnd_nil, evAnd_one, evAnd_cons] at q
    obtain ⟨v, s1, q1, q⟩ := Res.bind_ok q
    obtain ⟨b, s2, q2, qq⟩ := Res.bind_ok q
    obtain ⟨rfl, rfl⟩ := truth_ok q2
    show wpAny G.M A (do
      let v ← eval _ env
      standAt pos
      let t ← holding [v] (truthy v)
      match BoolOp.And, t with
      | .And, false | .Or, true => pure v
      | _, _ => boolOp pos .And (evalEach (x' :: m') env)) Q E s
    refine wpAny_bind (he t st s env loc _ _ A hA hsc F R q1 _ _ fun u t1 σ1 S1 R1 r1 => ?_)
    cases r1
    refine wpAny_bind (wpAny_standAt (wpAny_bind (wpAny_holding (wpAny_truthy_bool ?_))))
    cases b with
    | false => simp only [Bool.false_eq_true, if_false] at qq; cases qq; exact wpAny_pure (k _ t1 σ1 S1 R1 rfl)
    | true =>
      simp only [if_true] at qq
      exact sim_and (.cons he' ht' r) t1 _ σ1 env loc X st' A hA hsc (F.step R S1) R1 qq Q E fun u t2 σ2 S2 R2 r2 => k u t2 σ2 (S1.trans S2) R2 r2

theorem sim_or {pos : Pos} : ∀ {l : List E} {m : List PySem.Expr}, SimL G C d sc Γ l m → ∀ t st s env loc X st' A, AOk d A → env.scope.names = sc → FrOk G A t env Γ loc s → Rel G t st s → evOr G.P C l loc st = .ok X st' →
    Sim G A t s (boolOp pos .Or (evalEach m env)) st' (vrel X)
  | [], _, _ => by intro t st s env loc X st' A hA hsc F R e; simp only [evOr_nil, evOr_one, evOr_cons] at e; cases e
  | [e], _, .cons he _ .nil => by
    intro t st s env loc X st' A hA hsc F R q Q E k
    simp only [evOr_nil, evOr_one, evOr_cons] at q
    exact he t st s env loc X st' A hA hsc F R q Q E k
  | e :: e' :: l, _, .cons he _ (.cons (x := x') (m := m') he' ht' r) => by
    intro t st s env loc X st' A hA hsc F R q Q E k
    simp only [evOr_nil, evOr_one, evOr_cons] at q
    obtain ⟨v, s1, q1, q⟩ := Res.bind_ok q
    obtain ⟨b, s2, q2, qq⟩ := Res.bind_ok q
    obtain ⟨rfl, rfl⟩ := truth_ok q2
    show wpAny G.M A (do
      let v ← eval _ env
      standAt pos
      let t ← holding [v] (truthy v)
      match BoolOp.Or, t with
      | .And, false | .Or, true => pure v
      | _, _ => boolOp pos .Or (evalEach (x' :: m') env)) Q E s
    refine wpAny_bind (he t st s env loc _ _ A hA hsc F R q1 _ _ fun u t1 σ1 S1 R1 r1 => ?_)
    cases r1
    refine wpAny_bind (wpAny_standAt (wpAny_bind (wpAny_holding (wpAny_truthy_bool ?_))))
    cases b with
    | true => simp only [if_true] at qq; cases qq; exact wpAny_pure (k _ t1 σ1 S1 R1 rfl)
    | false =>
      simp only [Bool.false_eq_true, if_false] at qq
      exact sim_or (.cons he' ht' r) t1 _ σ1 env loc X st' A hA hsc (F.step R S1) R1 qq Q E fun u t2 σ2 S2 R2 r2 => k u t2 σ2 (S1.trans S2) R2 r2

theorem simE_and {l : List E} {m : List PySem.Expr} {pos : Pos} (h : SimL G C d sc Γ l m) : SimE G C d sc Γ (.and l) (.BoolOp .And m pos) := by
  intro t st s env loc X st' A hA hsc F R e
  simp only [ev_none, ev_bool, ev_int, ev_str, ev_loc, ev_gint, ev_gstr, ev_neg, ev_not, ev_and, ev_or, ev_bin, ev_cmp, ev_cmp2, ev_isC, ev_tup, ev_lst, ev_lstM, ev_dictM, ev_sub, ev_slice, ev_attr, ev_call, ev_meth, ev_new, ev_isinst, ev_prim, ev_listM, ev_dictC, ev_bm, ev_comp] at e
  exact sim_and h t st s env loc X st' A hA hsc F R e
theorem simE_or {l : List E} {m : List PySem.Expr} {pos : Pos} (h : SimL G C d sc Γ l m) : SimE G C d sc Γ (.or l) (.BoolOp .Or m pos) := by
  intro t st s env loc X st' A hA hsc F R e
  simp only [ev_none, ev_bool, ev_int, ev_str, ev_loc, ev_gint, ev_gstr, ev_neg, ev_not, ev_and, ev_or, ev_bin, ev_cmp, ev_cmp2, ev_isC, ev_tup, ev_lst, ev_lstM, ev_dictM, ev_sub, ev_slice, ev_attr, ev_call, ev_meth, ev_new, ev_isinst, ev_prim, ev_listM, ev_dictC, ev_bm, ev_comp] at e
  exact sim_or h t st s env loc X st' A hA hsc F R e

theorem simT_plain {e : E} {x : PySem.Expr} (hx : plainTest x = true) (h : SimE G C d sc Γ e x) : SimT G C d sc Γ e x := by
  intro t st s env loc b st' A hA hsc F R q Q E k
  have he : isTrue x env (eval x env) = (do let v ← eval x env; standAt x.pos; holding [v] (truthy v)) := by
    cases x <;> first | rfl | (cases hx; done) | skip
    rename_i op _ _
    cases op <;> first | rfl | cases hx
  rw [he]
  refine wpAny_bind (h t st s env loc _ _ A hA hsc F R q _ _ fun u t1 σ1 S1 R1 r1 => ?_)
  cases r1
  exact wpAny_bind (wpAny_standAt (wpAny_holding (wpAny_truthy_bool (k _ t1 σ1 S1 R1 rfl))))

theorem simT_not {a : E} {x : PySem.Expr} {pos : Pos} (ha : SimT G C d sc Γ a x) : SimT G C d sc Γ (.not a) (.UnaryOp .Not x pos) := by
  intro t st s env loc b st' A hA hsc F R e Q E k
  simp only [ev_none, ev_bool, ev_int, ev_str, ev_loc, ev_gint, ev_gstr, ev_neg, ev_not, ev_and, ev_or, ev_bin, ev_cmp, ev_cmp2, ev_isC, ev_tup, ev_lst, ev_lstM, ev_dictM, ev_sub, ev_slice, ev_attr, ev_call, ev_meth, ev_new, ev_isinst, ev_prim, ev_listM, ev_dictC, ev_bm, ev_comp] at e
  obtain ⟨v, s1, e1, e⟩ := Res.bind_ok e
  obtain ⟨c, s2, e2, ee⟩ := Res.bind_ok e
  obtain ⟨rfl, rfl⟩ := truth_ok e2
  cases ee
  refine wpAny_isTrue_Not (ha t st s env loc _ _ A hA hsc F R e1 _ _ fun u t1 σ1 S1 R1 r1 => ?_)
  subst r1
  exact k _ t1 σ1 S1 R1 rfl

theorem simT_and : ∀ {l : List E} {m : List PySem.Expr}, SimL G C d sc Γ l m → ∀ t st s env loc b st' A, AOk d A → env.scope.names = sc → FrOk G A t env Γ loc s → Rel G t st s → evAnd G.P C l loc st = .ok (.bool b) st' →
    Sim G A t s (PySem.allTrue .And m env) st' (fun _ _ b' => b' = b)
  | [], _, _ => by intro t st s env loc X st' A hA hsc F R e; simp only [evAnd_nil, evAnd_one, evAnd_cons] at e; cases e
  | [e], _, .cons (x := x) he ht .nil => by
    intro t st s env loc b st' A hA hsc F R q Q E k
    simp only [evAnd_nil, evAnd_one, evAnd_cons] at q
    refine wpAny_allTrue_And_cons (ht t st s env loc b st' A hA hsc F R q _ _ fun u t1 σ1 S1 R1 r1 => ?_)
    subst r1
    cases u with
    | false => exact k _ t1 σ1 S1 R1 rfl
    | true => exact wpAny_allTrue_And_nil (k _ t1 σ1 S1 R1 rfl)
  | e :: e' :: l, _, .cons he ht (.cons (x := x') (m := m') he' ht' r) => by
    intro t st s env loc b st' A hA hsc F R q Q E k
    simp only [evAnd_nil, evAnd_one, evAnd_cons] at q
    obtain ⟨v, s1, q1, q⟩ := Res.bind_ok q
    obtain ⟨c, s2, q2, qq⟩ := Res.bind_ok q
    obtain ⟨rfl, rfl⟩ := truth_ok q2
    refine wpAny_allTrue_And_cons (ht t st s env loc _ _ A hA hsc F R q1 _ _ fun u t1 σ1 S1 R1 r1 => ?_)
    subst r1
    cases u with
    | false => simp only [Bool.false_eq_true, if_false] at qq; cases qq; exact k _ t1 σ1 S1 R1 rfl
    | true =>
      simp only [if_true] at qq
      exact simT_and (.cons he' ht' r) t1 _ σ1 env loc b st' A hA hsc (F.step R S1) R1 qq Q E fun u t2 σ2 S2 R2 r2 => k u t2 σ2 (S1.trans S2) R2 r2
theorem simT_or : ∀ {l : List E} {m : List PySem.Expr}, SimL G C d sc Γ l m → ∀ t st s env loc b st' A, AOk d A → env.scope.names = sc → FrOk G A t env Γ loc s → Rel G t st s → evOr G.P C l loc st = .ok (.bool b) st' →
    Sim G A t s (PySem.allTrue .Or m env) st' (fun _ _ b' => b' = b)
  | [], _, _ => by intro t st s env loc X st' A hA hsc F R e; simp only [evOr_nil, evOr_one, evOr_cons] at e; cases e
  | [e], _, .cons (x := x) he ht .nil => by
    intro t st s env loc b st' A hA hsc F R q Q E k
    simp only [evOr_nil, evOr_one, evOr_cons] at q
    refine wpAny_allTrue_Or_cons (ht t st s env loc b st' A hA hsc F R q _ _ fun u t1 σ1 S1 R1 r1 => ?_)
    subst r1
    cases u with
    | true => exact k _ t1 σ1 S1 R1 rfl
    | false => exact wpAny_allTrue_Or_nil (k _ t1 σ1 S1 R1 rfl)
  | e :: e' :: l, _, .cons he ht (.cons (x := x') (m := m') he' ht' r) => by
    intro t st s env loc b st' A hA hsc F R q Q E k
    simp only [evOr_nil, evOr_one, evOr_cons] at q
    obtain ⟨v, s1, q1, q⟩ := Res.bind_ok q
    obtain ⟨c, s2, q2, qq⟩ := Res.bind_ok q
    obtain ⟨rfl, rfl⟩ := truth_ok q2
    refine wpAny_allTrue_Or_cons (ht t st s env loc _ _ A hA hsc F R q1 _ _ fun u t1 σ1 S1 R1 r1 => ?_)
    subst r1
    cases u with
    | true => simp only [if_true] at qq; cases qq; exact k _ t1 σ1 S1 R1 rfl
    | false =>
      simp only [Bool.false_eq_true, if_false] at qq
      exact simT_or (.cons he' ht' r) t1 _ σ1 env loc b st' A hA hsc (F.step R S1) R1 qq Q E fun u t2 σ2 S2 R2 r2 => k u t2 σ2 (S1.trans S2) R2 r2
theorem simTE_and {l : List E} {m : List PySem.Expr} {pos : Pos} (h : SimL G C d sc Γ l m) : SimT G C d sc Γ (.and l) (.BoolOp .And m pos) := by
  intro t st s env loc X st' A hA hsc F R e
  simp only [ev_none, ev_bool, ev_int, ev_str, ev_loc, ev_gint, ev_gstr, ev_neg, ev_not, ev_and, ev_or, ev_bin, ev_cmp, ev_cmp2, ev_isC, ev_tup, ev_lst, ev_lstM, ev_dictM, ev_sub, ev_slice, ev_attr, ev_call, ev_meth, ev_new, ev_isinst, ev_prim, ev_listM, ev_dictC, ev_bm, ev_comp] at e
  exact simT_and h t st s env loc X st' A hA hsc F R e
theorem simTE_or {l : List E} {m : List PySem.Expr} {pos : Pos} (h : SimL G C d sc Γ l m) : SimT G C d sc Γ (.or l) (.BoolOp .Or m pos) := by
  intro t st s env loc X st' A hA hsc F R e
  simp only [ev_none, ev_bool, ev_int, ev_str, ev_loc, ev_gint, ev_gstr, ev_neg, ev_not, ev_and, ev_or, ev_bin, ev_cmp, ev_cmp2, ev_isC, ev_tup, ev_lst, ev_lstM, ev_dictM, ev_sub, ev_slice, ev_attr, ev_call, ev_meth, ev_new, ev_isinst, ev_prim, ev_listM, ev_dictC, ev_bm, ev_comp] at e
  exact simT_or h t st s env loc X st' A hA hsc F R e

theorem testChain1 {M : Model} {A : Around} {E : Value → Shared → Prop} {s : Shared} {env : Env} {x y : PySem.Expr} {op : CmpOp} {pos : Pos} {Q : Bool → Shared → Prop} (hm : behindInMarks op y = false)
    (h : wpAny M A (eval x env) (fun a s₁ => wpAny M A (eval y env) (fun b s₂ => wpAny M A (compareOp op a b) (fun c s₃ => ∃ z, c = .bool z ∧ Q z s₃) E s₂) E s₁) E s) :
    wpAny M A (isTrue (.Compare x [op] [y] pos) env (eval (.Compare x [op] [y] pos) env)) Q E s := by
  refine wpAny_isTrue_Compare1 (wpAny_mono h (fun a s₁ h₁ => wpAny_mono h₁ (fun b s₂ h₂ => wpAny_mono h₂ (fun c s₃ h₃ => ?_) fun _ _ e => e) fun _ _ e => e) fun _ _ e => e) hm
  obtain ⟨z, rfl, hz⟩ := h₃
  exact wpAny_truthy_bool hz

theorem simT_cmp {o : Cop} {a b : E} {x y : PySem.Expr} {pos : Pos} (hm : behindInMarks (cmpOf o) y = false) (ha : SimE G C d sc Γ a x) (hb : SimE G C d sc Γ b y) : SimT G C d sc Γ (.cmp a o b) (.Compare x [cmpOf o] [y] pos) := by
  intro t st s env loc c st' A hA hsc F R e Q E k
  simp only [ev_none, ev_bool, ev_int, ev_str, ev_loc, ev_gint, ev_gstr, ev_neg, ev_not, ev_and, ev_or, ev_bin, ev_cmp, ev_cmp2, ev_isC, ev_tup, ev_lst, ev_lstM, ev_dictM, ev_sub, ev_slice, ev_attr, ev_call, ev_meth, ev_new, ev_isinst, ev_prim, ev_listM, ev_dictC, ev_bm, ev_comp] at e
  obtain ⟨v1, s1, e1, e⟩ := Res.bind_ok e
  obtain ⟨v2, s2, e2, e⟩ := Res.bind_ok e
  refine testChain1 hm (ha t st s env loc _ _ A hA hsc F R e1 _ _ fun u t1 σ1 S1 R1 r1 => ?_)
  refine hb t1 s1 σ1 env loc _ _ A hA hsc (F.step R S1) R1 e2 _ _ fun w t2 σ2 S2 R2 r2 => ?_
  exact cmp_sound R2 hA (VRel.step S2 (fun _ z => z.elim) _ r1) r2 e _ _ fun z t3 σ3 S3 R3 r3 => ⟨c, r3, k c t3 σ3 ((S1.trans S2).trans S3) R3 rfl⟩

theorem simT_cmp2 {o o2 : Cop} {a b c : E} {x y z : PySem.Expr} {pos : Pos} (hm : behindInMarks (cmpOf o2) z = false) (ha : SimE G C d sc Γ a x) (hb : SimE G C d sc Γ b y) (hc : SimE G C d sc Γ c z) :
    SimT G C d sc Γ (.cmp2 a o b o2 c) (.Compare x [cmpOf o, cmpOf o2] [y, z] pos) := by
  intro t st s env loc X st' A hA hsc F R e Q E k
  simp only [ev_none, ev_bool, ev_int, ev_str, ev_loc, ev_gint, ev_gstr, ev_neg, ev_not, ev_and, ev_or, ev_bin, ev_cmp, ev_cmp2, ev_isC, ev_tup, ev_lst, ev_lstM, ev_dictM, ev_sub, ev_slice, ev_attr, ev_call, ev_meth, ev_new, ev_isinst, ev_prim, ev_listM, ev_dictC, ev_bm, ev_comp] at e
  obtain ⟨v1, s1, e1, e⟩ := Res.bind_ok e
  obtain ⟨v2, s2, e2, e⟩ := Res.bind_ok e
  obtain ⟨v3, s3, e3, e⟩ := Res.bind_ok e
  obtain ⟨b3, s4, e4, ee⟩ := Res.bind_ok e
  obtain ⟨rfl, rfl⟩ := truth_ok e4
  have mk : markedEach [cmpOf o, cmpOf o2] [y, z] (evalEach [y, z] env) = [eval y env, eval z env] := by
    show eval y env :: [markedBehindIn (cmpOf o2) z (eval z env)] = _
    rw [markedBehindIn_of_false hm]
  show wpAny G.M A (do testChain pos (← eval x env) [cmpOf o, cmpOf o2] (markedEach [cmpOf o, cmpOf o2] [y, z] (evalEach [y, z] env))) Q E s
  rw [mk]
  refine wpAny_bind (ha t st s env loc _ _ A hA hsc F R e1 _ _ fun u t1 σ1 S1 R1 r1 => ?_)
  unfold testChain
  refine wpAny_bind (wpAny_holding (hb t1 s1 σ1 env loc _ _ A hA hsc (F.step R S1) R1 e2 _ _ fun w t2 σ2 S2 R2 r2 => ?_))
  refine wpAny_bind (wpAny_standAt (wpAny_bind (wpAny_holding ?_)))
  refine cmp_sound R2 hA (VRel.step S2 (fun _ z => z.elim) _ r1) r2 e3 _ _ fun q t3 σ3 S3 R3 r3 => ?_
  cases r3
  refine wpAny_bind (wpAny_release (wpAny_bind (wpAny_holding (wpAny_truthy_bool ?_))))
  cases b3 with
  | false =>
    simp only [Bool.false_eq_true, if_false] at ee ⊢
    cases ee
    exact wpAny_pure (k _ t3 σ3 ((S1.trans S2).trans S3) R3 rfl)
  | true =>
    simp only [if_true] at ee ⊢
    obtain ⟨v5, s5, e5, e6⟩ := Res.bind_ok ee
    unfold testChain
    refine wpAny_bind (wpAny_holding (hc t3 _ σ3 env loc _ _ A hA hsc (((F.step R S1).step R1 S2).step R2 S3) R3 e5 _ _ fun w' t4 σ4 S4 R4 r4 => ?_))
    refine wpAny_bind (wpAny_standAt (wpAny_bind (wpAny_operating ?_)))
    refine cmp_sound R4 hA (VRel.step (S3.trans S4) (fun _ z => z.elim) _ r2) r4 e6 _ _ fun z t5 σ5 S5 R5 r5 => ?_
    cases r5
    exact wpAny_holding (wpAny_truthy_bool (k _ t5 σ5 ((((S1.trans S2).trans S3).trans S4).trans S5) R5 rfl))

theorem isN_op {n : Bool} {p : CmpOp} {A : Around} {t : Tie} {s : Shared} {v : V} {u : Value} {Q : Value → Shared → Prop} {E : Value → Shared → Prop} (hp : isNot p n = true) (r1 : VRel t s.heap v u) (h : Q (.bool (decide (v = .none) != n)) s) : wpAny G.M A (compareOp p u .none) Q E s := by
  have key : (u == Value.none) = decide (v = .none) := by
    cases v with
    | none => cases r1; (first | exact (decide_eq_true rfl).symm | exact (decide_eq_false nofun).symm)
    | bool => cases r1; (first | exact (decide_eq_true rfl).symm | exact (decide_eq_false nofun).symm)
    | int => obtain ⟨_, rfl⟩ := r1; (first | exact (decide_eq_true rfl).symm | exact (decide_eq_false nofun).symm)
    | str => obtain ⟨_, rfl⟩ := r1; (first | exact (decide_eq_true rfl).symm | exact (decide_eq_false nofun).symm)
    | tup => obtain ⟨_, _, rfl, _⟩ := r1; (first | exact (decide_eq_true rfl).symm | exact (decide_eq_false nofun).symm)
    | lst => obtain ⟨_, _, rfl, _⟩ := r1; (first | exact (decide_eq_true rfl).symm | exact (decide_eq_false nofun).symm)
    | ref => obtain ⟨_, rfl, _⟩ := r1; (first | exact (decide_eq_true rfl).symm | exact (decide_eq_false nofun).symm)
    | exc => obtain ⟨_, _, rfl, _⟩ := r1; (first | exact (decide_eq_true rfl).symm | exact (decide_eq_false nofun).symm)
  cases p <;> simp only [isNot] at hp <;> (try contradiction)
  · have : n = false := by simpa using hp
    subst this
    exact is_none (by rw [key]; revert h; cases decide (v = V.none) <;> exact id)
  · have : n = true := hp
    subst this
    exact isNot_none (by rw [key]; revert h; cases decide (v = V.none) <;> exact id)
theorem isB_op {n b : Bool} {p : CmpOp} {A : Around} {t : Tie} {s : Shared} {v : V} {u : Value} {Q : Value → Shared → Prop} {E : Value → Shared → Prop} (hp : isNot p n = true) (r1 : VRel t s.heap v u) (h : Q (.bool (decide (v = .bool b) != n)) s) : wpAny G.M A (compareOp p u (.bool b)) Q E s := by
  have key : (u == Value.bool b) = decide (v = .bool b) := by
    cases v with
    | bool c => cases r1; cases b <;> cases c <;> first | exact (decide_eq_true rfl).symm | exact (decide_eq_false nofun).symm
    | none => cases r1; (first | exact (decide_eq_true rfl).symm | exact (decide_eq_false nofun).symm)
    | int => obtain ⟨_, rfl⟩ := r1; (first | exact (decide_eq_true rfl).symm | exact (decide_eq_false nofun).symm)
    | str => obtain ⟨_, rfl⟩ := r1; (first | exact (decide_eq_true rfl).symm | exact (decide_eq_false nofun).symm)
    | tup => obtain ⟨_, _, rfl, _⟩ := r1; (first | exact (decide_eq_true rfl).symm | exact (decide_eq_false nofun).symm)
    | lst => obtain ⟨_, _, rfl, _⟩ := r1; (first | exact (decide_eq_true rfl).symm | exact (decide_eq_false nofun).symm)
    | ref => obtain ⟨_, rfl, _⟩ := r1; (first | exact (decide_eq_true rfl).symm | exact (decide_eq_false nofun).symm)
    | exc => obtain ⟨_, _, rfl, _⟩ := r1; (first | exact (decide_eq_true rfl).symm | exact (decide_eq_false nofun).symm)
  cases p <;> simp only [isNot] at hp <;> (try contradiction)
  · have : n = false := by simpa using hp
    subst this
    show wpAny G.M A (do return .bool (← isSame u (.bool b))) Q E s
    rw [isSame_b _ _ r1.notB]
    exact wpAny_bind (wpAny_pure (wpAny_pure (by rw [key]; revert h; cases decide (v = V.bool b) <;> exact id)))
  · have : n = true := hp
    subst this
    show wpAny G.M A (do return .bool (!(← isSame u (.bool b)))) Q E s
    rw [isSame_b _ _ r1.notB]
    exact wpAny_bind (wpAny_pure (wpAny_pure (by rw [key]; revert h; cases decide (v = V.bool b) <;> exact id)))
theorem simT_isN {n : Bool} {a : E} {x : PySem.Expr} {p : CmpOp} {pos p2 : Pos} {j : Nat} (hp : isNot p n = true) (ha : SimE G C d sc Γ a x) : SimT G C d sc Γ (.isC n a .none) (.Compare x [p] [.Constant .none j p2] pos) := by
  intro t st s env loc c st' A hA hsc F R e Q E k
  simp only [ev_none, ev_bool, ev_int, ev_str, ev_loc, ev_gint, ev_gstr, ev_neg, ev_not, ev_and, ev_or, ev_bin, ev_cmp, ev_cmp2, ev_isC, ev_tup, ev_lst, ev_lstM, ev_dictM, ev_sub, ev_slice, ev_attr, ev_call, ev_meth, ev_new, ev_isinst, ev_prim, ev_listM, ev_dictC, ev_bm, ev_comp] at e
  obtain ⟨v, s1, e1, e⟩ := Res.bind_ok e
  cases e
  refine testChain1 rfl (ha t st s env loc _ _ A hA hsc F R e1 _ _ fun u t1 σ1 S1 R1 r1 => ?_)
  exact wpAny_Constant_none (isN_op hp r1 ⟨_, rfl, k _ t1 σ1 S1 R1 rfl⟩)
theorem simT_isB {n b : Bool} {a : E} {x : PySem.Expr} {p : CmpOp} {pos p2 : Pos} {j : Nat} (hp : isNot p n = true) (ha : SimE G C d sc Γ a x) : SimT G C d sc Γ (.isC n a (.bool b)) (.Compare x [p] [.Constant (.bool b) j p2] pos) := by
  intro t st s env loc c st' A hA hsc F R e Q E k
  simp only [ev_none, ev_bool, ev_int, ev_str, ev_loc, ev_gint, ev_gstr, ev_neg, ev_not, ev_and, ev_or, ev_bin, ev_cmp, ev_cmp2, ev_isC, ev_tup, ev_lst, ev_lstM, ev_dictM, ev_sub, ev_slice, ev_attr, ev_call, ev_meth, ev_new, ev_isinst, ev_prim, ev_listM, ev_dictC, ev_bm, ev_comp] at e
  obtain ⟨v, s1, e1, e⟩ := Res.bind_ok e
  cases e
  refine testChain1 rfl (ha t st s env loc _ _ A hA hsc F R e1 _ _ fun u t1 σ1 S1 R1 r1 => ?_)
  exact wpAny_Constant_bool (isB_op hp r1 ⟨_, rfl, k _ t1 σ1 S1 R1 rfl⟩)
end
end Mine
end

section
set_option genInjectivity false
set_option genSizeOf false
namespace Mine
open PySem PySem.W PyProof.Rows PySem.SeqAt

section
variable {G : Gd} {N : Names} {C : Calls} {d : Dp} {sc : Sc} {Γ : Gam} {t : Tie} {st st' : MS} {s : Shared} {A : Around} {X Y Z : V} {v w : Value}

theorem idx_seqIndex {i : Int} {n j : Nat} (e : idx i n = some j) : seqIndex? i n = some j ∧ j < n := by
  unfold idx at e
  unfold seqIndex?
  split at e
  · split at e
    · cases e
      rename_i h1 h2
      have : ¬ i < 0 := by omega
      simp only [this, if_false]
      exact ⟨by simp; omega, by omega⟩
    · cases e
  · split at e
    · cases e
      rename_i h1 h2
      have : i < 0 := by omega
      simp only [this, if_true]
      exact ⟨by simp; omega, by omega⟩
    · cases e

noncomputable def notSlice : PySem.Expr → Bool
  | .Slice .. => false
  | _ => true
theorem subscripted_plain {slice : PySem.Expr} (h : notSlice slice = true) (o i : Value) : subscripted slice false o i = operate [o, i] (PySem.getItem o i) := by
  cases slice <;> first | rfl | cases h

theorem getItem_sound {value slice : PySem.Expr} (hs : notSlice slice = true) (R : Rel G t st s) (hA : AOk d A) (hX : VRel t s.heap X v) (hY : VRel t s.heap Y w) (e : getItem X Y st = .ok Z st') : Sim G A t s (subscriptTail value slice v w) st' (vrel Z) := by
  have hsz : (sizeMax : Int) < 2 ^ 62 := by decide
  have okV' : ∀ {o : Option V}, okV st o = .ok Z st' → o = some Z ∧ st' = st := by
    intro o h; cases o with | none => cases h | some b => cases h; exact ⟨rfl, rfl⟩
  cases Y with
  | int i =>
    obtain ⟨k, rfl⟩ := hY
    cases X with
    | str x =>
      simp only [getItem] at e
      split at e
      · rename_i hz
        obtain ⟨ez, rfl⟩ := okV' e
        obtain ⟨k1, rfl⟩ := hX
        obtain ⟨j, h1, h2⟩ := Option.bind_eq_some_iff.mp ez
        obtain ⟨c, h3, rfl⟩ := Option.map_eq_some_iff.mp h2
        obtain ⟨h4, h5⟩ := idx_seqIndex h1
        intro Q E q
        refine tail_any (typeIs_str s _ k1) PySem.F.slot_str_getitem.lookup (PyProof.Rows.getItem_str (c := c) ?_ ?_ (q _ t _ (Step.toks _ t s _) (R.toks _) ⟨_, rfl⟩)) (subscripted_plain hs _ _)
        · have hbd : -(2 ^ 63 : Int) ≤ i ∧ i < 2 ^ 63 := by
            unfold idx at h1
            split at h1
            · split at h1
              · omega
              · cases h1
            · split at h1
              · omega
              · cases h1
          simp only [Bool.or_eq_false_iff, decide_eq_false_iff_not]; omega
        · have : (toStr x).length = x.length := by simp [Str.length]
          rw [this, h4, Option.bind_some]
          show (x.toArray)[j]? = some c
          simpa using h3
      · cases e
    | _ =>
      simp only [getItem] at e
      split at e
      · rename_i kk l hl
        obtain ⟨ez, rfl⟩ := okV' e
        obtain ⟨j, h1, h2⟩ := Option.bind_eq_some_iff.mp ez
        obtain ⟨h4, h5⟩ := idx_seqIndex h1
        obtain ⟨a, vs, rfl, ia, ra, sz⟩ := seqOf_real R hX hl
        obtain ⟨y, h6, h7⟩ := ra.get h2
        have hls : vs.size = l.length := by rw [← ra.length]; simp
        have hbd : -(2 ^ 63 : Int) ≤ i ∧ i < 2 ^ 63 := by
          unfold idx at h1
          split at h1
          · split at h1
            · omega
            · cases h1
          · split at h1
            · omega
            · cases h1
        have hy : vs[j]? = some y := by rw [← Array.getElem?_toList]; exact h6
        cases kk with
        | true =>
          simp only [if_true] at ia
          intro Q E q
          refine tail_any ia.isList.typeIs slot_list_getitem.lookup ?_ (subscripted_plain hs _ _)
          by_cases h0 : 0 ≤ i
          · have : j = i.toNat := by
              unfold idx at h1; rw [if_pos h0] at h1; split at h1 <;> cases h1; rfl
            subst this
            exact wpAny_getItem_list ia.isList h0 hbd.2 hy (q _ t s (.refl _ _ _) R h7)
          · have e1 : vs = vs.toList.toArray := by simp
            rw [e1] at ia
            exact kde_getNeg ia.isList (by omega) hbd.1 (by rw [Array.length_toList, hls]; exact h4) h6 (q _ t s (.refl _ _ _) R h7)
        | false =>
          simp only [Bool.false_eq_true, if_false] at ia
          intro Q E q
          obtain ⟨n, ha⟩ := ia
          exact tail_any ⟨_, ha, rfl⟩ PySem.F.slot_tuple_getitem.lookup (P.getItem_tuple ha (by omega) hbd.2 (by rw [hls]; exact h4) hy (q _ t s (.refl _ _ _) R h7)) (subscripted_plain hs _ _)
      · cases e
  | str x =>
    obtain ⟨k, rfl⟩ := hY
    cases X with
    | ref r =>
      simp only [getItem] at e
      split at e
      · rename_i dd hdd
        simp only [V.isKey, if_true] at e
        obtain ⟨ez, rfl⟩ := okV' e
        obtain ⟨a, kvs, h1, h2, h3⟩ := R.objs r _ hdd
        obtain ⟨a', rfl, e2⟩ := hX
        rw [h1] at e2; cases e2
        have f := DRel.find (x := x) h3
        rw [ez] at f
        obtain ⟨y, f1, f2⟩ := f
        intro Q E q
        exact tail_any h2.mapOf.typeIs slot_dict_getitem.lookup (wpAny_getItem_of (strKind_is G.prog G.w (toStr x) k) h2.mapOf f1 (q _ t _ (Step.toks _ t s _) (R.toks _) f2)) (subscripted_plain hs _ _)
      · cases e
    | _ => simp [getItem] at e
  | _ => cases X <;> simp [getItem, V.isKey] at e <;> (split at e <;> simp at e)

theorem sim_sub {a b : E} {x y : PySem.Expr} {pos : Pos} (hs : notSlice y = true) (ha : SimE G C d sc Γ a x) (hb : SimE G C d sc Γ b y) : SimE G C d sc Γ (.sub a b) (.Subscript x y pos) := by
  intro t st s env loc X st' A hA hsc F R e Q E k
  simp only [ev_none, ev_bool, ev_int, ev_str, ev_loc, ev_gint, ev_gstr, ev_neg, ev_not, ev_and, ev_or, ev_bin, ev_cmp, ev_cmp2, ev_isC, ev_tup, ev_lst, ev_lstM, ev_dictM, ev_sub, ev_slice, ev_attr, ev_call, ev_meth, ev_new, ev_isinst, ev_prim, ev_listM, ev_dictC, ev_bm, ev_comp] at e
  obtain ⟨v1, s1, e1, e⟩ := Res.bind_ok e
  obtain ⟨v2, s2, e2, e⟩ := Res.bind_ok e
  refine Subscript_ (ha t st s env loc _ _ A hA hsc F R e1 _ _ fun u t1 σ1 S1 R1 r1 => ?_)
  refine hb t1 s1 σ1 env loc _ _ A hA hsc (F.step R S1) R1 e2 _ _ fun w t2 σ2 S2 R2 r2 => ?_
  exact getItem_sound hs R2 hA (VRel.step S2 (fun _ z => z.elim) _ r1) r2 e _ _ fun z t3 σ3 S3 R3 r3 => k z t3 σ3 ((S1.trans S2).trans S3) R3 r3

noncomputable def notSuper : PySem.Expr → Bool
  | .Call (.Name _ _) [] [] _ => false
  | _ => true
theorem base_plain {x : PySem.Expr} (h : notSuper x = true) (n : PySem.Str) (env : Env) : attributeBase x n env (eval x env) = eval x env := by
  cases x with
  | Call f l k p => cases f with
    | Name y np => cases l with
      | nil => cases k with
        | nil => cases h
        | cons a r => rfl
      | cons a r => rfl
    | _ => rfl
  | _ => rfl

structure ClsOk (G : Gd) (Ca : Addr) : Prop where
  ga : findIn G.K (.ref Ca) "__getattribute__" = some (some (.builtin "object.__getattribute__"))
  gt : findIn G.K (.ref Ca) "__getattr__" = some none
  sa : findIn G.K (.ref Ca) "__setattr__" = some (some (.builtin "object.__setattr__"))
  at_ : ∀ i, i < 13 → findIn G.K (.ref Ca) (G.an i) = some none
  cd : ∃ cd, clsIn G.K Ca = some cd ∧ cd.hasDict = true
  po : plainOver G.K Ca = true

end
end Mine
end

section
set_option genInjectivity false
set_option genSizeOf false
namespace Mine
open PySem PySem.W PyProof.Rows

section
variable {G : Gd} {N : Names} {C : Calls} {d : Dp} {sc : Sc} {Γ : Gam} {A : Around} {t : Tie} {st st' : MS} {s : Shared} {env : Env} {loc : Loc}

noncomputable def plainArgs (m : List PySem.Expr) : Bool := m.all fun x => !isStarred x

theorem star_false {x : PySem.Expr} (hx : isStarred x = false) (m : List PySem.Expr) (env : Env) : starEach (x :: m) env = (false, eval x env) :: starEach m env := by cases x <;> first | rfl | cases hx
theorem star_plain (pos : Pos) (env : Env) : ∀ {m : List PySem.Expr}, plainArgs m = true → (backTo pos (starEach m env)).any (·.1) = false
  | [], _ => rfl
  | x :: m, h => by
    simp only [plainArgs, List.all_cons, Bool.and_eq_true, Bool.not_eq_true'] at h
    rw [star_false h.1]
    exact star_plain pos env (m := m) h.2
theorem star_all (pos : Pos) (env : Env) {m : List PySem.Expr} (h : plainArgs m = true) : (backTo pos (starEach m env)).all (fun x => !x.1) = true := by
  have := star_plain pos env h
  rw [List.any_eq_false] at this
  rw [List.all_eq_true]
  intro x hx
  simpa using this x hx

theorem args_go {f : Value} {pos : Pos} {l : List E} {m : List PySem.Expr} {Vs : List V} {Q : Args → Shared → Prop} {E' : Value → Shared → Prop} (hm : plainArgs m = true) (hlm : l.length = m.length) (hl : SimEs G C d sc Γ l m) (hA : AOk d A) (hsc : env.scope.names = sc)
    (F : FrOk G A t env Γ loc s) (R : Rel G t st s) (e : evL G.P C l loc st = .ok Vs st') (h : ∀ vs t' s', Step noX t t' s s' → Rel G t' st' s' → VRels t' s'.heap Vs vs → Q ⟨vs, []⟩ s') :
    wpAny G.M A (evalArgs f true (backTo pos (starEach m env)) []) Q E' s := by
  cases m with
  | nil =>
    cases l with
    | nil => cases e; exact evalArgs_nil3 (h [] t s (.refl _ _ _) R rfl)
    | cons a l => cases hlm
  | cons x m =>
    simp only [plainArgs, List.all_cons, Bool.and_eq_true, Bool.not_eq_true'] at hm
    have q := hl pos t st s env loc Vs st' A hA hsc F R e (fun vs s' => Q ⟨vs, []⟩ s') E' h
    rw [star_false hm.1] at q ⊢
    exact Calls.evalArgs_plain q

noncomputable def Keeps (G : Gd) (f : Value) : Prop := ∀ h, G.K.In h → ∃ k, (k = Keeper.frame ∨ k = Keeper.machine ∨ k = Keeper.boundFrame) ∧ Looks G.M h (keeperOf f) k
theorem keeps_b (id : String) : Keeps G (.builtin id) := fun _ _ => ⟨.machine, .inr (.inl rfl), Looks.of_pure rfl⟩
theorem keeps_t (id : String) : Keeps G (.type id) := fun _ _ => ⟨.machine, .inr (.inl rfl), Looks.of_pure rfl⟩
theorem keeps_r {a : Addr} (h : keepIn G.K (.ref a) = true) : Keeps G (.ref a) := fun _ X => keeps_K h _ X

theorem with_go {f : Value} {first : List Value} {pos : Pos} {l : List E} {m : List PySem.Expr} {Vs : List V} {Q : Value → Shared → Prop} {E' : Value → Shared → Prop} (O : G.Ok N) (hk : Keeps G f) (hm : plainArgs m = true) (hlm : l.length = m.length) (hl : SimEs G C d sc Γ l m) (hA : AOk d A) (hsc : env.scope.names = sc)
    (F : FrOk G A t env Γ loc s) (R : Rel G t st s) (e : evL G.P C l loc st = .ok Vs st') (h : ∀ vs t' s', Step noX t t' s s' → Rel G t' st' s' → VRels t' s'.heap Vs vs → wpAny G.M A (call f (first ++ vs)) Q E' s') :
    wpAny G.M A (callWith pos f first (backTo pos (starEach m env)) []) Q E' s :=
  callWith_of (by rw [star_plain pos env hm]; rfl) hk (args_go hm hlm hl hA hsc F R e fun vs t' s' S R' r => ⟨O.K.keeps R'.base, h vs t' s' S R' r⟩)

structure FnOk (G : Gd) (N : Names) (f : Nat) (a : Addr) : Prop where
  keep : keepIn G.K (.ref a) = true
  name : N.fn f = Str.empty ∨ G.mg (N.fn f) = some (.ref a)

theorem call_wp {f : Nat} {a : Addr} {Vs : List V} {vs : List Value} {X : V} (O : CallAt G C d f) (hA : AC d A) (hf : G.fa f = some a) (K : Stk A t s.heap) (R : Rel G t st s) (r : VRels t s.heap Vs vs) (e : C f Vs st = .ok X st') : Sim G A t s (call (.ref a) vs) st' (vrel X) := by
  obtain ⟨a', h1, h2⟩ := O Vs st X st' e A hA
  rw [hf] at h1; cases h1
  exact fun Q E' k => wpAny_call (h2 t s vs K R r _ fun v t' s' S R' q => k v t' s' S R' q)

theorem sim_call (O : G.Ok N) {f : Nat} (CO : CallAt G C d f) (hfn : ∀ f a, G.fa f = some a → FnOk G N f a) {l : List E} {m : List PySem.Expr} {np pos : Pos} (hne : N.fn f ≠ Str.empty) (hg : glob sc (N.fn f) = true) (hm : plainArgs m = true) (hlm : l.length = m.length) (hl : SimEs G C d sc Γ l m) :
    SimE G C d sc Γ (.call f l) (.Call (.Name (N.fn f) np) m [] pos) := by
  intro t st s env loc X st' A hA hsc F R e Q E k
  simp only [ev_none, ev_bool, ev_int, ev_str, ev_loc, ev_gint, ev_gstr, ev_neg, ev_not, ev_and, ev_or, ev_bin, ev_cmp, ev_cmp2, ev_isC, ev_tup, ev_lst, ev_lstM, ev_dictM, ev_sub, ev_slice, ev_attr, ev_call, ev_meth, ev_new, ev_isinst, ev_prim, ev_listM, ev_dictC, ev_bm, ev_comp] at e
  obtain ⟨Vs, s1, e1, e⟩ := Res.bind_ok e
  obtain ⟨a, h1, _⟩ := CO Vs s1 X st' e A hA.ac
  have fo := hfn f a h1
  refine wpAny_Call_ofName (glob_name O F R hsc hg (fo.name.resolve_left hne) ?_)
  refine with_go O (keeps_r fo.keep) hm hlm hl hA hsc F R e1 fun vs t1 σ1 S1 R1 r1 => ?_
  exact call_wp CO hA.ac h1 (F.step R S1).sk R1 r1 e _ _ fun v t2 σ2 S2 R2 r2 => k v t2 σ2 (S1.trans S2) R2 r2

structure MethOk (G : Gd) (Ca : Addr) (x : PySem.Str) (a : Addr) : Prop where
  find : findIn G.K (.ref Ca) x = some (some (.ref a))
  typ : typeIn G.K (.ref a) = some (.type "function")
  keep : keepIn G.K (.ref a) = true
  notA : ∀ i, x ≠ G.an i

theorem meth_form {m : List PySem.Expr} {pos : Pos} {env : Env} (hm : plainArgs m = true) (h30 : m.length < 30) : methodCallForm (m.length + ([] : List Keyword).length) (backTo pos (starEach m env)) (backToKw pos (keywordEach [] env)) = true := by
  unfold methodCallForm
  rw [star_all pos env hm]
  show (true && true && decide (m.length + 0 + 0 < 30)) = true
  simpa using h30

structure NewOk (G : Gd) (N : Names) (c : Nat) (Ca fi : Addr) : Prop where
  keep : keepIn G.K (.ref Ca) = true
  name : G.mg (N.cls c) = some (.ref Ca)
  makes : makesIn G.K Ca = true
  init : findIn G.K (.ref Ca) "__init__" = some (some (.ref fi))
  fn : typeIn G.K (.ref fi) = some (.type "function")

theorem size_none1 (h : Heap) : h.get? (h.objs.size + 1) = none := by
  cases e : h.get? (h.objs.size + 1) with
  | none => rfl
  | some o => exact absurd (Heap.lt_size e) (Nat.not_lt.mpr (Nat.le_succ _))
theorem Stk.under {A : Around} {t : Tie} {h : Heap} {id : String} {a : Args} (K : Stk A t h) : Stk (A.under (.builtin id a)) t h := ⟨by unfold Around.under; dsimp only; rw [K.fr]; rfl, K.ob⟩
end
end Mine
end

section
set_option genInjectivity false
set_option genSizeOf false
namespace Mine
open PySem PySem.W PyProof.Rows

section
variable {G : Gd} {N : Names} {C : Calls} {d : Dp} {sc : Sc} {Γ : Gam} {A : Around} {t : Tie} {st st' : MS} {s : Shared} {env : Env} {loc : Loc} {X Y Z : V} {v w : Value}

theorem VRel.madeL (R : Rel G t st s) {s' : Shared} {a : Addr} {l : List V} {vs : Array Value} (S : Step noX t t s s') (ha : s.heap.get? a = none) (ho : PL s'.heap a vs) (r : VRels t s.heap l vs.toList) (sz : l.length ≤ sizeMax) : VRel t s'.heap (.lst l) (.ref a) :=
  ⟨_, vs, rfl, ho, R.fresh ha, sz, VRels.step S (fun _ q => q.elim) l r⟩
theorem VRel.madeT (R : Rel G t st s) {s' : Shared} {a : Addr} {l : List V} {vs : Array Value} (S : Step noX t t s s') (ha : s.heap.get? a = none) (ho : PT s'.heap a vs) (r : VRels t s.heap l vs.toList) (sz : l.length ≤ sizeMax) : VRel t s'.heap (.tup l) (.ref a) :=
  ⟨_, vs, rfl, ho, R.fresh ha, sz, VRels.step S (fun _ q => q.elim) l r⟩

theorem size_of {h : Heap} {l : List V} {vs : Array Value} (r : VRels t h l vs.toList) : vs.size = l.length := by rw [← r.length]; simp

theorem none_later {h h' : Heap} (k : ∀ b o, h.get? b = some o → h'.get? b = some o) {a : Addr} (e : h'.get? a = none) : h.get? a = none := by
  cases q : h.get? a with
  | none => rfl
  | some o => rw [k a o q] at e; cases e

theorem fit63 {n : Nat} (h : n ≤ sizeMax) : (n : Int) < 2 ^ 63 := by unfold sizeMax at h; omega

theorem allTrue_spec {h : Heap} : ∀ {l : List V} {vs : List Value} {b : Bool}, VRels t h l vs → allTrue l = some b → ∃ bs : List Bool, vs = bs.map .bool ∧ b = bs.all id
  | [], _, _, r, e => by cases r; cases e; exact ⟨[], rfl, rfl⟩
  | .bool x :: l, _, _, ⟨v, r, rfl, a, c⟩, e => by
    simp only [allTrue, Option.map_eq_some_iff] at e
    obtain ⟨b', e1, rfl⟩ := e
    obtain ⟨bs, h1, h2⟩ := allTrue_spec c e1
    have a' : v = .bool x := a
    subst a'; subst h1
    exact ⟨x :: bs, rfl, by simp [h2]⟩
  | .none :: _, _, _, _, e => by cases e
  | .int _ :: _, _, _, _, e => by cases e
  | .str _ :: _, _, _, _, e => by cases e
  | .tup _ :: _, _, _, _, e => by cases e
  | .lst _ :: _, _, _, _, e => by cases e
  | .ref _ :: _, _, _, _, e => by cases e
  | .exc _ :: _, _, _, _, e => by cases e

theorem list_copy (R : Rel G t st s) {k : Bool} {l : List V} {T : PySem.Value → Prop} (hX : VRel t s.heap X v) (e : seqOf st X = some (k, l)) {Q : Value → Shared → Prop} {E' : Value → Shared → Prop}
    (h : ∀ h' (vs : Array Value), (∀ b o, s.heap.get? b = some o → h'.get? b = some o) → PL h' s.heap.objs.size vs → VRels t s.heap l vs.toList → l.length ≤ sizeMax → Q (.ref s.heap.objs.size) { s with heap := h' }) :
    wpAny G.M A (call (.type "list") [v]) Q E' s := by
  obtain ⟨a, vs, rfl, io, r, sz⟩ := seqOf_real R hX e
  have hz : vs.size ≤ sizeLine := by rw [size_of r]; exact sz
  cases k with
  | true =>
    simp only [if_true] at io
    obtain ⟨n, ho⟩ := io
    exact call_list_seq (hsz := hz) a (.inl rfl) ho rfl rfl fun h' c' hk hD => h h' vs hk ⟨c', hD⟩ r sz
  | false =>
    simp only [Bool.false_eq_true, if_false] at io
    obtain ⟨n, ho⟩ := io
    exact call_list_seq (hsz := hz) a (.inr rfl) ho rfl rfl fun h' c' hk hD => h h' vs hk ⟨c', hD⟩ r sz

noncomputable def primOk : Prim → Bool
  | .sorted => false
  | _ => true
noncomputable def primVal : Prim → Value
  | .len => .builtin "len" | .max2 => .builtin "max" | .int1 => .type "int" | .sorted => .builtin "sorted" | .tuple1 => .type "tuple" | .list1 => .type "list" | .all1 => .builtin "all"

theorem prim1_sound (hq : d.q = true) (p : Prim) (hp : primOk p = true) (R : Rel G t st s) (hA : AOk d A) (r : VRel t s.heap X v) (e : prim1 p X st = .ok Z st') : Sim G A t s (call (primVal p) [v]) st' (vrel Z) := by
  have int2 : ∀ {n : Int} {id : String}, (∀ (Q : Value → Shared → Prop) (E : Value → Shared → Prop), Q (.int n (s.toks + 1)) { s with toks := s.toks + 1 + 1 } → wpAny G.M A (call (.builtin id) [v]) Q E s) →
      Sim G A t s (call (.builtin id) [v]) st (vrel (.int n)) := fun h Q E k => h Q E (k _ t _ (Step.toks _ t s _) (R.toks _) ⟨_, rfl⟩)
  cases p with
  | len =>
    have seqs : ∀ {p : Bool × List V}, seqOf st X = some p → Sim G A t s (call (.builtin "len") [v]) st (vrel (.int p.2.length)) := by
      rintro ⟨k, l⟩ hr
      obtain ⟨a, vs, rfl, io, rr, sz⟩ := seqOf_real R r hr
      cases k with
      | true =>
        simp only [if_true] at io
        exact int2 fun Q E q => Calls.call_len_list io.isList (by rw [size_of rr]; exact fit63 sz) (by rw [size_of rr]; exact q)
      | false =>
        simp only [Bool.false_eq_true, if_false] at io
        exact int2 fun Q E q => PyProof.Rows.len_tuple io.isTup (by rw [size_of rr]; exact fit63 sz) (by rw [size_of rr]; exact q)
    simp only [prim1, lenV] at e
    split at e
    · split at e
      · rename_i x hz
        cases e
        obtain ⟨k, rfl⟩ := r
        have hl : (toStr x).length = x.length := by simp [toStr, PySem.Str.length]
        exact int2 fun Q E q => PySem.P.len_str (by rw [hl]; have := fit63 hz; omega) (by rw [hl]; exact q)
      · cases e
    · split at e
      · rename_i hr; cases e; exact seqs hr
      · cases e
  | int1 =>
    simp only [prim1] at e
    split at e
    · cases e
      have r' : v = .bool _ := r
      subst r'
      intro Q E k
      exact call_int_bool (k _ t _ (Step.toks _ t s _) (R.toks _) ⟨_, rfl⟩)
    · cases e
  | tuple1 =>
    simp only [prim1] at e
    split at e
    · rename_i p hr
      cases e
      obtain ⟨k, l⟩ := p
      obtain ⟨a, vs, rfl, io, rr, sz⟩ := seqOf_real R r hr
      cases k with
      | true =>
        simp only [if_true] at io
        intro Q E k
        refine call_tuple_list io.isList (fun h' hk => ?_) (by rw [size_of rr]; exact sz)
        have S : Step noX t t s { s with heap := h'.push { cls := .type "tuple", data := .seq vs } } := Step.grow R (fun b o e => Heap.get?_push_of_some _ (hk b o e)) rfl rfl
        exact k _ t _ S (R.grow (fun b o e => Heap.get?_push_of_some _ (hk b o e)) rfl rfl) (VRel.madeT R S (none_later hk (size_none h')) ⟨_, Heap.get?_push_size _ rfl⟩ rr sz)
      | false =>
        simp only [Bool.false_eq_true, if_false] at io
        intro Q E k
        refine call_tuple_same io.isTuple (k _ t s (.refl _ _ _) R ?_)
        cases X with
        | tup m => cases hr; exact r
        | lst m => cases hr
        | ref r => simp only [seqOf] at hr; split at hr <;> cases hr
        | _ => cases hr
    · cases e
  | list1 =>
    simp only [prim1] at e
    split at e
    · rename_i p hr
      cases e
      obtain ⟨k, l⟩ := p
      intro Q E q
      refine list_copy (T := fun _ => True) R r hr fun h' vs hk hD rr sz => ?_
      have S : Step noX t t s { s with heap := h' } := Step.grow R hk rfl rfl
      exact q _ t _ S (R.grow hk rfl rfl) (VRel.madeL R S (size_none _) hD rr sz)
    · cases e
  | all1 =>
    simp only [prim1] at e
    split at e
    · rename_i l
      unfold okB at e
      split at e
      · rename_i b hb
        cases e
        obtain ⟨a, vs, rfl, io, _, sz, rr⟩ := r
        obtain ⟨bs, h1, h2⟩ := allTrue_spec rr hb
        intro Q E q
        refine call_all_walk (wpAny_pyIter_list io.isList ?_)
        have hne : a ≠ s.heap.objs.size := fun z => by obtain ⟨n, ho⟩ := io; rw [z, size_none] at ho; cases ho
        have hsz : vs.size = bs.length := by rw [← Array.length_toList, h1]; simp
        refine ⟨_, _, _, _, _, _, fun i => (bs[i]?).getD false, rfl, Walks.list (A := A.in1) (hA.hd hq) _ a hne vs, ⟨⟨_, Heap.get?_push_size _ rfl, rfl, rfl⟩, io.isList.push _⟩, ?_, fun h' tk hk => ?_⟩
        · intro i u σ Q' E' hu hq
          rw [← Array.getElem?_toList, h1, List.getElem?_map] at hu
          obtain ⟨b0, hb0, rfl⟩ := Option.map_eq_some_iff.mp hu
          have hq : Q' ((bs[i]?).getD false) σ := hq
          rw [hb0] at hq
          exact wpAny_pure hq
        · have hall : ((List.range vs.size).all fun i => (bs[i]?).getD false) = b := by
            rw [hsz, h2]
            rw [Bool.eq_iff_iff, List.all_eq_true, List.all_eq_true]
            constructor
            · intro h x hx
              obtain ⟨i, hi, rfl⟩ := List.mem_iff_getElem.mp hx
              have := h i (List.mem_range.mpr hi)
              simpa [hi] using this
            · intro h i hi
              have hi := List.mem_range.mp hi
              simpa [hi] using h bs[i] (List.getElem_mem hi)
          rw [hall]
          have hk' : ∀ b o, s.heap.get? b = some o → h'.get? b = some o := fun b o e => hk b o (fun z => by simp at z; rw [z, size_none] at e; cases e) (Heap.get?_push_of_some _ e)
          exact q _ t _ (Step.grow R hk' rfl rfl) (R.grow hk' rfl rfl) rfl
      · cases e
    · cases e
  | max2 => cases e
  | sorted => cases hp

theorem prim_sound (hq : d.q = true) (p : Prim) (hp : primOk p = true) {Vs : List V} {vs : List Value} (R : Rel G t st s) (hA : AOk d A) (r : VRels t s.heap Vs vs) (e : prim p Vs st = .ok Z st') : Sim G A t s (call (primVal p) vs) st' (vrel Z) := by
  unfold prim at e
  split at e
  · obtain ⟨v, _, rfl, r1, rfl⟩ := r
    exact prim1_sound hq p hp R hA r1 e
  · obtain ⟨v, _, rfl, r1, w, _, rfl, r2, rfl⟩ := r
    cases p with
    | max2 =>
      simp only [prim2] at e
      split at e
      · rename_i x y
        cases e
        obtain ⟨k1, rfl⟩ := r1
        obtain ⟨k2, rfl⟩ := r2
        intro Q E q
        refine max_two_ints (hA.hd hq) fun h' tk hk => ?_
        refine q _ t _ (Step.grow R hk rfl rfl) (R.grow hk rfl rfl) ?_
        by_cases z : x < y
        · rw [if_pos (show y > x from z), if_pos z]; exact ⟨_, rfl⟩
        · rw [if_neg (show ¬ y > x from z), if_neg z]; exact ⟨_, rfl⟩
      · cases e
    | _ => cases e
  · cases e

theorem built_glob (O : G.Ok N) (F : FrOk G A t env Γ loc s) (R : Rel G t st s) {x : PySem.Str} {pos : Pos} {Q E' : Value → Shared → Prop} (hsc : env.scope.names = sc) (hg : glob sc x = true)
    (hx : x ∈ (["len", "max", "int", "sorted", "tuple", "list", "all", "isinstance", "range", "dict", "bool", "str", "ValueError"] : List PySem.Str)) (hb : bootBuiltins x = some v) (h : Q v s) : wpAny G.M A (eval (.Name x pos) env) Q E' s :=
  glob_built O F R hsc hg (O.none x hx) hb (by intro z; subst z; revert hx; decide) h

theorem prim_boot (p : Prim) (hp : primOk p = true) : bootBuiltins (primName p) = some (primVal p) := by
  cases p <;> first | exact absurd hp (by decide) | decide +kernel
theorem prim_in (p : Prim) : primName p ∈ (["len", "max", "int", "sorted", "tuple", "list", "all", "isinstance", "range", "dict", "bool", "str", "ValueError"] : List PySem.Str) := by cases p <;> decide
theorem prim_keeps (p : Prim) : Keeps G (primVal p) := by cases p <;> first | exact keeps_b _ | exact keeps_t _

theorem sim_prim (hq : d.q = true) (O : G.Ok N) {p : Prim} (hp : primOk p = true) {l : List E} {m : List PySem.Expr} {np pos : Pos} (hg : glob sc (primName p) = true) (hm : plainArgs m = true) (hlm : l.length = m.length) (hl : SimEs G C d sc Γ l m) :
    SimE G C d sc Γ (.prim p l) (.Call (.Name (primName p) np) m [] pos) := by
  intro t st s env loc X st' A hA hsc F R e Q E k
  simp only [ev_none, ev_bool, ev_int, ev_str, ev_loc, ev_gint, ev_gstr, ev_neg, ev_not, ev_and, ev_or, ev_bin, ev_cmp, ev_cmp2, ev_isC, ev_tup, ev_lst, ev_lstM, ev_dictM, ev_sub, ev_slice, ev_attr, ev_call, ev_meth, ev_new, ev_isinst, ev_prim, ev_listM, ev_dictC, ev_bm, ev_comp] at e
  obtain ⟨Vs, s1, e1, e⟩ := Res.bind_ok e
  refine wpAny_Call_ofName (built_glob O F R hsc hg (prim_in p) (prim_boot p hp) ?_)
  refine with_go O (prim_keeps p) hm hlm hl hA hsc F R e1 fun vs t1 σ1 S1 R1 r1 => ?_
  exact prim_sound hq p hp R1 hA r1 e _ _ fun v t2 σ2 S2 R2 r2 => k v t2 σ2 (S1.trans S2) R2 r2

end
end Mine
end

section
set_option genInjectivity false
set_option genSizeOf false
namespace Mine
open PySem PySem.W PyProof.Rows

section
variable {G : Gd} {N : Names} {C : Calls} {d : Dp} {sc : Sc} {Γ : Gam} {A : Around} {t : Tie} {st st' : MS} {s : Shared} {env : Env} {loc : Loc} {X Y Z : V} {v w : Value}

theorem listAt_real (R : Rel G t st s) {p : Lbl × List V} (hX : VRel t s.heap X v) (e : listAt X st = some p) :
    ∃ a vs n, v = .ref a ∧ t.ρ p.1 = some a ∧ s.heap.get? a = some { cls := .type "list", data := .seq vs n } ∧ VRels t s.heap p.2 vs.toList ∧ p.2.length ≤ sizeMax ∧ st.heap p.1 = some (.list p.2) := by
  cases X with
  | ref r =>
    simp only [listAt] at e
    split at e
    · rename_i l hr
      cases e
      obtain ⟨a, vs, h1, ⟨n, h2⟩, h3, h4⟩ := R.objs r _ hr
      obtain ⟨a', rfl, e2⟩ := hX
      rw [h1] at e2; cases e2
      exact ⟨a, vs, n, rfl, h1, h2, h4, h3, hr⟩
    · cases e
  | _ => cases e
theorem dictAt_real (R : Rel G t st s) {p : Lbl × List (V × V)} (hX : VRel t s.heap X v) (e : dictAt X st = some p) :
    ∃ a kvs, v = .ref a ∧ t.ρ p.1 = some a ∧ s.heap.DictOf (strKind G.prog G.w) a kvs ∧ DRel t s.heap p.2 kvs ∧ st.heap p.1 = some (.dict p.2) := by
  cases X with
  | ref r =>
    simp only [dictAt] at e
    split at e
    · rename_i l hr
      cases e
      obtain ⟨a, kvs, h1, h2, h3⟩ := R.objs r _ hr
      obtain ⟨a', rfl, e2⟩ := hX
      rw [h1] at e2; cases e2
      exact ⟨a, kvs, rfl, h1, h2, h3, hr⟩
    · cases e
  | _ => cases e

theorem list_upd (R : Rel G t st s) {r : Lbl} {a : Addr} {l l' : List V} {vs' : Array Value} {h' : Heap} {tk : Nat} (hr : st.heap r = some (.list l)) (ha : t.ρ r = some a) (hs : Heap.SameBut a s.heap h') (ho : PL h' a vs') (rr : VRels t s.heap l' vs'.toList) (sz : l'.length ≤ sizeMax) :
    Step noX t t.tick s { s with heap := h', toks := tk } ∧ Rel G t.tick (st.put r (.list l')) { s with heap := h', toks := tk } := by
  have hl : (h'.get? a).isSome = true := by obtain ⟨n, e⟩ := ho; rw [e]; rfl
  have S := Step.upd (t := t) (s := s) (tk := tk) ⟨r, .inl ha⟩ hl hs
  exact ⟨S, R.upd (l := r) (.inl ha) hl hs (by rw [hr]; exact fun q => by cases q) ⟨a, vs', ha, ho, sz, VRels.step S (fun _ z => z.elim) _ rr⟩⟩

theorem seq_upd (R : Rel G t st s) {r : Lbl} {a : Addr} {l l' : List V} {vs : Array Value} {n : Nat} {tk : Nat} {f : Array Value → Array Value} (hr : st.heap r = some (.list l)) (ha : t.ρ r = some a) (ho : s.heap.get? a = some { cls := .type "list", data := .seq vs n })
    (rr : VRels t s.heap l' (f vs).toList) (sz : l'.length ≤ sizeMax) :
    Step noX t t.tick s { s with heap := s.heap.update a (Obj.mapSeq f), toks := tk } ∧ Rel G t.tick (st.put r (.list l')) { s with heap := s.heap.update a (Obj.mapSeq f), toks := tk } :=
  list_upd R hr ha (Heap.SameBut.update ..) ⟨_, IsL.update ho f⟩ rr sz

noncomputable def bmVal : Bm → String
  | .append => "list.append" | .extend => "list.extend" | .pop => "list.pop" | .insert => "list.insert" | .count => "list.count" | .get => "dict.get" | .join => "str.join" | .upper => "str.upper"
noncomputable def bmType : Bm → String
  | .append => "list" | .extend => "list" | .pop => "list" | .insert => "list" | .count => "list" | .get => "dict" | .join => "str" | .upper => "str"
theorem bm_slot : (m : Bm) → Slot (bmType m) (bmName m) (bmVal m)
  | .append => PySem.F.slot_list_append
  | .extend => PySem.F.slot_list_extend
  | .pop => PySem.F.slot_list_pop
  | .insert => PySem.F.slot_list_insert
  | .count => PySem.F.slot_list_count
  | .get => PySem.F.slot_dict_get
  | .join => PySem.F.slot_str_join
  | .upper => PySem.F.slot_str_upper
theorem bm_type : (m : Bm) → typeOf (.builtin (bmVal m)) = pure (.type "method_descriptor")
  | .append => PySem.F.type_list_append
  | .extend => PySem.F.type_list_extend
  | .pop => PySem.F.type_list_pop
  | .insert => PySem.F.type_list_insert
  | .count => PySem.F.type_list_count
  | .get => PySem.F.type_dict_get
  | .join => PySem.F.type_str_join
  | .upper => PySem.F.type_str_upper
theorem bm_attrs : (m : Bm) → PlainAttrs (bmType m)
  | .append => PySem.F.plainAttrs_list
  | .extend => PySem.F.plainAttrs_list
  | .pop => PySem.F.plainAttrs_list
  | .insert => PySem.F.plainAttrs_list
  | .count => PySem.F.plainAttrs_list
  | .get => PySem.F.plainAttrs_dict
  | .join => PySem.F.plainAttrs_str
  | .upper => PySem.F.plainAttrs_str

theorem idx_fits {i : Int} {n j : Nat} (h : idx i n = some j) (hn : n ≤ sizeMax) : Builtin.List.listFitsIndex i = true := by
  unfold idx at h
  unfold sizeMax at hn
  unfold Builtin.List.listFitsIndex
  split at h <;> split at h <;> first | cases h | skip
  all_goals (simp; omega)

theorem bool_countP {h : Heap} : ∀ {l : List V} {vs : List Value}, allBool l = true → VRels t h l vs → (∀ y ∈ vs, ∃ b, y = .bool b) ∧ vs.countP (isBoolOf true) = l.countP (· = .bool true)
  | [], _, _, r => by cases r; exact ⟨fun y hy => (nomatch hy), rfl⟩
  | .bool b :: l, _, e, ⟨v, r, rfl, a, c⟩ => by
    have a' : v = .bool b := a
    subst a'
    obtain ⟨h1, h2⟩ := bool_countP (l := l) e c
    refine ⟨fun y hy => ?_, ?_⟩
    · rcases List.mem_cons.mp hy with rfl | hy
      · exact ⟨b, rfl⟩
      · exact h1 y hy
    · rw [List.countP_cons, List.countP_cons, h2]
      have hb : decide (V.bool b = V.bool true) = isBoolOf true (.bool b) := by
        cases b
        · exact decide_eq_false nofun
        · exact decide_eq_true rfl
      rw [hb]
  | .none :: _, _, e, _ => by cases e
  | .int _ :: _, _, e, _ => by cases e
  | .str _ :: _, _, e, _ => by cases e
  | .tup _ :: _, _, e, _ => by cases e
  | .lst _ :: _, _, e, _ => by cases e
  | .ref _ :: _, _, e, _ => by cases e
  | .exc _ :: _, _, e, _ => by cases e

theorem glue_fold : ∀ (l : List PySem.Str) (acc : Array Nat), (l.foldl (fun acc p => acc ++ (toStr []).cps ++ p.cps) acc).toList = acc.toList ++ (l.map (·.cps.toList)).flatten
  | [], acc => by simp
  | y :: l, acc => by
    rw [List.foldl_cons, glue_fold l]
    simp [toStr]
theorem join_nil (ys : List PySem.Str) : Txt.join (toStr []) ys = toStr (ys.map (·.cps.toList)).flatten := by
  have h : (Txt.join (toStr []) ys).cps.toList = (ys.map (·.cps.toList)).flatten := by
    cases ys with
    | nil => rfl
    | cons y l =>
      show (l.foldl (fun acc p => acc ++ (toStr []).cps ++ p.cps) y.cps).toList = _
      rw [glue_fold]; simp
  rw [← h]
theorem catStrs_real {h : Heap} : ∀ {l : List V} {vs : List Value} {x : List Nat}, catStrs l = some x → VRels t h l vs → ∃ ys : List PySem.Str, StrsAre vs ys ∧ (ys.map (·.cps.toList)).flatten = x ∧ (ys.map (·.length)).sum = x.length
  | [], _, _, e, r => by cases r; cases e; exact ⟨[], .nil, rfl, rfl⟩
  | .str y :: l, _, _, e, ⟨v, r, e0, ⟨k, e9⟩, c⟩ => by
    subst e0; subst e9
    simp only [catStrs, Option.map_eq_some_iff] at e
    obtain ⟨x', e1, rfl⟩ := e
    obtain ⟨ys, h1, h2, h3⟩ := catStrs_real e1 c
    refine ⟨toStr y :: ys, .cons _ _ h1, ?_, ?_⟩
    · rw [List.map_cons, List.flatten_cons, h2]
    · rw [List.map_cons, List.sum_cons, h3, List.length_append]; simp [toStr, PySem.Str.length]
  | .none :: _, _, _, e, _ => by cases e
  | .int _ :: _, _, _, e, _ => by cases e
  | .bool _ :: _, _, _, e, _ => by cases e
  | .tup _ :: _, _, _, e, _ => by cases e
  | .lst _ :: _, _, _, e, _ => by cases e
  | .ref _ :: _, _, _, e, _ => by cases e
  | .exc _ :: _, _, _, e, _ => by cases e

theorem bm1_sound {m : Bm} {W : V} (O : G.Ok N) (R : Rel G t st s) (hA : AOk d A) (r1 : VRel t s.heap X v) (r2 : VRel t s.heap W w) (e : bm1 m X W st = .ok Z st') : Sim G A t s (call (.builtin (bmVal m)) [v, w]) st' (vrel Z) := by
  cases m with
  | append =>
    delta bm1 at e; dsimp only at e
    cases hp : listAt X st with
    | none => rw [hp] at e; cases e
    | some p =>
      rw [hp] at e; dsimp only at e
      split at e
      · rename_i hz
        cases e
        obtain ⟨a, vs, n, rfl, h1, h2, h3, h4, h5⟩ := listAt_real R r1 hp
        intro Q E q
        have sz : vs.size ≤ sizeLine := by rw [size_of h3]; exact h4
        refine call_meets PySem.F.slot_list_append ⟨_, h2, rfl⟩ PySem.F.entry_list_append (PySem.F.args_list_append_2 _ _) (list_append a vs n w sz) ⟨h2, ?_⟩
        have u := seq_upd (tk := s.toks) (f := fun xs => xs.push w) (l' := p.2 ++ [W]) R h5 h1 h2 (by rw [Array.toList_push]; exact h3.append ⟨w, [], rfl, r2, rfl⟩) (by rw [List.length_append]; exact hz)
        exact q _ t.tick _ u.1 u.2 rfl
      · cases e
  | extend =>
    delta bm1 at e; dsimp only at e
    cases hp : listAt X st with
    | none => rw [hp] at e; cases e
    | some p =>
      rw [hp] at e; dsimp only at e
      cases hp2 : seqOf st W with
      | none => rw [hp2] at e; cases e
      | some p2 =>
      rw [hp2] at e; dsimp only at e
      split at e
      · rename_i hz
        cases e
        obtain ⟨a, vs, n, rfl, h1, h2, h3, h4, h5⟩ := listAt_real R r1 hp
        obtain ⟨k, l2⟩ := p2
        obtain ⟨b, ws, rfl, io, rr, sz⟩ := seqOf_real R r2 hp2
        intro Q E q
        have s1 : vs.size = p.2.length := size_of h3
        have s2 : ws.size = l2.length := size_of rr
        have hz : p.2.length + l2.length ≤ sizeLine := hz
        have door : ¬(!vs.isEmpty && Builtin.List.listTooLong (vs.size + ws.size)) = true := extend_door (by rw [s1, s2]; exact hz)
        have u := seq_upd (tk := s.toks) (f := fun xs => xs ++ ws) (l' := p.2 ++ l2) R h5 h1 h2 (by rw [Array.toList_append]; exact h3.append rr) (by rw [List.length_append]; exact hz)
        cases k with
        | true =>
          simp only [if_true] at io
          obtain ⟨n2, io⟩ := io
          refine call_meets PySem.F.slot_list_extend ⟨_, h2, rfl⟩ PySem.F.entry_list_extend (PySem.F.args_list_extend_2 _ _) (AutoSeq1.list_extend_list_list_0 a vs n b ws n2 door (by rw [s1]; exact h4) (by rw [s1, s2]; omega)) ⟨h2, io, q _ t.tick _ u.1 u.2 rfl⟩
        | false =>
          simp only [Bool.false_eq_true, if_false] at io
          obtain ⟨n2, io⟩ := io
          refine call_meets PySem.F.slot_list_extend ⟨_, h2, rfl⟩ PySem.F.entry_list_extend (PySem.F.args_list_extend_2 _ _) (AutoSeq1.list_extend_list_tuple_0 a vs n b ws n2 door (by rw [s1]; exact h4) (by rw [s1, s2]; omega)) ⟨h2, io, q _ t.tick _ u.1 u.2 rfl⟩
      · cases e
  | pop =>
    delta bm1 at e; dsimp only at e
    cases hp : listAt X st with
    | none => rw [hp] at e; cases e
    | some p =>
      rw [hp] at e; dsimp only at e
      cases W with
      | int i =>
        dsimp only at e
        cases hj : idx i p.2.length with
        | none => rw [hj] at e; cases e
        | some j =>
        rw [hj] at e; dsimp only at e
        cases hy : p.2[j]? with
        | none => rw [hy] at e; cases e
        | some y =>
          rw [hy] at e; cases e
          obtain ⟨a, vs, n, rfl, h1, h2, h3, h4, h5⟩ := listAt_real R r1 hp
          obtain ⟨k, rfl⟩ := r2
          obtain ⟨y', e1, e2⟩ := VRels.get h3 hy
          rw [Array.getElem?_toList] at e1
          intro Q E q
          have hjl : j < vs.size := by rw [Array.getElem?_eq_some_iff] at e1; exact e1.1
          have u := seq_upd (tk := s.toks) (f := fun xs => xs.eraseIdxIfInBounds j) (l' := p.2.eraseIdx j) R h5 h1 h2 (by
            unfold Array.eraseIdxIfInBounds; rw [dif_pos hjl, Array.toList_eraseIdx]; exact h3.eraseIdx j) (Nat.le_trans (List.length_eraseIdx_le ..) h4)
          refine call_meets PySem.F.slot_list_pop ⟨_, h2, rfl⟩ PySem.F.entry_list_pop (PySem.F.args_list_pop_2 _ _) (PySem.MeetsSeq.list_pop_at a _ n i k j y' (idx_fits hj h4) (by rw [size_of h3]; exact (idx_seqIndex hj).1) e1 (by rw [size_of h3]; exact h4)) ⟨h2, ?_⟩
          exact q _ t.tick _ u.1 u.2 (VRel.step u.1 (fun _ z => z.elim) _ e2)
      | _ => cases e
  | count =>
    delta bm1 at e; dsimp only at e
    cases X with
    | lst l =>
     cases W with
     | bool b' =>
      dsimp only at e
      split at e
      · rename_i hb
        obtain ⟨rfl, hb⟩ := Bool.and_eq_true_iff.1 hb
        cases e
        obtain ⟨a, vs, rfl, ⟨n, ho⟩, _, sz, rr⟩ := r1
        have r2' : w = .bool true := r2
        subst r2'
        obtain ⟨c1, c2⟩ := bool_countP hb rr
        intro Q E q
        refine call_meets PySem.F.slot_list_count ⟨_, ho, rfl⟩ PySem.F.entry_list_count (PySem.F.args_list_count_2 _ _) (SeqAt.list_countAt a vs n none #[] (.bool true) (isBoolOf true)) ⟨ho, fun y hy => ?_, ?_⟩
        · obtain ⟨b, rfl⟩ := c1 y (Array.mem_toList_iff.mpr hy)
          exact SeqAt.EqAt.bool_bool b true
        · rw [c2]; exact q _ t _ (Step.toks _ t s _) (R.toks _) ⟨_, rfl⟩
      · cases e
     | _ => cases e
    | _ => cases e
  | join =>
    delta bm1 at e; dsimp only at e
    cases X with
    | str x0 =>
     cases x0 with
     | cons => cases e
     | nil =>
     cases W with
     | lst l =>
      dsimp only at e
      cases hx : catStrs l with
      | none => rw [hx] at e; cases e
      | some x =>
        rw [hx] at e; dsimp only at e
        split at e
        · rename_i hz
          cases e
          obtain ⟨a, vs, rfl, io, _, sz, rr⟩ := r2
          obtain ⟨k, rfl⟩ := r1
          obtain ⟨ys, h1, h2, h3⟩ := catStrs_real hx rr
          intro Q E q
          refine join_list io.isList h1 (by rw [h3]; unfold sizeMax at hz; show x.length + ys.length * 0 ≤ _; omega) fun t' k => ?_
          exact q _ t _ (Step.toks _ t s _) (R.toks _) ⟨t', by show Value.str (Txt.join (toStr []) ys) t' = _; rw [join_nil, h2]⟩
        · cases e
     | _ => cases e
    | _ => cases e
  | _ => cases e

noncomputable def bmUse : Bm → Bool
  | .upper => false
  | .insert => false
  | _ => true

theorem bm2_sound {m : Bm} (hm : bmUse m = true) {W U : V} {u : Value} (O : G.Ok N) (R : Rel G t st s) (hA : AOk d A) (r1 : VRel t s.heap X v) (r2 : VRel t s.heap W w) (r3 : VRel t s.heap U u) (e : bm2 m X W U st = .ok Z st') : Sim G A t s (call (.builtin (bmVal m)) [v, w, u]) st' (vrel Z) := by
  cases m with
  | get =>
    simp only [bm2] at e
    split at e
    · rename_i p hp
      split at e
      · rename_i hk
        cases e
        obtain ⟨a, kvs, rfl, h1, h2, h3, h4⟩ := dictAt_real R r1 hp
        cases W with
        | str x =>
          obtain ⟨k, rfl⟩ := r2
          have hd : (a == sysModules) = false := by
            simp only [beq_eq_false_iff_ne, ne_eq]
            exact fun z => R.sys p.1 (by rw [h1, z])
          have f := DRel.find (x := x) h3
          intro Q E q
          refine call_meetsIn PySem.F.slot_dict_get h2.typeIs PySem.F.entry_dict_get (PySem.F.args_dict_get_3 _ _ _) (meets_dict_get_default _ a (strKind_is G.prog G.w (toStr x) k) hd u) ⟨_, h2.mapOf, ?_⟩
          refine q _ t _ (Step.toks _ t s _) (R.toks _) ?_
          cases z : dfind (.str x) p.2 with
          | none => rw [z] at f; dsimp only at f; rw [f]; exact r3
          | some y => rw [z] at f; obtain ⟨y', f1, f2⟩ := f; rw [f1]; exact f2
        | _ => cases hk
      · cases e
    · cases e
  | insert => cases hm
  | _ => cases e

theorem bmeth_sound {m : Bm} (hm : bmUse m = true) {Vs : List V} {vs : List Value} (O : G.Ok N) (R : Rel G t st s) (hA : AOk d A) (r1 : VRel t s.heap X v) (r2 : VRels t s.heap Vs vs) (e : bmeth m X Vs st = .ok Z st') : Sim G A t s (call (.builtin (bmVal m)) (v :: vs)) st' (vrel Z) := by
  unfold bmeth at e
  split at e
  · cases m <;> first | exact absurd hm (by decide) | (simp only [bm0] at e; cases e)
  · obtain ⟨w, _, rfl, r2, rfl⟩ := r2
    exact bm1_sound O R hA r1 r2 e
  · obtain ⟨w, _, rfl, r2, u, _, rfl, r3, rfl⟩ := r2
    exact bm2_sound hm O R hA r1 r2 r3 e
  · cases e

theorem bm_isType {m : Bm} (R : Rel G t st s) (r1 : VRel t s.heap X v) (e : bmOk m X st = true) : s.TypeIs v (bmType m) ∧ (∀ a, v = .ref a → ∃ ob, s.heap.get? a = some ob ∧ ob.dict = none) := by
  have li : (listAt X st).isSome = true → s.TypeIs v "list" ∧ (∀ a, v = .ref a → ∃ ob, s.heap.get? a = some ob ∧ ob.dict = none) := fun z => by
    obtain ⟨p, hp⟩ := Option.isSome_iff_exists.mp z
    obtain ⟨a, vs, n, rfl, h1, h2, _⟩ := listAt_real R r1 hp
    exact ⟨⟨_, h2, rfl⟩, fun a' z => by cases z; exact ⟨_, h2, rfl⟩⟩
  cases m <;> simp only [bmOk] at e <;> try exact li e
  · split at e
    · obtain ⟨a, vs, rfl, ⟨n, ho⟩, _⟩ := r1
      exact ⟨⟨_, ho, rfl⟩, fun a' z => by cases z; exact ⟨_, ho, rfl⟩⟩
    · cases e
  · obtain ⟨p, hp⟩ := Option.isSome_iff_exists.mp e
    obtain ⟨a, kvs, rfl, h1, h2, _⟩ := dictAt_real R r1 hp
    exact ⟨h2.typeIs, h2.mapOf.noDict⟩
  · split at e
    · obtain ⟨k, rfl⟩ := r1
      exact ⟨typeIs_str _ _ _, fun a z => by cases z⟩
    · cases e
  · split at e
    · obtain ⟨k, rfl⟩ := r1
      exact ⟨typeIs_str _ _ _, fun a z => by cases z⟩
    · cases e

theorem sim_bm (O : G.Ok N) {m : Bm} (hmu : bmUse m = true) {a : E} {x : PySem.Expr} {l : List E} {es : List PySem.Expr} {ap pos : Pos} (hx : notSuper x = true) (hln : (ap.endLine == pos.line) = true) (h30 : es.length < 30) (hm : plainArgs es = true) (hlm : l.length = es.length)
    (ha : SimE G C d sc Γ a x) (hl : SimEs G C d sc Γ l es) : SimE G C d sc Γ (.bm m a l) (.Call (.Attribute x (bmName m) ap) es [] pos) := by
  intro t st s env loc X st' A hA hsc F R e Q E q
  simp only [ev_none, ev_bool, ev_int, ev_str, ev_loc, ev_gint, ev_gstr, ev_neg, ev_not, ev_and, ev_or, ev_bin, ev_cmp, ev_cmp2, ev_isC, ev_tup, ev_lst, ev_lstM, ev_dictM, ev_sub, ev_slice, ev_attr, ev_call, ev_meth, ev_new, ev_isinst, ev_prim, ev_listM, ev_dictC, ev_bm, ev_comp] at e
  obtain ⟨V, s1, e1, e⟩ := Res.bind_ok e
  split at e
  · rename_i hok
    obtain ⟨Vs, s2, e2, e⟩ := Res.bind_ok e
    refine wpAny_Call_method (base_plain hx _ _) (meth_form hm h30) hln (bm_attrs m) (bm_slot m) (bm_type m) ?_
    refine ha t st s env loc _ _ A hA hsc F R e1 _ _ fun v t1 σ1 S1 R1 r1 => ?_
    obtain ⟨b1, b2⟩ := bm_isType R1 r1 hok
    refine ⟨b1, b2, ?_⟩
    refine with_go O (keeps_b _) hm hlm hl hA hsc (F.step R S1) R1 e2 fun vs t2 σ2 S2 R2 r2 => ?_
    exact bmeth_sound hmu O R2 hA (VRel.step S2 (fun _ z => z.elim) _ r1) r2 e _ _ fun v t3 σ3 S3 R3 r3 => q v t3 σ3 ((S1.trans S2).trans S3) R3 r3
  · cases e
end
end Mine
end

section
set_option genInjectivity false
set_option genSizeOf false
namespace Mine
open PySem PySem.W PyProof.Rows

section
variable {G : Gd} {N : Names} {C : Calls} {d : Dp} {sc : Sc} {Γ : Gam} {A : Around} {t : Tie} {st st' : MS} {s : Shared} {env : Env} {loc : Loc} {X Y Z : V} {v w : Value}

noncomputable abbrev prel (p : Option V) : Tie → Shared → Value → Prop := fun t s v => match p with | none => v = .none | some X => VRel t s.heap X v
noncomputable def SimO (G : Gd) (C : Calls) (d : Dp) (sc : Sc) (Γ : Gam) (e : Option E) (ast : Option PySem.Expr) : Prop :=
  ∀ t st s env loc p st' A, AOk d A → env.scope.names = sc → FrOk G A t env Γ loc s → Rel G t st s → evO G.P C e loc st = .ok p st' → Sim G A t s (evalPart ast env) st' (prel p)
theorem simO_none : SimO G C d sc Γ none none := by
  intro t st s env loc p st' A hA hsc F R e Q E k
  simp only [evO_none, evO_some] at e
  cases e
  exact wpAny_pure (k _ t s (.refl _ _ _) R rfl)
theorem simO_some {e : E} {x : PySem.Expr} (h : SimE G C d sc Γ e x) : SimO G C d sc Γ (some e) (some x) := by
  intro t st s env loc p st' A hA hsc F R e Q E k
  simp only [evO_none, evO_some] at e
  obtain ⟨v, s1, e1, e⟩ := Res.bind_ok e
  cases e
  exact h t st s env loc v _ A hA hsc F R e1 _ _ fun y t1 σ1 S1 R1 r1 => k y t1 σ1 S1 R1 r1

end
end Mine
end

section
set_option genInjectivity false
set_option genSizeOf false
set_option maxRecDepth 100000
namespace Mine
open PySem PySem.W PyProof.Rows

section
variable {G : Gd} {N : Names} {C : Calls} {d : Dp} {sc : Sc} {Γ : Gam} {A : Around} {t : Tie} {st st' : MS} {s : Shared} {env : Env} {loc : Loc} {X Y Z : V} {v w : Value}

noncomputable def tagName : Tag → String
  | .none => "NoneType" | .bool => "bool" | .int => "int" | .str => "str" | .tuple => "tuple" | .list => "list" | .dict => "dict"
noncomputable def kindStr : Kind → String
  | .int => "int" | .bool => "bool" | .str => "str" | .list => "list" | .tuple => "tuple" | .valueError => "ValueError" | .cls _ => ""
noncomputable def kindUse : Kind → Bool
  | .int => true | .bool => true | .str => true | .list => true | .tuple => true | _ => false

theorem kit_tag (K : Frag) (g : Tag) (k : Kind) (hk : kindUse k = true) {b : Bool} (e : kindHas g k = some b) : kitOne K (.type (tagName g)) (.type (kindStr k)) = some b := by
  cases k <;> first | exact (Bool.false_ne_true hk).elim | skip
  all_goals (cases g <;> cases e <;> kernel_rfl)

theorem tag_kit (R : Rel G t st s) {g : Tag} (r : VRel t s.heap X v) (e : tagOf st X = some g) : ∃ H, KitX G.K v (.type (tagName g)) H ∧ H s.heap ∧ v ≠ .builtin "__main__.__loader__#opaque" := by
  cases X with
  | none => cases e; have r : v = .none := r; subst r; exact ⟨_, kitx_none, trivial, nofun⟩
  | bool b => cases e; have r : v = .bool b := r; subst r; exact ⟨_, kitx_bool, trivial, nofun⟩
  | int i => cases e; obtain ⟨k, rfl⟩ := r; exact ⟨_, kitx_int, trivial, nofun⟩
  | str i => cases e; obtain ⟨k, rfl⟩ := r; exact ⟨_, kitx_str, trivial, nofun⟩
  | tup l => cases e; obtain ⟨a, vs, rfl, ⟨n, ho⟩, _⟩ := r; exact ⟨_, kitx_tuple, ⟨_, ho, rfl⟩, nofun⟩
  | lst l => cases e; obtain ⟨a, vs, rfl, ⟨n, ho⟩, _⟩ := r; exact ⟨_, kitx_list, ⟨_, ho, rfl⟩, nofun⟩
  | exc c => cases e
  | ref l =>
    simp only [tagOf] at e
    split at e
    · rename_i m hl
      cases e
      obtain ⟨a, vs, h1, ⟨n, h2⟩, _⟩ := R.objs l _ hl
      obtain ⟨a', rfl, e2⟩ := r
      rw [h1] at e2; cases e2
      exact ⟨_, kitx_list, ⟨_, h2, rfl⟩, nofun⟩
    · rename_i m hl
      cases e
      obtain ⟨a, kvs, h1, h2, _⟩ := R.objs l _ hl
      obtain ⟨a', rfl, e2⟩ := r
      rw [h1] at e2; cases e2
      obtain ⟨o, h3, h4⟩ := h2.typeIs
      exact ⟨_, kitx_dict, ⟨o, h3, h4⟩, nofun⟩
    · cases e

theorem isKind_tag {P : Prog} {k : Kind} {b : Bool} (hk : kindUse k = true) (e : isKind P st X k = some b) : ∃ g, tagOf st X = some g ∧ kindHas g k = some b := by
  unfold isKind at e
  split at e
  · cases k <;> first | exact (Bool.false_ne_true hk).elim | cases e
  · split at e
    · rename_i g hg; exact ⟨g, hg, e⟩
    · cases e

theorem isKinds_any {P : Prog} (K : Frag) : ∀ {ks : List Kind} {b : Bool} {g : Tag}, (∀ k ∈ ks, kindUse k = true) → tagOf st X = some g → isKinds P st X ks = some b → kitAny K (.type (tagName g)) (ks.map fun k => .type (kindStr k)) = some b
  | [], _, _, _, _, e => by cases e; rfl
  | k :: ks, b, g, hu, hg, e => by
    simp only [isKinds] at e
    simp only [List.map_cons, kitAny]
    cases q : isKind P st X k with
    | none => rw [q] at e; cases e
    | some b' =>
      rw [q] at e
      obtain ⟨g', h1, h2⟩ := isKind_tag (hu k (.head _)) q
      rw [hg] at h1; cases h1
      rw [kit_tag K g k (hu k (.head _)) h2]
      cases b' with
      | true => cases e; rfl
      | false => exact isKinds_any K (fun k hk => hu k (.tail _ hk)) hg e

theorem kind_boot (k : Kind) (hk : kindUse k = true) : ∃ x : PySem.Str, kindName k = some x ∧ bootBuiltins x = some (.type (kindStr k)) ∧ x ∈ (["len", "max", "int", "sorted", "tuple", "list", "all", "isinstance", "range", "dict", "bool", "str", "ValueError"] : List PySem.Str) := by
  cases k <;> first | exact (Bool.false_ne_true hk).elim | exact ⟨_, rfl, by decide +kernel, by decide⟩

theorem kind_eval (O : G.Ok N) (F : FrOk G A t env Γ loc s) (R : Rel G t st s) (hsc : env.scope.names = sc) {k : Kind} (hk : kindUse k = true) {y : PySem.Expr} (hc : chkKind N sc k y = true) {Q E' : Value → Shared → Prop} (h : Q (.type (kindStr k)) s) : isStarred y = false ∧ wpAny G.M A (eval y env) Q E' s := by
  obtain ⟨x, h1, h2, h3⟩ := kind_boot k hk
  cases y with
  | Name x' p =>
    obtain ⟨hx, hg⟩ := Bool.and_eq_true_iff.1 (hc : (kindName k == some x' && glob sc x') = true)
    cases h1.symm.trans (eq_of_beq hx)
    exact ⟨rfl, built_glob O F R hsc hg h3 h2 h⟩
  | _ => cases hc

theorem kinds_eval (O : G.Ok N) (hsc : env.scope.names = sc) (pos : Pos) : ∀ {ks : List Kind} {ys : List PySem.Expr} {Q : List Value → Shared → Prop} {E' : Value → Shared → Prop}, (∀ k ∈ ks, kindUse k = true) → chkKinds N sc ks ys = true → ∀ {t : Tie} {st : MS} {s : Shared}, FrOk G A t env Γ loc s → Rel G t st s →
    Q (ks.map fun k => .type (kindStr k)) s → wpAny G.M A (spliced (backTo pos (starEach ys env))) Q E' s
  | [], [], _, _, _, _, _, _, _, _, _, h => Calls.spliced_nil h
  | [], _ :: _, _, _, _, e, _, _, _, _, _, _ => by cases e
  | _ :: _, [], _, _, _, e, _, _, _, _, _, _ => by cases e
  | k :: ks, y :: ys, Q, E', hu, e, t, st, s, F, R, h => by
    have e := Bool.and_eq_true_iff.1 (e : (chkKind N sc k y && chkKinds N sc ks ys) = true)
    have hs := (kind_eval (A := A) (Q := fun _ _ => True) (E' := fun _ _ => True) O F R hsc (hu k (.head _)) e.1 trivial).1
    refine wpAny_items_cons (kind_eval O F R hsc (hu k (.head _)) e.1 ?_).2 (star_false hs ys env)
    exact kinds_eval O hsc pos (fun k hk => hu k (.tail _ hk)) e.2 F R h

theorem args2_go {f : Value} {pos : Pos} {x y : PySem.Expr} {Q : Args → Shared → Prop} {E' : Value → Shared → Prop} (hx : isStarred x = false) (hy : isStarred y = false)
    (h : wpAny G.M A (eval x env) (fun v s1 => wpAny G.M A (eval y env) (fun w s2 => Q ⟨[v, w], []⟩ s2) E' s1) E' s) : wpAny G.M A (evalArgs f true (backTo pos (starEach [x, y] env)) []) Q E' s := by
  have q : wpAny G.M A (spliced (backTo pos (starEach [x, y] env))) (fun vs s' => Q ⟨vs, []⟩ s') E' s := by
    refine wpAny_items_cons (wpAny_mono h (fun v s1 h1 => ?_) fun _ _ e => e) (star_false hx [y] env)
    refine wpAny_items_cons (wpAny_mono h1 (fun w s2 h2 => ?_) fun _ _ e => e) (star_false hy [] env)
    exact Calls.spliced_nil h2
  rw [star_false hx] at q ⊢
  exact Calls.evalArgs_plain q

theorem sim_isinst1 (O : G.Ok N) {a : E} {x y : PySem.Expr} {k : Kind} {np pos : Pos} (hk : kindUse k = true) (hg : glob sc "isinstance" = true) (hx : isStarred x = false) (hc : chkKind N sc k y = true) (ha : SimE G C d sc Γ a x) :
    SimE G C d sc Γ (.isinst a [k]) (.Call (.Name "isinstance" np) [x, y] [] pos) := by
  intro t st s env loc X st' A hA hsc F R e Q E q
  simp only [ev_none, ev_bool, ev_int, ev_str, ev_loc, ev_gint, ev_gstr, ev_neg, ev_not, ev_and, ev_or, ev_bin, ev_cmp, ev_cmp2, ev_isC, ev_tup, ev_lst, ev_lstM, ev_dictM, ev_sub, ev_slice, ev_attr, ev_call, ev_meth, ev_new, ev_isinst, ev_prim, ev_listM, ev_dictC, ev_bm, ev_comp] at e
  obtain ⟨V, s1, e1, e⟩ := Res.bind_ok e
  unfold okB at e
  split at e
  · rename_i b hb
    obtain ⟨rfl, rfl⟩ : X = .bool b ∧ st' = s1 := by cases e; exact ⟨rfl, rfl⟩
    have hy := (kind_eval (A := A) (Q := fun _ _ => True) (E' := fun _ _ => True) O F R hsc hk hc trivial).1
    have hkk : isKind G.P st' V k = some b := by
      simp only [isKinds] at hb
      cases z : isKind G.P st' V k with
      | none => rw [z] at hb; cases hb
      | some b' => rw [z] at hb; cases b' <;> exact hb
    obtain ⟨g, g1, g2⟩ := isKind_tag hk hkk
    refine wpAny_Call_ofName (built_glob (v := .builtin "isinstance") O F R hsc hg (by decide) (by decide +kernel) ?_)
    refine callWith_of (P := G.K.In) (by rw [star_plain pos env (m := [x, y]) (by simp [plainArgs, hx, hy])]; rfl) (keeps_b _) (args2_go hx hy ?_)
    refine ha t st s env loc _ _ A hA hsc F R e1 _ _ fun v t1 σ1 S1 R1 r1 => ?_
    refine (kind_eval O (F.step R S1) R1 hsc hk hc ?_).2
    have XK := O.K.keeps R1.base
    refine ⟨XK, ?_⟩
    obtain ⟨H, Z, hH, hne⟩ := tag_kit R1 r1 g1
    exact kia_one Z XK hH (kit_tag G.K g k hk g2) hne fun tk => q _ t1 _ (S1.trans (Step.toks _ _ _ tk)) (R1.toks tk) rfl
  · cases e

theorem sim_isinst2 (O : G.Ok N) {a : E} {x : PySem.Expr} {ys : List PySem.Expr} {k k' : Kind} {np pos tp : Pos} {cx : Nat} (hk : kindUse k = true) (hk' : kindUse k' = true) (hg : glob sc "isinstance" = true) (hx : isStarred x = false) (hc : chkKinds N sc [k, k'] ys = true) (ha : SimE G C d sc Γ a x) :
    SimE G C d sc Γ (.isinst a [k, k']) (.Call (.Name "isinstance" np) [x, .Tuple ys cx tp] [] pos) := by
  intro t st s env loc X st' A hA hsc F R e Q E q
  simp only [ev_none, ev_bool, ev_int, ev_str, ev_loc, ev_gint, ev_gstr, ev_neg, ev_not, ev_and, ev_or, ev_bin, ev_cmp, ev_cmp2, ev_isC, ev_tup, ev_lst, ev_lstM, ev_dictM, ev_sub, ev_slice, ev_attr, ev_call, ev_meth, ev_new, ev_isinst, ev_prim, ev_listM, ev_dictC, ev_bm, ev_comp] at e
  obtain ⟨V, s1, e1, e⟩ := Res.bind_ok e
  unfold okB at e
  split at e
  · rename_i b hb
    obtain ⟨rfl, rfl⟩ : X = .bool b ∧ st' = s1 := by cases e; exact ⟨rfl, rfl⟩
    have hu : ∀ z ∈ [k, k'], kindUse z = true := by intro z hz; simp at hz; rcases hz with rfl | rfl <;> assumption
    obtain ⟨b0, hb0⟩ : ∃ b0, isKind G.P st' V k = some b0 := by
      simp only [isKinds] at hb
      cases z : isKind G.P st' V k with
      | none => rw [z] at hb; cases hb
      | some b' => exact ⟨b', rfl⟩
    obtain ⟨g, g1, g2⟩ := isKind_tag hk hb0
    refine wpAny_Call_ofName (built_glob (v := .builtin "isinstance") O F R hsc hg (by decide) (by decide +kernel) ?_)
    refine callWith_of (P := G.K.In) (by rw [star_plain pos env (m := [x, .Tuple ys cx tp]) (by show (!isStarred x && (!false && true)) = true; rw [hx]; rfl)]; rfl) (keeps_b _) (args2_go hx rfl ?_)
    refine ha t st s env loc _ _ A hA hsc F R e1 _ _ fun v t1 σ1 S1 R1 r1 => ?_
    refine wpAny_Tuple (kinds_eval O hsc _ hu hc (F.step R S1) R1 ⟨by rw [List.length_map, sizeLine_eq]; exact Nat.le_of_ble_eq_true rfl, ?_⟩)
    have R2 := R1.push { cls := .type "tuple", data := .seq ([k, k'].map fun k => Value.type (kindStr k)).toArray }
    have S2 := Step.push R1 { cls := .type "tuple", data := .seq ([k, k'].map fun k => Value.type (kindStr k)).toArray }
    have XK := O.K.keeps R2.base
    refine ⟨XK, ?_⟩
    obtain ⟨H, Z, hH, hne⟩ := tag_kit R2 (VRel.step S2 (fun _ z => z.elim) _ r1) g1
    exact kia_tup Z XK hH (Heap.get?_push_size _ rfl) (isKinds_any G.K hu g1 hb) hne fun tk => q _ t1 _ ((S1.trans S2).trans (Step.toks _ _ _ tk)) (R2.toks tk) rfl
  · cases e
end
end Mine
end

section
set_option genInjectivity false
set_option genSizeOf false
set_option maxRecDepth 100000
namespace Mine
open PySem PySem.W PyProof.Rows

section
variable {G : Gd} {N : Names} {C : Calls} {d : Dp} {sc : Sc} {Γ : Gam} {A : Around} {t : Tie} {st st' : MS} {s : Shared} {env : Env} {loc : Loc} {X Y Z : V} {v w : Value}

theorem stored_cons (k k' : PySem.Str) (u y : Value) (r : List (PySem.Str × Value)) (h : k' ≠ k) : stored ((k', u) :: r) k y = (k', u) :: stored r k y := by
  unfold stored
  simp only [List.any_cons, h, decide_false, Bool.false_or, List.map_cons, if_false]
  split <;> rfl
theorem stored_head (k : PySem.Str) (u y : Value) (r : List (PySem.Str × Value)) (h : k ∉ r.map (·.1)) : stored ((k, u) :: r) k y = (k, y) :: r := by
  unfold stored
  simp only [List.any_cons, decide_true, Bool.true_or, if_true, List.map_cons]
  congr 1
  conv => rhs; rw [← List.map_id r]
  refine List.map_congr_left fun p hp => ?_
  rw [if_neg (fun z => h (List.mem_map.mpr ⟨p, hp, z⟩))]; rfl

theorem toStr_inj {a b : List Nat} (h : toStr a = toStr b) : a = b := by
  have := congrArg (fun z => z.cps.toList) h
  simpa [toStr] using this

theorem DRel.put {h : Heap} {x : List Nat} {y : Value} : ∀ {dd : List (V × V)} {kvs : List (PySem.Str × Value)}, DRel t h dd kvs → (kvs.map (·.1)).Nodup → VRel t h Y y → DRel t h (dput (.str x) Y dd) (stored kvs (toStr x) y)
  | [], _, e, _, r => by cases e; exact ⟨x, y, [], rfl, rfl, r, rfl⟩
  | (k, u) :: r, _, ⟨z, y', rest, e1, e2, e3, e4⟩, nd, ry => by
    subst e1; subst e2
    rw [List.map_cons, List.nodup_cons] at nd
    by_cases q : z = x
    · subst q
      rw [stored_head _ _ _ _ nd.1]
      have hh : dput (.str z) Y ((V.str z, u) :: r) = (V.str z, Y) :: r := if_pos (decide_eq_true rfl)
      rw [hh]
      exact ⟨z, y, rest, rfl, rfl, ry, e4⟩
    · have q' : toStr z ≠ toStr x := fun e => q (toStr_inj e)
      rw [stored_cons _ _ _ _ _ q']
      have hh : dput (.str x) Y ((V.str z, u) :: r) = (V.str z, u) :: dput (.str x) Y r := if_neg (by rw [show keyEq (V.str z) (V.str x) = decide (z = x) from rfl, decide_eq_false q]; exact Bool.false_ne_true)
      rw [hh]
      exact ⟨z, y', _, rfl, rfl, e3, DRel.put e4 nd.2 ry⟩

theorem DRel.length {h : Heap} : ∀ {dd : List (V × V)} {kvs : List (PySem.Str × Value)}, DRel t h dd kvs → kvs.length = dd.length
  | [], _, e => by cases e; rfl
  | (k, u) :: r, _, ⟨z, y', rest, e1, e2, e3, e4⟩ => by subst e2; simp [DRel.length e4]

end
end Mine
end

section
set_option genInjectivity false
set_option genSizeOf false
set_option maxRecDepth 100000
namespace Mine
open PySem PySem.W PyProof.Rows

section
variable {G : Gd} {N : Names} {C : Calls} {d : Dp} {sc : Sc} {Γ : Gam} {A : Around} {t : Tie} {st st' : MS} {s : Shared} {env : Env} {loc : Loc} {X Y Z : V} {v w : Value}

theorem Rel.hideGrow (R : Rel G t st s) {s' : Shared} {P : Addr → Prop} {l₁ : List Env} (np : ∀ a, P a → s.heap.get? a = none) (hk : ∀ b o, s.heap.get? b = some o → s'.heap.get? b = some o) (hl : ∀ a, P a → (s'.heap.get? a).isSome = true) (hg : s'.gens = s.gens) (ho : s'.os = s.os) :
    Rel G (t.hideS P l₁) st s' where
  base b o e := hk b o (R.base b o e)
  apart a q := by
    rcases q with q | q | q
    · exact R.apart a (.inl q)
    · exact R.apart a (.inr q)
    · cases z : G.h₀.get? a with
      | none => rfl
      | some o => have := R.base a o z; rw [np a q] at this; cases this
  live a q := by
    have old : t.Avoid a → (s'.heap.get? a).isSome = true := fun q => by obtain ⟨o, e⟩ := Option.isSome_iff_exists.mp (R.live a q); rw [hk a o e]; rfl
    rcases q with q | q | q
    · exact old (.inl q)
    · exact old (.inr q)
    · exact hl a q
  pv a q o := by
    rcases q with q | q
    · exact R.pv a q o
    · have := R.live a (.inl o); rw [np a q] at this; cases this
  injρ := R.injρ
  injδ := R.injδ
  two := R.two
  objs l o e := by
    have S : Step noX (t.hideS P l₁) (t.hideS P l₁) s s' := ⟨.refl _, fun a o e _ _ _ => hk a o e, fun a o e _ _ _ => ⟨o.slots, hk a o e⟩, fun _ o => .inl o, fun a o e => by rw [hk a o e]; rfl, hg, ho⟩
    exact (ObjOk.map (t := t) (t' := t.hideS P l₁) (fun _ _ e => e) (fun _ _ e => e) (Tie.hid np) (fun _ _ _ e => e) (R.objs l o e)).step S (fun _ x => x.elim) fun a o _ e => hk a o e
  cnt := R.cnt
  sys := R.sys
  wr := R.wr

structure Forget (P L : Addr → Prop) (t₁ t₂ : Tie) (s₁ s₂ : Shared) : Prop where
  ρ : t₂.ρ = t₁.ρ
  δ : t₂.δ = t₁.δ
  pv : ∀ a, t₂.pv a → t₁.pv a ∧ ¬ P a
  hP : ∀ a, P a → t₁.pv a
  hL : ∀ a, L a → t₁.pv a ∧ (s₂.heap.get? a).isSome = true
  keep : ∀ b o, ¬ P b → ¬ L b → s₁.heap.get? b = some o → s₂.heap.get? b = some o
  gens : s₂.gens = s₁.gens
  os : s₂.os = s₁.os
  wr : t₂.wr = t₁.wr

theorem Forget.own {P L : Addr → Prop} {t₁ t₂ : Tie} {s₁ s₂ : Shared} (F : Forget P L t₁ t₂ s₁ s₂) {a : Addr} : t₂.Own a ↔ t₁.Own a := by
  unfold Tie.Own; rw [F.ρ, F.δ]
theorem Forget.avoid {P L : Addr → Prop} {t₁ t₂ : Tie} {s₁ s₂ : Shared} (F : Forget P L t₁ t₂ s₁ s₂) {a : Addr} (h : ¬ t₁.Avoid a) : ¬ t₂.Avoid a := fun q => h (q.imp F.own.mp fun z => (F.pv a z).1)

theorem Forget.val {P L : Addr → Prop} {t₁ t₂ : Tie} {s₁ s₂ : Shared} (F : Forget P L t₁ t₂ s₁ s₂) (a : Addr) (o : Obj) (na : ¬ t₁.Avoid a) (ho : s₁.heap.get? a = some o) : s₂.heap.get? a = some o ∧ ¬ t₂.Avoid a :=
  ⟨F.keep _ _ (fun q => na (.inr (F.hP a q))) (fun q => na (.inr (F.hL a q).1)) ho, F.avoid na⟩
theorem VRel.forget {P L : Addr → Prop} {t₁ t₂ : Tie} {s₁ s₂ : Shared} (F : Forget P L t₁ t₂ s₁ s₂) (x : V) {v : Value} (r : VRel t₁ s₁.heap x v) : VRel t₂ s₂.heap x v := VRel.map (fun _ _ e => by rw [F.ρ]; exact e) F.val x r
theorem VRels.forget {P L : Addr → Prop} {t₁ t₂ : Tie} {s₁ s₂ : Shared} (F : Forget P L t₁ t₂ s₁ s₂) (l : List V) {vs : List Value} (r : VRels t₁ s₁.heap l vs) : VRels t₂ s₂.heap l vs := VRels.map (fun _ _ e => by rw [F.ρ]; exact e) F.val l r
theorem Rel.forget {P L : Addr → Prop} {t₁ t₂ : Tie} {s₁ s₂ : Shared} (F : Forget P L t₁ t₂ s₁ s₂) (R : Rel G t₁ st s₁) : Rel G t₂ st s₂ := by
  have nP : ∀ {a}, t₁.Own a → ¬ P a := fun {a} o q => R.pv a (F.hP a q) o
  have nL : ∀ {a}, t₁.Own a → ¬ L a := fun {a} o q => R.pv a (F.hL a q).1 o
  have up : ∀ {a}, t₂.Avoid a → t₁.Avoid a ∧ ¬ P a := fun {a} q => q.elim (fun q => ⟨.inl (F.own.mp q), nP (F.own.mp q)⟩) fun q => ⟨.inr (F.pv a q).1, (F.pv a q).2⟩
  refine ⟨fun b o e => F.keep b o (fun q => ?_) (fun q => ?_) (R.base b o e), fun a q => R.apart a (up q).1, fun a q => ?_, fun a q o => R.pv a (F.pv a q).1 (F.own.mp o), ?_, ?_, ?_, ?_, ?_, ?_, F.wr.trans R.wr⟩
  · rw [R.apart b (.inr (F.hP b q))] at e; cases e
  · rw [R.apart b (.inr (F.hL b q).1)] at e; cases e
  · by_cases ql : L a
    · exact (F.hL a ql).2
    · obtain ⟨o, e⟩ := Option.isSome_iff_exists.mp (R.live a (up q).1)
      rw [F.keep a o (up q).2 ql e]; rfl
  · rw [F.ρ]; exact R.injρ
  · rw [F.δ]; exact R.injδ
  · rw [F.ρ, F.δ]; exact R.two
  · intro l o e
    exact ObjOk.map (fun _ _ e => by rw [F.ρ]; exact e) (fun _ _ e => by rw [F.δ]; exact e) F.val (fun a ob q e => F.keep a ob (nP ⟨l, q⟩) (nL ⟨l, q⟩) e) (R.objs l o e)
  · rw [F.ρ, F.δ]; exact R.cnt
  · rw [F.ρ]; exact R.sys

theorem Step.unhideS {P X L : Addr → Prop} {t₁ : Tie} {s₀ s₁ s₂ : Shared} {l : List Env} (hl : ∀ e, e ∈ l → e ∈ t.st ∨ ∀ a, e.frame = some a → P a) (hl' : ∀ e, e ∈ t.st → e ∈ l) (hX : ∀ a, X a → P a ∨ L a) (np : ∀ a, P a → s.heap.get? a = none) (hk : ∀ b o, s.heap.get? b = some o → s₀.heap.get? b = some o) (hg : s₀.gens = s.gens) (ho : s₀.os = s.os)
    (S : Step X (t.hideS P l) t₁ s₀ s₁) (F : Forget P L t₁ { t₁ with pv := t.pv, st := t.st } s₁ s₂) : Step L t { t₁ with pv := t.pv, st := t.st } s s₂ where
  le := ⟨S.le.ρ, S.le.δ, rfl, S.le.wr, rfl⟩
  slots a o e n nl f := by
    have nP : ¬ P a := fun q => by rw [np a q] at e; cases e
    obtain ⟨sl, e1⟩ := S.slots a o (hk a o e) n (fun q => (hX a q).elim nP nl) ⟨.inl f.1, let ⟨e, h1, h2⟩ := f.2; ⟨e, hl' e h1, h2⟩⟩
    exact ⟨sl, F.keep a _ nP nl e1⟩
  keepW a o e n nl nf := by
    have nP : ¬ P a := fun q => by rw [np a q] at e; cases e
    exact F.keep a o nP nl (S.keepW a o (hk a o e) n (fun q => (hX a q).elim nP nl) fun q => let ⟨e, h1, h2⟩ := q.2; nf ⟨q.1.elim id fun q => (nP q).elim, e, (hl e h1).resolve_right fun z => nP (z a h2), h2⟩)
  new a o := by
    rcases S.new a o with q | q
    · exact .inl q
    · right
      cases z : s.heap.get? a with
      | none => rfl
      | some ob => rw [hk a ob z] at q; cases q
  live a o e := by
    have nP : ¬ P a := fun q => by rw [np a q] at e; cases e
    by_cases ql : L a
    · exact (F.hL a ql).2
    · obtain ⟨o', e'⟩ := Option.isSome_iff_exists.mp (S.live a o (hk a o e))
      rw [F.keep a o' nP ql e']; rfl
  gens := F.gens.trans (S.gens.trans hg)
  os := F.os.trans (S.os.trans ho)

theorem Step.unhide {P X L : Addr → Prop} {t₁ : Tie} {s₀ s₁ s₂ : Shared} (hX : ∀ a, X a → P a ∨ L a) (np : ∀ a, P a → s.heap.get? a = none) (hk : ∀ b o, s.heap.get? b = some o → s₀.heap.get? b = some o) (hg : s₀.gens = s.gens) (ho : s₀.os = s.os)
    (S : Step X (t.hide P) t₁ s₀ s₁) (F : Forget P L t₁ { t₁ with pv := t.pv, st := t.st } s₁ s₂) : Step L t { t₁ with pv := t.pv, st := t.st } s s₂ :=
  Step.unhideS (l := t.st) (fun _ h => .inl h) (fun _ h => h) hX np hk hg ho S F
theorem Step.priv {a : Addr} {h' : Heap} {tk : Nat} {X : Addr → Prop} (hX : X a) (hl : (h'.get? a).isSome = true) (hs : Heap.SameBut a s.heap h') : Step X t t s { s with heap := h', toks := tk } :=
  ⟨.refl t, fun b o e _ nx _ => (hs.2 b fun (q : b = a) => nx (q ▸ hX)).trans e, fun b o e _ nx _ => ⟨o.slots, (hs.2 b fun (q : b = a) => nx (q ▸ hX)).trans e⟩, fun _ o => .inl o, fun b o e => by
    by_cases q : b = a
    · subst q; exact hl
    · show (h'.get? b).isSome = true; rw [hs.2 b q, e]; rfl, rfl, rfl⟩
theorem Rel.priv (R : Rel G t st s) {a : Addr} {h' : Heap} {tk : Nat} (hp : t.pv a) (hl : (h'.get? a).isSome = true) (hs : Heap.SameBut a s.heap h') : Rel G t st { s with heap := h', toks := tk } := by
  have S : Step (· = a) t t s { s with heap := h', toks := tk } := Step.priv rfl hl hs
  have hp' : ∀ b, b = a → t.pv b := fun b z => by rw [z]; exact hp
  refine ⟨fun b o e => (hs.2 b fun (q : b = a) => ?_).trans (R.base b o e), R.apart, fun b q => ?_, R.pv, R.injρ, R.injδ, R.two, fun l o e => (R.objs l o e).step S hp' fun b ob hb eb => (hs.2 b fun (q : b = a) => ?_).trans eb, R.cnt, R.sys, R.wr⟩
  · rw [q, R.apart a (.inr hp)] at e; cases e
  · by_cases z : b = a
    · subst z; exact hl
    · show (h'.get? b).isSome = true; rw [hs.2 b z]; exact R.live b q
  · subst q; exact R.pv b hp ⟨l, hb⟩

noncomputable def Tie.adopt (t : Tie) (l : Lbl) (D : Addr) (pv' : Addr → Prop) : Tie := ⟨fun x => if x = l then some D else t.ρ x, fun x => if x = l then none else t.δ x, pv', t.wr, t.st⟩
theorem Rel.adopt (R : Rel G t st s) {D : Addr} {k : Nat} {o : MObj} {pv' : Addr → Prop} (pD : t.pv D) (hpv : ∀ a, t.pv a ↔ pv' a ∨ a = D) (nD : ¬ pv' D) (hsys : D ≠ sysModules)
    (hO : (∀ (X : V) (v : Value), VRel t s.heap X v → VRel (t.adopt (k, st.cnt k) D pv') s.heap X v) → ObjOk G (t.adopt (k, st.cnt k) D pv') s.heap (k, st.cnt k) o) :
    Rel G (t.adopt (k, st.cnt k) D pv') (st.new k o) s ∧ (∀ l a, t.ρ l = some a → (t.adopt (k, st.cnt k) D pv').ρ l = some a) ∧
      (∀ a o, ¬ t.Avoid a → s.heap.get? a = some o → s.heap.get? a = some o ∧ ¬ Tie.Avoid (t.adopt (k, st.cnt k) D pv') a) := by
  obtain ⟨c1, c2, c3⟩ := R.cnt k _ (Nat.le_refl _)
  have hρ : ∀ l a, t.ρ l = some a → (t.adopt (k, st.cnt k) D pv').ρ l = some a := fun l a e => by
    show (if l = (k, st.cnt k) then some D else t.ρ l) = some a
    rw [if_neg (fun q => by rw [q, c1] at e; cases e)]; exact e
  have hδ : ∀ l a, t.δ l = some a → (t.adopt (k, st.cnt k) D pv').δ l = some a := fun l a e => by
    show (if l = (k, st.cnt k) then none else t.δ l) = some a
    rw [if_neg (fun q => by rw [q, c2] at e; cases e)]; exact e
  have nr : ∀ {l : Lbl} {b : Addr}, (t.adopt (k, st.cnt k) D pv').ρ l = some b → (l = (k, st.cnt k) ∧ b = D) ∨ (l ≠ (k, st.cnt k) ∧ t.ρ l = some b) := fun {l b} e => by
    change (if l = (k, st.cnt k) then some D else t.ρ l) = some b at e
    split at e
    · rename_i q; cases e; exact .inl ⟨q, rfl⟩
    · rename_i q; exact .inr ⟨q, e⟩
  have nd : ∀ {l : Lbl} {b : Addr}, (t.adopt (k, st.cnt k) D pv').δ l = some b → t.δ l = some b := fun {l b} e => by
    change (if l = (k, st.cnt k) then none else t.δ l) = some b at e
    split at e
    · cases e
    · exact e
  have nO := R.pv D pD
  have up : ∀ a, Tie.Avoid (t.adopt (k, st.cnt k) D pv') a → t.Avoid a := by
    rintro a (⟨l, e | e⟩ | e)
    · rcases nr e with ⟨_, rfl⟩ | ⟨_, e⟩
      · exact .inr pD
      · exact .inl ⟨l, .inl e⟩
    · exact .inl ⟨l, .inr (nd e)⟩
    · exact .inr ((hpv a).2 (.inl e))
  have kp : ∀ a o, ¬ t.Avoid a → s.heap.get? a = some o → s.heap.get? a = some o ∧ ¬ Tie.Avoid (t.adopt (k, st.cnt k) D pv') a := fun a o na e => ⟨e, fun q => na (up a q)⟩
  refine ⟨⟨R.base, fun a q => R.apart a (up a q), fun a q => R.live a (up a q), ?_, ?_, ?_, ?_, ?_, ?_, fun l e => ?_, R.wr⟩, hρ, kp⟩
  · rintro a q ⟨l, e | e⟩
    · rcases nr e with ⟨_, rfl⟩ | ⟨_, e⟩
      · exact nD q
      · exact R.pv a ((hpv a).2 (.inl q)) ⟨l, .inl e⟩
    · exact R.pv a ((hpv a).2 (.inl q)) ⟨l, .inr (nd e)⟩
  · intro l l' b e e'
    rcases nr e with ⟨q1, z1⟩ | ⟨_, e1⟩ <;> rcases nr e' with ⟨q, z⟩ | ⟨_, e2⟩
    · exact q1.trans q.symm
    · exact (nO ⟨l', .inl (z1 ▸ e2)⟩).elim
    · exact (nO ⟨l, .inl (z ▸ e1)⟩).elim
    · exact R.injρ l l' b e1 e2
  · exact fun l l' b e e' => R.injδ l l' b (nd e) (nd e')
  · intro l l' b e e'
    rcases nr e with ⟨_, z⟩ | ⟨_, e⟩
    · exact nO ⟨l', .inr (z ▸ nd e')⟩
    · exact R.two l l' b e (nd e')
  · intro l o' e
    change (if l = (k, st.cnt k) then some o else st.heap l) = some o' at e
    split at e
    · rename_i q; cases e; subst q
      exact hO fun X v r => VRel.map hρ kp X r
    · exact ObjOk.map (t := t) (t' := t.adopt (k, st.cnt k) D pv') hρ hδ kp (fun _ _ _ e => e) (R.objs l o' e)
  · intro k' i e
    change (if k' = k then st.cnt k + 1 else st.cnt k') ≤ i at e
    have ne : (k', i) ≠ (k, st.cnt k) := fun q => by cases q; rw [if_pos rfl] at e; omega
    have le : st.cnt k' ≤ i := by
      by_cases q : k' = k
      · subst q; rw [if_pos rfl] at e; omega
      · rw [if_neg q] at e; exact e
    obtain ⟨d1, d2, d3⟩ := R.cnt k' i le
    exact ⟨(if_neg ne).trans d1, (if_neg ne).trans d2, (if_neg ne).trans d3⟩
  · rcases nr e with ⟨_, z⟩ | ⟨_, z⟩
    · exact hsys z.symm
    · exact R.sys l z
theorem Step.own {X : Addr → Prop} {t' : Tie} {s' : Shared} (S : Step X t t' s s') {D : Addr} {l : Lbl} (hD : s.heap.get? D = none) (hl : t'.ρ l = none) (hl2 : t'.δ l = none) : Step X t (t'.adopt l D t'.pv) s s' where
  le := ⟨fun x a e => by
      have e := S.le.ρ x a e
      show (if x = l then some D else t'.ρ x) = some a
      rw [if_neg (fun q => by rw [q, hl] at e; cases e)]; exact e, fun x a e => by
      have e := S.le.δ x a e
      show (if x = l then none else t'.δ x) = some a
      rw [if_neg (fun q => by rw [q, hl2] at e; cases e)]; exact e, S.le.pv, S.le.wr, S.le.st⟩
  keepW := S.keepW
  slots := S.slots
  new a := by
    rintro ⟨x, e | e⟩
    · change (if x = l then some D else t'.ρ x) = some a at e
      split at e
      · cases e; exact .inr hD
      · exact S.new a ⟨x, .inl e⟩
    · change (if x = l then none else t'.δ x) = some a at e
      split at e
      · cases e
      · exact S.new a ⟨x, .inr e⟩
  live := S.live
  gens := S.gens
  os := S.os
end
end Mine
end

section
set_option genInjectivity false
set_option genSizeOf false
set_option maxRecDepth 100000
namespace Mine
open PySem PySem.W PyProof.Rows

section
variable {G : Gd} {N : Names} {C : Calls} {d : Dp} {sc : Sc} {Γ : Gam} {A : Around} {t : Tie} {st st' : MS} {s : Shared} {env : Env} {loc : Loc} {X Y Z : V} {v w : Value}

noncomputable def ItQ (st₀ : MS) (t : Tie) (s : Shared) (I : Addr) (src : V) (i : Nat) : Prop :=
  ∃ (k : Bool) (l : List V) (a : Addr), seqOf st₀ src = some (k, l) ∧ VRel t s.heap src (.ref a) ∧ (if k = true then s.heap.IsListIter I a i else s.heap.IsTupleIter I a i)
noncomputable def ItD (G : Gd) (st₀ : MS) (t : Tie) (s : Shared) (I : Addr) (src : V) (i : Nat) : Prop :=
  ∃ (r : Lbl) (dd : List (V × V)) (a : Addr) (kvs : List (PySem.Str × Value)) (ep : Nat), src = .ref r ∧ dictAt src st₀ = some (r, dd) ∧ t.ρ r = some a ∧ (∀ j : Nat, ∀ x, (dd.map (·.1))[j]? = some x → ∃ y v, x = .str y ∧ kvs[j]? = some (toStr y, v)) ∧ kvs.length = dd.length ∧ a ≠ I ∧ st₀.wr ≤ t.wr ∧ s.heap.IsKeyIter I a i kvs.length ep ∧
    (t.wr = st₀.wr → s.heap.DictAt (strKind G.prog G.w) a kvs ep)
noncomputable def ItS (s : Shared) (I : Addr) (src : V) (i : Nat) : Prop :=
  ∃ (x : List Nat) (tk : Tok), src = .str x ∧ s.heap.IsStrIter I "str_ascii_iterator" (toStr x) tk i
noncomputable def ItOk (G : Gd) (st₀ : MS) (t : Tie) (s : Shared) (I : Addr) (range : Bool) (src : V) (i : Nat) : Prop :=
  match range with
  | true => ∃ n : Int, src = .int n ∧ IsRangeIter s.heap I i ((n.toNat : Int) - i) 1
  | false => ItQ st₀ t s I src i ∨ ItD G st₀ t s I src i ∨ ItS s I src i

theorem ItOk.step {st₀ : MS} {I : Addr} {range : Bool} {src : V} {i : Nat} {X : Addr → Prop} {t' : Tie} {s' : Shared} (h : ItOk G st₀ t s I range src i) (S : Step X t t' s s') (xp : ∀ a, X a → t.pv a) (hp : ∀ a, t.pv a → ¬ t.Own a) (pI : t.pv I) (hX : ¬ X I) (nF : ¬ t.Fr I) : ItOk G st₀ t' s' I range src i := by
  have hI := hp I pI
  cases range with
  | true =>
    obtain ⟨n, e, h⟩ := h
    exact ⟨n, e, S.keep _ _ h hI hX nF⟩
  | false =>
    rcases h with ⟨k, l, a, e, r, h⟩ | ⟨r, dd, a, kvs, ep, e1, e2, ea, e3, e4, e5, e6, ⟨o, h1, h2⟩, e8⟩ | ⟨x, tk, e1, o, h1, h2⟩
    · refine .inl ⟨k, l, a, e, VRel.step S xp _ r, ?_⟩
      cases k with
      | true =>
        obtain ⟨o, h1, h2⟩ := (h : s.heap.IsListIter I a i)
        exact (⟨o, S.keep _ _ h1 hI hX nF, h2⟩ : s'.heap.IsListIter I a i)
      | false =>
        obtain ⟨o, h1, h2⟩ := (h : s.heap.IsTupleIter I a i)
        exact (⟨o, S.keep _ _ h1 hI hX nF, h2⟩ : s'.heap.IsTupleIter I a i)
    · refine .inr (.inl ⟨r, dd, a, kvs, ep, e1, e2, S.le.ρ _ _ ea, e3, e4, e5, Nat.le_trans e6 S.le.wr, ⟨o, S.keep _ _ h1 hI hX nF, h2⟩, fun q => ?_⟩)
      have hw : t'.wr = t.wr ∧ t.wr = st₀.wr := by have := S.le.wr; omega
      obtain ⟨od, es, q1, q2⟩ := e8 hw.2
      exact ⟨od, es, S.keepW _ _ q1 (fun _ => hw.1) (fun hx => hp a (xp a hx) ⟨r, .inl ea⟩) (fun f => hp a f.1 ⟨r, .inl ea⟩), q2⟩
    · exact .inr (.inr ⟨x, tk, e1, o, S.keep _ _ h1 hI hX nF, h2⟩)

theorem seqOf_stays {st₀ st : MS} {src : V} (h : stays st₀ st false src = true) : seqOf st src = seqOf st₀ src := by
  cases src with
  | ref r =>
    have h : st₀.heap r = st.heap r := of_decide_eq_true (Bool.and_eq_true_iff.1 h).1
    show (match st.heap r with | some (.list l) => some (true, l) | _ => none) = (match st₀.heap r with | some (.list l) => some (true, l) | _ => none)
    rw [h]
  | _ => rfl
theorem dictAt_seq {st : MS} {src : V} {p : Bool × List V} (h : seqOf st src = some p) : dictAt src st = none := by
  cases src with
  | ref r =>
    show (match st.heap r with | some (.dict l) => some (r, l) | _ => none) = none
    have h : (match st.heap r with | some (.list l) => some (true, l) | _ => none) = some p := h
    cases e : st.heap r with
    | none => rfl
    | some o => rw [e] at h; cases o <;> first | rfl | cases h
  | _ => rfl
theorem DRel.keyAt {h : Heap} : ∀ {dd : List (V × V)} {kvs : List (PySem.Str × Value)}, DRel t h dd kvs → ∀ (j : Nat) (x : V), (dd.map (·.1))[j]? = some x → ∃ y v, x = .str y ∧ kvs[j]? = some (toStr y, v)
  | [], _, _, j, x, e => by cases e
  | (k, u) :: r, _, ⟨z, y, rest, e1, e2, _, _⟩, 0, x, e => by subst e1 e2; cases e; exact ⟨z, y, rfl, rfl⟩
  | (k, u) :: r, _, ⟨z, y, rest, e1, e2, _, e4⟩, j + 1, x, e => by subst e2; exact DRel.keyAt e4 j x e
theorem items_seq {st : MS} {src : V} {p : Bool × List V} (h : seqOf st src = some p) : itemsOf st false src = some p.2 := by
  cases src with
  | str => cases h
  | ref r =>
    show (match dictAt (.ref r) st with | some p => some (p.2.map fun q : V × V => q.1) | none => (seqOf st (.ref r)).map fun q : Bool × List V => q.2) = _
    rw [dictAt_seq h, h]; rfl
  | _ => cases h <;> rfl
theorem items_dct {st : MS} {r : Lbl} {p : Lbl × List (V × V)} (h : dictAt (.ref r) st = some p) : itemsOf st false (.ref r) = some (p.2.map (·.1)) := by
  show (match dictAt (.ref r) st with | some p => some (p.2.map fun q : V × V => q.1) | none => (seqOf st (.ref r)).map fun q : Bool × List V => q.2) = _
  rw [h]
theorem stays_wr {st₀ st : MS} {r : Lbl} {p : Lbl × List (V × V)} (h : stays st₀ st false (.ref r) = true) (hd : dictAt (.ref r) st₀ = some p) : st₀.wr = st.wr := by
  have h : ((dictAt (.ref r) st₀).isNone || decide (st₀.wr = st.wr)) = true := (Bool.and_eq_true_iff.1 h).2
  rw [hd] at h
  exact of_decide_eq_true h
theorem items_str {st : MS} {x : List Nat} {xs : List V} (h : itemsOf st false (.str x) = some xs) : xs = x.map fun c => V.str [c] := by
  have h : (if x.all (fun c => decide (c < 128)) = true then some (x.map fun c => V.str [c]) else none) = some xs := h
  split at h <;> cases h; rfl
theorem items_asc {st : MS} {x : List Nat} {xs : List V} (h : itemsOf st false (.str x) = some xs) : (toStr x).cps.all (· < 128) = true := by
  have h : (if x.all (fun c => decide (c < 128)) = true then some (x.map fun c => V.str [c]) else none) = some xs := h
  split at h
  · rename_i hh; rw [← hh]; simp [toStr]
  · cases h

theorem next_seq {st₀ : MS} {I : Addr} {src : V} {i : Nat} {xs : List V} {x : V} {Q : Option Value → Shared → Prop} {E : Value → Shared → Prop} (R : Rel G t st s) (hI : t.pv I) (hx : itemsOf st₀ false src = some xs) (hs : stays st₀ st false src = true) (h : ItQ st₀ t s I src i) (hi : xs[i]? = some x)
    (q : ∀ v h' tk, Step (· = I) t t s { s with heap := h', toks := tk } → Rel G t st { s with heap := h', toks := tk } → VRel t h' x v → ItOk G st₀ t { s with heap := h', toks := tk } I false src (i + 1) → Q (some v) { s with heap := h', toks := tk }) :
    wpAny G.M A (pyNext (.ref I)) Q E s := by
  obtain ⟨k, l, a, e, r, h⟩ := h
  rw [items_seq e] at hx
  have hx : l = xs := Option.some.inj hx
  subst hx
  have e' : seqOf st src = some (k, l) := by rw [seqOf_stays hs, e]
  obtain ⟨a', vs, ea, io, rr, sz⟩ := seqOf_real R r e'
  cases ea
  obtain ⟨y, y1, y2⟩ := VRels.get rr hi
  rw [Array.getElem?_toList] at y1
  have xp : ∀ b, b = I → t.pv b := fun b z => by rw [z]; exact hI
  cases k with
  | true =>
    have h : s.heap.IsListIter I a i := h
    have io : PL s.heap a vs := io
    refine wpAny_pyNext_list_item h io.isList y1 fun h' hit hs' => ?_
    have hl : (h'.get? I).isSome = true := by obtain ⟨o, ho, _⟩ := hit; rw [ho]; rfl
    have S : Step (· = I) t t s { s with heap := h', toks := s.toks } := Step.priv rfl hl hs'
    exact q _ h' s.toks S (R.priv hI hl hs') (VRel.step S xp _ y2) (.inl ⟨true, l, a, e, VRel.step S xp _ r, hit⟩)
  | false =>
    have h : s.heap.IsTupleIter I a i := h
    have io : PT s.heap a vs := io
    refine wpAny_pyNext_tuple_item h io.isTuple y1 fun h' hit hs' => ?_
    have hl : (h'.get? I).isSome = true := by obtain ⟨o, ho, _⟩ := hit; rw [ho]; rfl
    have S : Step (· = I) t t s { s with heap := h', toks := s.toks } := Step.priv rfl hl hs'
    exact q _ h' s.toks S (R.priv hI hl hs') (VRel.step S xp _ y2) (.inl ⟨false, l, a, e, VRel.step S xp _ r, hit⟩)
theorem next_dict {st₀ : MS} {I : Addr} {src : V} {i : Nat} {xs : List V} {x : V} {Q : Option Value → Shared → Prop} {E : Value → Shared → Prop} (R : Rel G t st s) (hI : t.pv I) (hx : itemsOf st₀ false src = some xs) (hs : stays st₀ st false src = true) (h : ItD G st₀ t s I src i) (hi : xs[i]? = some x)
    (q : ∀ v h' tk, Step (· = I) t t s { s with heap := h', toks := tk } → Rel G t st { s with heap := h', toks := tk } → VRel t h' x v → ItOk G st₀ t { s with heap := h', toks := tk } I false src (i + 1) → Q (some v) { s with heap := h', toks := tk }) :
    wpAny G.M A (pyNext (.ref I)) Q E s := by
  obtain ⟨r, dd, a, kvs, ep, rfl, e2, ea, e3, e4, e5, e6, e7, e8⟩ := h
  have hw : t.wr = st₀.wr := R.wr.trans (stays_wr hs e2).symm
  rw [items_dct e2] at hx
  cases hx
  obtain ⟨y, v, rfl, hy⟩ := e3 i x hi
  have hd := e8 hw
  refine wpAny_pyNext_dict_item e7 hd hy fun key h' hk hit hs' => ?_
  have hl : (h'.get? I).isSome = true := by obtain ⟨o, ho, _⟩ := hit; rw [ho]; rfl
  have S : Step (· = I) t t s { s with heap := h', toks := s.toks } := Step.priv rfl hl hs'
  obtain ⟨tk, rfl⟩ := Value.isStrOf_shape hk
  refine q _ h' s.toks S (R.priv hI hl hs') ⟨tk, rfl⟩ (.inr (.inl ⟨r, dd, a, kvs, ep, rfl, e2, ea, e3, e4, e5, e6, hit, fun _ => ?_⟩))
  obtain ⟨od, es, q1, q2⟩ := hd
  exact ⟨od, es, (hs'.2 a e5).trans q1, q2⟩
theorem next_str {st₀ : MS} {I : Addr} {src : V} {i : Nat} {xs : List V} {x : V} {Q : Option Value → Shared → Prop} {E : Value → Shared → Prop} (R : Rel G t st s) (hI : t.pv I) (hx : itemsOf st₀ false src = some xs) (h : ItS s I src i) (hi : xs[i]? = some x)
    (q : ∀ v h' tk, Step (· = I) t t s { s with heap := h', toks := tk } → Rel G t st { s with heap := h', toks := tk } → VRel t h' x v → ItOk G st₀ t { s with heap := h', toks := tk } I false src (i + 1) → Q (some v) { s with heap := h', toks := tk }) :
    wpAny G.M A (pyNext (.ref I)) Q E s := by
  obtain ⟨y, tk, rfl, h⟩ := h
  rw [items_str hx, List.getElem?_map] at hi
  obtain ⟨c, hc, rfl⟩ := Option.map_eq_some_iff.1 hi
  refine wpAny_pyNext_ascii_item h (by rw [← hc]; exact List.getElem?_toArray) fun h' hit hs' => ?_
  have hl : (h'.get? I).isSome = true := by obtain ⟨o, ho, _⟩ := hit; rw [ho]; rfl
  exact q _ h' _ (Step.priv rfl hl hs') (R.priv hI hl hs') ⟨_, rfl⟩ (.inr (.inr ⟨y, tk, rfl, hit⟩))

theorem it_next {st₀ : MS} {I : Addr} {range : Bool} {src : V} {i : Nat} {xs : List V} {x : V} {Q : Option Value → Shared → Prop} {E : Value → Shared → Prop} (R : Rel G t st s) (hI : t.pv I) (hx : itemsOf st₀ range src = some xs) (hs : stays st₀ st range src = true) (h : ItOk G st₀ t s I range src i) (hi : xs[i]? = some x)
    (q : ∀ v h' tk, Step (· = I) t t s { s with heap := h', toks := tk } → Rel G t st { s with heap := h', toks := tk } → VRel t h' x v → ItOk G st₀ t { s with heap := h', toks := tk } I range src (i + 1) → Q (some v) { s with heap := h', toks := tk }) :
    wpAny G.M A (pyNext (.ref I)) Q E s := by
  cases range with
  | true =>
    obtain ⟨n, rfl, h⟩ := h
    simp only [itemsOf] at hx
    split at hx
    · cases hx
      have hlt : i < n.toNat := by
        rw [List.getElem?_map] at hi
        obtain ⟨j, hj, _⟩ := Option.map_eq_some_iff.mp hi
        rw [List.getElem?_eq_some_iff] at hj
        simpa using hj.1
      have hxi : x = .int (i : Int) := by
        rw [List.getElem?_map, List.getElem?_range hlt] at hi
        cases hi; rfl
      subst hxi
      refine wpAny_pyNext_range_item h (by omega) fun h' hit hs' => ?_
      have hl : (h'.get? I).isSome = true := by rw [hit]; rfl
      refine q _ h' _ (Step.priv rfl hl hs') (R.priv hI hl hs') ⟨_, rfl⟩ ⟨n, rfl, ?_⟩
      have e1 : ((i : Int) + 1) = ((i + 1 : Nat) : Int) := by omega
      have e2 : ((n.toNat : Int) - i - 1) = ((n.toNat : Int) - ((i + 1 : Nat) : Int)) := by omega
      rw [← e2, ← e1]; exact hit
    · cases hx
  | false =>
    rcases h with h | h | h
    · exact next_seq R hI hx hs h hi q
    · exact next_dict R hI hx hs h hi q
    · exact next_str R hI hx h hi q

theorem it_end {st₀ : MS} {I : Addr} {range : Bool} {src : V} {xs : List V} {Q : Option Value → Shared → Prop} {E : Value → Shared → Prop} (R : Rel G t st s) (hA : A.handled = none) (hx : itemsOf st₀ range src = some xs) (hs : stays st₀ st range src = true) (h : ItOk G st₀ t s I range src xs.length)
    (q : ∀ h' tk, Heap.ExtBut I s.heap h' → Q none { s with heap := h', toks := tk }) : wpAny G.M A (pyNext (.ref I)) Q E s := by
  cases range with
  | true =>
    obtain ⟨n, rfl, h⟩ := h
    simp only [itemsOf] at hx
    split at hx
    · cases hx
      rw [List.length_map, List.length_range] at h
      exact wpAny_pyNext_range_end hA h (by omega) fun h' => q h' s.toks
    · cases hx
  | false =>
    rcases h with ⟨k, l, a, e, r, h⟩ | ⟨r, dd, a, kvs, ep, rfl, e2, ea, e3, e4, e5, e6, e7, e8⟩ | ⟨x, tk, rfl, h⟩
    · rw [items_seq e] at hx
      have hx : l = xs := Option.some.inj hx
      subst hx
      have e' : seqOf st src = some (k, l) := by rw [seqOf_stays hs, e]
      obtain ⟨a', vs, ea, io, rr, sz⟩ := seqOf_real R r e'
      cases ea
      have hn : vs[l.length]? = none := by rw [Array.getElem?_eq_none]; rw [size_of rr]; exact Nat.le_refl _
      cases k with
      | true => exact wpAny_pyNext_list_end hA (h : s.heap.IsListIter I a _) (show PL s.heap a vs from io).isList hn fun h' => q h' s.toks
      | false => exact wpAny_pyNext_tuple_end hA (h : s.heap.IsTupleIter I a _) (show PT s.heap a vs from io).isTuple hn fun h' => q h' s.toks
    · have hw : t.wr = st₀.wr := R.wr.trans (stays_wr hs e2).symm
      rw [items_dct e2] at hx
      cases hx
      exact wpAny_pyNext_dict_end hA e7 (e8 hw) (by rw [List.length_map, ← e4]; exact List.getElem?_eq_none (Nat.le_refl _)) fun h' => q h' s.toks
    · exact wpAny_pyNext_ascii_end hA h (by rw [items_str hx, List.length_map]; exact Array.getElem?_eq_none (by simp [toStr])) fun h' => q h' s.toks

theorem it_self {st₀ : MS} {I : Addr} {range : Bool} {src : V} {i : Nat} {Q : Value → Shared → Prop} {E : Value → Shared → Prop} (R : Rel G t st₀ s) (hA : A.handled = none) (h : ItOk G st₀ t s I range src i) (q : Q (.ref I) s) : wpAny G.M A (pyIter (.ref I)) Q E s := by
  cases range with
  | true =>
    obtain ⟨n, rfl, h⟩ := h
    refine (Walks.range hA I 0 1 n.toNat).self i s Q E ?_ q
    have e1 : (0 : Int) + (i : Int) * 1 = i := by omega
    rw [e1]; exact h
  | false =>
    rcases h with ⟨k, l, a, e, r, h⟩ | ⟨r, dd, a, kvs, ep, rfl, e2, ea, e3, e4, e5, e6, e7, e8⟩ | ⟨x, tk, rfl, h⟩
    · obtain ⟨a', vs, ea, io, rr, sz⟩ := seqOf_real R r e
      cases ea
      cases k with
      | true =>
        have h : s.heap.IsListIter I a i := h
        have io : PL s.heap a vs := io
        have hne : a ≠ I := fun z => by
          obtain ⟨o, h1, h2, _⟩ := h
          obtain ⟨n, h3⟩ := io
          rw [z, h1] at h3; cases h3; exact absurd (show Value.type "list" = Value.type "list_iterator" from h2) (by decide)
        exact (Walks.list hA I a hne vs).self i s Q E ⟨h, io.isList⟩ q
      | false =>
        have h : s.heap.IsTupleIter I a i := h
        have io : PT s.heap a vs := io
        have hne : a ≠ I := fun z => by
          obtain ⟨o, h1, h2, _⟩ := h
          obtain ⟨n, h3⟩ := io
          rw [z, h1] at h3; cases h3; exact absurd (show Value.type "tuple" = Value.type "tuple_iterator" from h2) (by decide)
        exact (Walks.tuple hA I a hne vs).self i s Q E ⟨h, io.isTuple⟩ q
    · exact wpAny_pyIter_keyiter e7 q
    · exact wpAny_pyIter_striter_ascii h q

inductive IterAst (sc : Sc) : Bool → PySem.Expr → PySem.Expr → Prop
  | plain (j : PySem.Expr) : IterAst sc false j j
  | range {rp rpos : Pos} {j : PySem.Expr} (hg : glob sc "range" = true) (hj : isStarred j = false) : IterAst sc true (.Call (.Name "range" rp) [j] [] rpos) j

theorem iter_go (O : G.Ok N) {range : Bool} {it : E} {iast j : PySem.Expr} (ha : IterAst sc range iast j) (hj : SimE G C d sc Γ it j) {src : V} {s1 : MS} {xs : List V} (hA : AOk d A) (hsc : env.scope.names = sc) (F : FrOk G A t env Γ loc s) (R : Rel G t st s)
    (e1 : ev G.P C it loc st = .ok src s1) (hx : itemsOf s1 range src = some xs) {K : Value → Shared → Prop} {E' : Value → Shared → Prop}
    (h : ∀ t1 σ1 σ2 I, Step noX t t1 s σ1 → Rel G t1 s1 σ1 → (∀ b o, σ1.heap.get? b = some o → σ2.heap.get? b = some o) → σ1.heap.get? I = none → (σ2.heap.get? I).isSome = true → σ2.gens = σ1.gens → σ2.os = σ1.os →
      (∀ (t' : Tie) (s' : Shared), (∀ a, VRel t1 σ1.heap src (.ref a) → VRel t' s'.heap src (.ref a)) → t'.wr = t1.wr → (∀ b o, σ2.heap.get? b = some o → s'.heap.get? b = some o) → ItOk G s1 t' s' I range src 0) → K (.ref I) σ2) :
    wpAny G.M A (eval iast env) (fun xv s' => wpAny G.M A (pyIter xv) K E' s') E' s := by
  cases ha with
  | plain j =>
    refine hj t st s env loc _ _ A hA hsc F R e1 _ _ fun v t1 σ1 S1 R1 r1 => ?_
    cases hq : seqOf s1 src with
    | some kl =>
      obtain ⟨k, l⟩ := kl
      obtain ⟨a, vs, rfl, io, rr, sz⟩ := seqOf_real R1 r1 hq
      cases k with
      | true =>
        have io : PL σ1.heap a vs := io
        refine wpAny_pyIter_list io.isList ?_
        refine h t1 σ1 _ _ S1 R1 (fun b o e => Heap.get?_push_of_some _ e) (size_none _) (by show (Heap.get? _ _).isSome = true; rw [Heap.get?_push_size _ rfl]; rfl) rfl rfl fun t' s' hv _ hs' => .inl ⟨true, l, a, hq, hv a r1, ?_⟩
        exact (⟨_, hs' _ _ (Heap.get?_push_size _ rfl), rfl, rfl⟩ : s'.heap.IsListIter _ a 0)
      | false =>
        have io : PT σ1.heap a vs := io
        refine wpAny_pyIter_tuple io.isTuple ?_
        refine h t1 σ1 _ _ S1 R1 (fun b o e => Heap.get?_push_of_some _ e) (size_none _) (by show (Heap.get? _ _).isSome = true; rw [Heap.get?_push_size _ rfl]; rfl) rfl rfl fun t' s' hv _ hs' => .inl ⟨false, l, a, hq, hv a r1, ?_⟩
        exact (⟨_, hs' _ _ (Heap.get?_push_size _ rfl), rfl, rfl⟩ : s'.heap.IsTupleIter _ a 0)
    | none =>
      cases src with
      | str x =>
        obtain ⟨k, rfl⟩ := r1
        refine wpAny_pyIter_ascii (items_asc hx) ?_
        exact h t1 σ1 _ _ S1 R1 (fun b o e => Heap.get?_push_of_some _ e) (size_none _) (by show (Heap.get? _ _).isSome = true; rw [Heap.get?_push_size _ rfl]; rfl) rfl rfl fun t' s' hv _ hs' => .inr (.inr ⟨x, k, rfl, _, hs' _ _ (Heap.get?_push_size _ rfl), rfl, rfl⟩)
      | ref r =>
        cases hdd : dictAt (.ref r) s1 with
        | none =>
          have hx : (match dictAt (.ref r) s1 with | some p => some (p.2.map fun q : V × V => q.1) | none => (seqOf s1 (.ref r)).map fun q : Bool × List V => q.2) = some xs := hx
          rw [hdd, hq] at hx; cases hx
        | some p =>
          obtain ⟨a, kvs, rfl, h1, h2, h3, h4⟩ := dictAt_real R1 r1 hdd
          obtain ⟨ep, hd⟩ := h2.dictAt
          have hr : p.1 = r := by
            have hdd : (match s1.heap r with | some (.dict l) => some (r, l) | _ => none) = some p := hdd
            cases hz : s1.heap r with
            | none => rw [hz] at hdd; cases hdd
            | some o => rw [hz] at hdd; cases o <;> cases hdd; rfl
          obtain ⟨p1, p2⟩ := p
          cases hr
          refine wpAny_pyIter_dict (beq_eq_false_iff_ne.2 fun z => R1.sys p1 (z ▸ h1)) hd ?_
          refine h t1 σ1 _ _ S1 R1 (fun b o e => Heap.get?_push_of_some _ e) (size_none _) (by show (Heap.get? _ _).isSome = true; rw [Heap.get?_push_size _ rfl]; rfl) rfl rfl fun t' s' hv hw hs' => .inr (.inl ⟨p1, p2, a, kvs, ep, rfl, hdd, ?_, fun j x hj => ?_, h3.length, ?_, ?_, ⟨_, hs' _ _ (Heap.get?_push_size _ rfl), rfl, rfl⟩, fun _ => ?_⟩)
          · obtain ⟨a', q1, q2⟩ := hv a ⟨a, rfl, h1⟩
            cases q1; exact q2
          · exact h3.keyAt j x hj
          · exact Nat.ne_of_lt hd.lt_size
          · rw [hw]; exact Nat.le_of_eq R1.wr.symm
          · exact hd.keep fun b o e => hs' b o (Heap.get?_push_of_some _ e)
      | tup => cases hq
      | lst => cases hq
      | _ => cases hx
  | @range rp rpos j hg hjs =>
    simp only [itemsOf] at hx
    split at hx
    · rename_i n
      split at hx
      · rename_i hn
        have e1' : evL G.P C [it] loc st = .ok [.int n] s1 := by simp [evL_nil, evL_cons, e1, Res.bind]
        refine wpAny_Call_ofName (built_glob (v := .type "range") O F R hsc hg (by decide) (by decide +kernel) ?_)
        refine with_go O (keeps_t _) (l := [it]) (m := [j]) (by simp [plainArgs, hjs]) rfl (sim_es_cons hjs hj sim_es_nil) hA hsc F R e1' fun vs t1 σ1 S1 R1 r1 => ?_
        obtain ⟨v, _, rfl, ⟨k, rfl⟩, rfl⟩ := r1
        have hlo : -(2 ^ 62 : Int) ≤ n := by omega
        have hhi : n < (2 ^ 62 : Int) := by have := hn.2; unfold sizeMax at this; omega
        refine call_range_1 (wpAny_pyIter_range (IsRange.new ..) (small_one (by decide) (by decide) hlo hhi) ?_)
        have hsz : Builtin.Range.rangeSize 0 n 1 = (n.toNat : Int) := by rw [rangeSize_one]; split <;> omega
        refine h t1 σ1 _ _ S1 R1 (fun b o e => Heap.get?_push_of_some _ (Heap.get?_push_of_some _ e)) (by rw [Heap.size_push]; exact size_none1 _) (by show (Heap.get? _ _).isSome = true; rw [Heap.get?_push_size _ rfl]; rfl) rfl rfl fun t' s' hv _ hs' => ⟨n, rfl, hs' _ _ ?_⟩
        rw [hsz]
        have e2 : ((n.toNat : Int) - ((0 : Nat) : Int)) = (n.toNat : Int) := by omega
        rw [e2]
        exact Heap.get?_push_size _ rfl
      · cases hx
    · cases hx
end
end Mine
end

section
set_option genInjectivity false
set_option genSizeOf false
set_option maxRecDepth 100000
namespace Mine
open PySem PySem.W PyProof.Rows

section
variable {G : Gd} {N : Names} {C : Calls} {d : Dp} {sc : Sc} {Γ : Gam} {A : Around} {t : Tie} {st st' : MS} {s : Shared} {env : Env} {loc : Loc} {X Y Z : V} {v w : Value}

noncomputable def clo (env : Env) : Sc → List (PySem.Str × Addr) → List (PySem.Str × Addr)
  | [], acc => acc
  | x :: r, acc => clo env r (if x.2 == .free then (match env.cells.lookup x.1 with | some c => (x.1, c) :: acc | none => acc) else acc)

theorem clo_go (env : Env) : ∀ (names : Sc) (acc : List (PySem.Str × Addr)), (∀ x ∈ names, x.2 = .free → (env.cells.lookup x.1).isSome = true) →
    (forIn names acc fun (x : PySem.Str × NameKind) (cs : List (PySem.Str × Addr)) => (if x.2 == .free then do let c ← cellOf env x.1; pure (ForInStep.yield ((x.1, c) :: cs)) else pure (ForInStep.yield cs) : Sem _)) = pure (clo env names acc)
  | [], _, _ => rfl
  | x :: r, acc, h => by
    rw [List.forIn_cons]
    have ih := fun acc => clo_go env r acc fun y hy => h y (.tail _ hy)
    by_cases q : (x.2 == .free) = true
    · obtain ⟨c, hc⟩ := Option.isSome_iff_exists.mp (h x (.head _) (by simpa using q))
      simp only [q, if_true, cellOf, hc, clo]
      exact ih _
    · simp only [q, if_false, clo]
      exact ih _

theorem closure_eq {scope : Scope} (h : ∀ x ∈ scope.names, x.2 = .free → (env.cells.lookup x.1).isSome = true) : closureFor scope env = pure (clo env scope.names []) := by
  have e := clo_go env scope.names [] h
  exact (congrArg (· >>= fun r => pure r) e : _)

theorem clo_mem : ∀ {names : Sc} {acc : List (PySem.Str × Addr)} {n : PySem.Str} {c : Addr}, (n, c) ∈ clo env names acc → (n, c) ∈ acc ∨ ((n, .free) ∈ names ∧ env.cells.lookup n = some c)
  | [], _, _, _, h => .inl h
  | x :: r, acc, n, c, h => by
    simp only [clo] at h
    rcases clo_mem h with h | h
    · split at h
      · rename_i q
        split at h
        · rename_i c' hc
          rcases List.mem_cons.mp h with e | h
          · cases e
            refine .inr ⟨?_, hc⟩
            have : x.2 = .free := by simpa using q
            rw [← this]; exact .head _
          · exact .inl h
        · exact .inl h
      · exact .inl h
    · exact .inr ⟨.tail _ h.1, h.2⟩

theorem clo_look : ∀ {names : Sc} {acc : List (PySem.Str × Addr)} {n : PySem.Str}, (∀ c, (n, c) ∈ acc → env.cells.lookup n = some c) → (n, .free) ∈ names ∨ acc.lookup n = env.cells.lookup n → (clo env names acc).lookup n = env.cells.lookup n
  | [], _, _, _, h => h.resolve_left (fun z => by cases z)
  | x :: r, acc, n, ha, h => by
    simp only [clo]
    have hacc' : ∀ c, (n, c) ∈ (if (x.2 == .free) = true then (match env.cells.lookup x.1 with | some c => (x.1, c) :: acc | none => acc) else acc) → env.cells.lookup n = some c := by
      intro c hc
      split at hc
      · split at hc
        · rename_i c' hc'
          rcases List.mem_cons.mp hc with e | hc
          · cases e; exact hc'
          · exact ha c hc
        · exact ha c hc
      · exact ha c hc
    refine clo_look hacc' ?_
    by_cases q : (n, .free) ∈ r
    · exact .inl q
    · right
      by_cases z : x.1 = n
      · by_cases z2 : x.2 = .free
        · rw [if_pos (by simpa using z2), z]
          cases hc : env.cells.lookup n with
          | some c => simp [List.lookup_cons]
          | none =>
            dsimp only
            cases hl : acc.lookup n with
            | none => rfl
            | some c => have := ha c (mem_of_lookup hl); rw [hc] at this; cases this
        · rw [if_neg (by simpa using z2)]
          refine h.resolve_left fun hm => ?_
          rcases List.mem_cons.mp hm with e | hm
          · exact z2 (by rw [← e])
          · exact q hm
      · have hl : acc.lookup n = env.cells.lookup n := h.resolve_left fun hm => by
          rcases List.mem_cons.mp hm with e | hm
          · exact z (by rw [← e])
          · exact q hm
        have hb : (n == x.1) = false := by simpa using fun e => z e.symm
        split
        · split
          · rw [List.lookup_cons, hb]; exact hl
          · exact hl
        · exact hl
end
end Mine
end

section
set_option genInjectivity false
set_option genSizeOf false
set_option maxRecDepth 100000
namespace Mine
open PySem PySem.W PyProof.Rows

section
variable {G : Gd} {N : Names} {C : Calls} {d : Dp} {sc : Sc} {Γ : Gam} {A : Around} {t : Tie} {st st' : MS} {s : Shared} {env : Env} {loc : Loc} {X Y Z : V} {v w : Value}

theorem FrOk.stepX {X : Addr → Prop} {t' : Tie} {s' : Shared} (F : FrOk G A t env Γ loc s) (R : Rel G t st s) (S : Step X t t' s s') (xp : ∀ a, X a → t.pv a) (hl : ¬ X env.locals) (hc : ∀ n c, env.cells.lookup n = some c → ¬ X c) (nf : ∀ a, X a → ¬ t.Fr a) : FrOk G A t' env Γ loc s' where
  sk := F.sk.step R S fun a x f => (nf a x f).elim
  fn := F.fn
  gl := F.gl
  bl := F.bl
  pvl := by rw [S.le.pv]; exact F.pvl
  pvc n c h := by rw [S.le.pv]; exact F.pvc n c h
  apart := F.apart
  ex := by
    obtain ⟨m, cm, ⟨o, es, ep, ho, r⟩, hcc, hz, hs⟩ := F.ex
    obtain ⟨sl, ho'⟩ := Step.pvk S R F.pvl hl ho
    refine ⟨m, cm, ⟨_, es, ep, ho', r⟩, fun n c e => ?_, hz, fun i x X e1 e2 => ?_⟩
    · obtain ⟨oc, h1, h2⟩ := hcc n c e
      obtain ⟨sl, h1'⟩ := Step.pvk S R (F.pvc n c e) (hc n c e) h1
      exact ⟨_, h1', h2⟩
    · obtain ⟨v, hv, r⟩ := hs i x X e1 e2
      exact ⟨v, VRel.step S xp X hv, r⟩

theorem FrOk.hideGrow {s' : Shared} {P : Addr → Prop} (F : FrOk G A t env Γ loc s) (np : ∀ a, P a → s.heap.get? a = none) (hk : ∀ b o, s.heap.get? b = some o → s'.heap.get? b = some o) (hg : s'.gens = s.gens) (ho : s'.os = s.os) : FrOk G A (t.hide P) env Γ loc s' where
  sk := ⟨F.sk.fr, fun e he => let ⟨h1, L, o, h2, h3, h4, h5⟩ := F.sk.ob e he; ⟨h1, L, o, h2, .inl h3, hk _ _ h4, h5⟩⟩
  fn := F.fn
  gl := F.gl
  bl := F.bl
  pvl := .inl F.pvl
  pvc n c h := .inl (F.pvc n c h)
  apart := F.apart
  ex := by
    have S : Step noX (t.hide P) (t.hide P) s s' := ⟨.refl _, fun a o e _ _ _ => hk a o e, fun a o e _ _ _ => ⟨o.slots, hk a o e⟩, fun _ o => .inl o, fun a o e => by rw [hk a o e]; rfl, hg, ho⟩
    obtain ⟨m, cm, hn, hcc, hz, hs⟩ := F.ex
    refine ⟨m, cm, hn.keeps hk, fun n c e => ?_, hz, fun i x X e1 e2 => ?_⟩
    · obtain ⟨oc, h1, h2⟩ := hcc n c e
      exact ⟨oc, hk _ _ h1, h2⟩
    · obtain ⟨v, hv, r⟩ := hs i x X e1 e2
      exact ⟨v, VRel.step S (fun _ z => z.elim) X (VRel.hide np X hv), r⟩

theorem compSc_eq {scope : Scope} (hf : env.scope.kind = .function) (hsc : env.scope.names = sc) : (relabel scope env).names = compSc sc scope.names := by
  unfold relabel compSc
  dsimp only
  refine List.map_congr_left fun x hx => ?_
  obtain ⟨n, k⟩ := x
  simp only [hf, Env.kindOf, hsc, BEq.rfl, Bool.and_true]

theorem compSc_cell : ∀ {names : Sc} {y : PySem.Str}, (∀ z ∈ names, z.2 ≠ .cell) → (compSc sc names).lookup y = some .cell → (y, .free) ∈ names ∧ sc.lookup y = some .cell
  | [], _, _, h => by cases h
  | x :: r, y, hn, h => by
    have ih := @compSc_cell r y (fun z hz => hn z (.tail _ hz))
    obtain ⟨n, k⟩ := x
    change List.lookup y ((if k == .free && sc.lookup n == some .cell then (n, .cell) else (n, k)) :: compSc sc r) = some .cell at h
    by_cases q : (k == .free && sc.lookup n == some .cell) = true
    · rw [if_pos q, List.lookup_cons] at h
      simp only [Bool.and_eq_true, beq_iff_eq] at q
      cases z : y == n with
      | true =>
        have e : y = n := by simpa using z
        subst e
        exact ⟨by rw [← q.1]; exact .head _, q.2⟩
      | false => rw [z] at h; exact ⟨.tail _ (ih h).1, (ih h).2⟩
    · rw [if_neg q, List.lookup_cons] at h
      cases z : y == n with
      | true => rw [z] at h; cases h; exact absurd rfl (hn _ (.head _))
      | false => rw [z] at h; exact ⟨.tail _ (ih h).1, (ih h).2⟩

structure CompOk (sc : Sc) (scope : Scope) (slot : Nat) (Γ : Gam) (x : PySem.Str) : Prop where
  fn : scope.kind = .function
  slot : slot < Γ.length
  x : scope.names.lookup x = some .local
  cell : ∀ y ∈ scope.names, y.2 ≠ .cell
  loc : ∀ y ∈ scope.names, y.2 = .local → scope.names.lookup y.1 = some .local
  free : ∀ y ∈ scope.names, y.2 = .free → sc.lookup y.1 = some .cell
theorem compOk_real {scope : Scope} {slot : Nat} {x : PySem.Str} (h : compOk sc scope slot Γ x = true) : CompOk sc scope slot Γ x := by
  simp only [compOk, Bool.and_eq_true, beq_iff_eq, decide_eq_true_eq, List.all_eq_true] at h
  obtain ⟨⟨⟨h1, h2⟩, h3⟩, h4⟩ := h
  refine ⟨h1, h2, h3, fun y hy z => ?_, fun y hy z => ?_, fun y hy z => ?_⟩
  · have := h4 y hy; simp [z] at this
  · have := h4 y hy; simpa [z] using this
  · have := h4 y hy; simpa [z] using this

theorem FrOk.comp {scope : Scope} {slot : Nat} {x : PySem.Str} {Ca : Addr} {m : PySem.Str → Option Value} (F : FrOk G A t env Γ loc s) (hsc : env.scope.names = sc) (K : CompOk sc scope slot Γ x) (hC : t.pv Ca) (hn : s.heap.Ns Ca m) (hm : m x = some v) (hv : VRel t s.heap X v) :
    FrOk G A t (compEnvC scope (clo env scope.names []) Ca env) (compGam (compSc sc scope.names) Γ slot x) (loc.set slot (some X)) s := by
  have hsc' := compSc_eq (scope := scope) F.fn hsc
  obtain ⟨m0, cm, hn0, hcc, hz, hs⟩ := F.ex
  have lk : ∀ n c, (clo env scope.names []).lookup n = some c → env.cells.lookup n = some c := fun n c e => (clo_mem (mem_of_lookup e)).elim (fun z => by cases z) fun z => z.2
  refine ⟨F.sk, K.fn, F.gl, F.bl, hC, fun n c h => ?_, fun n n' c h h' => F.apart n n' c (lk n c h) (lk n' c h'), m, cm, hn, fun n c e => hcc n c (lk n c e), fun y hy => ?_, fun i y Y e1 e2 => ?_⟩
  · exact F.pvc n c (lk n c h)
  · change (relabel scope env).names.lookup y = some .cell at hy
    rw [hsc'] at hy
    obtain ⟨h1, h2⟩ := compSc_cell K.cell hy
    show ((clo env scope.names []).lookup y).isSome = true
    rw [clo_look (fun c z => by cases z) (.inl h1)]
    exact hz y (by unfold Env.kindOf; rw [hsc]; exact h2)
  · unfold compGam at e1
    by_cases q : i = slot
    · subst q
      rw [List.getElem?_set_self (by rw [List.length_map]; exact K.slot)] at e1
      cases e1
      have e2' : Y = X := by
        by_cases hl2 : i < loc.length
        · rw [List.getElem?_set_self hl2] at e2; cases e2; rfl
        · rw [List.getElem?_eq_none (by rw [List.length_set]; omega)] at e2; cases e2
      subst e2'
      exact ⟨v, hv, .inl ⟨lookup_relabel_local K.x, hm⟩⟩
    · rw [List.getElem?_set_ne (fun z => q z.symm), List.getElem?_map] at e1
      rw [List.getElem?_set_ne (fun z => q z.symm)] at e2
      obtain ⟨o, ho, e3⟩ := Option.map_eq_some_iff.mp e1
      cases o with
      | none => cases e3
      | some n =>
        dsimp only at e3
        split at e3
        · rename_i hcell
          obtain rfl : n = y := by cases e3; rfl
          have hcell : (compSc sc scope.names).lookup n = some .cell := by simpa using hcell
          obtain ⟨h1, h2⟩ := compSc_cell K.cell hcell
          obtain ⟨u, u1, u2⟩ := hs i n Y ho e2
          have hk : env.kindOf n = some .cell := by unfold Env.kindOf; rw [hsc]; exact h2
          refine ⟨u, u1, .inr ⟨?_, ?_⟩⟩
          · show (relabel scope env).names.lookup n = some .cell
            rw [hsc']; exact hcell
          · rcases u2 with ⟨z, _⟩ | ⟨_, z⟩
            · rw [hk] at z; cases z
            · exact z
        · cases e3
end
end Mine
end

section
set_option genInjectivity false
set_option genSizeOf false
set_option maxRecDepth 100000
namespace Mine
open PySem PySem.W PyProof.Rows

section
variable {G : Gd} {N : Names} {C : Calls} {d : Dp} {sc : Sc} {Γ : Gam} {A : Around} {t : Tie} {st st' : MS} {s : Shared} {env : Env} {loc : Loc} {X Y Z : V} {v w : Value}

inductive CondSim (G : Gd) (C : Calls) (d : Dp) (sc : Sc) (Γ : Gam) : Option E → List PySem.Expr → Prop
  | none : CondSim G C d sc Γ none []
  | some {c : E} {ci : PySem.Expr} : SimT G C d sc Γ c ci → CondSim G C d sc Γ (some c) [ci]

noncomputable def condRun (P : Prog) (C : Calls) (cond : Option E) (loc : Loc) (st : MS) : Res Bool :=
  match evC P C cond with
  | some c => (c loc st).bind truth
  | none => .ok true st

theorem cond_go {cond : Option E} {ifs : List PySem.Expr} (h : CondSim G C d sc Γ cond ifs) (hA : AOk d A) (hsc : env.scope.names = sc) (F : FrOk G A t env Γ loc s) (R : Rel G t st s) {b : Bool} (e : condRun G.P C cond loc st = .ok b st') :
    Sim G A t s (forIn ifs true fun c r => if r = true then do let ok ← isTrue c env (eval c env); pure (ForInStep.yield ok) else pure (ForInStep.yield r)) st' (fun _ _ b' => b' = b) := by
  cases h with
  | none =>
    cases e
    exact fun Q E k => wpAny_pure (k true t s (.refl _ _ _) R rfl)
  | @some c ci h =>
    simp only [condRun, evC] at e
    obtain ⟨v, s1, e1, e⟩ := Res.bind_ok e
    obtain ⟨rfl, rfl⟩ := truth_ok e
    intro Q E k
    rw [List.forIn_cons]
    simp only [if_true]
    refine wpAny_bind (wpAny_bind (h t st s env loc b _ A hA hsc F R e1 _ _ fun b' t1 σ1 S1 R1 r1 => ?_))
    exact wpAny_pure (wpAny_pure (k b' t1 σ1 S1 R1 r1))

inductive CEnd (G : Gd) (A : Around) (t : Tie) (σ : Shared) (st' : MS) (vs : List V) (env : Env) (Γ : Gam) (loc : Loc) (Ca D : Addr) (se : Shared) : Prop
  | mk (P : Addr → Prop) (τ : Tie) (s0 s1 : Shared) (ys : Array Value) (m : PySem.Str → Option Value)
    (np : ∀ a, P a → σ.heap.get? a = none) (pC : P Ca) (pD : P D) (DC : D ≠ Ca) (hk : ∀ b o, σ.heap.get? b = some o → s0.heap.get? b = some o) (hg : s0.gens = σ.gens) (ho : s0.os = σ.os) (S : Step P (t.hide P) τ s0 s1) (R : Rel G τ st' s1) (F : FrOk G A τ env Γ loc s1)
    (hD : PL s1.heap D ys) (hv : VRels τ s1.heap vs ys.toList) (hz : vs.length ≤ sizeMax) (hn : se.heap.Ns Ca m) (hx : ∀ b o, (P b → b = Ca ∨ b = D) → s1.heap.get? b = some o → se.heap.get? b = some o) (hg1 : se.gens = s1.gens) (ho1 : se.os = s1.os) : CEnd G A t σ st' vs env Γ loc Ca D se

theorem compLoop_nil_ok {st₀ : MS} {range : Bool} {src : V} {slot : Nat} {cnd : Option (Loc → MS → Res V)} {el : Loc → MS → Res V} {l : Loc} {acc vs : List V} {s s' : MS} (e : compLoop st₀ range src slot cnd el l acc [] s = .ok vs s') : stays st₀ s range src = true ∧ acc = vs ∧ s = s' := by
  simp only [compLoop_nil] at e
  split at e
  · rename_i h
    cases e; exact ⟨h, rfl, rfl⟩
  · cases e
theorem compLoop_cons_ok {st₀ : MS} {range : Bool} {src x : V} {xs : List V} {slot : Nat} {P : Prog} {C : Calls} {cond : Option E} {el : Loc → MS → Res V} {l : Loc} {acc vs : List V} {s s' : MS} (e : compLoop st₀ range src slot (evC P C cond) el l acc (x :: xs) s = .ok vs s') :
    stays st₀ s range src = true ∧ ∃ b s2, condRun P C cond (l.set slot (some x)) s = .ok b s2 ∧
      (b = false ∧ compLoop st₀ range src slot (evC P C cond) el l acc xs s2 = .ok vs s' ∨ b = true ∧ ∃ y s4, el (l.set slot (some x)) s2 = .ok y s4 ∧ acc.length + 1 ≤ sizeMax ∧ compLoop st₀ range src slot (evC P C cond) el l (acc ++ [y]) xs s4 = .ok vs s') := by
  simp only [compLoop_cons] at e
  split at e
  case isFalse => cases e
  rename_i h
  obtain ⟨b, s2, e2, e⟩ := Res.bind_ok e
  refine ⟨h, b, s2, e2, ?_⟩
  cases b with
  | false =>
    simp only [Bool.false_eq_true, if_false] at e
    exact .inl ⟨rfl, e⟩
  | true =>
    simp only [if_true] at e
    obtain ⟨y, s4, e4, e⟩ := Res.bind_ok e
    split at e
    case isFalse => cases e
    rename_i hlen
    exact .inr ⟨rfl, y, s4, e4, hlen, e⟩
inductive CInv (G : Gd) (A : Around) (C : Calls) (t : Tie) (env : Env) (Γ : Gam) (loc : Loc) (P : Addr → Prop) (Ca D I : Addr) (s0 : Shared) (st₀ : MS) (range : Bool) (src : V) (xs : List V) (slot : Nat) (cond : Option E) (el : E) (vs : List V) (st' : MS) : Nat → Shared → Prop
  | mk (τ : Tie) (σ1 : Shared) (sti : MS) (ys : Array Value) (m : PySem.Str → Option Value) (done rest acc : List V) (hxs : xs = done ++ rest) (S : Step P (t.hide P) τ s0 σ1) (R : Rel G τ sti σ1) (F : FrOk G A τ env Γ loc σ1) (hn : σ1.heap.Ns Ca m) (hD : PL σ1.heap D ys)
      (hacc : VRels τ σ1.heap acc ys.toList) (hsz : acc.length ≤ sizeMax) (hI : ItOk G st₀ τ σ1 I range src done.length) (e : compLoop st₀ range src slot (evC G.P C cond) (ev G.P C el) loc acc rest sti = .ok vs st') : CInv G A C t env Γ loc P Ca D I s0 st₀ range src xs slot cond el vs st' rest.length σ1

theorem ns_some {h : Heap} {a : Addr} {m : PySem.Str → Option Value} (q : h.Ns a m) : (h.get? a).isSome = true := by obtain ⟨o, _, _, q, _⟩ := q; rw [q]; rfl
theorem pl_some {h : Heap} {a : Addr} {ys : Array Value} (q : PL h a ys) : (h.get? a).isSome = true := by obtain ⟨k, q⟩ := q; rw [q]; rfl
theorem ns_keep {h h' : Heap} {a : Addr} {m : PySem.Str → Option Value} (q : h.Ns a m) (k : ∀ o, h.get? a = some o → h'.get? a = some o) : h'.Ns a m := by obtain ⟨o, es, ep, q1, q2⟩ := q; exact ⟨o, es, ep, k o q1, q2⟩
theorem pl_keep {h h' : Heap} {a : Addr} {ys : Array Value} (q : PL h a ys) (k : ∀ o, h.get? a = some o → h'.get? a = some o) : PL h' a ys := by obtain ⟨z, q⟩ := q; exact ⟨z, k _ q⟩
theorem comp_turn {range : Bool} {src : V} {xs vs : List V} {st₀ : MS} {slot : Nat} {cond : Option E} {el : E} {elt : PySem.Expr} {ifs : List PySem.Expr} {scope : Scope} {x : PySem.Str} {px : Pos} {P : Addr → Prop} {Ca D I : Addr} {σ s0 : Shared} {RN J : Shared → Prop} {EE : Value → Shared → Prop} {τ : Tie} {σ1 : Shared} {sti : MS} {ys : Array Value} {m : PySem.Str → Option Value} {done rest acc : List V}
    (hq : d.q = true) (hA : AOk d A) (hsc : env.scope.names = sc) (K : CompOk sc scope slot Γ x)
    (hcond : CondSim G C d (compSc sc scope.names) (compGam (compSc sc scope.names) Γ slot x) cond ifs) (hel : SimE G C d (compSc sc scope.names) (compGam (compSc sc scope.names) Γ slot x) el elt)
    (nF0 : ∀ a, P a → ¬ (t.hide P).Fr a) (np : ∀ a, P a → σ.heap.get? a = none) (pC : P Ca) (pD : P D) (pI : P I) (pO : ∀ a, P a → a = Ca ∨ a = D ∨ a = I) (DC : D ≠ Ca) (DI : D ≠ I) (CI : Ca ≠ I) (hk0 : ∀ b o, σ.heap.get? b = some o → s0.heap.get? b = some o) (hg0 : s0.gens = σ.gens) (ho0 : s0.os = σ.os)
    (hsc' : (compEnvC scope (clo env scope.names []) Ca env).scope.names = compSc sc scope.names) (fl : ¬ P env.locals) (fc : ∀ n c, env.cells.lookup n = some c → ¬ P c)
    (hx : itemsOf st₀ range src = some xs) (hxs : xs = done ++ rest) (S : Step P (t.hide P) τ s0 σ1) (R : Rel G τ sti σ1) (F : FrOk G A τ env Γ loc σ1) (hn : σ1.heap.Ns Ca m) (hD : PL σ1.heap D ys)
    (hacc : VRels τ σ1.heap acc ys.toList) (hsz : acc.length ≤ sizeMax) (hI : ItOk G st₀ τ σ1 I range src done.length) (e : compLoop st₀ range src slot (evC G.P C cond) (ev G.P C el) loc acc rest sti = .ok vs st')
    (hRN : ∀ se, CEnd G A t σ st' vs env Γ loc Ca D se → RN se) (hJ : ∀ m s, m < rest.length → CInv G A C t env Γ loc P Ca D I s0 st₀ range src xs slot cond el vs st' m s → J s) :
    wpAny G.M A (pyNext (.ref I)) (fun r s₁ => match r with
      | none => RN s₁
      | some v => wpAny G.M A (assign (.Name x px) (compEnvC scope (clo env scope.names []) Ca env) v) (fun _ s₂ =>
          wpAny G.M A (forIn ifs true fun c r => if r = true then do let ok ← isTrue c (compEnvC scope (clo env scope.names []) Ca env) (eval c (compEnvC scope (clo env scope.names []) Ca env)); pure (ForInStep.yield ok) else pure (ForInStep.yield r)) (fun ok s₃ =>
            if ok = true then wpAny G.M A (eval elt (compEnvC scope (clo env scope.names []) Ca env)) (fun x s₄ => wpAny G.M A (call (.builtin "list.append") [.ref D, x]) (fun _ s₅ => J s₅) EE s₄) EE s₃
            else J s₃) EE s₂) EE s₁) EE σ1 := by
  have hpv : ∀ a, P a → τ.pv a := fun a q => by rw [S.le.pv]; exact .inr q
  have nF : ∀ a, P a → ¬ τ.Fr a := fun a q f => nF0 a q (S.le.fr f)
  cases rest with
  | nil =>
    obtain ⟨hst, e1, e2⟩ := compLoop_nil_ok e
    have hI' : ItOk G st₀ τ σ1 I range src xs.length := by rw [hxs, List.append_nil]; exact hI
    refine it_end R (hA.hd hq) hx hst hI' fun h' tk hext => ?_
    refine hRN _ ⟨P, τ, s0, σ1, ys, m, np, pC, pD, DC, hk0, hg0, ho0, S, e2 ▸ R, F, hD, e1 ▸ hacc, e1 ▸ hsz, ?_, ?_, rfl, rfl⟩
    · exact ns_keep hn fun o q => hext _ _ CI q
    · exact fun b o hb eb => hext b o (fun z => (hb (z ▸ pI)).elim (fun y => CI (y.symm.trans z)) fun y => DI (y.symm.trans z)) eb
  | cons x0 rest =>
    refine byQ fun Q' k' => ?_
    obtain ⟨hst, b, s2, e2, e⟩ := compLoop_cons_ok e
    refine k' ?_
    have hi : xs[done.length]? = some x0 := by rw [hxs, List.getElem?_append_right (Nat.le_refl _), Nat.sub_self]; rfl
    refine it_next R (hpv I pI) hx hst hI hi fun v h1 tk1 SA RA rv hIA => ?_
    -- the frame stands
    have FA : FrOk G A τ env Γ loc { σ1 with heap := h1, toks := tk1 } := F.stepX R SA (fun a z => by rw [z]; exact hpv _ pI) (fun z => fl (by rw [z]; exact pI)) (fun n c hc z => fc n c hc (by rw [z]; exact pI)) fun a z => by rw [z]; exact nF _ pI
    have hnA : Heap.Ns h1 Ca m := ns_keep hn fun o q => SA.keep _ _ q (R.pv _ (hpv _ pC)) CI (nF _ pC)
    have hDA : PL h1 D ys := pl_keep hD fun o q => SA.keep _ _ q (R.pv _ (hpv _ pD)) DI (nF _ pD)
    have haccA := VRels.step SA (fun a z => by rw [z]; exact hpv _ pI) _ hacc
    refine wpAny_assign_Name (wpAny_storeName_local (lookup_relabel_local K.x) (s := { σ1 with heap := h1, toks := tk1 }) hnA (fun h2 hn2 hs2 => ?_) (by simp [compEnvC, relabel, K.fn]))
    change Heap.Ns h2 Ca _ at hn2
    change Heap.SameBut Ca h1 h2 at hs2
    have hl2 : (h2.get? Ca).isSome = true := ns_some hn2
    have SB : Step (· = Ca) τ τ { σ1 with heap := h1, toks := tk1 } { σ1 with heap := h2, toks := tk1 + 1 } := Step.priv rfl hl2 hs2
    have RB : Rel G τ sti { σ1 with heap := h2, toks := tk1 + 1 } := RA.priv (hpv _ pC) hl2 hs2
    have xB : ∀ a, a = Ca → τ.pv a := fun a z => by rw [z]; exact hpv _ pC
    have FB : FrOk G A τ env Γ loc { σ1 with heap := h2, toks := tk1 + 1 } := FA.stepX RA SB xB (fun z => fl (by rw [z]; exact pC)) (fun n c hc z => fc n c hc (by rw [z]; exact pC)) fun a z => by rw [z]; exact nF _ pC
    have hDB : PL h2 D ys := pl_keep hDA fun o q => SB.keep _ _ q (RA.pv _ (hpv _ pD)) DC (nF _ pD)
    have haccB := VRels.step SB xB _ haccA
    have rvB : VRel τ h2 x0 v := VRel.step SB xB _ rv
    have hIB := hIA.step SB xB RA.pv (hpv _ pI) (fun z => CI z.symm) (nF _ pI)
    have FC := FB.comp (x := x) (X := x0) hsc K (hpv _ pC) hn2 (by simp) rvB
    have SAB : Step P (t.hide P) τ s0 { σ1 with heap := h2, toks := tk1 + 1 } := (S.trans (SA.mono fun a z => by rw [z]; exact pI)).trans (SB.mono fun a z => by rw [z]; exact pC)
    refine cond_go hcond hA hsc' FC RB e2 _ _ fun b' τ3 σ3 S3 R3 r3 => ?_
    have hpv3 : ∀ a, P a → τ3.pv a := fun a q => by rw [S3.le.pv]; exact hpv a q
    have F3 := FB.step RB S3
    have nF3 : ∀ a, P a → ¬ τ3.Fr a := fun a q f => nF a q (S3.le.fr f)
    have hn3 := ns_keep (h' := σ3.heap) hn2 fun o q => S3.keep _ _ q (RB.pv _ (hpv _ pC)) (fun z => z) (nF _ pC)
    have hD3 : PL σ3.heap D ys := pl_keep hDB fun o q => S3.keep _ _ q (RB.pv _ (hpv _ pD)) (fun z => z) (nF _ pD)
    have hacc3 := VRels.step S3 (fun _ z => z.elim) _ haccB
    have hI3 := hIB.step S3 (fun _ z => z.elim) RB.pv (hpv _ pI) (fun z => z) (nF _ pI)
    have S03 := SAB.trans (S3.mono fun a z => z.elim)
    have hxs' : xs = (done ++ [x0]) ++ rest := by rw [hxs]; simp
    rcases e with ⟨z, e⟩ | ⟨z, y, s4, e4, hlen, e⟩
    · rw [if_neg (by rw [r3, z]; exact Bool.false_ne_true)]
      exact hJ _ _ (Nat.lt_succ_self _) ⟨τ3, _, s2, ys, _, done ++ [x0], rest, acc, hxs', S03, R3, F3, hn3, hD3, hacc3, hsz, by rw [List.length_append]; exact hI3, e⟩
    · rw [if_pos (r3.trans z)]
      have FC3 := FC.step RB S3
      refine hel τ3 s2 σ3 _ (loc.set slot (some x0)) y s4 A hA hsc' FC3 R3 e4 _ _ fun u τ4 σ4 S4 R4 r4 => ?_
      have hpv4 : ∀ a, P a → τ4.pv a := fun a q => by rw [S4.le.pv]; exact hpv3 a q
      have F4 := F3.step R3 S4
      have nF4 : ∀ a, P a → ¬ τ4.Fr a := fun a q f => nF3 a q (S4.le.fr f)
      have hD4 : PL σ4.heap D ys := pl_keep hD3 fun o q => S4.keep _ _ q (R3.pv _ (hpv3 _ pD)) (fun z => z) (nF3 _ pD)
      have hacc4 := VRels.step S4 (fun _ z => z.elim) _ hacc3
      have hI4 := hI3.step S4 (fun _ z => z.elim) R3.pv (hpv3 _ pI) (fun z => z) (nF3 _ pI)
      refine wpAny_list_append_plain (hsz := by rw [size_of hacc4]; exact hsz) hD4 fun h5 hl5 hs5 => ?_
      have hl : (h5.get? D).isSome = true := pl_some hl5
      have S5 : Step (· = D) τ4 τ4 σ4 { σ4 with heap := h5, toks := σ4.toks } := Step.priv rfl hl hs5
      have xD : ∀ a, a = D → τ4.pv a := fun a z => by rw [z]; exact hpv4 _ pD
      have R5 : Rel G τ4 s4 { σ4 with heap := h5, toks := σ4.toks } := R4.priv (hpv4 _ pD) hl hs5
      have F5 := F4.stepX R4 S5 xD (fun z => fl (by rw [z]; exact pD)) (fun n c hc z => fc n c hc (by rw [z]; exact pD)) fun a z => by rw [z]; exact nF4 _ pD
      have hn5 := ns_keep (h' := h5) hn3 fun o q => S5.keep _ _ (S4.keep _ _ q (R3.pv _ (hpv3 _ pC)) (fun z => z) (nF3 _ pC)) (R4.pv _ (hpv4 _ pC)) (fun z => DC z.symm) (nF4 _ pC)
      refine hJ _ _ (Nat.lt_succ_self _) ⟨τ4, _, s4, ys.push u, _, done ++ [x0], rest, acc ++ [y], hxs', (S03.trans (S4.mono fun a z => z.elim)).trans (S5.mono fun a z => by rw [z]; exact pD), R5, F5, hn5, hl5, ?_, by rw [List.length_append]; exact hlen, ?_, e⟩
      · rw [Array.toList_push]
        exact (VRels.step S5 xD _ hacc4).append ⟨u, [], rfl, VRel.step S5 xD _ r4, rfl⟩
      · have := hI4.step S5 xD R4.pv (hpv4 _ pI) (fun z => DI z.symm) (nF4 _ pI)
        rw [List.length_append]; exact this
theorem comp_loop {range : Bool} {src : V} {xs vs : List V} {st₀ : MS} {slot : Nat} {cond : Option E} {el : E} {elt iter : PySem.Expr} {ifs : List PySem.Expr} {scope : Scope} {x : PySem.Str} {px pos : Pos} {P : Addr → Prop} {Ca D I : Addr} {σ s0 : Shared} {m0 : PySem.Str → Option Value} {RR : Result → Shared → Prop}
    (hq : d.q = true) (hA : AOk d A) (hsc : env.scope.names = sc) (K : CompOk sc scope slot Γ x)
    (hcond : CondSim G C d (compSc sc scope.names) (compGam (compSc sc scope.names) Γ slot x) cond ifs) (hel : SimE G C d (compSc sc scope.names) (compGam (compSc sc scope.names) Γ slot x) el elt)
    (nF0 : ∀ a, P a → ¬ (t.hide P).Fr a) (np : ∀ a, P a → σ.heap.get? a = none) (pC : P Ca) (pD : P D) (pI : P I) (pO : ∀ a, P a → a = Ca ∨ a = D ∨ a = I) (DC : D ≠ Ca) (DI : D ≠ I) (CI : Ca ≠ I) (hk0 : ∀ b o, σ.heap.get? b = some o → s0.heap.get? b = some o) (hg0 : s0.gens = σ.gens) (ho0 : s0.os = σ.os)
    (F0 : FrOk G A (t.hide P) env Γ loc s0) (fl : ¬ P env.locals) (fc : ∀ n c, env.cells.lookup n = some c → ¬ P c) (R0 : Rel G (t.hide P) st₀ s0) (hn0 : s0.heap.Ns Ca m0) (hD0 : PL s0.heap D #[]) (hI0 : ItOk G st₀ (t.hide P) s0 I range src 0)
    (hx : itemsOf st₀ range src = some xs) (e : compLoop st₀ range src slot (evC G.P C cond) (ev G.P C el) loc [] xs st₀ = .ok vs st')
    (hRR : ∀ se, CEnd G A t σ st' vs env Γ loc Ca D se → RR (.ok .next) se) :
    codeAny G.M A (.compLoop (.ListComp elt [⟨.Name x px, iter, ifs, 0⟩] scope pos) 0 (.ref I) (.ref D) (compEnvC scope (clo env scope.names []) Ca env)) RR s0 := by
  have hsc' : (compEnvC scope (clo env scope.names []) Ca env).scope.names = compSc sc scope.names := compSc_eq F0.fn hsc
  refine codeAny_compLoop_tests (CInv G A C t env Γ loc P Ca D I s0 st₀ range src xs slot cond el vs st') (fun n σ1 h => ?_) xs.length ⟨t.hide P, s0, st₀, #[], m0, [], xs, [], rfl, .refl _ _ _, R0, F0, hn0, hD0, rfl, Nat.zero_le _, hI0, e⟩
  cases h with
  | mk τ σ1 sti ys m done rest acc hxs S R F hn hD hacc hsz hI e =>
    exact comp_turn hq hA hsc K hcond hel nF0 np pC pD pI pO DC DI CI hk0 hg0 ho0 hsc' fl fc hx hxs S R F hn hD hacc hsz hI e (fun se => hRR se) fun m s hm h => ⟨m, hm, h⟩
end
end Mine
end

section
set_option genInjectivity false
set_option genSizeOf false
set_option maxRecDepth 100000
namespace Mine
open PySem PySem.W PyProof.Rows

noncomputable def notSet : PySem.Expr → Bool
  | .Set .. => false
  | _ => true
theorem notSet_pure {e : PySem.Expr} (h : notSet e = true) (env : Env) (x : Value) : foldedSetIterable e env x = pure x := by
  cases e <;> first | rfl | cases h

section
variable {G : Gd} {N : Names} {C : Calls} {d : Dp} {sc : Sc} {Γ : Gam} {A : Around} {t : Tie} {st st' : MS} {s : Shared} {env : Env} {loc : Loc} {X Y Z : V} {v w : Value}

theorem sys_ne (O : G.Ok N) {t : Tie} {st : MS} {σ1 σ2 : Shared} (R : Rel G t st σ1) (hk : ∀ b o, σ1.heap.get? b = some o → σ2.heap.get? b = some o) : σ2.heap.objs.size ≠ sysModules := by
  obtain ⟨mc, ⟨o, es, ep, ho, _⟩, _⟩ := O.lim
  have := Heap.lt_size (hk _ _ (R.base _ _ ho))
  intro q
  rw [q] at this
  exact absurd this (by decide)
theorem comp_go (hq : d.q = true) (O : G.Ok N) {range : Bool} {src : V} {xs vs : List V} {s1 : MS} {slot : Nat} {it : E} {cond : Option E} {el : E} {elt iast j : PySem.Expr} {ifs : List PySem.Expr} {scope : Scope} {x : PySem.Str} {px pos pos' : Pos} {use : Option (Value → Sem Unit)} {Q E' : Value → Shared → Prop}
    (hA : AOk d A) (hsc : env.scope.names = sc) (K : CompOk sc scope slot Γ x) (hset : notSet iast = true) (ha : IterAst sc range iast j) (hj : SimE G C d sc Γ it j)
    (hcond : CondSim G C d (compSc sc scope.names) (compGam (compSc sc scope.names) Γ slot x) cond ifs) (hel : SimE G C d (compSc sc scope.names) (compGam (compSc sc scope.names) Γ slot x) el elt)
    (F : FrOk G A t env Γ loc s) (R : Rel G t st s) (e1 : ev G.P C it loc st = .ok src s1) (hx : itemsOf s1 range src = some xs) (e : compLoop s1 range src slot (evC G.P C cond) (ev G.P C el) loc [] xs s1 = .ok vs st')
    (hend : ∀ t1 σ1 Ca D se, Step noX t t1 s σ1 → Rel G t1 s1 σ1 → D ≠ sysModules → CEnd G A t1 σ1 st' vs env Γ loc Ca D se → compPost G.M A E' use Q (.ref D) Ca (.ok .next) se) :
    wpAny G.M A (comprehension (.ListComp elt [⟨.Name x px, iast, ifs, 0⟩] scope pos) scope env pos' (newList []) false (eval iast env) use) Q E' s := by
  have hfree : ∀ y ∈ scope.names, y.2 = .free → (env.cells.lookup y.1).isSome = true := fun y hy z => by
    obtain ⟨_, _, _, _, hz, _⟩ := F.ex
    exact hz y.1 (by unfold Env.kindOf; rw [hsc]; exact K.free y hy z)
  refine wpAny_comprehension_free (g := ⟨.Name x px, iast, ifs, 0⟩) (gs := []) rfl (notSet_pure hset env) (closure_eq hfree) K.fn K.loc ?_
  refine iter_go O ha hj hA hsc F R e1 hx fun t1 σ1 σ2 I S1 R1 hk hI hIl hg ho hit => ?_
  refine wpAny_newObj_type (wpAny_newFunctionEnv K.cell (by intro y hy; simp at hy) (fun h₁ hns₁ hsb₁ => ?_) K.fn)
  dsimp only at hns₁ hsb₁ ⊢
  generalize hH2 : σ2.heap.push { cls := .type "list", dict := none, data := .seq ([] : List Value).toArray } = H2 at hns₁ hsb₁ ⊢
  have hC : H2.objs.size = σ2.heap.objs.size + 1 := by rw [← hH2, Heap.size_push]
  have DC : σ2.heap.objs.size ≠ H2.objs.size := by rw [hC]; exact Nat.ne_of_lt (Nat.lt_succ_self _)
  obtain ⟨oI, hoI⟩ := Option.isSome_iff_exists.mp hIl
  have ltI := Heap.lt_size hoI
  have DI : σ2.heap.objs.size ≠ I := fun z => Nat.lt_irrefl _ (z ▸ ltI)
  have CI : H2.objs.size ≠ I := fun z => by rw [hC] at z; exact absurd ltI (by rw [← z]; exact Nat.not_lt.mpr (Nat.le_succ _))
  have old : ∀ b o, σ2.heap.get? b = some o → h₁.get? b = some o := fun b o e => hsb₁.extBut b o (fun z => by
    have := Heap.lt_size e; rw [z, hC] at this; exact absurd this (Nat.not_lt.mpr (Nat.le_succ _))) (Heap.get?_push_of_some _ (hH2 ▸ Heap.get?_push_of_some _ e))
  have hacc : PL h₁ σ2.heap.objs.size #[] := ⟨_, hsb₁.extBut _ _ DC (Heap.get?_push_of_some _ (hH2 ▸ Heap.get?_push_size _ rfl))⟩
  let P : Addr → Prop := fun a => a = H2.objs.size ∨ a = σ2.heap.objs.size ∨ a = I
  have np : ∀ a, P a → σ1.heap.get? a = none := by
    rintro a (z | z | z)
    · rw [z, hC]; exact none_later hk (size_none1 _)
    · rw [z]; exact none_later hk (size_none _)
    · rw [z]; exact hI
  have hk0 : ∀ b o, σ1.heap.get? b = some o → h₁.get? b = some o := fun b o e => old b o (hk b o e)
  have hlP : ∀ a, P a → (h₁.get? a).isSome = true := by
    rintro a (z | z | z)
    · rw [z]; obtain ⟨o, _, _, q, _⟩ := hns₁; rw [q]; rfl
    · rw [z]; obtain ⟨k, q⟩ := hacc; rw [q]; rfl
    · rw [z, old _ _ hoI]; rfl
  have F1 := F.step R S1
  have notP : ∀ a, t1.pv a → ¬ P a := fun a q z => by
    have := R1.live a (.inr q)
    rw [np a z] at this; cases this
  have F0 : FrOk G A (t1.hide P) env Γ loc { σ2 with heap := h₁, toks := σ2.toks + ([] : List (PySem.Str × Value)).length } := F1.hideGrow np hk0 hg ho
  have R0 : Rel G (t1.hide P) s1 { σ2 with heap := h₁, toks := σ2.toks + ([] : List (PySem.Str × Value)).length } := R1.hideGrow np hk0 hlP hg ho
  have SG : Step noX (t1.hide P) (t1.hide P) σ1 { σ2 with heap := h₁, toks := σ2.toks + ([] : List (PySem.Str × Value)).length } := ⟨.refl _, fun a o e _ _ _ => hk0 a o e, fun a o e _ _ _ => ⟨o.slots, hk0 a o e⟩, fun _ o => .inl o, fun a o e => by show (h₁.get? a).isSome = true; rw [hk0 a o e]; rfl, hg, ho⟩
  have I0 : ItOk G s1 (t1.hide P) { σ2 with heap := h₁, toks := σ2.toks + ([] : List (PySem.Str × Value)).length } I range src 0 := hit _ _ (fun a r => VRel.step SG (fun _ z => z.elim) _ (VRel.hide np _ r)) rfl fun b o e => old b o e
  have loop : codeAny G.M A (.compLoop (.ListComp elt [⟨.Name x px, iast, ifs, 0⟩] scope pos) 0 (.ref I) (.ref σ2.heap.objs.size) (compEnvC scope (clo env scope.names []) H2.objs.size env))
      (compPost G.M A E' use Q (.ref σ2.heap.objs.size) H2.objs.size) { σ2 with heap := h₁, toks := σ2.toks + ([] : List (PySem.Str × Value)).length } :=
    comp_loop (P := P) (t := t1) (σ := σ1) hq hA hsc K hcond hel (fun a q => F1.sk.fresh (np a q)) np (.inl rfl) (.inr (.inl rfl)) (.inr (.inr rfl)) (fun a z => z) DC DI CI hk0 hg ho F0 (notP _ F1.pvl) (fun n c hc => notP _ (F1.pvc n c hc)) R0 hns₁ hacc I0 hx e fun se ce => hend t1 σ1 _ _ se S1 R1 (sys_ne O R1 hk) ce
  exact codeAny_compStart_list loop (it_self R0 (hA.hd hq) I0 loop)

noncomputable def valM (M : Option Nat) (st : MS) (vs : List V) : V := match M with | none => .lst vs | some k => .ref (k, st.cnt k)
noncomputable def stM (M : Option Nat) (st : MS) (vs : List V) : MS := match M with | none => st | some k => st.new k (.list vs)
theorem VRels.all {t t' : Tie} {h h' : Heap} (k : ∀ (X : V) (v : Value), VRel t h X v → VRel t' h' X v) : ∀ {l : List V} {vs : List Value}, VRels t h l vs → VRels t' h' l vs
  | [], _, e => e
  | x :: _, _, ⟨v, r, e, a, b⟩ => ⟨v, r, e, k x v a, VRels.all k b⟩
section
variable {P L : Addr → Prop} {τ : Tie} {σ s0 s1 se : Shared} {D : Addr} (R₁ : Rel G t st σ) (np : ∀ a, P a → σ.heap.get? a = none) (pD : P D) (hk0 : ∀ b o, σ.heap.get? b = some o → s0.heap.get? b = some o) (hg0 : s0.gens = σ.gens) (ho0 : s0.os = σ.os)
    (S : Step P (t.hide P) τ s0 s1) (R : Rel G τ st' s1) (hL : ∀ a, L a → t.pv a ∧ (se.heap.get? a).isSome = true)
    (hext : ∀ b o, (P b → b = D) → ¬ L b → s1.heap.get? b = some o → se.heap.get? b = some o) (hg : se.gens = s1.gens) (ho : se.os = s1.os)
include R₁ np pD hk0 hg0 ho0 S R hL hext hg ho
theorem end_own (hsys : D ≠ sysModules) {k : Nat} {o : MObj} (hO : ∀ t2, (∀ (X : V) (v : Value), VRel τ s1.heap X v → VRel t2 se.heap X v) → t2.ρ (k, st'.cnt k) = some D → ObjOk G t2 se.heap (k, st'.cnt k) o) :
    ∃ t2, Step L t t2 σ se ∧ Rel G t2 (st'.new k o) se ∧ VRel t2 se.heap (.ref (k, st'.cnt k)) (.ref D) ∧ t2.pv = t.pv ∧ ∀ (X : V) (v : Value), VRel τ s1.heap X v → VRel t2 se.heap X v := by
  have hpv : τ.pv = (t.hide P).pv := S.le.pv
  have nP : ∀ a, t.pv a → ¬ P a := fun a q z => by
    have := R₁.live a (.inr q)
    rw [np a z] at this; cases this
  have pτ : ∀ a, t.pv a → τ.pv a := fun a q => by rw [hpv]; exact .inl q
  have Fg : Forget P L τ { τ with pv := t.pv, st := t.st } s1 se :=
    ⟨rfl, rfl, fun a q => ⟨pτ a q, nP a q⟩, fun a q => by rw [hpv]; exact .inr q, fun a q => ⟨pτ a (hL a q).1, (hL a q).2⟩, fun b o nb nl e => hext b o (fun q => (nb q).elim) nl e, hg, ho, rfl⟩
  have S2 := Step.unhide (X := P) (fun a q => .inl q) np hk0 hg0 ho0 S Fg
  have Fg' : Forget (fun a => P a ∧ a ≠ D) L τ { τ with pv := fun a => t.pv a ∨ a = D, st := t.st } s1 se :=
    ⟨rfl, rfl, fun a q => q.elim (fun q => ⟨pτ a q, fun z => nP a q z.1⟩) (fun q => ⟨by rw [hpv, q]; exact .inr pD, fun z => z.2 q⟩), fun a q => by rw [hpv]; exact .inr q.1, fun a q => ⟨pτ a (hL a q).1, (hL a q).2⟩,
      fun b o nb nl e => hext b o (fun q => Classical.byContradiction fun z => nb ⟨q, z⟩) nl e, hg, ho, rfl⟩
  obtain ⟨c1, c2, -⟩ := R.cnt k _ (Nat.le_refl _)
  have A := (R.forget Fg').adopt (k := k) (o := o) (pv' := t.pv) (.inr rfl) (fun a => Iff.rfl) (fun q => nP D q pD) hsys fun up => hO _ (fun X v r => up X v (VRel.forget Fg' X r)) (if_pos rfl)
  exact ⟨_, S2.own (l := (k, st'.cnt k)) (np D pD) c1 c2, A.1, ⟨D, rfl, if_pos rfl⟩, rfl, fun X v r => VRel.map A.2.1 A.2.2 X (VRel.forget Fg' X r)⟩
theorem comp_end (hsys : D ≠ sysModules) {ys : Array Value} {vs : List V} (hD : PL s1.heap D ys) (hacc : VRels τ s1.heap vs ys.toList) (hsz : vs.length ≤ sizeMax) (M : Option Nat) :
    ∃ t2, Step L t t2 σ se ∧ Rel G t2 (stM M st' vs) se ∧ VRel t2 se.heap (valM M st' vs) (.ref D) ∧ t2.pv = t.pv ∧ ∀ (X : V) (v : Value), VRel τ s1.heap X v → VRel t2 se.heap X v := by
  have hpv : τ.pv = (t.hide P).pv := S.le.pv
  have nP : ∀ a, t.pv a → ¬ P a := fun a q z => by
    have := R₁.live a (.inr q)
    rw [np a z] at this; cases this
  have hD' : PL se.heap D ys := let ⟨k, q⟩ := hD; ⟨k, hext D _ (fun _ => rfl) (fun q => nP D (hL D q).1 pD) q⟩
  cases M with
  | none =>
    have pτ : ∀ a, t.pv a → τ.pv a := fun a q => by rw [hpv]; exact .inl q
    have Fg : Forget P L τ { τ with pv := t.pv, st := t.st } s1 se :=
      ⟨rfl, rfl, fun a q => ⟨pτ a q, nP a q⟩, fun a q => by rw [hpv]; exact .inr q, fun a q => ⟨pτ a (hL a q).1, (hL a q).2⟩, fun b o nb nl e => hext b o (fun q => (nb q).elim) nl e, hg, ho, rfl⟩
    refine ⟨_, Step.unhide (X := P) (fun a q => .inl q) np hk0 hg0 ho0 S Fg, R.forget Fg, ⟨D, ys, rfl, hD', ?_, hsz, VRels.forget Fg _ hacc⟩, rfl, fun X v r => VRel.forget Fg X r⟩
    rintro (q | q)
    · exact R.pv D (by rw [hpv]; exact .inr pD) q
    · exact nP D q pD
  | some k => exact end_own R₁ np pD hk0 hg0 ho0 S R hL hext hg ho hsys fun t2 up hr => ⟨D, ys, hr, hD', hsz, VRels.all up hacc⟩
end

theorem sim_comp (hq : d.q = true) (O : G.Ok N) {M : Option Nat} {range : Bool} {slot : Nat} {it : E} {cond : Option E} {el : E} {elt iast j : PySem.Expr} {ifs : List PySem.Expr} {scope : Scope} {x : PySem.Str} {px pos : Pos}
    (K : CompOk sc scope slot Γ x) (hset : notSet iast = true) (ha : IterAst sc range iast j) (hj : SimE G C d sc Γ it j)
    (hcond : CondSim G C d (compSc sc scope.names) (compGam (compSc sc scope.names) Γ slot x) cond ifs) (hel : SimE G C d (compSc sc scope.names) (compGam (compSc sc scope.names) Γ slot x) el elt) :
    SimE G C d sc Γ (.comp M slot range it cond el) (.ListComp elt [⟨.Name x px, iast, ifs, 0⟩] scope pos) := by
  intro t st s env loc X st' A hA hsc F R e Q E k
  simp only [ev_none, ev_bool, ev_int, ev_str, ev_loc, ev_gint, ev_gstr, ev_neg, ev_not, ev_and, ev_or, ev_bin, ev_cmp, ev_cmp2, ev_isC, ev_tup, ev_lst, ev_lstM, ev_dictM, ev_sub, ev_slice, ev_attr, ev_call, ev_meth, ev_new, ev_isinst, ev_prim, ev_listM, ev_dictC, ev_bm, ev_comp] at e
  obtain ⟨src, s1, e1, e⟩ := Res.bind_ok e
  split at e
  · rename_i xs hx
    obtain ⟨vs, s2, e2, e⟩ := Res.bind_ok e
    obtain ⟨rfl, rfl⟩ : X = valM M s2 vs ∧ st' = stM M s2 vs := by cases M <;> (cases e; exact ⟨rfl, rfl⟩)
    rw [eval_ListComp]
    refine comp_go (use := none) hq O hA hsc K hset ha hj hcond hel F R e1 hx e2 fun t1 σ1 Ca D se S1 R1 hsys ce => ?_
    obtain ⟨P, τ, s0, s1', ys, m, np, pC, pD, DC, hk0, hg0, ho0, S, Rr, Fr, hD, hacc, hsz, hn, hext, hg, ho⟩ := ce
    refine ⟨m, hn, fun h' hs => ?_⟩
    obtain ⟨t2, S2, R2, r2, -, -⟩ := comp_end (L := noX) (se := { se with heap := h' }) R1 np pD hk0 hg0 ho0 S Rr (fun a z => z.elim) (fun b o hb _ e => (hs.2 b fun (z : b = Ca) => DC (z ▸ hb (z ▸ pC)).symm).trans (hext b o (fun q => .inr (hb q)) e)) hg ho hsys hD hacc hsz M
    exact k _ t2 _ (S1.trans S2) R2 r2
  · cases e
end
end Mine
end

section
set_option genInjectivity false
set_option genSizeOf false
set_option maxRecDepth 100000
namespace Mine
open PySem PySem.W PyProof.Rows

noncomputable def own (env : Env) : Addr → Prop := fun a => a = env.locals ∨ ∃ n, env.cells.lookup n = some a
noncomputable def GamInj (Γ : Gam) : Prop := ∀ (i j : Nat) (y : PySem.Str), Γ[i]? = some (some y) → Γ[j]? = some (some y) → i = j

section
variable {G : Gd} {N : Names} {C : Calls} {d : Dp} {sc : Sc} {Γ : Gam} {A : Around} {t : Tie} {st st' : MS} {s : Shared} {env : Env} {loc : Loc} {X Y Z : V} {v w : Value}

theorem FrOk.ownPv (F : FrOk G A t env Γ loc s) : ∀ a, own env a → t.pv a := by
  rintro a (rfl | ⟨n, h⟩)
  · exact F.pvl
  · exact F.pvc n a h

theorem FrOk.noClass (F : FrOk G A t env Γ loc s) : (env.scope.kind == .class || (env.scope.kind == .module && env.locals != env.globals)) = false := by rw [F.fn]; rfl

theorem ns_cell {h : Heap} {a c : Addr} {m : PySem.Str → Option Value} {o : Option Value} (hn : h.Ns a m) (hc : h.IsCell c o) : c ≠ a := fun z => by
  obtain ⟨ob, es, ep, h1, h2, _⟩ := hn
  obtain ⟨oc, h3, h4⟩ := hc
  rw [z, h1] at h3
  cases h3
  rw [h2] at h4
  cases h4

theorem store_go (F : FrOk G A t env Γ loc s) (R : Rel G t st s) (gi : GamInj Γ) {i : Nat} {y : PySem.Str} (hi : Γ[i]? = some (some y)) (hk : env.kindOf y = some .local ∨ env.kindOf y = some .cell) (r : VRel t s.heap X v) {Q : Unit → Shared → Prop} {E' : Value → Shared → Prop}
    (q : ∀ s', Step (own env) t t s s' → Rel G t st s' → FrOk G A t env Γ (loc.set i (some X)) s' → Q () s') : wpAny G.M A (storeName env y v) Q E' s := by
  obtain ⟨m, cm, hn, hcc, hz, hs⟩ := F.ex
  rcases hk with hk | hk
  · refine wpAny_storeName_local hk hn (fun h' hn' hs' => ?_) F.noClass
    have hl : (h'.get? env.locals).isSome = true := by obtain ⟨o, _, _, z, _⟩ := hn'; rw [z]; rfl
    have S : Step (own env) t t s { s with heap := h', toks := s.toks + 1 } := Step.priv (.inl rfl) hl hs'
    have sk : Stk A t h' := F.sk.step R (Step.priv (X := (· = env.locals)) (tk := s.toks + 1) rfl hl hs') fun a x _ o e vs z => by
      subst x
      obtain ⟨ob, es, ep, h1, h2, _⟩ := hn'
      rw [show h'.get? env.locals = some o from e] at h1; cases h1
      rw [h2] at z; cases z
    refine q _ S (R.priv F.pvl hl hs') ⟨sk, F.fn, F.gl, F.bl, F.pvl, F.pvc, F.apart, _, cm, hn', fun n c e => ?_, hz, fun j y' Y e1 e2 => ?_⟩
    · have hc := hcc n c e
      have hne := ns_cell hn hc
      obtain ⟨oc, h3, h4⟩ := hc
      exact ⟨oc, (hs'.2 c hne).trans h3, h4⟩
    · by_cases z : j = i
      · subst z
        rw [hi] at e1; cases e1
        have e3 : Y = X := by
          by_cases hl2 : j < loc.length
          · rw [List.getElem?_set_self hl2] at e2; cases e2; rfl
          · rw [List.getElem?_eq_none (by rw [List.length_set]; omega)] at e2; cases e2
        subst e3
        exact ⟨v, VRel.step S F.ownPv _ r, .inl ⟨hk, by simp⟩⟩
      · rw [List.getElem?_set_ne (fun e => z e.symm)] at e2
        obtain ⟨u, u1, u2⟩ := hs j y' Y e1 e2
        have hne : y' ≠ y := fun e => z (gi j i y (e ▸ e1) hi)
        refine ⟨u, VRel.step S F.ownPv _ u1, u2.imp (fun p => ⟨p.1, ?_⟩) id⟩
        show (if y' = y then some v else m y') = some u
        rw [if_neg hne]; exact p.2
  · obtain ⟨c, hcl⟩ := Option.isSome_iff_exists.mp (hz y hk)
    have hc := hcc y c hcl
    have hne := ns_cell hn hc
    refine wpAny_storeName_cell F.fn hk hcl hc fun h' hc' hs' => ?_
    have hl : (h'.get? c).isSome = true := by obtain ⟨o, z, _⟩ := hc'; rw [z]; rfl
    have hmem := hcl
    have S : Step (own env) t t s { s with heap := h', toks := s.toks } := Step.priv (.inr ⟨y, hmem⟩) hl hs'
    have sk : Stk A t h' := F.sk.step R (Step.priv (X := (· = c)) (tk := s.toks) rfl hl hs') fun a x _ o e vs z => by
      subst x
      obtain ⟨ob, h1, h2⟩ := hc'
      rw [show h'.get? a = some o from e] at h1; cases h1
      rw [h2] at z; cases z
    refine q _ S (R.priv (F.pvc y c hmem) hl hs') ⟨sk, F.fn, F.gl, F.bl, F.pvl, F.pvc, F.apart, m, fun n => if n = y then some v else cm n, ?_, fun n c' e => ?_, hz, fun j y' Y e1 e2 => ?_⟩
    · obtain ⟨o, es, ep, h1, h2⟩ := hn
      exact ⟨o, es, ep, (hs'.2 _ hne.symm).trans h1, h2⟩
    · by_cases z : n = y
      · subst z
        rw [hcl] at e; cases e
        show Heap.IsCell h' c (if n = n then some v else cm n)
        rw [if_pos rfl]; exact hc'
      · have hne' : c' ≠ c := fun q => z (F.apart n y c (q ▸ e) hcl)
        obtain ⟨oc, h3, h4⟩ := hcc n c' e
        show Heap.IsCell h' c' (if n = y then some v else cm n)
        rw [if_neg z]; exact ⟨oc, (hs'.2 c' hne').trans h3, h4⟩
    · by_cases z : j = i
      · subst z
        rw [hi] at e1; cases e1
        have e3 : Y = X := by
          by_cases hl2 : j < loc.length
          · rw [List.getElem?_set_self hl2] at e2; cases e2; rfl
          · rw [List.getElem?_eq_none (by rw [List.length_set]; omega)] at e2; cases e2
        subst e3
        exact ⟨v, VRel.step S F.ownPv _ r, .inr ⟨hk, by simp⟩⟩
      · rw [List.getElem?_set_ne (fun e => z e.symm)] at e2
        obtain ⟨u, u1, u2⟩ := hs j y' Y e1 e2
        have hne : y' ≠ y := fun e => z (gi j i y (e ▸ e1) hi)
        refine ⟨u, VRel.step S F.ownPv _ u1, u2.imp id (fun p => ⟨p.1, ?_⟩)⟩
        show (if y' = y then some v else cm y') = some u
        rw [if_neg hne]; exact p.2

noncomputable def TopA (A : Around) (env : Env) : Prop := ∃ outer, A.frames = some (env :: outer) ∧ env.frame = some env.locals
noncomputable def FlRel (t : Tie) (h : Heap) : Fl → Flow → Prop
  | .next, f => f = .next
  | .ret X, f => ∃ v, f = .ret v ∧ VRel t h X v

noncomputable def SimF (G : Gd) (A : Around) (env : Env) (Γ : Gam) (t : Tie) (s : Shared) (tree : Sem Flow) (st' : MS) (fl : Fl) (loc' : Loc) : Prop :=
  ∀ (Q : Flow → Shared → Prop) (E : Value → Shared → Prop), (∀ f t' s', Step (own env) t t' s s' → Rel G t' st' s' → FrOk G A t' env Γ loc' s' → FlRel t' s'.heap fl f → Q f s') → wpAny G.M A tree Q E s
noncomputable def SimS (G : Gd) (C : Calls) (d : Dp) (sc : Sc) (Γ : Gam) (n : Nat) (x : S) (ast : Stmt) : Prop :=
  ∀ t st s env loc fl loc' st' A, AOk d A → TopA A env → env.scope.names = sc → FrOk G A t env Γ loc s → Rel G t st s → ex G.P C n x loc st = .ok (fl, loc') st' → SimF G A env Γ t s (exec ast env) st' fl loc'
noncomputable def SimB (G : Gd) (C : Calls) (d : Dp) (sc : Sc) (Γ : Gam) (n : Nat) (l : List S) (m : List Stmt) : Prop :=
  ∀ t st s env loc fl loc' st' A, AOk d A → TopA A env → env.scope.names = sc → FrOk G A t env Γ loc s → Rel G t st s → exs G.P C n l loc st = .ok (fl, loc') st' → SimF G A env Γ t s (execs m env) st' fl loc'

variable {n : Nat}

theorem SimF.ofE {A : Around} {tree : Sem Flow} {fl : Fl} {loc' : Loc} {t1 : Tie} {s1 : Shared} (S : Step noX t t1 s s1) (h : SimF G A env Γ t1 s1 tree st' fl loc') {Q : Flow → Shared → Prop} {E' : Value → Shared → Prop}
    (k : ∀ f t' s', Step (own env) t t' s s' → Rel G t' st' s' → FrOk G A t' env Γ loc' s' → FlRel t' s'.heap fl f → Q f s') : wpAny G.M A tree Q E' s1 :=
  h Q E' fun f t' s' S' R' F' r => k f t' s' ((S.mono fun _ z => z.elim).trans S') R' F' r

theorem simB_nil : SimB G C d sc Γ n [] [] := by
  intro t st s env loc fl loc' st' A hA hT hsc F R e Q E k
  simp only [exs_nil, exs_cons] at e
  cases e
  exact wpAny_execs_nil (k _ t s (.refl _ _ _) R F rfl)
theorem simB_cons {x : S} {l : List S} {ast : Stmt} {m : List Stmt} (h1 : SimS G C d sc Γ n x ast) (h2 : SimB G C d sc Γ n l m) : SimB G C d sc Γ n (x :: l) (ast :: m) := by
  intro t st s env loc fl loc' st' A hA hT hsc F R e Q E k
  simp only [exs_nil, exs_cons] at e
  obtain ⟨⟨f1, l1⟩, s1, e1, e⟩ := Res.bind_ok e
  refine wpAny_execs_cons (h1 t st s env loc f1 l1 s1 A hA hT hsc F R e1 _ _ fun f t1 σ1 S1 R1 F1 r1 => ?_)
  cases f1 with
  | next =>
    have r1 : f = .next := r1
    subst r1
    exact h2 t1 s1 σ1 env l1 fl loc' st' A hA hT hsc F1 R1 e _ _ fun f t2 σ2 S2 R2 F2 r2 => k f t2 σ2 (S1.trans S2) R2 F2 r2
  | ret X =>
    obtain ⟨v, rfl, r⟩ := r1
    cases e
    exact k _ t1 σ1 S1 R1 F1 ⟨v, rfl, r⟩

noncomputable def notComp : PySem.Expr → Bool
  | .ListComp .. => false
  | .SetComp .. => false
  | .DictComp .. => false
  | _ => true
theorem swaps_no {e : PySem.Expr} (h : notComp e = true) (tg : Option PySem.Expr) (ln : Nat) (env : Env) : swapsWith e tg ln env = pure false := by
  cases e <;> first | rfl | cases h

theorem simS_ret0 {pos : Pos} : SimS G C d sc Γ n (.ret none) (.Return none pos) := by
  intro t st s env loc fl loc' st' A hA hT hsc F R e Q E k
  simp only [ex_expr, ex_assign, ex_setattr, ex_setitem, ex_unpack, ex_ite, ex_for, ex_while, ex_ret, ex_raise, ex_try, ex_pass] at e
  cases e
  exact wpAny_Return_none (k _ t s (.refl _ _ _) R F ⟨_, rfl, rfl⟩)
theorem simS_ret {a : E} {x : PySem.Expr} {pos : Pos} (ha : SimE G C d sc Γ a x) : SimS G C d sc Γ n (.ret (some a)) (.Return (some x) pos) := by
  intro t st s env loc fl loc' st' A hA hT hsc F R e Q E k
  simp only [ex_expr, ex_assign, ex_setattr, ex_setitem, ex_unpack, ex_ite, ex_for, ex_while, ex_ret, ex_raise, ex_try, ex_pass] at e
  obtain ⟨V, s1, e1, e⟩ := Res.bnd_ok e
  cases e
  refine wpAny_Return_some (ha t st s env loc _ _ A hA hsc F R e1 _ _ fun v t1 σ1 S1 R1 r1 => ?_)
  exact k _ t1 σ1 (S1.mono fun _ z => z.elim) R1 (F.step R S1) ⟨v, rfl, r1⟩

noncomputable def kindOk (sc : Sc) (y : PySem.Str) : Bool := sc.lookup y == some .local || sc.lookup y == some .cell
theorem kindOk_real (hsc : env.scope.names = sc) {y : PySem.Str} (h : kindOk sc y = true) : env.kindOf y = some .local ∨ env.kindOf y = some .cell := by
  unfold Env.kindOf; rw [hsc]
  simpa [kindOk] using h

theorem simS_assign (gi : GamInj Γ) {i : Nat} {y : PySem.Str} {a : E} {x : PySem.Expr} {yp pos : Pos} (hi : Γ[i]? = some (some y)) (hk : kindOk sc y = true) (hx : notComp x = true) (ha : SimE G C d sc Γ a x) : SimS G C d sc Γ n (.assign i a) (.Assign [.Name y yp] x pos) := by
  intro t st s env loc fl loc' st' A hA hT hsc F R e Q E k
  simp only [ex_expr, ex_assign, ex_setattr, ex_setitem, ex_unpack, ex_ite, ex_for, ex_while, ex_ret, ex_raise, ex_try, ex_pass] at e
  obtain ⟨V, s1, e1, e⟩ := Res.bnd_ok e
  split at e
  case isFalse => cases e
  cases e
  refine wpAny_Assign_Name (ha t st s env loc _ _ A hA hsc F R e1 _ _ fun v t1 σ1 S1 R1 r1 => ?_) (swaps_no hx _ _ _)
  exact store_go (F.step R S1) R1 gi hi (kindOk_real hsc hk) r1 fun σ2 S2 R2 F2 => k _ t1 σ2 ((S1.mono fun _ z => z.elim).trans S2) R2 F2 rfl

theorem simS_ite {c : E} {b1 b2 : List S} {x : PySem.Expr} {m1 m2 : List Stmt} {pos : Pos} (hc : SimT G C d sc Γ c x) (h1 : SimB G C d sc Γ n b1 m1) (h2 : SimB G C d sc Γ n b2 m2) : SimS G C d sc Γ n (.ite c b1 b2) (.If x m1 m2 pos) := by
  intro t st s env loc fl loc' st' A hA hT hsc F R e Q E k
  simp only [ex_expr, ex_assign, ex_setattr, ex_setitem, ex_unpack, ex_ite, ex_for, ex_while, ex_ret, ex_raise, ex_try, ex_pass] at e
  obtain ⟨V, s1, e1, e⟩ := Res.bnd_ok e
  obtain ⟨b, s2, e2, e⟩ := Res.bnd_ok e
  obtain ⟨rfl, rfl⟩ := truth_ok e2
  refine wpAny_If (hc t st s env loc b _ A hA hsc F R e1 _ _ fun b' t1 σ1 S1 R1 r1 => ?_)
  subst r1
  cases b' with
  | true =>
    simp only [if_true] at e ⊢
    exact SimF.ofE S1 (h1 t1 _ σ1 env loc fl loc' st' A hA hT hsc (F.step R S1) R1 e) k
  | false =>
    simp only [Bool.false_eq_true, if_false] at e ⊢
    exact SimF.ofE S1 (h2 t1 _ σ1 env loc fl loc' st' A hA hT hsc (F.step R S1) R1 e) k
end
end Mine
end

section
set_option genInjectivity false
set_option genSizeOf false
set_option maxRecDepth 100000
namespace Mine
open PySem PySem.W PyProof.Rows

section
variable {G : Gd} {N : Names} {C : Calls} {d : Dp} {sc : Sc} {Γ : Gam} {A : Around} {t : Tie} {st st' : MS} {s : Shared} {env : Env} {loc : Loc} {X Y Z : V} {v w : Value} {n : Nat}

theorem FrOk.forget {P L : Addr → Prop} {t₁ t₂ : Tie} {s₁ s₂ : Shared} (Fg : Forget P L t₁ t₂ s₁ s₂) (F : FrOk G A t₁ env Γ loc s₁) (hp : ∀ a, own env a → t₂.pv a) (ho : ∀ a o, own env a → s₁.heap.get? a = some o → s₂.heap.get? a = some o) (sk : Stk A t₂ s₂.heap) : FrOk G A t₂ env Γ loc s₂ := by
  obtain ⟨m, cm, ⟨o, es, ep, hl, r⟩, hcc, hz, hs⟩ := F.ex
  refine ⟨sk, F.fn, F.gl, F.bl, hp _ (.inl rfl), fun n c h => hp _ (.inr ⟨n, h⟩), F.apart, m, cm, ⟨o, es, ep, ho _ _ (.inl rfl) hl, r⟩, fun n c e => ?_, hz, fun i x X e1 e2 => ?_⟩
  · obtain ⟨oc, h1, h2⟩ := hcc n c e
    exact ⟨oc, ho _ _ (.inr ⟨n, e⟩) h1, h2⟩
  · obtain ⟨v, hv, r⟩ := hs i x X e1 e2
    exact ⟨v, VRel.forget Fg X hv, r⟩

end
end Mine
end

section
set_option genInjectivity false
set_option genSizeOf false
set_option maxRecDepth 100000
namespace Mine
open PySem PySem.W PyProof.Rows

section
variable {G : Gd} {N : Names} {C : Calls} {d : Dp} {sc : Sc} {Γ : Gam} {A : Around} {t : Tie} {st st' : MS} {s : Shared} {env : Env} {loc : Loc} {X Y Z : V} {v w : Value} {n : Nat}

end
end Mine
end

section
set_option genInjectivity false
set_option genSizeOf false
set_option maxRecDepth 100000
namespace Mine
open PySem PySem.W PyProof.Rows

noncomputable def gam0 (fn : Fn) : Gam := fn.names.map fun x => if x == Str.empty then none else some x

section
variable {G : Gd} {N : Names} {C : Calls} {d : Dp} {sc : Sc} {Γ : Gam} {A : Around} {t : Tie} {st st' : MS} {s : Shared} {env : Env} {loc : Loc} {X Y Z : V} {v w : Value} {n : Nat}

theorem bindL_skip (k : PySem.Str → Option NameKind) : ∀ (b : List (PySem.Str × Value)) (m : PySem.Str → Option Value) (x : PySem.Str), x ∉ b.map (·.1) → bindL k b m x = m x
  | [], _, _, _ => rfl
  | (y, v) :: r, m, x, h => by
    simp only [List.map_cons, List.mem_cons, not_or] at h
    rw [bindL, bindL_skip k r _ x h.2]
    split
    · exact if_neg h.1
    · rfl
theorem bindC_skip (k : PySem.Str → Option NameKind) : ∀ (b : List (PySem.Str × Value)) (m : PySem.Str → Option Value) (x : PySem.Str), x ∉ b.map (·.1) → bindC k b m x = m x
  | [], _, _, _ => rfl
  | (y, v) :: r, m, x, h => by
    simp only [List.map_cons, List.mem_cons, not_or] at h
    rw [bindC, bindC_skip k r _ x h.2]
    split
    · rfl
    · exact if_neg h.1
theorem bindL_at (k : PySem.Str → Option NameKind) : ∀ (b : List (PySem.Str × Value)) (m : PySem.Str → Option Value) (x : PySem.Str) (v : Value), (b.map (·.1)).Nodup → (x, v) ∈ b → k x = some .local → bindL k b m x = some v
  | (y, u) :: r, m, x, v, nd, h, hk => by
    rw [List.map_cons, List.nodup_cons] at nd
    rcases List.mem_cons.mp h with e | h
    · cases e
      rw [bindL, bindL_skip k r _ _ nd.1, if_pos hk]; exact if_pos rfl
    · rw [bindL]; exact bindL_at k r _ x v nd.2 h hk
theorem bindC_at (k : PySem.Str → Option NameKind) : ∀ (b : List (PySem.Str × Value)) (m : PySem.Str → Option Value) (x : PySem.Str) (v : Value), (b.map (·.1)).Nodup → (x, v) ∈ b → k x ≠ some .local → bindC k b m x = some v
  | (y, u) :: r, m, x, v, nd, h, hk => by
    rw [List.map_cons, List.nodup_cons] at nd
    rcases List.mem_cons.mp h with e | h
    · cases e
      rw [bindC, bindC_skip k r _ _ nd.1, if_neg hk]; exact if_pos rfl
    · rw [bindC]; exact bindC_at k r _ x v nd.2 h hk

theorem cellsFrom_some : ∀ (names : Sc) (k : Nat) (acc : List (PySem.Str × Addr)) (x : PySem.Str), names.lookup x = some .cell ∨ (acc.lookup x).isSome = true → ((cellsFrom k names acc).lookup x).isSome = true
  | [], _, _, _, h => h.resolve_left (fun z => by cases z)
  | (y, kd) :: r, k, acc, x, h => by
    rw [cellsFrom]
    split
    · refine cellsFrom_some r _ _ x ?_
      cases q : x == y with
      | true => right; rw [List.lookup_cons, q]; rfl
      | false =>
        rw [List.lookup_cons, q] at h
        rw [List.lookup_cons, q]; exact h
    · rename_i hkd
      refine cellsFrom_some r _ _ x ?_
      cases q : x == y with
      | true =>
        rw [List.lookup_cons, q] at h
        refine .inr (h.resolve_left fun z => hkd ?_)
        have : kd = .cell := by simpa using z
        rw [this]; rfl
      | false => rw [List.lookup_cons, q] at h; exact h

structure FnHd (G : Gd) (fn : Fn) (a : Addr) (fd : FuncData) (body : List Stmt) : Prop where
  ex : ∃ o : Obj, G.K.lookup a = some o ∧ o.data = .func fd ∧ codeIn G.K fd.code fd.qualname = true ∧ fd.body = .stmts body ∧ fd.closure = [] ∧ fd.globals = mainGlobals ∧ fd.builtins = builtinsNs ∧
    fd.scope.kind = .function ∧ fd.scope.isCoroutine = false ∧ fd.scope.isGenerator = false ∧
    (∀ vals : List Value, vals.length = fn.np → bindArgs fd ⟨vals, []⟩ = pure ((fn.names.take fn.np).zip vals)) ∧ fn.np ≤ fn.names.length ∧ (∀ x ∈ fn.names.take fn.np, kindOk fd.scope.names x = true ∧ x ≠ Str.empty) ∧ (fn.names.take fn.np).Nodup
structure FnRec (G : Gd) (q : Bool) (PX : Calls → Nat → Prop) (fn : Fn) (a : Addr) : Prop where
  ex : ∃ (fd : FuncData) (body : List Stmt), FnHd G fn a fd body ∧ ∀ (C : Calls) (n : Nat), PX C n → SimB G C ⟨n, q⟩ fd.scope.names (gam0 fn) n fn.body body

theorem pairwise_lookup {cs : List (PySem.Str × Addr)} (h : cs.Pairwise fun x y => x.2 ≠ y.2) {n n' : PySem.Str} {c : Addr} (h1 : cs.lookup n = some c) (h2 : cs.lookup n' = some c) : n = n' := by
  induction cs with
  | nil => cases h1
  | cons x r ih =>
    rw [List.pairwise_cons] at h
    rw [List.lookup_cons] at h1 h2
    cases q1 : n == x.1 <;> cases q2 : n' == x.1 <;> rw [q1] at h1 <;> rw [q2] at h2
    · exact ih h.2 h1 h2
    · cases h2; exact absurd rfl (h.1 (n, x.2) (PySem.mem_of_lookup (n := n) h1))
    · cases h1; exact absurd rfl (h.1 (n', x.2) (PySem.mem_of_lookup (n := n') h2))
    · rw [beq_iff_eq] at q1 q2; rw [q1, q2]

theorem entry_at (O : G.Ok N) {fn : Fn} {a : Addr} {q : Bool} {fd : FuncData} {body : List Stmt} (hfn : FnHd G fn a fd body) (hA : AC ⟨n + 1, q⟩ A) {Vs : List V} {vals : List Value} (K : Stk A t s.heap) (R : Rel G t st s) (r : VRels t s.heap Vs vals) (hnp : Vs.length = fn.np)
    {B : Result → Shared → Prop}
    (k : ∀ (env : Env) (s₁ : Shared), env.scope.names = fd.scope.names → env.frame = some env.locals → (∀ b, own env b → s.heap.get? b = none) → (∀ b o, s.heap.get? b = some o → s₁.heap.get? b = some o) → s₁.gens = s.gens → s₁.os = s.os → AOk ⟨n, q⟩ (A.deeper env) →
      FrOk G (A.deeper env) (t.hideS (own env) (env :: t.st)) env (gam0 fn) (Vs.map some ++ List.replicate (fn.names.length - fn.np) none) s₁ → Rel G (t.hideS (own env) (env :: t.st)) st s₁ →
      wpAny G.M (A.deeper env) (execs body env) (fun f s' => B (.ok (.ret (match f with | .ret v => v | _ => .none))) s') (fun e s' => wpAny G.M (A.deeper env) (leaving env e) (fun _ s'' => B (.error e) s'') (fun e' s'' => B (.error e') s'') s') s₁) :
    codeAny G.M A (.call (.ref a) ⟨vals, []⟩) B s := by
  obtain ⟨o, h1, h2, h3, h4, h5, h6, h7, h8, h9, h10, h11, h12, h13, h14⟩ := hfn.ex
  have XK := O.K.keeps R.base
  have hlv : vals.length = fn.np := by rw [r.length]; exact hnp
  have hbn : ((fn.names.take fn.np).zip vals).map (·.1) = fn.names.take fn.np := by
    rw [List.map_fst_zip]; rw [List.length_take, hlv]; exact Nat.min_le_left _ _
  have hkx : ∀ x ∈ (fn.names.take fn.np).zip vals, x.1 ∈ fn.names.take fn.np := fun x hx => (List.of_mem_zip (a := x.1) (b := x.2) hx).1
  refine codeAny_call_cells (body := body) (binds := (fn.names.take fn.np).zip vals) (by have := hA.dep; omega) (XK _ _ h1) h2 (O.lim.keeps R.base) (codeRec_of XK h3) h4 (h11 vals hlv) h5 (fun x hx => ?_) (fun s₁ x => ?_) h9 h10 h8
  · have hk := (h13 x.1 (hkx x hx)).1
    simp only [kindOk, Bool.or_eq_true, beq_iff_eq] at hk
    rcases hk with hk | hk
    · exact .inl hk
    · exact .inr ⟨hk, cellsFrom_some _ _ _ _ (.inl hk)⟩
  · let env := callEnvC fd s.heap.objs.size a
    have hcells : env.cells = cellsFrom (s.heap.objs.size + 1) fd.scope.names [] := rfl
    have hloc : env.locals = s.heap.objs.size := rfl
    obtain ⟨h', tk, hs, hk'⟩ := x.done
    let P : Addr → Prop := own env
    have np : ∀ b, P b → s.heap.get? b = none := by
      rintro b (rfl | ⟨nm, q⟩)
      · exact size_none _
      · have hlt := x.above nm b (PySem.mem_of_lookup q)
        cases z : s.heap.get? b with
        | none => rfl
        | some ob => exact absurd (Heap.lt_size z) (Nat.not_lt.mpr (Nat.le_of_lt hlt))
    have hk0 : ∀ b o, s.heap.get? b = some o → s₁.heap.get? b = some o := x.toInCall.keep
    have hg : s₁.gens = s.gens := by rw [hs]
    have ho : s₁.os = s.os := by rw [hs]
    have hlP : ∀ b, P b → (s₁.heap.get? b).isSome = true := by
      rintro b (rfl | ⟨nm, q⟩)
      · obtain ⟨ob, _, _, z, _⟩ := x.toInCall.ns; rw [z]; rfl
      · obtain ⟨ob, z, _⟩ := x.cell nm b q; rw [z]; rfl
    have R0 : Rel G (t.hideS P (env :: t.st)) st s₁ := R.hideGrow np hk0 hlP hg ho
    have SG : Step noX (t.hideS P (env :: t.st)) (t.hideS P (env :: t.st)) s s₁ := ⟨.refl _, fun a o e _ _ _ => hk0 a o e, fun a o e _ _ _ => ⟨o.slots, hk0 a o e⟩, fun _ o => .inl o, fun a o e => by rw [hk0 a o e]; rfl, hg, ho⟩
    have hkind : ∀ y, env.kindOf y = fd.scope.names.lookup y := fun _ => rfl
    have K0 : Stk (A.deeper env) (t.hideS P (env :: t.st)) s₁.heap := by
      refine ⟨Around.frames_deeper K.fr, fun e he => ?_⟩
      rcases List.mem_cons.1 he with rfl | he
      · obtain ⟨ob, es, ep, z1, z2, _⟩ := x.toInCall.ns
        exact ⟨by show fd.scope.kind ≠ _; rw [h8]; decide, _, ob, rfl, .inr (.inl rfl), z1, fun vs z => by rw [z2] at z; cases z⟩
      · obtain ⟨q1, L, o, q2, q3, q4, q5⟩ := K.ob e he
        exact ⟨q1, L, o, q2, .inl q3, hk0 _ _ q4, q5⟩
    have F0 : FrOk G (A.deeper env) (t.hideS P (env :: t.st)) env (gam0 fn) (Vs.map some ++ List.replicate (fn.names.length - fn.np) none) s₁ := by
      refine ⟨K0, h8, h6, h7, .inr (.inl rfl), fun nm c q => .inr (.inr ⟨nm, q⟩), fun nm nm' c q q' => pairwise_lookup x.apart q q', _, _, x.toInCall.ns, x.cell, fun y hy => cellsFrom_some _ _ _ _ (.inl hy), fun i y Y e1 e2 => ?_⟩
      have hi : i < Vs.length := by
        by_cases q : i < Vs.length
        · exact q
        · rw [List.getElem?_append_right (by rw [List.length_map]; omega)] at e2
          rw [List.getElem?_replicate] at e2
          split at e2 <;> cases e2
      rw [List.getElem?_append_left (by rw [List.length_map]; exact hi), List.getElem?_map] at e2
      obtain ⟨Y', e3, e4⟩ := Option.map_eq_some_iff.mp e2
      cases e4
      obtain ⟨u, u1, u2⟩ := VRels.get r e3
      simp only [gam0, List.getElem?_map, Option.map_eq_some_iff] at e1
      obtain ⟨y', e5, e6⟩ := e1
      have hy : y' = y := by split at e6 <;> cases e6; rfl
      subst hy
      have e7 : (fn.names.take fn.np)[i]? = some y' := by rw [List.getElem?_take, if_pos (by omega)]; exact e5
      have hm : (y', u) ∈ (fn.names.take fn.np).zip vals := by
        refine List.mem_iff_getElem?.mpr ⟨i, ?_⟩
        rw [List.getElem?_zip_eq_some]; exact ⟨e7, u1⟩
      have hko := (h13 y' (List.mem_iff_getElem?.mpr ⟨i, e7⟩)).1
      simp only [kindOk, Bool.or_eq_true, beq_iff_eq] at hko
      refine ⟨u, VRel.step SG (fun _ z => z.elim) _ (VRel.hide np _ u2), ?_⟩
      rcases hko with hko | hko
      · exact .inl ⟨hko, bindL_at _ _ _ _ _ (by rw [hbn]; exact h14) hm hko⟩
      · exact .inr ⟨hko, bindC_at _ _ _ _ _ (by rw [hbn]; exact h14) hm (by rw [hkind, hko]; decide)⟩
    have hA' : AOk ⟨n, q⟩ (A.deeper env) := ⟨hA.hd, by have h : A.depth + 2 * (n + 1) + 5 ≤ recursionLimit := hA.dep; show (A.deeper env).depth + 2 * n + 6 ≤ _; rw [depth_deeper]; omega, by have h : A.units + 20 * (n + 1) + 105 ≤ cLine := hA.un; show (A.deeper env).units + 20 * n + 110 ≤ _; rw [units_deeper]; omega⟩
    exact k env s₁ rfl rfl np hk0 hg ho hA' F0 R0
theorem entry_go (O : G.Ok N) {fn : Fn} {a : Addr} {q : Bool} {PX : Calls → Nat → Prop} (hfn : FnRec G q PX fn a) (px : PX C n) (hA : AC ⟨n + 1, q⟩ A) {Vs : List V} {vals : List Value} (K : Stk A t s.heap) (R : Rel G t st s) (r : VRels t s.heap Vs vals) (hnp : Vs.length = fn.np)
    {p : Fl × Loc} (e : exs G.P C n fn.body (Vs.map some ++ List.replicate (fn.names.length - fn.np) none) st = .ok p st') {B : Result → Shared → Prop}
    (k : ∀ v t' s', Step noX t t' s s' → Rel G t' st' s' → VRel t' s'.heap (match p.1 with | .ret v => v | .next => .none) v → B (.ok (.ret v)) s') :
    codeAny G.M A (.call (.ref a) ⟨vals, []⟩) B s := by
  obtain ⟨fd, body, hd, h15⟩ := hfn.ex
  refine entry_at O hd hA K R r hnp fun env s₁ hs hf np hk0 hg ho hA' F0 R0 => ?_
  refine h15 C n px (t.hideS (own env) (env :: t.st)) st s₁ env _ p.1 p.2 st' (A.deeper env) hA' ⟨_, Around.frames_deeper K.fr, hf⟩ hs F0 R0 e _ _ fun f t' s' S' R' F' rf => ?_
  have hpv : t'.pv = (t.hideS (own env) (env :: t.st)).pv := S'.le.pv
  have nP : ∀ b, t.pv b → ¬ own env b := fun b q z => by
    have := R.live b (.inr q)
    rw [np b z] at this; cases this
  have Fg : Forget (own env) noX t' { t' with pv := t.pv, st := t.st } s' s' :=
    ⟨rfl, rfl, fun b q => ⟨by rw [hpv]; exact .inl q, nP b q⟩, fun b q => by rw [hpv]; exact .inr q, fun b z => z.elim, fun _ _ _ _ e => e, rfl, rfl, rfl⟩
  have S'' := Step.unhideS (t := t) (L := noX) (l := env :: t.st) (fun e he => (List.mem_cons.1 he).elim (fun z => .inr fun b q => by rw [z, hf] at q; cases q; exact .inl rfl) .inl) (fun e he => List.mem_cons_of_mem _ he) (fun b q => .inl q) np hk0 hg ho S' Fg
  cases hp : p.1 with
  | next =>
    rw [hp] at rf
    have rf : f = .next := rf
    subst rf
    exact k _ _ _ S'' (R'.forget Fg) (by rw [hp]; rfl)
  | ret X =>
    rw [hp] at rf
    obtain ⟨u, rfl, ru⟩ := rf
    exact k _ _ _ S'' (R'.forget Fg) (by rw [hp]; exact VRel.forget Fg _ ru)

end
end Mine
end

section
set_option genInjectivity false
set_option genSizeOf false
set_option maxRecDepth 100000
namespace Mine
open PySem PySem.W PyProof.Rows

section
variable {G : Gd} {N : Names} {C : Calls} {d : Dp} {sc : Sc} {Γ : Gam} {A : Around} {t : Tie} {st st' : MS} {s : Shared} {env : Env} {loc : Loc} {X Y Z : V} {v w : Value}

end
end Mine
end

section
set_option genInjectivity false
set_option genSizeOf false
set_option maxRecDepth 100000
namespace Mine
open PySem PySem.W PyProof.Rows

noncomputable def kasChk (n : Nat) (ans : Nat → Nat → Bool) (want : List Nat) : KasT (Array Nat) → Bool
  | .ret a => a.toList == want
  | .ask i j k => decide (i < n) && (decide (j < n) && (decide (i ≠ j) && kasChk n ans want (k (ans i j))))
theorem kas_of {n : Nat} {ans : Nat → Nat → Bool} {want : List Nat} {cmp : Nat → Nat → (Bool → Shared → Prop) → Shared → Prop} {s : Shared} {Q : Array Nat → Shared → Prop} (hc : ∀ i j, i < n → j < n → i ≠ j → ∀ C : Bool → Shared → Prop, C (ans i j) s → cmp i j C s) (hQ : ∀ a : Array Nat, a.toList = want → Q a s) :
    ∀ t : KasT (Array Nat), kasChk n ans want t = true → t.kasWp cmp Q s
  | .ret a, h => hQ a (eq_of_beq (h : (a.toList == want) = true))
  | .ask i j k, h => by
    obtain ⟨h1, h⟩ := Bool.and_eq_true_iff.1 (h : (decide (i < n) && (decide (j < n) && (decide (i ≠ j) && kasChk n ans want (k (ans i j))))) = true)
    obtain ⟨h2, h⟩ := Bool.and_eq_true_iff.1 h
    obtain ⟨h3, h⟩ := Bool.and_eq_true_iff.1 h
    exact hc i j (of_decide_eq_true h1) (of_decide_eq_true h2) (of_decide_eq_true h3) _ (kas_of hc hQ (k (ans i j)) h)
noncomputable def tbl (m pos i j : Nat) : Bool := if i < m then (if j < m then decide (i < j) else decide (i < pos)) else decide (pos ≤ j)
theorem tbl_ok : ∀ m : Fin 5, ∀ pos : Fin (m.1 + 2), kasChk (m.1 + 2) (tbl (m.1 + 1) pos.1) (wantL (m.1 + 1) pos.1) (kas_sort (m.1 + 2)) = true := by decide +kernel

section
variable {prog : Program} {w : World} {A : Around} {E : Value → Shared → Prop} {s : Shared}
theorem sort_go {a : Addr} {vs out : List Value} {n : Nat} {P : PySem.Fin → Shared → Prop} (ho : s.heap.get? a = some (seqObj "list" vs.toArray n)) (h64 : vs.length < 64) (hlen : out.length = vs.length) (h1 : vs.length < 2 → out = vs)
    (h2 : 2 ≤ vs.length → ∀ s' : Shared, (∀ b o, b ≠ a → s.heap.get? b = some o → s'.heap.get? b = some o) → wpAny (model prog w) A (keyKind' vs.toArray) (fun κ s2 => (kas_sort vs.length).kasWp (kas_ask prog w A κ vs) (fun p s3 => s3 = s' ∧ (p.toList.map fun i => vs.getD i Value.none) = out) s2) E s')
    (k : ∀ h' c, (∀ b o, b ≠ a → s.heap.get? b = some o → h'.get? b = some o) → h'.get? a = some (seqObj "list" out.toArray c) → P (.done (.ret .none)) { s with heap := h' }) :
    wpAny (model prog w) A (Builtin.«list.sort» ⟨[.ref a], []⟩) P E s := by
  have ha : a < s.heap.objs.size := Heap.lt_size ho
  obtain ⟨e1, ho1⟩ : ∃ e1, (s.heap.update a (Obj.mapSeq fun _ => (#[] : Array Value))).get? a = some (seqObj "list" #[] e1) := ⟨_, get?_update_seq ho fun _ => #[]⟩
  rw [list_sort_plain]
  refine wpAny_bind (listItems_at ho rfl ?_)
  refine wpAny_bind (listUpdate_at ho rfl ?_ (by rw [List.size_toArray, sizeLine_eq]; omega) (Nat.zero_le _))
  refine wpAny_bind (seqEpoch_at ho1 rfl ?_)
  refine wpAny_bind (wpAny_newTuple ?_ (by show vs.length ≤ _; rw [sizeLine_eq]; omega))
  refine wpAny_bind (wpAny_newList ?_ (Nat.zero_le _))
  refine wpAny_holding ?_
  have kp : ∀ b o, (s.heap.update a (Obj.mapSeq fun _ => (#[] : Array Value))).get? b = some o → (((s.heap.update a (Obj.mapSeq fun _ => (#[] : Array Value))).push (seqObj "tuple" vs.toArray 0)).push (seqObj "list" #[] 0)).get? b = some o := fun b o e => Heap.get?_push_of_some _ (Heap.get?_push_of_some _ e)
  have old : ∀ b o, b ≠ a → s.heap.get? b = some o → (((s.heap.update a (Obj.mapSeq fun _ => (#[] : Array Value))).push (seqObj "tuple" vs.toArray 0)).push (seqObj "list" #[] 0)).get? b = some o := fun b o nb e => kp b o ((Heap.SameBut.update s.heap a _).2 b nb |>.trans e)
  have ho6 := kp a _ ho1
  show wpAny (model prog w) A _ P E { s with heap := ((s.heap.update a (Obj.mapSeq fun _ => (#[] : Array Value))).push (seqObj "tuple" vs.toArray 0)).push (seqObj "list" #[] 0) }
  generalize ((s.heap.update a (Obj.mapSeq fun _ => (#[] : Array Value))).push (seqObj "tuple" vs.toArray 0)).push (seqObj "list" #[] 0) = H at old ho6
  dsimp only
  have hend : ∀ {st : SortSt}, (arrOf st).map (·.2) = out.toArray → failedOf st = none → wpAny (model prog w) A (do
      let touched := (← seqEpoch a) != e1
      Builtin.List.listUpdate (.ref a) fun _ => (arrOf st).map (·.2)
      if let some e := failedOf st then rule "list.sort.comparison-raised"; throw e
      if touched then rule "list.sort.modified"; raiseError "ValueError" "list modified during sort"
      ret .none) P E { s with heap := H } := by
    intro st hs hf
    refine wpAny_bind (seqEpoch_at ho6 rfl ?_)
    obtain ⟨c, hc⟩ : ∃ c, (H.update a (Obj.mapSeq fun _ => out.toArray)).get? a = some (seqObj "list" out.toArray c) := ⟨_, get?_update_seq ho6 fun _ => out.toArray⟩
    rw [hs, hf]
    refine wpAny_bind (listUpdate_at ho6 rfl ?_ (Nat.zero_le _) (by rw [List.size_toArray, hlen, sizeLine_eq]; omega))
    simp only [bne_self_eq_false, Bool.false_eq_true, if_false]
    exact wpAny_pure (k _ c (fun b o nb e => ((Heap.SameBut.update H a _).2 b nb).trans (old b o nb e)) hc)
  by_cases hn : vs.toArray.size < 2
  · rw [if_pos hn, if_pos hn]
    refine wpAny_bind (wpAny_pure ?_)
    rw [StateT.run_pure]
    refine wpAny_bind (wpAny_pure (hend ?_ rfl))
    show ((vs.toArray.zip vs.toArray).map (·.2)) = out.toArray
    rw [h1 (by rw [List.size_toArray] at hn; exact hn)]
    apply Array.toList_inj.mp
    simp only [Array.toList_map, Array.toList_zip]
    exact List.map_snd_zip (Nat.le_refl _)
  · rw [if_neg hn, if_neg hn]
    rw [List.size_toArray] at hn
    refine wpAny_bind (wpAny_mono (h2 (by omega) { s with heap := H } old) (fun κ s0 hk => ?_) fun _ _ x => x)
    refine wpAny_bind (wpAny_mono (kat_run (Q := fun st' s' => s' = { s with heap := H } ∧ (arrOf st').map (·.2) = out.toArray ∧ failedOf st' = none) rfl (by omega) h64 (fun p' st' s' a1 a2 a3 a4 => ⟨a4.1, by rw [kat_snds rfl a2, a4.2], a3⟩) hk) ?_ fun _ _ e => e)
    rintro ⟨⟨⟩, st'⟩ s' ⟨rfl, hs, hf⟩
    exact hend hs hf
theorem sorted_go {l : Addr} {vs out : List Value} {Q : Value → Shared → Prop} (hl : s.heap.IsList l vs.toArray) (h64 : vs.length < 64) (hlen : out.length = vs.length) (h1 : vs.length < 2 → out = vs)
    (h2 : 2 ≤ vs.length → ∀ (A' : Around) (s' : Shared) (E' : Value → Shared → Prop), (∀ b o, s.heap.get? b = some o → s'.heap.get? b = some o) → wpAny (model prog w) A' (keyKind' vs.toArray) (fun κ s2 => (kas_sort vs.length).kasWp (kas_ask prog w A' κ vs) (fun p s3 => s3 = s' ∧ (p.toList.map fun i => vs.getD i Value.none) = out) s2) E' s')
    (k : ∀ h' c, (∀ b o, s.heap.get? b = some o → h'.get? b = some o) → h'.get? (s.heap.objs.size + 1) = some (seqObj "list" out.toArray c) → Q (.ref (s.heap.objs.size + 1)) { s with heap := h' }) :
    wpAny (model prog w) A (call (.builtin "sorted") [.ref l]) Q E s := by
  refine Calls.call_function_entry kind_sorted plain_sorted entry_sorted (args_sorted1 _) ?_
  unfold Builtin.«sorted»
  refine wpAny_bind (m := checkCount "sorted" 1 1 _) (wpAny_pure ?_)
  refine wpAny_bind (collect_list hl ?_ (by rw [sizeLine_eq]; omega))
  refine wpAny_bind (wpAny_newList ?_ (by rw [sizeLine_eq]; omega))
  have hsz : ((s.heap.push (seqObj "list" #[] 0)).update s.heap.objs.size (Obj.mapSeq (· ++ vs.toArray))).objs.size = s.heap.objs.size + 1 := by
    rw [Heap.size_update, size_push']
  have hoL : (((s.heap.push (seqObj "list" #[] 0)).update s.heap.objs.size (Obj.mapSeq (· ++ vs.toArray))).push (seqObj "list" vs.toArray 0)).get? (s.heap.objs.size + 1) = some (seqObj "list" vs.toArray 0) := by
    rw [← hsz]; exact Heap.get?_push_size _ rfl
  have keep : ∀ b o, s.heap.get? b = some o → (((s.heap.push (seqObj "list" #[] 0)).update s.heap.objs.size (Obj.mapSeq (· ++ vs.toArray))).push (seqObj "list" vs.toArray 0)).get? b = some o := fun b o q => by
    have hlt : b < s.heap.objs.size := Heap.lt_size q
    rw [Heap.get?_push_ne _ _ _ (by rw [hsz]; exact Nat.ne_of_lt (Nat.lt_succ_of_lt hlt)), Heap.get?_update_ne _ _ _ _ (Nat.ne_of_lt hlt), Heap.get?_push_ne _ _ _ (Nat.ne_of_lt hlt)]
    exact q
  show wpAny _ _ _ _ _ { s with heap := ((s.heap.push (seqObj "list" #[] 0)).update s.heap.objs.size (Obj.mapSeq (· ++ vs.toArray))).push (seqObj "list" vs.toArray 0) }
  rw [hsz]
  have up : ∀ (h' : Heap), (∀ b o, b ≠ s.heap.objs.size + 1 → (((s.heap.push (seqObj "list" #[] 0)).update s.heap.objs.size (Obj.mapSeq (· ++ vs.toArray))).push (seqObj "list" vs.toArray 0)).get? b = some o → h'.get? b = some o) → ∀ b o, s.heap.get? b = some o → h'.get? b = some o := fun h' q b o e => q b o (Nat.ne_of_lt (Nat.lt_succ_of_lt (Heap.lt_size e))) (keep b o e)
  refine wpAny_bind (wpAny_holding (wpAny_call_entry slot_list_sort ⟨_, hoL, rfl⟩ entry_list_sort ?_ (args_list_sort _)))
  refine sort_go (s := { s with heap := ((s.heap.push (seqObj "list" #[] 0)).update s.heap.objs.size (Obj.mapSeq (· ++ vs.toArray))).push (seqObj "list" vs.toArray 0) }) hoL h64 hlen h1 (fun hn s' q => h2 hn _ s' _ (up s'.heap q)) fun h' c q ho => ?_
  exact ⟨_, rfl, wpAny_pure ⟨_, rfl, k h' c (up h' q) ho⟩⟩
end

theorem rising_at : ∀ {ks : List Int}, rising ks = true → ∀ i j : Nat, i < j → ∀ a b, ks[i]? = some a → ks[j]? = some b → a < b
  | [], _, i, j, _, a, b, e, _ => by cases e
  | [_], _, i, j, hij, a, b, _, e => by
    cases j with
    | zero => omega
    | succ j => cases e
  | x :: y :: r, h, i, j, hij, a, b, e1, e2 => by
    obtain ⟨h1, h2⟩ := Bool.and_eq_true_iff.1 (h : (decide (x < y) && rising (y :: r)) = true)
    have h1 : x < y := of_decide_eq_true h1
    cases j with
    | zero => omega
    | succ j =>
      cases i with
      | succ i => exact rising_at h2 i j (by omega) a b e1 e2
      | zero =>
        cases e1
        cases j with
        | zero => cases e2; exact h1
        | succ j => exact Int.lt_trans h1 (rising_at h2 0 (j + 1) (by omega) y b rfl e2)
theorem pos_at (x : Int) : ∀ {ks : List Int}, rising ks = true → x ∉ ks → posOf x ks ≤ ks.length ∧ ∀ (i : Nat) (a : Int), ks[i]? = some a → (i < posOf x ks → a < x) ∧ (posOf x ks ≤ i → x < a)
  | [], _, _ => ⟨Nat.le_refl _, fun i a e => by cases e⟩
  | k :: r, h, hx => by
    have hr : rising r = true := by
      cases r with
      | nil => rfl
      | cons y r => exact (Bool.and_eq_true_iff.1 (h : (decide (k < y) && rising (y :: r)) = true)).2
    obtain ⟨h1, h2⟩ := pos_at x hr fun q => hx (List.mem_cons_of_mem _ q)
    rw [posOf]
    split
    · rename_i hlt
      refine ⟨Nat.zero_le _, fun i a e => ⟨fun q => absurd q (Nat.not_lt_zero _), fun _ => ?_⟩⟩
      cases i with
      | zero => cases e; exact hlt
      | succ i => exact Int.lt_trans hlt (rising_at h 0 (i + 1) (by omega) k a rfl e)
    · rename_i hlt
      have hne : k ≠ x := fun q => hx (q ▸ List.mem_cons_self ..)
      refine ⟨Nat.succ_le_succ h1, fun i a e => ?_⟩
      cases i with
      | zero => cases e; exact ⟨fun _ => by omega, fun q => by omega⟩
      | succ i => exact ⟨fun q => (h2 i a e).1 (by omega), fun q => (h2 i a e).2 (by omega)⟩
theorem tbl_lt {ks : List Int} {x : Int} (hr : rising ks = true) (hx : x ∉ ks) {i j : Nat} (hij : i ≠ j) {a b : Int} (ha : (ks ++ [x])[i]? = some a) (hb : (ks ++ [x])[j]? = some b) : decide (a < b) = tbl ks.length (posOf x ks) i j := by
  obtain ⟨hp, hpos⟩ := pos_at x hr hx
  have last : ∀ {i : Nat} {a : Int}, ¬ i < ks.length → (ks ++ [x])[i]? = some a → i = ks.length ∧ a = x := fun {i a} hn e => by
    rw [List.getElem?_append_right (by omega)] at e
    have : i - ks.length = 0 := by
      cases hz : i - ks.length with
      | zero => rfl
      | succ m => rw [hz] at e; cases e
    rw [this] at e; cases e; exact ⟨by omega, rfl⟩
  unfold tbl
  by_cases hi : i < ks.length
  · rw [if_pos hi]
    rw [List.getElem?_append_left hi] at ha
    by_cases hj : j < ks.length
    · rw [if_pos hj]
      rw [List.getElem?_append_left hj] at hb
      by_cases h : i < j
      · rw [decide_eq_true h, decide_eq_true (rising_at hr i j h a b ha hb)]
      · have := rising_at hr j i (by omega) b a hb ha
        rw [decide_eq_false h, decide_eq_false (by omega)]
    · obtain ⟨_, rfl⟩ := last hj hb
      rw [if_neg hj]
      by_cases h : i < posOf b ks
      · rw [decide_eq_true h, decide_eq_true ((hpos i a ha).1 h)]
      · have := (hpos i a ha).2 (by omega)
        rw [decide_eq_false h, decide_eq_false (by omega)]
  · obtain ⟨hi2, rfl⟩ := last hi ha
    rw [if_neg hi]
    have hj : j < ks.length := by
      have : j < (ks ++ [a]).length := by
        rw [List.getElem?_eq_some_iff] at hb; exact hb.1
      rw [List.length_append] at this
      have : j < ks.length + 1 := this
      omega
    rw [List.getElem?_append_left hj] at hb
    by_cases h : posOf a ks ≤ j
    · rw [decide_eq_true h, decide_eq_true ((hpos j b hb).2 h)]
    · have := (hpos j b hb).1 (by omega)
      rw [decide_eq_false h, decide_eq_false (by omega)]

section
variable {G : Gd} {N : Names} {C : Calls} {d : Dp} {sc : Sc} {Γ : Gam} {A : Around} {t : Tie} {st st' : MS} {s : Shared} {env : Env} {loc : Loc} {X Y Z : V} {v w : Value}
theorem firsts_real {h : Heap} : ∀ {l : List V} {vs : List Value} {ks : List Int}, l.mapM firstInt = some ks → VRels t h l vs → ∃ fs, KatTups h vs fs ∧ fs.length = ks.length ∧ ∀ (i : Nat) (k : Int), ks[i]? = some k → ∃ tk, fs[i]? = some (.int k tk)
  | [], _, ks, e, r => by cases e; cases r; exact ⟨[], trivial, rfl, fun i k e => by cases e⟩
  | x :: l, _, ks, e, ⟨v, r, rfl, a, b⟩ => by
    rw [List.mapM_cons] at e
    cases hx : firstInt x with
    | none => rw [hx] at e; cases e
    | some k =>
      rw [hx] at e
      cases hm : l.mapM firstInt with
      | none => rw [hm] at e; cases e
      | some ks' =>
        rw [hm] at e
        cases e
        obtain ⟨fs, h1, h2, h3⟩ := firsts_real hm b
        cases x with
        | tup m =>
          cases m with
          | nil => cases hx
          | cons y m =>
            cases y with
            | int k' =>
              cases hx
              obtain ⟨ad, us, rfl, ⟨n, ho⟩, _, _, hu⟩ := a
              obtain ⟨u, us', hus, ⟨tk, rfl⟩, _⟩ := hu
              have h0 : us[0]? = some (.int k tk) := by rw [← Array.getElem?_toList, hus]; rfl
              refine ⟨.int k tk :: fs, ⟨⟨ad, _, us, n, rfl, ho, rfl, rfl, h0⟩, h1⟩, congrArg Nat.succ h2, fun i k' e => ?_⟩
              cases i with
              | zero => cases e; exact ⟨tk, rfl⟩
              | succ i => exact h3 i k' e
            | _ => cases hx
        | _ => cases hx
theorem tups_at {h : Heap} : ∀ {vs fs : List Value}, KatTups h vs fs → ∀ (i : Nat) (f : Value), fs[i]? = some f → ∃ a o xs n, vs[i]? = some (.ref a) ∧ h.get? a = some o ∧ o.data = .seq xs n ∧ xs[0]? = some f
  | [], [], _, i, f, e => by cases e
  | v :: vs, g :: fs, ⟨⟨a, o, xs, n, hv, h1, h2, h3, h4⟩, r⟩, 0, f, e => by cases e; cases hv; exact ⟨a, o, xs, n, rfl, h1, h3, h4⟩
  | v :: vs, g :: fs, ⟨_, r⟩, i + 1, f, e => tups_at r i f e
theorem tups_keep {h h' : Heap} (k : ∀ b o, h.get? b = some o → h'.get? b = some o) : ∀ {vs fs : List Value}, KatTups h vs fs → KatTups h' vs fs
  | [], [], _ => trivial
  | v :: vs, g :: fs, ⟨⟨a, o, xs, n, e, h1, r⟩, q⟩ => ⟨⟨a, o, xs, n, e, k a o h1, r⟩, tups_keep k q⟩
theorem VRels.getD {h : Heap} : ∀ {l : List V} {vs : List Value} (i : Nat), i < l.length → VRels t h l vs → VRel t h (l.getD i .none) (vs.getD i .none)
  | [], _, i, hi, _ => absurd hi (Nat.not_lt_zero _)
  | x :: l, _, 0, _, ⟨v, r, rfl, a, b⟩ => a
  | x :: l, _, i + 1, hi, ⟨v, r, rfl, a, b⟩ => VRels.getD i (Nat.lt_of_succ_lt_succ hi) b
theorem VRels.pick {h : Heap} {l : List V} {vs : List Value} (r : VRels t h l vs) : ∀ p : List Nat, (∀ i ∈ p, i < l.length) → VRels t h (p.map fun i => l.getD i .none) (p.map fun i => vs.getD i .none)
  | [], _ => rfl
  | i :: p, hp => ⟨_, _, rfl, VRels.getD i (hp i (List.mem_cons_self ..)) r, VRels.pick r p fun j hj => hp j (List.mem_cons_of_mem _ hj)⟩
theorem if_ok' {α : Type} {c : Bool} {a b : α} (h : (if c = true then some a else none) = some b) : c = true ∧ a = b := by
  cases c with
  | true => cases h; exact ⟨rfl, rfl⟩
  | false => cases h
theorem tbl_tot {m pos i j : Nat} (hi : i ≤ m) (hj : j ≤ m) (hij : i ≠ j) : tbl m pos i j = true ∨ tbl m pos j i = true := by
  unfold tbl
  by_cases h1 : i < m
  · by_cases h2 : j < m
    · rw [if_pos h1, if_pos h2, if_pos h2, if_pos h1]
      rcases Nat.lt_or_gt_of_ne hij with h | h
      · exact .inl (decide_eq_true h)
      · exact .inr (decide_eq_true h)
    · rw [if_pos h1, if_neg h2, if_neg h2]
      rcases Nat.lt_or_ge i pos with h | h
      · exact .inl (decide_eq_true h)
      · exact .inr (decide_eq_true h)
  · have h2 : j < m := by omega
    rw [if_neg h1, if_pos h2, if_neg h1]
    rcases Nat.lt_or_ge j pos with h | h
    · exact .inr (decide_eq_true h)
    · exact .inl (decide_eq_true h)
theorem sortedLast_spec {l m : List V} (e : sortedLast l = some m) : (l = [] ∧ m = []) ∨ ∃ ks x, l.mapM firstInt = some (ks ++ [x]) ∧ rising ks = true ∧ x ∉ ks ∧ l.length = ks.length + 1 ∧ ks.length ≤ 5 ∧ m = (wantL ks.length (posOf x ks)).map fun i => l.getD i .none := by
  cases hr : l.reverse with
  | nil =>
    have hl : l = [] := by rw [← List.reverse_reverse l, hr]; rfl
    rw [sortedLast, hr] at e
    cases e; exact .inl ⟨hl, rfl⟩
  | cons y r =>
    have hl : l = r.reverse ++ [y] := by rw [← List.reverse_reverse l, hr, List.reverse_cons]
    rw [sortedLast, hr] at e
    have e : (match firstInt y, (r.reverse).mapM firstInt with
      | some x, some ks => if (rising ks && !ks.contains x && decide (l.length ≤ 6)) = true then some ((wantL ks.length (posOf x ks)).map fun i => l.getD i .none) else none
      | _, _ => none) = some m := e
    cases h1 : firstInt y with
    | none => rw [h1] at e; cases e
    | some x =>
      cases h2 : (r.reverse).mapM firstInt with
      | none => rw [h1, h2] at e; cases e
      | some ks =>
        rw [h1, h2] at e
        have e : (if (rising ks && !ks.contains x && decide (l.length ≤ 6)) = true then some ((wantL ks.length (posOf x ks)).map fun i => l.getD i .none) else none) = some m := e
        obtain ⟨hc, e⟩ := if_ok' e
        obtain ⟨hc, q3⟩ := Bool.and_eq_true_iff.1 hc
        obtain ⟨q1, q2⟩ := Bool.and_eq_true_iff.1 hc
        have hlen : ∀ {l : List V} {ks : List Int}, l.mapM firstInt = some ks → l.length = ks.length := by
          intro l
          induction l with
          | nil => intro ks e; cases e; rfl
          | cons a l ih =>
            intro ks e
            rw [List.mapM_cons] at e
            cases ha : firstInt a with
            | none => rw [ha] at e; cases e
            | some k =>
              rw [ha] at e
              cases hm : l.mapM firstInt with
              | none => rw [hm] at e; cases e
              | some k2 => rw [hm] at e; cases e; exact congrArg Nat.succ (ih hm)
        have hn : l.length = ks.length + 1 := by rw [hl, List.length_append, hlen h2]; rfl
        refine .inr ⟨ks, x, ?_, q1, fun q => ?_, hn, by have := of_decide_eq_true q3; omega, e.symm⟩
        · rw [hl, List.mapM_append, h2, List.mapM_cons, h1]; rfl
        · rw [List.contains_iff_mem.2 q] at q2; cases q2
theorem want_lt {m pos : Nat} (h : pos ≤ m) : (wantL m pos).length = m + 1 ∧ ∀ i ∈ wantL m pos, i < m + 1 := by
  refine ⟨by rw [wantL, List.length_append, List.length_cons, List.length_map, List.length_range, List.length_range]; omega, fun i hi => ?_⟩
  rcases List.mem_append.1 hi with hi | hi
  · have := List.mem_range.1 hi; omega
  · rcases List.mem_cons.1 hi with hi | hi
    · omega
    · obtain ⟨j, hj, rfl⟩ := List.mem_map.1 hi
      have := List.mem_range.1 hj; omega
theorem sorted_sound (R : Rel G t st s) {l m : List V} (r : VRel t s.heap (.lst l) v) (e : sortedLast l = some m) : Sim G A t s (call (.builtin "sorted") [v]) st (vrel (.lst m)) := by
  obtain ⟨a, vs, rfl, io, na, sz, rr⟩ := r
  have hvl : vs.toList.length = l.length := rr.length
  have hlst : s.heap.IsList a vs.toList.toArray := by rw [Array.toArray_toList]; exact io.isList
  intro Q E q
  have fin : ∀ {out : List Value}, VRels t s.heap m out → m.length ≤ sizeMax → (∀ h' c, (∀ b o, s.heap.get? b = some o → h'.get? b = some o) → h'.get? (s.heap.objs.size + 1) = some (seqObj "list" out.toArray c) → Q (.ref (s.heap.objs.size + 1)) { s with heap := h' }) := by
    intro out ro hm h' c hk ho
    have S : Step noX t t s { s with heap := h' } := Step.grow R hk rfl rfl
    refine q _ t _ S (R.grow hk rfl rfl) ⟨_, out.toArray, rfl, ⟨c, ho⟩, R.fresh (size_none1 _), hm, ?_⟩
    exact VRels.step S (fun _ z => z.elim) _ ro
  rcases sortedLast_spec e with ⟨rfl, rfl⟩ | ⟨ks, x, hm, hr, hx, hln, h5, rfl⟩
  · have : vs.toList = [] := List.length_eq_zero_iff.1 hvl
    refine sorted_go (out := []) hlst (by rw [this]; decide) (by rw [this]) (fun _ => this.symm) (fun h => by rw [this] at h; exact absurd h (by decide)) (fin rfl (Nat.zero_le _))
  · obtain ⟨hp, -⟩ := pos_at x hr hx
    obtain ⟨w1, w2⟩ := want_lt hp
    obtain ⟨fs, k1, k2, k3⟩ := firsts_real hm rr
    rw [List.length_append] at k2
    have k2 : fs.length = ks.length + 1 := k2
    refine sorted_go (out := (wantL ks.length (posOf x ks)).map fun i => vs.toList.getD i .none) hlst (by rw [hvl]; omega) (by rw [List.length_map, w1, hvl, hln]) (fun h => ?_) (fun h2 A' s' E' hk => ?_) (fin (VRels.pick rr _ fun i hi => by rw [hln]; exact w2 i hi) (by rw [List.length_map, w1]; show _ ≤ 16777216; omega))
    · have hks : ks = [] := List.length_eq_zero_iff.1 (by omega)
      subst hks
      show [vs.toList.getD 0 .none] = vs.toList
      cases hv : vs.toList with
      | nil => rw [hv] at hvl; cases hvl.trans hln
      | cons y r => cases r with
        | nil => rfl
        | cons => rw [hv] at h; exact absurd h (by simp)
    · refine kat_kind (T := .type "int") (tups_keep hk k1) (by rw [k2]; exact Nat.succ_pos _) (fun f hf => ?_) rfl ?_
      · obtain ⟨i, hi, rfl⟩ := List.mem_iff_getElem.1 hf
        have hi' : i < (ks ++ [x]).length := by rw [List.length_append]; show i < ks.length + 1; omega
        obtain ⟨tk, q1⟩ := k3 i _ (List.getElem?_eq_getElem hi')
        rw [List.getElem?_eq_getElem hi] at q1
        rw [Option.some.inj q1]
        exact Looks.of_pure rfl
      · have ht := tbl_ok ⟨ks.length - 1, by omega⟩ ⟨posOf x ks, by show _ < ks.length - 1 + 2; omega⟩
        have e1 : ks.length - 1 + 2 = vs.toList.length := by omega
        have e2 : ks.length - 1 + 1 = ks.length := by omega
        have ht : kasChk (ks.length - 1 + 2) (tbl (ks.length - 1 + 1) (posOf x ks)) (wantL (ks.length - 1 + 1) (posOf x ks)) (kas_sort (ks.length - 1 + 2)) = true := ht
        rw [e1, e2] at ht
        refine kas_of (n := vs.toList.length) (fun i j hi hj hij C hC => ?_) (fun a ha => ⟨rfl, by rw [ha]⟩) _ ht
        have hki : i < (ks ++ [x]).length := by rw [List.length_append]; show i < ks.length + 1; omega
        have hkj : j < (ks ++ [x]).length := by rw [List.length_append]; show j < ks.length + 1; omega
        obtain ⟨ti, f1⟩ := k3 i _ (List.getElem?_eq_getElem hki)
        obtain ⟨tj, f2⟩ := k3 j _ (List.getElem?_eq_getElem hkj)
        obtain ⟨ai, oi, xs, ni, g1, g2, g3, g4⟩ := tups_at (tups_keep hk k1) i _ f1
        obtain ⟨aj, oj, ys, nj, h1, h2, h3, h4⟩ := tups_at (tups_keep hk k1) j _ f2
        unfold kas_ask
        rw [List.getD_eq_getElem?_getD, List.getD_eq_getElem?_getD, g1, h1]
        have hlt := tbl_lt hr hx hij (List.getElem?_eq_getElem hki) (List.getElem?_eq_getElem hkj)
        have hne : ((ks ++ [x])[i] == (ks ++ [x])[j]) = false := by
          rw [beq_eq_false_iff_ne]
          intro z
          have hlt2 := tbl_lt hr hx (Ne.symm hij) (List.getElem?_eq_getElem hkj) (List.getElem?_eq_getElem hki)
          rw [z, decide_eq_false (Int.lt_irrefl _)] at hlt hlt2
          rcases tbl_tot (m := ks.length) (pos := posOf x ks) (i := i) (j := j) (by omega) (by omega) hij with h | h
          · rw [h] at hlt; cases hlt
          · rw [h] at hlt2; cases hlt2
        have hz : ∃ r, xs.toList.zip ys.toList = (.int (ks ++ [x])[i] ti, .int (ks ++ [x])[j] tj) :: r := by
          rw [← Array.getElem?_toList] at g4 h4
          cases hxs : xs.toList with
          | nil => rw [hxs] at g4; cases g4
          | cons a r => cases hys : ys.toList with
            | nil => rw [hys] at h4; cases h4
            | cons b r' => rw [hxs] at g4; rw [hys] at h4; cases g4; cases h4; exact ⟨_, rfl⟩
        obtain ⟨rest, hz⟩ := hz
        refine kat_lt g2 g3 h2 h3 ?_
        rw [hz]
        refine kat_cons (wpAny_eqBool_int ?_)
        rw [hne]
        exact kat_no (oneLt_int (by rw [hlt]; exact hC))
theorem sim_primA (hq : d.q = true) (O : G.Ok N) {p : Prim} {l : List E} {m : List PySem.Expr} {np pos : Pos} (hg : glob sc (primName p) = true) (hm : plainArgs m = true) (hlm : l.length = m.length) (hl : SimEs G C d sc Γ l m) :
    SimE G C d sc Γ (.prim p l) (.Call (.Name (primName p) np) m [] pos) := by
  cases hp : primOk p with
  | true => exact sim_prim hq O hp hg hm hlm hl
  | false =>
    obtain rfl : p = .sorted := by cases p <;> first | rfl | cases hp
    intro t st s env loc X st' A hA hsc F R e Q E k
    rw [ev_prim] at e
    obtain ⟨Vs, s1, e1, e⟩ := Res.bind_ok e
    refine wpAny_Call_ofName (built_glob (v := .builtin "sorted") O F R hsc hg (prim_in .sorted) (by decide +kernel) ?_)
    refine with_go O (keeps_b _) hm hlm hl hA hsc F R e1 fun vs t1 σ1 S1 R1 r1 => ?_
    cases Vs with
    | nil => cases e
    | cons V Vs => cases Vs with
      | nil =>
        obtain ⟨v, _, rfl, r1, rfl⟩ := r1
        cases V with
        | lst l =>
          have e : (match sortedLast l with | some m => Res.ok (V.lst m) s1 | none => .stuck) = .ok X st' := e
          cases hs : sortedLast l with
          | none => rw [hs] at e; cases e
          | some m =>
            rw [hs] at e
            cases e
            exact sorted_sound R1 r1 hs _ _ fun v t2 σ2 S2 R2 r2 => k v t2 σ2 (S1.trans S2) R2 r2
        | _ => cases e
      | cons W Vs => cases Vs <;> cases e
end
end Mine
end

section
namespace Mine
end Mine
end

section
set_option genInjectivity false
set_option genSizeOf false
namespace Mine
open PySem PySem.W PyProof.Rows

section
variable {G : Gd} {N : Names} {C : Calls} {d : Dp} {sc : Sc} {Γ : Gam} {A : Around} {t t' : Tie} {st st' : MS} {s : Shared} {env : Env} {loc : Loc} {X Y Z : V} {v w : Value} {n : Nat} {h : Heap}

theorem Stk.framesL (K : Stk A t h) {base : Heap} (hb : ∀ L, t.Fr L → base.get? L = none) : ∀ l : List Env, (∀ e, e ∈ l → e ∈ t.st) → h.FunFrames base l
  | [], _ => trivial
  | e :: r, hs => by
    obtain ⟨h1, L, o, h2, h3, h4, h5⟩ := K.ob e (hs e (.head _))
    exact ⟨h1, ⟨L, o, h2, hb L ⟨h3, e, hs e (.head _), h2⟩, h4, h5⟩, K.framesL hb r fun e he => hs e (.tail _ he)⟩
theorem Stk.nf (K : Stk A t h) {a : Addr} {o : Obj} (f : t.Fr a) (e : h.get? a = some o) : ∀ vs, o.data ≠ .fields vs := by
  obtain ⟨-, e', h1, h2⟩ := f
  obtain ⟨-, L, o', h3, -, h4, h5⟩ := K.ob e' h1
  rw [h3] at h2; cases h2
  rw [e] at h4; cases h4
  exact h5
structure Fly (t : Tie) (l : List Env) (c : Nat) (e : Addr) (s₁ : Shared) (h : Heap) : Prop where
  ex : ∃ B a0, (∀ a o, s₁.heap.get? a = some o → ¬ t.Fr a → B.get? a = some o) ∧ Heap.FlyingW B l e (.ref c) a0 h
  up : s₁.heap.UpToSlots h
  new : s₁.heap.get? e = none
theorem Fly.keep {l : List Env} {c : Nat} {e : Addr} {s₁ : Shared} (F : Fly t l c e s₁ h) {a : Addr} {o : Obj} (q : s₁.heap.get? a = some o) (nf : ¬ t.Fr a) : h.get? a = some o := by
  obtain ⟨B, a0, h1, h2⟩ := F.ex
  exact h2.1 a o (h1 a o q nf)
theorem step_slots (K : Stk A t s.heap) (hk : ∀ a o, s.heap.get? a = some o → ¬ t.Fr a → h.get? a = some o) (hu : s.heap.UpToSlots h) : Step noX t t s { s with heap := h } where
  le := .refl t
  keepW a o e _ _ nf := hk a o e nf
  slots a o e _ _ f := hu a o e (K.nf f e)
  new _ o := .inl o
  live a o e := by
    show (h.get? a).isSome = true
    by_cases f : t.Fr a
    · obtain ⟨sl, q⟩ := hu a o e (K.nf f e); rw [q]; rfl
    · rw [hk a o e f]; rfl
  gens := rfl
  os := rfl
theorem Rel.slots (R : Rel G t st s) (K : Stk A t s.heap) (hk : ∀ a o, s.heap.get? a = some o → ¬ t.Fr a → h.get? a = some o) (hu : s.heap.UpToSlots h) : Rel G t st { s with heap := h } where
  base b o e := hk b o (R.base b o e) fun f => by have := R.apart b (.inr f.1); rw [e] at this; cases this
  apart := R.apart
  live a q := by obtain ⟨o, e⟩ := Option.isSome_iff_exists.mp (R.live a q); exact (step_slots K hk hu).live a o e
  pv := R.pv
  injρ := R.injρ
  injδ := R.injδ
  two := R.two
  objs l o e := (R.objs l o e).step (step_slots K hk hu) (fun _ x => x.elim) fun a o q e => hk a o e fun f => R.pv a f.1 ⟨l, q⟩
  cnt := R.cnt
  sys := R.sys
  wr := R.wr
theorem leave_new {outer : List Env} {L e : Addr} {c : Nat} {h' : Heap} {args : List Value} {Q : Unit → Shared → Prop} {E : Value → Shared → Prop} (K : Stk A t s.heap) (hst : t.st = env :: outer) (hL : env.frame = some L) (hx : Heap.MadeExcOf s.heap h' e (.ref c) args)
    (q : ∀ h'', Fly t outer c e s h'' → Q () { s with heap := h'' }) : wpAny G.M A (leaving env (.ref e)) Q E { s with heap := h' } := by
  obtain ⟨tp, he, -, -⟩ := hx.there
  have inF : ∀ {a}, t.Fr a → a ∈ t.st.filterMap (·.frame) := fun f => let ⟨e, h1, h2⟩ := f.2; List.mem_filterMap.2 ⟨e, h1, h2⟩
  have K' : Stk A t h' := ⟨K.fr, fun e he => let ⟨h1, L, o, h2, h3, h4, h5⟩ := K.ob e he; ⟨h1, L, o, h2, h3, hx.keeps _ _ h4, h5⟩⟩
  have hb : ∀ L, t.Fr L → (hideAll s.heap (t.st.filterMap (·.frame))).get? L = none := fun L f => hideAll_none _ (inF f)
  have hen : (hideAll s.heap (t.st.filterMap (·.frame))).get? e = none := by
    cases z : (hideAll s.heap (t.st.filterMap (·.frame))).get? e with
    | none => rfl
    | some o => have := of_hideAll _ z; rw [hx.new] at this; cases this
  have cov : ∀ a o, s.heap.get? a = some o → ¬ t.Fr a → (hideAll s.heap (t.st.filterMap (·.frame))).get? a = some o := fun a o q nf => by
    refine hideAll_get _ q fun hm => nf ?_
    obtain ⟨e', h1, h2⟩ := List.mem_filterMap.1 hm
    obtain ⟨-, L', o', h3, h4, -⟩ := K.ob e' h1
    rw [h3] at h2; cases h2
    exact ⟨h4, e', h1, h3⟩
  refine wpAny_leaving_firstW (base := hideAll s.heap (t.st.filterMap (·.frame))) (outer := outer) (by rw [K.fr, hst]) (by rw [← hst]; exact K'.framesL hb _ fun _ z => z) hL he (fun b o z => hx.keeps b o (of_hideAll _ z)) hen rfl rfl rfl fun h'' hl => ?_
  obtain ⟨k1, ⟨_, _, k2⟩, k3, k4⟩ := hl
  exact q h'' ⟨⟨_, _, cov, k1, hen, k2, k3⟩, fun a o z nz => k4 a o (hx.keeps a o z) nz, hx.new⟩

noncomputable def SimXF (G : Gd) (A : Around) (env : Env) (t : Tie) (s : Shared) (tree : Sem Flow) (st' : MS) (c : Nat) : Prop :=
  ∀ (Q : Flow → Shared → Prop) (E : Value → Shared → Prop), (∀ e t' s₁ h' args, Step (own env) t t' s s₁ → Rel G t' st' s₁ → Stk A t' s₁.heap → Heap.MadeExcOf s₁.heap h' e (.ref c) args → E (.ref e) { s₁ with heap := h' }) → wpAny G.M A tree Q E s
noncomputable def SimX (G : Gd) (C : Calls) (d : Dp) (sc : Sc) (Γ : Gam) (n : Nat) (x : S) (ast : Stmt) : Prop :=
  ∀ t st s env loc c st' A, AOk d A → TopA A env → env.scope.names = sc → FrOk G A t env Γ loc s → Rel G t st s → ex G.P C n x loc st = .exc c st' → SimXF G A env t s (exec ast env) st' c
noncomputable def SimXB (G : Gd) (C : Calls) (d : Dp) (sc : Sc) (Γ : Gam) (n : Nat) (l : List S) (m : List Stmt) : Prop :=
  ∀ t st s env loc c st' A, AOk d A → TopA A env → env.scope.names = sc → FrOk G A t env Γ loc s → Rel G t st s → exs G.P C n l loc st = .exc c st' → SimXF G A env t s (execs m env) st' c
theorem simXB_nil {m : List Stmt} : SimXB G C d sc Γ n [] m := by
  intro t st s env loc c st' A hA hT hsc F R e
  cases e
theorem simXB_cons {x : S} {l : List S} {ast : Stmt} {m : List Stmt} (h0 : SimS G C d sc Γ n x ast) (h1 : SimX G C d sc Γ n x ast) (h2 : SimXB G C d sc Γ n l m) : SimXB G C d sc Γ n (x :: l) (ast :: m) := by
  intro t st s env loc c st' A hA hT hsc F R e Q E k
  rw [exs_cons] at e
  rcases Res.bind_exc e with e1 | ⟨⟨f1, l1⟩, s1, e1, e⟩
  · exact wpAny_execs_cons (h1 t st s env loc c st' A hA hT hsc F R e1 _ _ k)
  · refine wpAny_execs_cons (h0 t st s env loc f1 l1 s1 A hA hT hsc F R e1 _ _ fun f t1 σ1 S1 R1 F1 r1 => ?_)
    cases f1 with
    | next =>
      have r1 : f = .next := r1
      subst r1
      exact h2 t1 s1 σ1 env l1 c st' A hA hT hsc F1 R1 e _ _ fun e t2 s₁ h' args S2 R2 K2 hx => k e t2 s₁ h' args (S1.trans S2) R2 K2 hx
    | ret X => cases e
theorem simX_ite {c : E} {b1 b2 : List S} {x : PySem.Expr} {m1 m2 : List Stmt} {pos : Pos} (hc : SimT G C d sc Γ c x) (h1 : SimXB G C d sc Γ n b1 m1) (h2 : SimXB G C d sc Γ n b2 m2) : SimX G C d sc Γ n (.ite c b1 b2) (.If x m1 m2 pos) := by
  intro t st s env loc k st' A hA hT hsc F R e Q E q
  rw [ex_ite] at e
  obtain ⟨V, s1, e1, e⟩ := Res.bnd_exc e
  obtain ⟨b, s2, e2, e⟩ := Res.bnd_exc e
  obtain ⟨rfl, rfl⟩ := truth_ok e2
  refine wpAny_If (hc t st s env loc b _ A hA hsc F R e1 _ _ fun b' t1 σ1 S1 R1 r1 => ?_)
  subst r1
  have S1' : Step (own env) t t1 s σ1 := S1.mono fun _ z => z.elim
  cases b' with
  | true =>
    simp only [if_true] at e ⊢
    exact h1 t1 _ σ1 env loc k st' A hA hT hsc (F.step R S1) R1 e _ _ fun e t2 s₁ h' args S2 R2 K2 hx => q e t2 s₁ h' args (S1'.trans S2) R2 K2 hx
  | false =>
    simp only [Bool.false_eq_true, if_false] at e ⊢
    exact h2 t1 _ σ1 env loc k st' A hA hT hsc (F.step R S1) R1 e _ _ fun e t2 s₁ h' args S2 R2 K2 hx => q e t2 s₁ h' args (S1'.trans S2) R2 K2 hx
theorem simX_assign {i : Nat} {a : E} {x : Stmt} : SimX G C d sc Γ n (.assign i a) x := by
  intro t st s env loc c st' A hA hT hsc F R e
  rw [ex_assign] at e
  obtain ⟨V, s1, e1, e⟩ := Res.bnd_exc e
  by_cases q : i < loc.length
  · rw [if_pos q] at e; cases e
  · rw [if_neg q] at e; cases e
theorem simX_ret {a : Option E} {x : Stmt} : SimX G C d sc Γ n (.ret a) x := by
  intro t st s env loc c st' A hA hT hsc F R e
  rw [ex_ret] at e
  cases a with
  | none => cases e
  | some a =>
    obtain ⟨V, s1, e1, e⟩ := Res.bnd_exc e
    cases e

noncomputable def vbm : List Value := [.type "ValueError", .type "Exception", .type "BaseException", .type "object"]
noncomputable abbrev OwnX (G : Gd) (x : PySem.Str) (c : Nat) : Prop := OwnCls x c vbm "ValueError.__new__" G.mg G.h₀
theorem simX_raise (hq : d.q = true) (O : G.Ok N) {c : Nat} {x : PySem.Str} {np cpos pos kpos : Pos} {ms : List Nat} {kk : Nat} (W : OwnX G x c) (hg : glob sc x = true) :
    SimX G C d sc Γ n (.raise c) (.Raise (some (.Call (.Name x np) [.Constant (.str (toStr ms)) kk kpos] [] cpos)) none pos) := by
  intro t st s env loc c' st' A hA hT hsc F R e Q E k
  rw [ex_raise] at e
  cases e
  obtain ⟨bm, Nn, nm, qn, bs, hdct, sn, sub, ab, col, dd, k0, k1, k2, k3, k5, mN, hC, hN, hni, T⟩ := W.obj
  refine wpAny_Raise_call_subT (nm := nm) (q := qn) (C := c) (N := Nn) (bs := bs) (bm := bm) (hdct := hdct) (sn := sn) (sub := sub) (ab := ab) (col := col) (dd := dd) (k0 := k0) (k1 := k1) (k2 := k2) (k3 := k3) (k5 := k5) PySem.F.excBase_ValueError (T.hasType PySem.F.excBase_ValueError.hasBase) (hA.hd hq) rfl hni ?_
  refine glob_name O F R hsc hg W.bound ⟨rfl, ?_⟩
  refine args_go (C := C) (l := [.str ms]) rfl rfl (sim_es_cons rfl sim_str sim_es_nil) hA hsc F R rfl fun vs t1 σ1 S1 R1 r1 => ?_
  refine ⟨rfl, ?_, R1.base _ _ hC, hN.keeps R1.base, T.keeps R1.base, fun h' e hm => k e t1 σ1 h' vs (S1.mono fun _ z => z.elim) R1 (F.step R S1).sk hm⟩
  rw [r1.length]; show 1 ≤ _; decide

structure Land (G : Gd) (t : Tie) (s : Shared) (st' : MS) (tc : Tie) (s2 : Shared) : Prop where
  go : ∀ h : Heap, (∀ a o, s2.heap.get? a = some o → ¬ tc.Fr a → h.get? a = some o) → s2.heap.UpToSlots h →
    ∃ t2 : Tie, Step noX t t2 s { s2 with heap := h } ∧ Rel G t2 st' { s2 with heap := h } ∧ ∀ a, t2.Avoid a → (s2.heap.get? a).isSome = true
noncomputable def CallsX (G : Gd) (C : Calls) (d : Dp) (xf : Nat → Bool) : Prop :=
  ∀ f vs st c st', xf f = true → C f vs st = .exc c st' → ∀ A, AC d A → ∃ a, G.fa f = some a ∧ ∀ t s args, Stk A t s.heap → Rel G t st s → VRels t s.heap vs args → ∀ (B : Result → Shared → Prop),
    (∀ e tc s2 h, Land G t s st' tc s2 → Fly tc t.st c e s2 h → B (.error (.ref e)) { s2 with heap := h }) → codeAny G.M A (.call (.ref a) ⟨args, []⟩) B s
noncomputable def CallsQ (G : Gd) (C : Calls) (n : Nat) (qf : Nat → Bool) : Prop := ∀ f, qf f = true → CallAt G C ⟨n, false⟩ f
structure CallsA (G : Gd) (xf qf : Nat → Bool) (C : Calls) (n : Nat) : Prop where
  ok : CallsOk G C ⟨n, true⟩
  x : CallsX G C ⟨n, true⟩ xf
  q : CallsQ G C n qf
structure FnX (G : Gd) (xf qf : Nat → Bool) (fn : Fn) (a : Addr) : Prop where
  ex : ∃ (fd : FuncData) (body : List Stmt), FnHd G fn a fd body ∧ ∀ (C : Calls) (n : Nat), CallsA G xf qf C n → SimXB G C ⟨n, true⟩ fd.scope.names (gam0 fn) n fn.body body
theorem entry_x (O : G.Ok N) {fn : Fn} {a : Addr} {xf qf : Nat → Bool} (hfn : FnX G xf qf fn a) (CA : CallsA G xf qf C n) (hA : AC ⟨n + 1, true⟩ A) {Vs : List V} {vals : List Value} (K : Stk A t s.heap) (R : Rel G t st s) (r : VRels t s.heap Vs vals) (hnp : Vs.length = fn.np)
    {c : Nat} (e : exs G.P C n fn.body (Vs.map some ++ List.replicate (fn.names.length - fn.np) none) st = .exc c st') {B : Result → Shared → Prop}
    (k : ∀ e tc s2 h, Land G t s st' tc s2 → Fly tc t.st c e s2 h → B (.error (.ref e)) { s2 with heap := h }) :
    codeAny G.M A (.call (.ref a) ⟨vals, []⟩) B s := by
  obtain ⟨fd, body, hd, h15⟩ := hfn.ex
  refine entry_at O hd hA K R r hnp fun env s₁ hs hf np hk0 hg ho hA' F0 R0 => ?_
  refine h15 C n CA (t.hideS (own env) (env :: t.st)) st s₁ env _ c st' (A.deeper env) hA' ⟨_, Around.frames_deeper K.fr, hf⟩ hs F0 R0 e _ _ fun e' t' s2 h' args S' R' K' hx => ?_
  refine leave_new (t := t') (outer := t.st) K' S'.le.st hf hx fun h'' fl => k e' t' s2 h'' ⟨fun h3 cov up => ?_⟩ fl
  have hpv : t'.pv = (t.hideS (own env) (env :: t.st)).pv := S'.le.pv
  have nP : ∀ b, t.pv b → ¬ own env b := fun b q z => by
    have := R.live b (.inr q)
    rw [np b z] at this; cases this
  have S3 : Step (own env) t' t' s2 { s2 with heap := h3 } := (step_slots K' cov up).mono fun _ z => z.elim
  have R3 : Rel G t' st' { s2 with heap := h3 } := R'.slots K' cov up
  have Fg : Forget (own env) noX t' { t' with pv := t.pv, st := t.st } { s2 with heap := h3 } { s2 with heap := h3 } :=
    ⟨rfl, rfl, fun b q => ⟨by rw [hpv]; exact .inl q, nP b q⟩, fun b q => by rw [hpv]; exact .inr q, fun b z => z.elim, fun _ _ _ _ e => e, rfl, rfl, rfl⟩
  have S'' := Step.unhideS (t := t) (L := noX) (l := env :: t.st) (fun e he => (List.mem_cons.1 he).elim (fun z => .inr fun b q => by rw [z, hf] at q; cases q; exact .inl rfl) .inl) (fun e he => List.mem_cons_of_mem _ he) (fun b q => .inl q) np hk0 hg ho (S'.trans S3) Fg
  refine ⟨_, S'', R3.forget Fg, fun a q => R'.live a ?_⟩
  rcases q with q | q
  · exact .inl q
  · exact .inr (by rw [hpv]; exact .inl q)
theorem run_okE {P : Prog} {f : Nat} {vs : List V} {X : V} (e : run P (n + 1) f vs st = .ok X st') : ∃ fn p, P.fns f = some fn ∧ vs.length = fn.np ∧ exs P (run P n) n fn.body (vs.map some ++ List.replicate (fn.names.length - fn.np) none) st = .ok p st' ∧ X = (match p.1 with | .ret v => v | .next => .none) := by
  simp only [run] at e
  split at e
  case h_2 => cases e
  rename_i fn hf
  split at e
  case isFalse => cases e
  rename_i hnp
  obtain ⟨p, s1, e1, e⟩ := Res.bind_ok e
  cases e
  exact ⟨fn, p, hf, hnp, e1, rfl⟩
theorem run_excE {P : Prog} {f c : Nat} {vs : List V} (e : run P (n + 1) f vs st = .exc c st') : ∃ fn, P.fns f = some fn ∧ vs.length = fn.np ∧ exs P (run P n) n fn.body (vs.map some ++ List.replicate (fn.names.length - fn.np) none) st = .exc c st' := by
  simp only [run] at e
  split at e
  case h_2 => cases e
  rename_i fn hf
  split at e
  case isFalse => cases e
  rename_i hnp
  rcases Res.bind_exc e with e1 | ⟨p, s1, e1, e⟩
  · exact ⟨fn, hf, hnp, e1⟩
  · cases e
theorem call_rec (O : G.Ok N) {q : Bool} {PX : Calls → Nat → Prop} {f : Nat} (hfn : ∀ fn, G.P.fns f = some fn → ∃ a, G.fa f = some a ∧ FnRec G q PX fn a) (px : PX (run G.P n) n) : CallAt G (run G.P (n + 1)) ⟨n + 1, q⟩ f := by
  intro vs st X st' e A hA
  obtain ⟨fn, p, hf, hnp, e1, h1⟩ := run_okE e
  obtain ⟨a, ha, rec⟩ := hfn fn hf
  exact ⟨a, ha, fun t s args K R r B k => entry_go O rec px hA K R r hnp e1 fun v t' s' S' R' rv => k v t' s' S' R' (by rw [h1]; exact rv)⟩
theorem calls_both (O : G.Ok N) {xf qf : Nat → Bool} (hfn : ∀ f fn, G.P.fns f = some fn → ∃ a, G.fa f = some a ∧ FnRec G true (CallsA G xf qf) fn a) (hx : ∀ f fn, xf f = true → G.P.fns f = some fn → ∃ a, G.fa f = some a ∧ FnX G xf qf fn a)
    (hq : ∀ f fn, qf f = true → G.P.fns f = some fn → ∃ a, G.fa f = some a ∧ FnRec G false (fun C n => CallsQ G C n qf) fn a) : ∀ n, CallsA G xf qf (run G.P n) n
  | 0 => ⟨fun f vs st X st' e => (by cases e), fun f vs st c st' _ e => (by cases e), fun f _ vs st X st' e => (by cases e)⟩
  | n + 1 => by
    have ih := calls_both O hfn hx hq n
    refine ⟨fun f => call_rec O (hfn f) ih, fun f vs st c st' xq e A hA => ?_, fun f qq => call_rec O (fun fn => hq f fn qq) ih.q⟩
    obtain ⟨fn, hf, hnp, e1⟩ := run_excE e
    obtain ⟨a, ha, rec⟩ := hx f fn xq hf
    exact ⟨a, ha, fun t s args K R r B k => entry_x O rec ih hA K R r hnp e1 k⟩
theorem FrOk.mark {x : Option Value} (F : FrOk G A t env Γ loc s) : FrOk G (A.mark x) t env Γ loc s := ⟨⟨F.sk.fr, F.sk.ob⟩, F.fn, F.gl, F.bl, F.pvl, F.pvc, F.apart, F.ex⟩
theorem AOk.mark {x : Option Value} (h : AOk d A) : AOk ⟨d.n, false⟩ (A.mark x) := ⟨nofun, h.dep, h.un⟩
theorem TopA.mark {x : Option Value} (h : TopA A env) : TopA (A.mark x) env := h
theorem name_goes {x : Option Value} {nm : PySem.Str} {pos : Pos} (F : FrOk G (A.mark x) t env Γ loc s) (R : Rel G t st s) (hl : env.kindOf nm = some .local) {Q : Unit → Shared → Prop} {E : Value → Shared → Prop}
    (q : ∀ s', Step (own env) t t s s' → Rel G t st s' → FrOk G A t env Γ [] s' → Q () s') : wpAny G.M A (do bindName env nm .none; unbindBehindTheSuite env nm pos) Q E s := by
  obtain ⟨m, cm, hn, hcc, hz, hs⟩ := F.ex
  refine wpAny_nameGoes hl hn F.noClass fun h' m' hn' hs' => ?_
  have hlv : (h'.get? env.locals).isSome = true := by obtain ⟨o, _, _, z, _⟩ := hn'; rw [z]; rfl
  have sk : Stk A t h' := Stk.step (A := A) ⟨F.sk.fr, F.sk.ob⟩ R (Step.priv (X := (· = env.locals)) (tk := s.toks + 1) rfl hlv hs') fun a x _ o e vs z => by
    subst x
    obtain ⟨ob, es, ep, h1, h2, _⟩ := hn'
    rw [show h'.get? env.locals = some o from e] at h1; cases h1
    rw [h2] at z; cases z
  refine q _ (Step.priv (.inl rfl) hlv hs') (R.priv F.pvl hlv hs') ⟨sk, F.fn, F.gl, F.bl, F.pvl, F.pvc, F.apart, m', cm, hn', fun n c e => ?_, hz, fun i y Y _ e2 => by cases e2⟩
  have hc := hcc n c e
  have hne := ns_cell hn hc
  obtain ⟨oc, h3, h4⟩ := hc
  exact ⟨oc, (hs'.2 c hne).trans h3, h4⟩
theorem try_go (O : G.Ok N) {xf : Nat → Bool} (CX : CallsX G C d xf) (gi : GamInj Γ) {f : Nat} (CO : CallAt G C d f) (hxq : xf f = true) {Ws : List V} {s2 : MS} {x : PySem.Expr} {ep : Pos} (hnc : notComp x = true)
    {c i : Nat} {hn nm : PySem.Str} {hp hpos tpos : Pos} {b : List S} {b0 : Stmt} {suite : List Stmt} (W : OwnX G hn c) (hgh : glob sc hn = true)
    (hk : ∀ c', (G.P.excBase c').contains c' = true → (G.P.excBase c').contains c = true → exmOne G.K (.ref c') (.ref c) = some true)
    (hi : Γ[i]? = some (some nm)) (hkl : sc.lookup nm = some .local) (hb : SimB G C ⟨d.n, false⟩ sc Γ n b (b0 :: suite)) (hA : AOk d A) (hT : TopA A env) (hsc : env.scope.names = sc) (F : FrOk G A t env Γ loc s) (R : Rel G t st s)
    (hr : ∀ Q E, (∀ fa ws t2 σ2, G.fa f = some fa → Step noX t t2 s σ2 → Rel G t2 s2 σ2 → VRels t2 σ2.heap Ws ws → wpAny G.M A (call (.ref fa) ws) Q E σ2) → wpAny G.M A (eval x env) Q E s)
    {fl : Fl} {loc' : Loc} (e : landOn G.P (exs G.P C n b) c i loc (C f Ws s2) = .ok (fl, loc') st') : SimF G A env Γ t s (exec (.Try [.Expr x ep] [.ExceptHandler (some (.Name hn hp)) (some nm) (b0 :: suite) hpos] [] [] tpos) env) st' fl loc' := by
  intro Q E kk
  refine wpAny_Try_except (wpAny_execs_cons (wpAny_Expr_any (hr _ _ fun fa ws t2 σ2 f1 S2 R2 r2 => ?_) (by unfold interactive; rw [F.fn]; rfl) (swaps_no hnc _ _ _)))
  have F2 := F.step R S2
  cases hC : C f Ws s2 with
  | stuck => rw [hC] at e; cases e
  | ok X s3 =>
    rw [hC] at e
    cases e
    exact call_wp (Vs := Ws) CO hA.ac f1 F2.sk R2 r2 hC _ _ fun v t3 σ3 S3 R3 r3 => wpAny_execs_nil (wpAny_execs_nil (kk _ t3 σ3 ((S2.trans S3).mono fun _ z => z.elim) R3 (F2.step R2 S3) rfl))
  | exc c' s3 =>
    rw [hC] at e
    have e : (if ((G.P.excBase c').contains c' && (G.P.excBase c').contains c) = true then (exs G.P C n b (loc.set i (some (.exc c'))) s3).bnd fun p s => (match p.1 with | .ret v => Res.ok (Fl.ret v, []) s | .next => .stuck) else .stuck) = .ok (fl, loc') st' := e
    by_cases hcc : ((G.P.excBase c').contains c' && (G.P.excBase c').contains c) = true
    · rw [if_pos hcc] at e
      obtain ⟨q1, q2⟩ := Bool.and_eq_true_iff.1 hcc
      obtain ⟨⟨f4, l4⟩, s4, e4, e⟩ := Res.bnd_ok e
      cases f4 with
      | next => cases e
      | ret X =>
        cases e
        obtain ⟨a', h1, h2⟩ := CX f Ws s2 c' s3 hxq hC A hA.ac
        rw [f1] at h1; cases h1
        refine wpAny_call (h2 t2 σ2 ws F2.sk R2 r2 _ fun ee tc sx hh ld fly => ?_)
        obtain ⟨outer, hfr, hfrm⟩ := id hT
        have hst : t2.st = env :: outer := Option.some.inj (F2.sk.fr.symm.trans hfr)
        obtain ⟨B, a0, cov, hfl⟩ := fly.ex
        rw [hst] at hfl
        show wpAny _ A (noteFrame (.ref ee) env) _ _ _
        refine wpAny_looks_onW hfr hfrm hfl fun h4 held up4 => ?_
        refine wpAny_landsW held fun h5 fl5 up5 => ?_
        have up5' := (fly.up.trans up4).trans up5
        obtain ⟨t5, S5, R5, av5⟩ := ld.go h5 (fun a o q nf => fl5.1 a o (cov a o q nf)) up5'
        have F5 := F2.step R2 S5
        refine wpAny_handleBy_cons (codeAny_handlers_test (glob_name O F5.mark R5 hsc hgh W.bound ?_)) (by intro q; cases q)
        obtain ⟨ob, hob, hobc⟩ := fl5.there
        have LT : Looks G.M h5 (typeOf (.ref ee)) (.ref c') := hobc ▸ (Looks.ld hob).andThen .now
        refine (exm_one (M := G.M) (h := h5) (O.K.keeps R5.base) LT (hk c' q1 q2)).here ?_
        refine codeAny_handlers_suite_as (lands_againW fl5 fun h6 fl6 up6 => ?_)
        obtain ⟨t6, S6, R6, av6⟩ := ld.go h6 (fun a o q nf => fl6.1 a o (cov a o q nf)) (up5'.trans up6)
        have F6 := F2.step R2 S6
        obtain ⟨ob6, hob6, hobc6⟩ := fl6.there
        have rx : VRel t6 h6 (.exc c') (.ref ee) := ⟨ee, ob6, rfl, hob6, hobc6, fun z => by
          have := av6 ee z
          rw [fly.new] at this; cases this⟩
        refine store_go F6.mark R6 gi hi (.inl (by unfold Env.kindOf; rw [hsc]; exact hkl)) rx fun s7 S7 R7 F7 => ?_
        refine hb t6 s3 s7 env _ (.ret X) l4 _ _ hA.mark hT.mark hsc F7 R7 e4 _ _ fun f8 t8 s8 S8 R8 F8 r8 => ?_
        obtain ⟨u, rfl, ru⟩ := r8
        refine name_goes F8 R8 (by unfold Env.kindOf; rw [hsc]; exact hkl) fun s9 S9 R9 F9 => ?_
        exact kk _ t8 s9 (((((S2.trans S6).mono fun _ z => z.elim).trans S7).trans S8).trans S9) R9 F9 ⟨u, rfl, VRel.step S9 F8.ownPv _ ru⟩
    · rw [if_neg hcc] at e; cases e
section
variable (O : G.Ok N) (CO : CallsOk G C d) {xf : Nat → Bool} (CX : CallsX G C d xf) (gi : GamInj Γ) {c i : Nat} {hn nm : PySem.Str} {hp hpos tpos : Pos} {b : List S} {b0 : Stmt} {suite : List Stmt} (W : OwnX G hn c) (hgh : glob sc hn = true)
    (hk : ∀ c', (G.P.excBase c').contains c' = true → (G.P.excBase c').contains c = true → exmOne G.K (.ref c') (.ref c) = some true)
    (hi : Γ[i]? = some (some nm)) (hkl : sc.lookup nm = some .local) (hb : SimB G C ⟨d.n, false⟩ sc Γ n b (b0 :: suite)) {l : List E} {m : List PySem.Expr} {cp ep : Pos} (hm : plainArgs m = true) (hlm : l.length = m.length) (hl : SimEs G C d sc Γ l m)
include O CO CX gi W hgh hk hi hkl hb hm hlm hl
theorem simS_tryC (hfn : ∀ f a, G.fa f = some a → FnOk G N f a) {f : Nat} {np : Pos} (hxq : xf f = true) (hne : N.fn f ≠ Str.empty) (hg : glob sc (N.fn f) = true) :
    SimS G C d sc Γ n (.tryC f l c i b) (.Try [.Expr (.Call (.Name (N.fn f) np) m [] cp) ep] [.ExceptHandler (some (.Name hn hp)) (some nm) (b0 :: suite) hpos] [] [] tpos) := by
  intro t st s env loc fl loc' st' A hA hT hsc F R e
  rw [ex_tryC] at e
  obtain ⟨Vs, s2, e2, e⟩ := Res.bnd_ok e
  obtain ⟨a, h1⟩ : ∃ a, G.fa f = some a := by
    cases hC : C f Vs s2 with
    | stuck => rw [hC] at e; cases e
    | ok X s3 => obtain ⟨a, h, -⟩ := CO f Vs s2 X s3 hC A hA.ac; exact ⟨a, h⟩
    | exc c' s3 => obtain ⟨a, h, -⟩ := CX f Vs s2 c' s3 hxq hC A hA.ac; exact ⟨a, h⟩
  have fo := hfn f a h1
  refine try_go O CX gi (CO f) hxq rfl W hgh hk hi hkl hb hA hT hsc F R (fun Q E q => ?_) e
  refine wpAny_Call_ofName (glob_name O F R hsc hg (fo.name.resolve_left hne) ?_)
  exact with_go O (keeps_r fo.keep) hm hlm hl hA hsc F R e2 fun vs t1 σ1 S1 R1 r1 => q a vs t1 σ1 h1 S1 R1 r1
end
end
end Mine
end

section
set_option genInjectivity false
set_option genSizeOf false
namespace Mine
open PySem PySem.W PyProof.Rows PySem.Spec PySem.Calls Builtin Builtin.ObjectAttr Builtin.Getset_descriptor

section
variable {G : Gd} {N : Names} {C : Calls} {d : Dp} {sc : Sc} {Γ : Gam} {A : Around} {t t' : Tie} {st st' : MS} {s : Shared} {env : Env} {loc : Loc} {X Y Z : V} {v w : Value} {n : Nat} {h : Heap}

noncomputable def xcls (K : Frag) (c : Nat) : Bool := decide (findIn K (.ref c) "__getattribute__" = some (some (.builtin "BaseException.__getattribute__"))) && decide (findIn K (.ref c) "__getattr__" = some none) && decide (mroIn K c (.type "BaseException") = some true) && decide (findIn K (.ref c) "__class__" = some (some (.builtin "object.__class__"))) && decide (specialIn K (.builtin "object.__class__") "__get__" = some (some (.builtin "getset_descriptor.__get__"))) &&
  decide (takesIn K (.builtin "object.__class__") = some true) && decide (mroIn K c (.type "object") = some true) && (clsIn K c).isSome
theorem looks_data {K : Frag} {M : Model} (X : K.In h) {x c : Addr} {nm : PySem.Str} {a g : Value} (h1 : findIn K (.ref c) nm = some (some a)) (h2 : specialIn K a "__get__" = some (some g)) (h3 : takesIn K a = some true) : Looks M h (find (.ref x) (.ref c) nm) (.bind g a) :=
  (looks_findIn X h1).andThen ((show Looks M h (getOf (some a)) (some g) from looks_specialIn X h2).andThen ((show Looks M h (dataDescriptor? (some a) (some g)) (some (g, a)) from (looks_takesIn X h3).andThen .now).andThen (Looks.tag .now)))
noncomputable def OfCls (e c : Addr) (h : Heap) : Prop := ∃ o, h.get? e = some o ∧ o.cls = .ref c
theorem OfCls.ty {M : Model} {e c : Addr} (p : OfCls e c h) : Looks M h (typeOf (.ref e)) (.ref c) := let ⟨_, h1, h2⟩ := p; h2 ▸ (Looks.ld h1).andThen .now
theorem exc_get {prog : Program} {w : World} {K : Frag} {x c : Addr} {R : Result → Shared → Prop} {tp : Value} (X : K.In s.heap) (p : OfCls x c s.heap) (hm : mroIn K c (.type "object") = some true) (q : R (.ok (.ret (.ref c))) s) :
    codeAny (model prog w) A (.call (.builtin "getset_descriptor.__get__") ⟨[.builtin "object.__class__", .ref x, tp], []⟩) R s := by
  obtain ⟨hh, g, dr, tk, os⟩ := s
  have L0 := p.ty (M := model prog w)
  have L1 := looks_mroIn (M := model prog w) X hm
  refine codeAny_call_builtin KF.slot_gs.plain KF.entry_gs (KF.slot_gs.check _ _ _ _ _ _ _ _ KF.type_class (KF.args_gs _ _ _) ?_)
  unfold Builtin.«getset_descriptor.__get__» descrGet
  rw [dga_obj]
  refine wpAny_bind (wpAny_pure ?_)
  unfold descrGetter descrCheckInstance descrNameAndClass isInstance
  simp only [KF.owner_class]
  repeat lk
  refine ⟨Code.quiet_builtin _ (by decide +kernel), codeAny_builtin KF.entry_class ?_⟩
  unfold Builtin.«object.__class__» shownTypeOf
  repeat lk
  exact q
theorem exc_check {M : Model} {K : Frag} {x c : Addr} {nm : Value} {Q : Unit → Shared → Prop} {E : Value → Shared → Prop} (X : K.In s.heap) (p : OfCls x c s.heap) (hm : mroIn K c (.type "BaseException") = some true) (q : Q () s) :
    wpAny M A (checkBuiltinCall "BaseException.__getattribute__" ⟨[.ref x, nm], []⟩) Q E s := by
  obtain ⟨hh, g, dr, tk, os⟩ := s
  have L : Looks M hh (isInstance (.ref x) (.type "BaseException")) true := p.ty.andThen (looks_mroIn X hm)
  have hk : builtinKind "BaseException.__getattribute__" = some .slot := by decide +kernel
  have hsplit : splitId "BaseException.__getattribute__" = some ("BaseException", "__getattribute__") := by decide +kernel
  have ha := F.args_bexc_ga (.ref x) nm
  simp only [checkBuiltinCall, hk, hsplit]
  refine wpAny_bind (L.at ?_)
  repeat (first | exact q | wp_step)
theorem kitx_exc {K : Frag} {x c : Addr} (hc : xcls K c = true) : KitX K (.ref x) (.ref c) (OfCls x c) := by
  obtain ⟨hc, h6⟩ := Bool.and_eq_true_iff.1 hc
  obtain ⟨hc, h5⟩ := Bool.and_eq_true_iff.1 hc
  obtain ⟨hc, h4⟩ := Bool.and_eq_true_iff.1 hc
  obtain ⟨hc, h3⟩ := Bool.and_eq_true_iff.1 hc
  obtain ⟨hc, h2⟩ := Bool.and_eq_true_iff.1 hc
  obtain ⟨hc, h0⟩ := Bool.and_eq_true_iff.1 hc
  obtain ⟨g1, g2⟩ := Bool.and_eq_true_iff.1 hc
  obtain ⟨cd, h6⟩ := Option.isSome_iff_exists.mp h6
  refine ⟨fun _ _ _ p => p.ty, fun M h X _ => ?_, fun h tp dd its n sl X htp => ?_, fun {prog w A E Q s} X p k => ?_⟩
  · unfold clsIn at h6
    split at h6
    · rename_i ho
      intro A' Q' E' s' k q
      unfold isType loadHead
      exact wpAny_bind (wpAny_loadPart (k _ _ (X _ _ ho)) (wpAny_pure q))
    · cases h6
  · refine Bool.eq_false_iff.mpr fun q => ?_
    have e : c = tp := Value.ref.inj (beq_iff_eq.mp q)
    subst e
    unfold clsIn at h6
    split at h6
    · rename_i ho
      have z := (X _ _ ho).symm.trans htp
      cases z
    · cases h6
  · obtain ⟨hh, g, dr, tk, os⟩ := s
    have L0 := p.ty (M := model prog w)
    have L1 := looks_findIn (M := model prog w) X (of_decide_eq_true g1)
    have L2 : Looks (model prog w) hh (hookBefore (.ref c)) none := looks_findIn (M := model prog w) X (of_decide_eq_true g2)
    have L3 := looks_data (M := model prog w) (x := x) X (of_decide_eq_true h2) (of_decide_eq_true h3) (of_decide_eq_true h4)
    have hx2 : (Value.builtin "BaseException.__getattribute__" == Value.builtin "object.__getattribute__") = false := by decide +kernel
    unfold getAttr? getAttrBy? getAttrBy
    refine wpAny_bind (wpAny_mkText (wpAny_bind (wpAny_attempt (wpAny_holding (wpAny_bind (L0.at (wpAny_bind (L1.at ?_))))))))
    show wpAny _ _ (if (onTheHeap (Value.ref c) && Value.builtin "BaseException.__getattribute__" == Value.builtin "object.__getattribute__") = true then _ else _) _ _ _
    rw [hx2, Bool.and_false, if_neg Bool.false_ne_true]
    refine wpAny_bind (L2.at (wpAny_bind (wpAny_attempt (wpAny_holding ?_))))
    show wpAny _ _ (boundAndCalled _ _ _) _ _ _
    refine wpAny_bind (wpAny_of_eq (F.attr_ValueError.ga.bind (.ref x)) ?_)
    refine wpAny_call (codeAny_call_builtin F.attr_ValueError.ga.plain F.entry_bexc_ga (exc_check (s := ⟨hh, g, dr, _, os⟩) X p (of_decide_eq_true h0) ?_))
    unfold Builtin.«object.__getattribute__»
    refine wpAny_bind (wpAny_pure (wpAny_bind (wpAny_pure (wpAny_bind (L0.at (wpAny_bind (L3.at ?_)))))))
    show wpAny _ _ (holding [Value.builtin "object.__class__"] (call (.builtin "getset_descriptor.__get__") [.builtin "object.__class__", .ref x, .ref c]) >>= ret) _ _ _
    refine wpAny_bind (wpAny_holding (wpAny_call (exc_get (s := ⟨hh, g, dr, _, os⟩) X p (of_decide_eq_true h5) ?_)))
    exact wpAny_pure (handed_on rfl (wpAny_pure k))
noncomputable def xval (k : Nat) : Value := if k = 0 then .type "ValueError" else .ref k
theorem sim_isX (O : G.Ok N) {a : E} {x : PySem.Expr} {k : Nat} {y : PySem.Str} {np yp pos : Pos} (hg : glob sc "isinstance" = true) (hx : isStarred x = false) (hgy : glob sc y = true) (hy : (k = 0 ∧ y = "ValueError") ∨ (k ≠ 0 ∧ G.mg y = some (.ref k)))
    (hk : ∀ c, (G.P.excBase c).contains c = true → xcls G.K c = true ∧ kitOne G.K (.ref c) (xval k) = some ((G.P.excBase c).contains k)) (ha : SimE G C d sc Γ a x) :
    SimE G C d sc Γ (.isX a k) (.Call (.Name "isinstance" np) [x, .Name y yp] [] pos) := by
  intro t st s env loc X st' A hA hsc F R e Q E q
  rw [ev_isX] at e
  obtain ⟨U, s1, e1, e⟩ := Res.bind_ok e
  cases U with
  | exc c =>
    have e : (if (G.P.excBase c).contains c = true then Res.ok (V.bool ((G.P.excBase c).contains k)) s1 else .stuck) = .ok X st' := e
    by_cases hc : (G.P.excBase c).contains c = true
    · rw [if_pos hc] at e
      cases e
      obtain ⟨c1, c2⟩ := hk c hc
      refine wpAny_Call_ofName (built_glob (v := .builtin "isinstance") O F R hsc hg (by decide) (by decide +kernel) ?_)
      refine callWith_of (P := G.K.In) (by rw [star_plain pos env (m := [x, .Name y yp]) (by have hyy : isStarred (PySem.Expr.Name y yp) = false := rfl; simp [plainArgs, hx, hyy])]; rfl) (keeps_b _) (args2_go hx rfl ?_)
      refine ha t st s env loc _ _ A hA hsc F R e1 _ _ fun v t1 σ1 S1 R1 r1 => ?_
      have XK := O.K.keeps R1.base
      obtain ⟨ee, oo, rfl, ho, hcl, -⟩ := r1
      have fin : wpAny G.M A (call (.builtin "isinstance") [.ref ee, xval k]) Q E σ1 := kia_one (kitx_exc c1) XK ⟨oo, ho, hcl⟩ c2 nofun fun tk => q _ t1 _ (S1.trans (Step.toks _ _ _ tk)) (R1.toks tk) rfl
      have F1 := F.step R S1
      rcases hy with ⟨rfl, rfl⟩ | ⟨hk0, hm⟩
      · exact built_glob (v := .type "ValueError") O F1 R1 hsc hgy (by decide) (by decide +kernel) ⟨XK, fin⟩
      · refine glob_name O F1 R1 hsc hgy hm ⟨XK, ?_⟩
        rw [xval, if_neg hk0] at fin
        exact fin
    · rw [if_neg hc] at e; cases e
  | _ => cases e
end
end Mine
end

section
set_option genInjectivity false
set_option genSizeOf false
namespace Mine
open PySem PySem.W PyProof.Rows

inductive Ck (p : Prop) : Type where
  | yes (h : p)
  | no
noncomputable def Ck.bind {p q : Prop} (a : Ck p) (k : p → Ck q) : Ck q := Ck.rec (motive := fun _ => Ck q) k .no a
noncomputable def Ck.isYes {p : Prop} (a : Ck p) : Bool := Ck.rec (fun _ => true) false a
theorem Ck.get {p : Prop} {a : Ck p} (h : a.isYes = true) : p := by
  cases a with
  | yes g => exact g
  | no => cases h
theorem and_ok {a b : Bool} (h : (a && b) = true) : a = true ∧ b = true := by cases a <;> cases b <;> first | exact ⟨rfl, rfl⟩ | cases h
class No (α : Type) where
  no : α
noncomputable instance {p : Prop} : No (Ck p) := ⟨.no⟩
noncomputable def wb {α : Type} [No α] (b : Bool) (k : b = true → α) : α := Bool.rec (motive := fun b => (b = true → α) → α) (fun _ => No.no) (fun k => k rfl) b k
noncomputable def wk {p : Prop} {α : Type} [No α] (a : Ck p) (k : p → α) : α := Ck.rec (motive := fun _ => α) k No.no a
@[elab_as_elim] noncomputable def wq {α : Type} [BEq α] [LawfulBEq α] {P : α → Type} [∀ x, No (P x)] (a b : α) (k : P a) : P b := wb (a == b) fun h => eq_of_beq h ▸ k
section
variable {P : PySem.Expr → Type} [∀ x, No (P x)]
@[elab_as_elim] noncomputable def wName (x : PySem.Expr) (f : ∀ y p, P (.Name y p)) : P x := match x with | .Name y p => f y p | _ => No.no
@[elab_as_elim] noncomputable def wConst (x : PySem.Expr) (f : ∀ y k p, P (.Constant y k p)) : P x := match x with | .Constant y k p => f y k p | _ => No.no
@[elab_as_elim] noncomputable def wUn (x : PySem.Expr) (f : ∀ o a p, P (.UnaryOp o a p)) : P x := match x with | .UnaryOp o a p => f o a p | _ => No.no
@[elab_as_elim] noncomputable def wBool (x : PySem.Expr) (f : ∀ o a p, P (.BoolOp o a p)) : P x := match x with | .BoolOp o a p => f o a p | _ => No.no
@[elab_as_elim] noncomputable def wBin (x : PySem.Expr) (f : ∀ a o b p, P (.BinOp a o b p)) : P x := match x with | .BinOp a o b p => f a o b p | _ => No.no
@[elab_as_elim] noncomputable def wCmp (x : PySem.Expr) (f : ∀ a o b p, P (.Compare a o b p)) : P x := match x with | .Compare a o b p => f a o b p | _ => No.no
@[elab_as_elim] noncomputable def wTup (x : PySem.Expr) (f : ∀ a o p, P (.Tuple a o p)) : P x := match x with | .Tuple a o p => f a o p | _ => No.no
@[elab_as_elim] noncomputable def wList (x : PySem.Expr) (f : ∀ a p, P (.List a p)) : P x := match x with | .List a p => f a p | _ => No.no
@[elab_as_elim] noncomputable def wSub (x : PySem.Expr) (f : ∀ a b p, P (.Subscript a b p)) : P x := match x with | .Subscript a b p => f a b p | _ => No.no
@[elab_as_elim] noncomputable def wAttr (x : PySem.Expr) (f : ∀ a b p, P (.Attribute a b p)) : P x := match x with | .Attribute a b p => f a b p | _ => No.no
@[elab_as_elim] noncomputable def wCall (x : PySem.Expr) (f : ∀ a b c p, P (.Call a b c p)) : P x := match x with | .Call a b c p => f a b c p | _ => No.no
@[elab_as_elim] noncomputable def wComp (x : PySem.Expr) (f : ∀ a b c p, P (.ListComp a b c p)) : P x := match x with | .ListComp a b c p => f a b c p | _ => No.no
end
section
variable {α : Type} {P : List α → Type} [∀ x, No (P x)]
@[elab_as_elim] noncomputable def w0 (l : List α) (f : P []) : P l := List.rec (motive := fun l => P l) f (fun _ _ _ => No.no) l
@[elab_as_elim] noncomputable def wc (l : List α) (f : ∀ a r, P (a :: r)) : P l := List.rec (motive := fun l => P l) No.no (fun a r _ => f a r) l
@[elab_as_elim] noncomputable def w1 (l : List α) (f : ∀ a, P [a]) : P l := wc l fun a r => w0 (P := fun r => P (a :: r)) r (f a)
@[elab_as_elim] noncomputable def w2 (l : List α) (f : ∀ a b, P [a, b]) : P l := wc l fun a r => w1 (P := fun r => P (a :: r)) r (f a)
variable {Q : Option α → Type} [∀ x, No (Q x)]
@[elab_as_elim] noncomputable def wn (l : Option α) (f : Q none) : Q l := Option.rec (motive := fun l => Q l) f (fun _ => No.no) l
@[elab_as_elim] noncomputable def ws (l : Option α) (f : ∀ a, Q (some a)) : Q l := Option.rec (motive := fun l => Q l) No.no f l
end
section
variable {P : PySem.Expr → Type} [∀ x, No (P x)]
@[elab_as_elim] noncomputable def wCallN (x : PySem.Expr) (n : PySem.Str) (f : ∀ np l p, P (.Call (.Name n np) l [] p)) : P x :=
  wCall x fun a l k p => wName (P := fun a => P (.Call a l k p)) a fun y np => wq (P := fun y => P (.Call (.Name y np) l k p)) n y (w0 (P := fun k => P (.Call (.Name n np) l k p)) k (f np l p))
@[elab_as_elim] noncomputable def wCallA (x : PySem.Expr) (n : PySem.Str) (f : ∀ a ap l p, notSuper a = true → (ap.endLine == p.line) = true → l.length < 30 → P (.Call (.Attribute a n ap) l [] p)) : P x :=
  wCall x fun b l k p => wAttr (P := fun b => P (.Call b l k p)) b fun a y ap => wq (P := fun y => P (.Call (.Attribute a y ap) l k p)) n y (w0 (P := fun k => P (.Call (.Attribute a n ap) l k p)) k
    (wb (notSuper a) fun h1 => wb (ap.endLine == p.line) fun h2 => wb (decide (l.length < 30)) fun h3 => f a ap l p h1 h2 (of_decide_eq_true h3)))
@[elab_as_elim] noncomputable def wK (v : Const) (x : PySem.Expr) (f : ∀ k p, P (.Constant v k p)) : P x := wConst x fun c k p => wb (decide (v = c)) fun h => of_decide_eq_true h ▸ f k p
end
end Mine
end

section
set_option genInjectivity false
set_option genSizeOf false
namespace Mine
open PySem PySem.W PyProof.Rows

structure Hyp (G : Gd) (N : Names) (C : Calls) (d : Dp) : Prop where
  O : G.Ok N
  CO : d.q = true → CallsOk G C d
  hcl : ∀ c Ca, G.ca c = some Ca → ClsOk G Ca
  hfn : ∀ f a, G.fa f = some a → FnOk G N f a
  hme : ∀ c k f Ca, G.P.meths c k = some f → G.ca c = some Ca → ∃ a, G.fa f = some a ∧ MethOk G Ca (N.meth k) a
  hne : ∀ c k f, G.P.inits c = some (k, f) → ∃ Ca fi, G.ca c = some Ca ∧ G.fa f = some fi ∧ NewOk G N c Ca fi
  xw : ∀ y c, N.xs.contains (y, c) = true → c ≠ 0 ∧ OwnX G y c
  xk : ∀ c k, (G.P.excBase c).contains c = true → (G.P.excBase c).contains k = true → kitOne G.K (.ref c) (xval k) = some true ∧ (k ≠ 0 → exmOne G.K (.ref c) (.ref k) = some true)
  xm : ∀ k c f, N.xm k = true → G.P.meths c k = some f → N.xf f = true
  xi : ∀ c k, (G.P.excBase c).contains c = true → (k = 0 ∨ ∃ y, N.xs.contains (y, k) = true) → xcls G.K c = true ∧ kitOne G.K (.ref c) (xval k) = some ((G.P.excBase c).contains k)
  CX : d.q = true → CallsX G C d N.xf
  CQ : CallsQ G C d.n N.qf
theorem Hyp.quiet {G : Gd} {N : Names} {C : Calls} {d : Dp} (H : Hyp G N C d) : Hyp G N C ⟨d.n, false⟩ := ⟨H.O, nofun, H.hcl, H.hfn, H.hme, H.hne, H.xw, H.xk, H.xm, H.xi, nofun, H.CQ⟩

section
variable {G : Gd} {N : Names} {C : Calls} {d : Dp} {sc : Sc} {Γ : Gam} {x : PySem.Expr}

def SimET (G : Gd) (C : Calls) (d : Dp) (sc : Sc) (Γ : Gam) (e : E) (x : PySem.Expr) : Prop := isStarred x = false ∧ notSlice x = true ∧ SimE G C d sc Γ e x ∧ SimT G C d sc Γ e x
def SimLs (G : Gd) (C : Calls) (d : Dp) (sc : Sc) (Γ : Gam) (l : List E) (m : List PySem.Expr) : Prop := SimL G C d sc Γ l m ∧ SimEs G C d sc Γ l m ∧ plainArgs m = true ∧ l.length = m.length
theorem simET {e : E} (h1 : isStarred x = false) (h2 : notSlice x = true) (h3 : plainTest x = true) (h : SimE G C d sc Γ e x) : SimET G C d sc Γ e x := ⟨h1, h2, h, simT_plain h3 h⟩
theorem SimET.e {e : E} (h : SimET G C d sc Γ e x) : SimE G C d sc Γ e x := h.2.2.1
theorem SimET.t {e : E} (h : SimET G C d sc Γ e x) : SimT G C d sc Γ e x := h.2.2.2
theorem ls_cons {e : E} {l : List E} {m : List PySem.Expr} (h1 : SimET G C d sc Γ e x) (h2 : SimLs G C d sc Γ l m) : SimLs G C d sc Γ (e :: l) (x :: m) :=
  ⟨.cons h1.e h1.t h2.1, sim_es_cons h1.1 h1.e h2.2.1, by rw [show plainArgs (x :: m) = (!isStarred x && plainArgs m) from rfl, h1.1]; exact h2.2.2.1, congrArg Nat.succ h2.2.2.2⟩

def ItOk' (G : Gd) (C : Calls) (d : Dp) (sc : Sc) (Γ : Gam) (range : Bool) (it : E) (i : PySem.Expr) : Prop := ∃ j, IterAst sc range i j ∧ SimE G C d sc Γ it j
noncomputable def ckIt (range : Bool) {it : E} (i : PySem.Expr) (f : (x : PySem.Expr) → Ck (SimET G C d sc Γ it x)) : Ck (ItOk' G C d sc Γ range it i) :=
  match range with
  | false => (f i).bind fun h => .yes ⟨i, .plain i, h.e⟩
  | true => wCallN i "range" fun np l p => wb (glob sc "range") fun hg => w1 l fun j => (f j).bind fun h => .yes ⟨j, .range hg h.1, h.e⟩
structure CompAst (G : Gd) (C : Calls) (d : Dp) (sc : Sc) (Γ : Gam) (slot : Nat) (range : Bool) (it : E) (cond : Option E) (elt : E) (e i : PySem.Expr) (y : PySem.Str) (ifs : List PySem.Expr) (scope : Scope) : Prop where
  ok : compOk sc scope slot Γ y = true
  ns : notSet i = true
  it : ItOk' G C d sc Γ range it i
  co : CondSim G C d (compSc sc scope.names) (compGam (compSc sc scope.names) Γ slot y) cond ifs
  el : SimE G C d (compSc sc scope.names) (compGam (compSc sc scope.names) Γ slot y) elt e
@[elab_as_elim] noncomputable def wComp1 {P : PySem.Expr → Type} [∀ x, No (P x)] {slot : Nat} {range : Bool} {it : E} {cond : Option E} {elt : E} (x : PySem.Expr) (fi : ∀ x, Ck (SimET G C d sc Γ it x)) (fc : ∀ sc Γ m, Ck (CondSim G C d sc Γ cond m)) (fe : ∀ sc Γ x, Ck (SimET G C d sc Γ elt x))
    (k : ∀ e i y px ifs scope pos, CompAst G C d sc Γ slot range it cond elt e i y ifs scope → P (.ListComp e [⟨.Name y px, i, ifs, 0⟩] scope pos)) : P x :=
  wComp x fun e gs scope pos => w1 gs fun g => match g with
    | ⟨t, i, ifs, a⟩ => wName t fun y px => wq (P := fun a => P (.ListComp e [⟨.Name y px, i, ifs, a⟩] scope pos)) 0 a
      (wb (compOk sc scope slot Γ y) fun h1 => wb (notSet i) fun h2 => wk (ckIt range i fi) fun h3 => wk (fc (compSc sc scope.names) (compGam (compSc sc scope.names) Γ slot y) ifs) fun h4 => wk (fe (compSc sc scope.names) (compGam (compSc sc scope.names) Γ slot y) e) fun h5 => k e i y px ifs scope pos ⟨h1, h2, h3, h4, h5.e⟩)
theorem ck_comp (hq : d.q = true) (H : Hyp G N C d) {M : Option Nat} {slot : Nat} {range : Bool} {it : E} {cond : Option E} {elt : E} {e i : PySem.Expr} {y : PySem.Str} {px pos : Pos} {ifs : List PySem.Expr} {scope : Scope} (K : CompAst G C d sc Γ slot range it cond elt e i y ifs scope) :
    SimET G C d sc Γ (.comp M slot range it cond elt) (.ListComp e [⟨.Name y px, i, ifs, 0⟩] scope pos) := by
  obtain ⟨j, h1, h2⟩ := K.it
  exact simET rfl rfl rfl (sim_comp hq H.O (compOk_real K.ok) K.ns h1 h2 K.co K.el)
theorem ck_isX (H : Hyp G N C d) {a : E} {k : Nat} {y : PySem.Expr} {yn : PySem.Str} {np yp p : Pos} (h2 : glob sc "isinstance" = true) (h3 : glob sc yn = true) (h4 : ((decide (k = 0) && yn == ("ValueError" : PySem.Str)) || N.xs.contains (yn, k)) = true) (g : SimET G C d sc Γ a y) :
    SimET G C d sc Γ (.isX a k) (.Call (.Name "isinstance" np) [y, .Name yn yp] [] p) := by
  have h4 := Bool.or_eq_true_iff.1 h4
  refine simET rfl rfl rfl (sim_isX H.O h2 g.1 h3 (h4.imp (fun h => ?_) fun h => ?_) (fun c c1 => H.xi c k c1 (h4.imp (fun h => of_decide_eq_true (and_ok h).1) fun h => ⟨yn, h⟩)) g.e)
  · obtain ⟨q1, q2⟩ := and_ok h
    exact ⟨of_decide_eq_true q1, eq_of_beq q2⟩
  · exact ⟨(H.xw yn k h).1, (H.xw yn k h).2.bound⟩
noncomputable def ckCall (H : Hyp G N C d) (f : Nat) : Ck (CallAt G C d f) :=
  match d, H with
  | ⟨_, true⟩, H => .yes (H.CO rfl f)
  | ⟨_, false⟩, H => wb (N.qf f) fun h => .yes (H.CQ f h)
theorem not_empty {n : PySem.Str} (h : (!(n == Str.empty)) = true) : n ≠ Str.empty := by
  intro e; subst e; cases h
noncomputable def ckKs {a : E} (H : Hyp G N C d) (sc : Sc) (Γ : Gam) (ks : List Kind) (np : Pos) (y z : PySem.Expr) (p : Pos) (g : SimET G C d sc Γ a y) (hg : glob sc "isinstance" = true) : Ck (SimET G C d sc Γ (.isinst a ks) (.Call (.Name "isinstance" np) [y, z] [] p)) :=
  wc ks fun k r => wb (kindUse k) fun h1 => match r with
    | [] => wb (chkKind N sc k z) fun h2 => .yes (simET rfl rfl rfl (sim_isinst1 H.O h1 hg g.1 h2 g.e))
    | k' :: r => w0 r (wb (kindUse k') fun h2 => wTup z fun zs cx tp => wb (chkKinds N sc [k, k'] zs) fun h3 => .yes (simET rfl rfl rfl (sim_isinst2 H.O h1 h2 hg g.1 h3 g.e)))

mutual
noncomputable def ckE (H : Hyp G N C d) : (e : E) → (sc : Sc) → (Γ : Gam) → (x : PySem.Expr) → Ck (SimET G C d sc Γ e x)
  | .none, sc, Γ, x => wK .none x fun k p => .yes (simET rfl rfl rfl sim_none)
  | .bool b, sc, Γ, x => wK (.bool b) x fun k p => .yes (simET rfl rfl rfl sim_bool)
  | .int i, sc, Γ, x => wK (.int i) x fun k p => .yes (simET rfl rfl rfl sim_int)
  | .str l, sc, Γ, x => wK (.str (toStr l)) x fun k p => .yes (simET rfl rfl rfl sim_str)
  | .loc i, sc, Γ, x => wName x fun y p => wb (Γ[i]? == some (some y)) fun h1 => wb (!(y == ("__debug__" : PySem.Str))) fun h2 => .yes (simET rfl rfl rfl (sim_loc (eq_of_beq h1) (Bool.not_eq_true' _ ▸ h2)))
  | .gint g i, sc, Γ, x => wName x fun y p => wq g y (wb (glob sc g) fun h2 => wb (N.gi.contains (g, i)) fun h3 => .yes (simET rfl rfl rfl (sim_gint H.O h2 h3)))
  | .gstr g i, sc, Γ, x => .no
  | .neg a, sc, Γ, x => wUn x fun o y p => wq .USub o ((ckE H a sc Γ y).bind fun g => .yes (simET rfl rfl rfl (sim_neg g.e)))
  | .not a, sc, Γ, x => wUn x fun o y p => wq .Not o ((ckE H a sc Γ y).bind fun g => .yes ⟨rfl, rfl, sim_not g.e, simT_not g.t⟩)
  | .and l, sc, Γ, x => wBool x fun o m p => wq .And o ((ckEs H l sc Γ m).bind fun g => .yes ⟨rfl, rfl, simE_and g.1, simTE_and g.1⟩)
  | .or l, sc, Γ, x => wBool x fun o m p => wq .Or o ((ckEs H l sc Γ m).bind fun g => .yes ⟨rfl, rfl, simE_or g.1, simTE_or g.1⟩)
  | .bin o a b, sc, Γ, x => wBin x fun y q z p => wq (opOf o) q ((ckE H a sc Γ y).bind fun g1 => (ckE H b sc Γ z).bind fun g2 => .yes (simET rfl rfl rfl (sim_bin H.O g1.e g2.e)))
  | .cmp a o b, sc, Γ, x => wCmp x fun y qs zs p => w1 qs fun q => w1 zs fun z => wq (cmpOf o) q ((ckE H a sc Γ y).bind fun g1 => (ckE H b sc Γ z).bind fun g2 => wb (!behindInMarks (cmpOf o) z) fun h => .yes ⟨rfl, rfl, sim_cmp (Bool.not_eq_true' _ ▸ h) g1.e g2.e, simT_cmp (Bool.not_eq_true' _ ▸ h) g1.e g2.e⟩)
  | .cmp2 a o b o2 c, sc, Γ, x => wCmp x fun y qs zs p => w2 qs fun q r => w2 zs fun z u => wq (cmpOf o) q (wq (cmpOf o2) r ((ckE H a sc Γ y).bind fun g1 => (ckE H b sc Γ z).bind fun g2 => (ckE H c sc Γ u).bind fun g3 =>
      wb (!behindInMarks (cmpOf o2) u) fun h => .yes ⟨rfl, rfl, sim_cmp2 (Bool.not_eq_true' _ ▸ h) g1.e g2.e g3.e, simT_cmp2 (Bool.not_eq_true' _ ▸ h) g1.e g2.e g3.e⟩))
  | .isC n a v, sc, Γ, x => wCmp x fun y qs zs p => w1 qs fun q => w1 zs fun z => (ckE H a sc Γ y).bind fun g1 => wb (isNot q n) fun h2 => (match v with
      | .none => wK .none z fun k p => .yes ⟨rfl, rfl, sim_isN h2 g1.e, simT_isN h2 g1.e⟩
      | .bool b => wK (.bool b) z fun k p => .yes ⟨rfl, rfl, sim_isB h2 g1.e, simT_isB h2 g1.e⟩
      | _ => .no)
  | .tup l, sc, Γ, x => wTup x fun m k p => (ckEs H l sc Γ m).bind fun g => .yes (simET rfl rfl rfl (sim_tup g.2.1))
  | .lst l, sc, Γ, x => wList x fun m p => (ckEs H l sc Γ m).bind fun g => .yes (simET rfl rfl rfl (sim_lst g.2.1))
  | .lstM _ l, sc, Γ, x => .no
  | .dictM _ ks l, sc, Γ, x => .no
  | .sub a b, sc, Γ, x => wSub x fun y z p => (ckE H a sc Γ y).bind fun g1 => (ckE H b sc Γ z).bind fun g2 => .yes (simET rfl rfl rfl (sim_sub g2.2.1 g1.e g2.e))
  | .slice a lo hi, sc, Γ, x => .no
  | .attr a i, sc, Γ, x => .no
  | .call f l, sc, Γ, x => wCallN x (N.fn f) fun np m p => wb (glob sc (N.fn f)) fun h2 => wb (!(N.fn f == Str.empty)) fun h3 => (ckEs H l sc Γ m).bind fun g => wk (ckCall H f) fun hq => .yes (simET rfl rfl rfl (sim_call H.O hq H.hfn (not_empty h3) h2 g.2.2.1 g.2.2.2 g.2.1))
  | .meth a k l, sc, Γ, x => .no
  | .new c l, sc, Γ, x => .no
  | .isinst a ks, sc, Γ, x => wCallN x "isinstance" fun np m p => wb (glob sc "isinstance") fun h2 => w2 m fun y z => (ckE H a sc Γ y).bind fun g => ckKs H sc Γ ks np y z p g h2
  | .isX a k, sc, Γ, x => wCallN x "isinstance" fun np m p => wb (glob sc "isinstance") fun h2 => w2 m fun y z => wName z fun yn yp => wb (glob sc yn) fun h3 => wb ((decide (k = 0) && yn == ("ValueError" : PySem.Str)) || N.xs.contains (yn, k)) fun h4 => (ckE H a sc Γ y).bind fun g => .yes (ck_isX H h2 h3 h4 g)
  | .prim q l, sc, Γ, x => wCallN x (primName q) fun np m p => wb d.q fun hq => wb (glob sc (primName q)) fun h2 => (ckEs H l sc Γ m).bind fun g => .yes (simET rfl rfl rfl (sim_primA hq H.O h2 g.2.2.1 g.2.2.2 g.2.1))
  | .listM _ a, sc, Γ, x => .no
  | .dictC _ a, sc, Γ, x => .no
  | .tdictM _, sc, Γ, x => .no
  | .tget a l, sc, Γ, x => .no
  | .bm b a l, sc, Γ, x => wCallA x (bmName b) fun y ap m p q1 q2 q3 => wb (bmUse b) fun h2 => (ckE H a sc Γ y).bind fun g => (ckEs H l sc Γ m).bind fun g1 => .yes (simET rfl rfl rfl (sim_bm H.O h2 q1 q2 q3 g1.2.2.1 g1.2.2.2 g.e g1.2.1))
  | .comp _ slot range it cond elt, sc, Γ, x => wComp1 (slot := slot) (range := range) x (ckE H it sc Γ) (ckIf H cond) (ckE H elt) fun e i y px ifs scope pos K => wb d.q fun hq => .yes (ck_comp hq H K)
noncomputable def ckIf (H : Hyp G N C d) : (e : Option E) → (sc : Sc) → (Γ : Gam) → (m : List PySem.Expr) → Ck (CondSim G C d sc Γ e m)
  | none, sc, Γ, m => w0 m (.yes .none)
  | some c, sc, Γ, m => w1 m fun x => (ckE H c sc Γ x).bind fun g => .yes (.some g.t)
noncomputable def ckO (H : Hyp G N C d) : (e : Option E) → (sc : Sc) → (Γ : Gam) → (m : Option PySem.Expr) → Ck (SimO G C d sc Γ e m)
  | none, sc, Γ, m => wn m (.yes simO_none)
  | some c, sc, Γ, m => ws m fun x => (ckE H c sc Γ x).bind fun g => .yes (simO_some g.e)
noncomputable def ckEs (H : Hyp G N C d) : (l : List E) → (sc : Sc) → (Γ : Gam) → (m : List PySem.Expr) → Ck (SimLs G C d sc Γ l m)
  | [], sc, Γ, m => w0 m (.yes ⟨.nil, sim_es_nil, rfl, rfl⟩)
  | e :: l, sc, Γ, m => wc m fun x r => (ckE H e sc Γ x).bind fun g1 => (ckEs H l sc Γ r).bind fun g2 => .yes (ls_cons g1 g2)
end
end
end Mine
end

section
set_option genInjectivity false
set_option genSizeOf false
namespace Mine
open PySem PySem.W PyProof.Rows

noncomputable def gamOk (Γ : Gam) : Bool := decide ((Γ.filterMap id).Nodup)
theorem gam_mem : ∀ (Γ : Gam) (i : Nat) (y : PySem.Str), Γ[i]? = some (some y) → y ∈ Γ.filterMap id
  | [], i, y, h => by simp at h
  | a :: Γ, 0, y, h => by simp at h; subst h; simp
  | a :: Γ, i + 1, y, h => by
    simp only [List.getElem?_cons_succ] at h
    have := gam_mem Γ i y h
    cases a with
    | none => simpa using this
    | some z => simp only [List.filterMap_cons, id]; exact List.mem_cons_of_mem _ this
theorem gamOk_inj : ∀ (Γ : Gam), gamOk Γ = true → GamInj Γ
  | [], h => by intro i j y h; simp at h
  | a :: Γ, h => by
    have hn : (List.filterMap id (a :: Γ)).Nodup := by simpa [gamOk] using h
    have h' : GamInj Γ := gamOk_inj Γ (by
      cases a with
      | none => simpa [gamOk] using hn
      | some z => simp only [List.filterMap_cons, id] at hn; simpa [gamOk] using (List.nodup_cons.1 hn).2)
    intro i j y hi hj
    match i, j with
    | 0, 0 => rfl
    | i + 1, j + 1 => 
      simp only [List.getElem?_cons_succ] at hi hj
      exact congrArg Nat.succ (h' i j y hi hj)
    | 0, j + 1 =>
      simp at hi; subst hi
      simp only [List.getElem?_cons_succ] at hj
      simp only [List.filterMap_cons, id] at hn
      exact ((List.nodup_cons.1 hn).1 (gam_mem Γ j y hj)).elim
    | i + 1, 0 =>
      simp at hj; subst hj
      simp only [List.getElem?_cons_succ] at hi
      simp only [List.filterMap_cons, id] at hn
      exact ((List.nodup_cons.1 hn).1 (gam_mem Γ i y hi)).elim


section
variable {P : Stmt → Type} [∀ x, No (P x)]
@[elab_as_elim] noncomputable def vExpr (x : Stmt) (f : ∀ y p, P (.Expr y p)) : P x := match x with | .Expr y p => f y p | _ => No.no
@[elab_as_elim] noncomputable def vAssign (x : Stmt) (f : ∀ t e p, P (.Assign t e p)) : P x := match x with | .Assign t e p => f t e p | _ => No.no
@[elab_as_elim] noncomputable def vIf (x : Stmt) (f : ∀ c a b p, P (.If c a b p)) : P x := match x with | .If c a b p => f c a b p | _ => No.no
@[elab_as_elim] noncomputable def vRet (x : Stmt) (f : ∀ e p, P (.Return e p)) : P x := match x with | .Return e p => f e p | _ => No.no
@[elab_as_elim] noncomputable def vTry (x : Stmt) (f : ∀ b h o e p, P (.Try b h o e p)) : P x := match x with | .Try b h o e p => f b h o e p | _ => No.no
@[elab_as_elim] noncomputable def vRaise (x : Stmt) (f : ∀ e c p, P (.Raise e c p)) : P x := match x with | .Raise e c p => f e c p | _ => No.no
@[elab_as_elim] noncomputable def vSet (x : Stmt) (f : ∀ t e p, P (.Assign [t] e p)) : P x := vAssign x fun ts e p => w1 ts fun t => f t e p
end
section
variable {G : Gd} {N : Names} {C : Calls} {d : Dp} {n : Nat} {sc : Sc} {Γ : Gam}
@[elab_as_elim] noncomputable def wHand {P : ExceptHandler → Type} [∀ x, No (P x)] (x : ExceptHandler) (f : ∀ t n b p, P (.ExceptHandler t n b p)) : P x := match x with | .ExceptHandler t n b p => f t n b p
theorem s_tryC (hq : d.q = true) (H : Hyp G N C d) (gi : GamInj Γ) {r : E} {f c i : Nat} {l : List E} {y : PySem.Expr} {m : List PySem.Expr} {np cp ep hp hpos tpos rp : Pos} {hn nm : PySem.Str}
    (gl : SimLs G C d sc Γ l m) (h1 : N.xf f = true) (h2 : N.xs.contains (hn, c) = true) (h3 : glob sc hn = true) (h4 : (Γ[i]? == some (some nm)) = true) (h5 : (sc.lookup nm == some .local) = true) (h6 : glob sc (N.fn f) = true) (h7 : (!(N.fn f == Str.empty)) = true) (gr : SimET G C ⟨d.n, false⟩ sc Γ r y) :
    SimS G C d sc Γ n (.tryC f l c i [.ret (some r)]) (.Try [.Expr (.Call (.Name (N.fn f) np) m [] cp) ep] [.ExceptHandler (some (.Name hn hp)) (some nm) [.Return (some y) rp] hpos] [] [] tpos) :=
  simS_tryC H.O (H.CO hq) (H.CX hq) gi (H.xw hn c h2).2 h3 (fun c' e1 e2 => (H.xk c' c e1 e2).2 (H.xw hn c h2).1) (eq_of_beq h4) (eq_of_beq h5) (simB_cons (simS_ret gr.e) simB_nil) gl.2.2.1 gl.2.2.2 gl.2.1 H.hfn h1 (not_empty h7) h6
theorem simS_raise {c : Nat} {x : Stmt} : SimS G C d sc Γ n (.raise c) x := by
  intro t st s env loc fl loc' st' A hA hT hsc F R e
  cases e
mutual
noncomputable def ckS (H : Hyp G N C d) (gi : GamInj Γ) : (s : S) → (x : Stmt) → Ck (SimS G C d sc Γ n s x)
  | .expr a, x => .no
  | .assign i a, x => vSet x fun t z p => wName t fun y yp => wb (Γ[i]? == some (some y)) fun h1 => wb (kindOk sc y) fun h2 => (wb (notComp z) fun h3 => wk (ckE H a sc Γ z) fun h => .yes (simS_assign gi (eq_of_beq h1) h2 h3 h.e))
  | .setattr a i b, x => .no
  | .setitem a b c, x => .no
  | .tset a b c, x => .no
  | .unpack ts a, x => .no
  | .ite c b1 b2, x => vIf x fun y m1 m2 p => wk (ckE H c sc Γ y) fun g => wk (ckB H gi b1 m1) fun g1 => wk (ckB H gi b2 m2) fun g2 => .yes (simS_ite g.t g1 g2)
  | .for_ ts range it body, x => .no
  | .while_ c body, x => .no
  | .ret a, x => vRet x fun y p => (match a with
      | none => wn y (.yes simS_ret0)
      | some a => ws y fun z => wk (ckE H a sc Γ z) fun g => .yes (simS_ret g.e))
  | .pass, x => .no
  | .raise _, x => .yes simS_raise
  | .try_ _ _, x => .no
  | .tryM a k l c i b, x => .no
  | .tryC f l c i b, x => (match b with
      | [.ret (some r)] => vTry x fun bd hs o e tp => w1 bd fun s0 => vExpr s0 fun y ep => wCallN y (N.fn f) fun np m cp => w1 hs fun h => wHand h fun ty nm hb hpos => ws ty fun tn => wName tn fun hn hp => ws nm fun nn => w1 hb fun hs0 => vRet hs0 fun ro rp => ws ro fun yr => w0 o (w0 e
          (wk (ckEs H l sc Γ m) fun gl => wb (N.xf f) fun h1 => wb (N.xs.contains (hn, c)) fun h2 => wb (glob sc hn) fun h3 => wb (Γ[i]? == some (some nn)) fun h4 => wb (sc.lookup nn == some .local) fun h5 => wb (glob sc (N.fn f)) fun h6 => wb (!(N.fn f == Str.empty)) fun h7 => wk (ckE H.quiet r sc Γ yr) fun gr => wb d.q fun hq => .yes (s_tryC hq H gi gl h1 h2 h3 h4 h5 h6 h7 gr)))
      | _ => .no)
noncomputable def ckB (H : Hyp G N C d) (gi : GamInj Γ) : (l : List S) → (m : List Stmt) → Ck (SimB G C d sc Γ n l m)
  | [], m => w0 m (.yes simB_nil)
  | s :: l, m => wc m fun x r => wk (ckS H gi s x) fun g1 => wk (ckB H gi l r) fun g2 => .yes (simB_cons g1 g2)
end
theorem s_raiseX (hq : d.q = true) (H : Hyp G N C d) {c kk : Nat} {x : PySem.Str} {np kpos cpos pos : Pos} {z : PySem.Str} (h1 : N.xs.contains (x, c) = true) (h2 : glob sc x = true) : SimX G C d sc Γ n (.raise c) (.Raise (some (.Call (.Name x np) [.Constant (.str z) kk kpos] [] cpos)) none pos) := by
  have e : z = toStr z.cps.toList := by cases z; simp
  rw [e]
  exact simX_raise hq H.O (H.xw x c h1).2 h2
mutual
noncomputable def ckX (H : Hyp G N C d) (gi : GamInj Γ) : (s : S) → (x : Stmt) → Ck (SimX G C d sc Γ n s x)
  | .expr _, x => .no
  | .assign _ _, x => .yes simX_assign
  | .setitem _ _ _, x => .no
  | .ret _, x => .yes simX_ret
  | .ite c b1 b2, x => vIf x fun y m1 m2 p => wk (ckE H c sc Γ y) fun g => wk (ckXB H gi b1 m1) fun g1 => wk (ckXB H gi b2 m2) fun g2 => .yes (simX_ite g.t g1 g2)
  | .raise c, x => vRaise x fun e o p => ws e fun y => wCall y fun f l k cp => wName f fun nm np => w1 l fun z => wConst z fun v kk kp => wn o (w0 k (match v with
      | .str z => wb (N.xs.contains (nm, c)) fun h1 => wb (glob sc nm) fun h2 => wb d.q fun hq => .yes (s_raiseX hq H h1 h2)
      | _ => .no))
  | _, x => .no
noncomputable def ckXB (H : Hyp G N C d) (gi : GamInj Γ) : (l : List S) → (m : List Stmt) → Ck (SimXB G C d sc Γ n l m)
  | [], m => .yes simXB_nil
  | s :: l, m => wc m fun x r => wk (ckS H gi s x) fun g0 => wk (ckX H gi s x) fun g1 => wk (ckXB H gi l r) fun g2 => .yes (simXB_cons g0 g1 g2)
end
end
end Mine
end

section
set_option genInjectivity false
set_option genSizeOf false
namespace Mine
open PySem PySem.W PyProof.Rows

theorem zip_lookup : ∀ (names : List PySem.Str) (vals : List Value), vals.length = names.length → ∀ x ∈ names, ((names.zip vals).lookup x).isSome = true
  | [], vals, h, x, hx => by simp at hx
  | a :: names, [], h, x, hx => by simp at h
  | a :: names, v :: vals, h, x, hx => by
    simp only [List.zip_cons_cons, List.lookup_cons]
    split
    · rfl
    · rename_i e
      refine zip_lookup names vals (by simpa using h) x ?_
      rcases List.mem_cons.1 hx with rfl | hx
      · simp at e
      · exact hx
theorem fm_congr {α β : Type} {f g : α → Option β} : ∀ {l : List α}, (∀ x ∈ l, f x = g x) → l.filterMap f = l.filterMap g
  | [], _ => rfl
  | x :: l, h => by
    have ih : l.filterMap f = l.filterMap g := fm_congr (l := l) (fun y hy => h y (by simp [hy]))
    simp only [List.filterMap_cons, h x (by simp), ih]
theorem zip_fm : ∀ (names : List PySem.Str) (vals : List Value), vals.length = names.length → names.Nodup → names.filterMap (fun n => ((names.zip vals).lookup n).map (n, ·)) = names.zip vals
  | [], vals, h, nd => by simp
  | a :: names, [], h, nd => by simp at h
  | a :: names, v :: vals, h, nd => by
    obtain ⟨h1, h2⟩ := List.nodup_cons.1 nd
    have ih := zip_fm names vals (by simpa using h) h2
    simp only [List.zip_cons_cons, List.filterMap_cons, List.lookup_cons, beq_self_eq_true, Option.map_some]
    congr 1
    refine Eq.trans (fm_congr fun x hx => ?_) ih
    have : (x == a) = false := by
      simp only [beq_eq_false_iff_ne]; rintro rfl; exact h1 hx
    simp only [this]

noncomputable def plainParams (fd : FuncData) (names : List PySem.Str) : Bool :=
  fd.params.posonlyargs.isEmpty && fd.params.args.map (·.arg) == names && fd.params.kwonlyargs.isEmpty && fd.params.vararg.isNone && fd.params.kwarg.isNone && (match fd.defaults with | .none => true | _ => false)
theorem bind_go {fd : FuncData} (vals : List Value) (h1 : fd.params.posonlyargs = []) (h3 : fd.params.kwonlyargs = []) (h4 : fd.params.vararg = none) (h5 : fd.params.kwarg = none) (h6 : fd.defaults = .none)
    (hl : vals.length = (fd.params.args.map (·.arg)).length) (e1 : ((fd.params.args.map (·.arg)).filter fun n => (((fd.params.args.map (·.arg)).zip vals).lookup n).isNone) = [])
    (e2 : (fd.params.args.map (·.arg)).filterMap (fun n => (((fd.params.args.map (·.arg)).zip vals).lookup n).map (n, ·)) = (fd.params.args.map (·.arg)).zip vals) : bindArgs fd ⟨vals, []⟩ = pure ((fd.params.args.map (·.arg)).zip vals) := by
  obtain ⟨nm, q, ⟨po, pa, va, ko, kd, kw, df⟩, body, sc, g, cl, ds, kds, doc, pm, an, cd, ct, bb⟩ := fd
  cases h1; cases h3; cases h4; cases h5; cases h6
  have hc1 : ¬ (decide (vals.length > (pa.map (·.arg)).length) && true) = true := by
    have : ¬ (vals.length > (pa.map (·.arg)).length) := by
      have hl : vals.length = (pa.map (·.arg)).length := hl
      omega
    rw [decide_eq_false this]; exact Bool.noConfusion
  have hc2 : ¬ (!((pa.map (·.arg)).filter fun n => (((pa.map (·.arg)).zip vals).lookup n).isNone).isEmpty) = true := by
    have e1 : ((pa.map (·.arg)).filter fun n => (((pa.map (·.arg)).zip vals).lookup n).isNone) = [] := e1
    rw [e1]; exact Bool.noConfusion
  have ht : List.take (pa.map (·.arg)).length (pa.map (·.arg)) = pa.map (·.arg) := List.take_length
  have hd : List.drop ((Option.getD (none : Option (Array Value)) #[]).toList.length - (pa.map (·.arg)).length) (Option.getD (none : Option (Array Value)) #[]).toList = [] := List.drop_nil
  refine Eq.trans (if_neg hc1) (Eq.trans (if_neg ?_) ?_)
  · intro h
    have h : (!((List.take ((pa.map (·.arg)).length - (List.drop ((Option.getD (none : Option (Array Value)) #[]).toList.length - (pa.map (·.arg)).length) (Option.getD (none : Option (Array Value)) #[]).toList).length) (pa.map (·.arg))).filter fun n => (((pa.map (·.arg)).zip vals).lookup n).isNone).isEmpty) = true := h
    rw [hd] at h
    have h : (!((List.take (pa.map (·.arg)).length (pa.map (·.arg))).filter fun n => (((pa.map (·.arg)).zip vals).lookup n).isNone).isEmpty) = true := h
    rw [ht] at h
    exact hc2 h
  · have e2 : (pa.map (·.arg)).filterMap (fun n => (((pa.map (·.arg)).zip vals).lookup n).map (n, ·)) = (pa.map (·.arg)).zip vals := e2
    clear hl e1 hc1 hc2
    simp only [List.map_nil, List.nil_append, hd, List.zip_nil_right, List.append_nil]
    exact congrArg (fun z => (pure z : Sem (List (PySem.Str × Value)))) e2
theorem bind_plain {fd : FuncData} {names : List PySem.Str} (h : plainParams fd names = true) (nd : names.Nodup) (vals : List Value) (hl : vals.length = names.length) : bindArgs fd ⟨vals, []⟩ = pure (names.zip vals) := by
  obtain ⟨h, h6⟩ := and_ok h
  obtain ⟨h, h5⟩ := and_ok h
  obtain ⟨h, h4⟩ := and_ok h
  obtain ⟨h, h3⟩ := and_ok h
  obtain ⟨h1, h2⟩ := and_ok h
  have h2 : fd.params.args.map (·.arg) = names := eq_of_beq h2
  subst h2
  refine bind_go vals (List.isEmpty_iff.1 h1) (List.isEmpty_iff.1 h3) (Option.isNone_iff_eq_none.1 h4) (Option.isNone_iff_eq_none.1 h5) ?_ hl ?_ (zip_fm _ vals hl nd)
  · revert h6
    cases fd.defaults <;> first | exact fun _ => rfl | exact fun h => Bool.noConfusion h
  · rw [List.filter_eq_nil_iff]
    intro x hx e
    have := zip_lookup _ vals hl x hx
    rw [Option.isNone_iff_eq_none.1 e] at this; cases this

structure Stat (G : Gd) (N : Names) : Prop where
  O : G.Ok N
  hcl : ∀ c Ca, G.ca c = some Ca → ClsOk G Ca
  hfn : ∀ f a, G.fa f = some a → FnOk G N f a
  hme : ∀ c k f Ca, G.P.meths c k = some f → G.ca c = some Ca → ∃ a, G.fa f = some a ∧ MethOk G Ca (N.meth k) a
  hne : ∀ c k f, G.P.inits c = some (k, f) → ∃ Ca fi, G.ca c = some Ca ∧ G.fa f = some fi ∧ NewOk G N c Ca fi
  xw : ∀ y c, N.xs.contains (y, c) = true → c ≠ 0 ∧ OwnX G y c
  xk : ∀ c k, (G.P.excBase c).contains c = true → (G.P.excBase c).contains k = true → kitOne G.K (.ref c) (xval k) = some true ∧ (k ≠ 0 → exmOne G.K (.ref c) (.ref k) = some true)
  xm : ∀ k c f, N.xm k = true → G.P.meths c k = some f → N.xf f = true
  xi : ∀ c k, (G.P.excBase c).contains c = true → (k = 0 ∨ ∃ y, N.xs.contains (y, k) = true) → xcls G.K c = true ∧ kitOne G.K (.ref c) (xval k) = some ((G.P.excBase c).contains k)

noncomputable def ckFn (K : Frag) (N : Names) (fn : Fn) (a : Addr) : Bool :=
  match K.lookup a with
  | some o => (match o.data with
    | .func fd => codeIn K fd.code fd.qualname && fd.closure.isEmpty && fd.globals == mainGlobals && fd.builtins == builtinsNs && fd.scope.kind == .function && !fd.scope.isCoroutine && !fd.scope.isGenerator &&
      plainParams fd (fn.names.take fn.np) && decide (fn.np ≤ fn.names.length) && (fn.names.take fn.np).all (fun x => kindOk fd.scope.names x && !(x == Str.empty)) && decide (fn.names.take fn.np).Nodup && gamOk (gam0 fn) && (match fd.body with | .stmts _ => true | _ => false)
    | _ => false)
  | none => false

noncomputable def fnBody (K : Frag) (a : Addr) : Option (Sc × List Stmt) := (K.lookup a).bind fun o => match o.data with
  | .func fd => (match fd.body with
    | .stmts body => some (fd.scope.names, body)
    | _ => none)
  | _ => none
noncomputable def bodyYes {G : Gd} {N : Names} {C : Calls} {d : Dp} (n : Nat) (H : Hyp G N C d) (fn : Fn) (p : Sc × List Stmt) : Bool := (wb (gamOk (gam0 fn)) fun hg => ckB (sc := p.1) (n := n) H (gamOk_inj (gam0 fn) hg) fn.body p.2).isYes
noncomputable def ckBody (K : Frag) {G : Gd} {N : Names} {C : Calls} {d : Dp} (n : Nat) (H : Hyp G N C d) (fn : Fn) (a : Addr) : Bool := (fnBody K a).any (bodyYes n H fn)

noncomputable def xbodyYes {G : Gd} {N : Names} {C : Calls} {d : Dp} (n : Nat) (H : Hyp G N C d) (fn : Fn) (p : Sc × List Stmt) : Bool := (wb (gamOk (gam0 fn)) fun hg => ckXB (sc := p.1) (n := n) H (gamOk_inj (gam0 fn) hg) fn.body p.2).isYes
noncomputable def ckXBody (K : Frag) {G : Gd} {N : Names} {C : Calls} {d : Dp} (n : Nat) (H : Hyp G N C d) (fn : Fn) (a : Addr) : Bool := (fnBody K a).any (xbodyYes n H fn)
theorem fnHd_of {G : Gd} {N : Names} {fn : Fn} {a : Addr} (h : ckFn G.K N fn a = true) : ∃ fd body, FnHd G fn a fd body ∧ fnBody G.K a = some (fd.scope.names, body) := by
  unfold ckFn at h; split at h
  · rename_i o ho
    split at h
    · rename_i fd hd
      simp only [Bool.and_eq_true, List.isEmpty_iff, beq_iff_eq, Bool.not_eq_true', decide_eq_true_eq, List.all_eq_true, beq_eq_false_iff_ne] at h
      obtain ⟨⟨⟨⟨⟨⟨⟨⟨⟨⟨⟨⟨h1, h2⟩, h3⟩, h4⟩, h5⟩, h6⟩, h7⟩, h8⟩, h9⟩, h10⟩, h11⟩, h12⟩, h13⟩ := h
      cases hy : fd.body with
      | stmts body =>
        have e : fnBody G.K a = some (fd.scope.names, body) := by unfold fnBody; rw [ho]; show (match o.data with | .func fd => _ | _ => none) = _; rw [hd]; show (match fd.body with | .stmts body => _ | _ => none) = _; rw [hy]
        exact ⟨fd, body, ⟨o, ho, hd, h1, hy, h2, h3, h4, h5, h6, h7, fun vals hv => bind_plain h8 h11 vals (by rw [hv, List.length_take]; omega), h9, h10, h11⟩, e⟩
      | _ => rw [hy] at h13; cases h13
    · cases h
  · cases h
theorem Stat.hyp {G : Gd} {N : Names} (S : Stat G N) {C : Calls} {n : Nat} (CA : CallsA G N.xf N.qf C n) : Hyp G N C ⟨n, true⟩ := ⟨S.O, fun _ => CA.ok, S.hcl, S.hfn, S.hme, S.hne, S.xw, S.xk, S.xm, S.xi, fun _ => CA.x, CA.q⟩
theorem Stat.hypQ {G : Gd} {N : Names} (S : Stat G N) {C : Calls} {n : Nat} (CQ : CallsQ G C n N.qf) : Hyp G N C ⟨n, false⟩ := ⟨S.O, nofun, S.hcl, S.hfn, S.hme, S.hne, S.xw, S.xk, S.xm, S.xi, nofun, CQ⟩
theorem fnRec_of {G : Gd} {N : Names} {q : Bool} {PX : Calls → Nat → Prop} (S : ∀ C n, PX C n → Hyp G N C ⟨n, q⟩) {fn : Fn} {a : Addr} (h : ckFn G.K N fn a = true) (hb : ∀ C n (H : Hyp G N C ⟨n, q⟩), ckBody G.K n H fn a = true) : FnRec G q PX fn a := by
  obtain ⟨fd, body, hd, e⟩ := fnHd_of h
  refine ⟨fd, body, hd, fun C n CA => ?_⟩
  have g := hb C n (S C n CA)
  unfold ckBody at g; rw [e] at g
  exact Ck.get g
theorem fnX_of {G : Gd} {N : Names} (S : Stat G N) {fn : Fn} {a : Addr} (h : ckFn G.K N fn a = true) (hb : ∀ C n (H : Hyp G N C ⟨n, true⟩), ckXBody G.K n H fn a = true) : FnX G N.xf N.qf fn a := by
  obtain ⟨fd, body, hd, e⟩ := fnHd_of h
  refine ⟨fd, body, hd, fun C n CA => ?_⟩
  have g := hb C n (S.hyp CA)
  unfold ckXBody at g; rw [e] at g
  exact Ck.get g
end Mine
end

section
set_option genInjectivity false
set_option genSizeOf false
namespace Mine

theorem c_neI (x y : Int) (s : MS) : cmpOp .ne (.int x) (.int y) s = .ok (.bool (!decide (x = y))) s := rfl
theorem r_bind_ok {α β : Type} (a : α) (s : MS) (f : α → MS → Res β) : (Res.ok a s).bind f = f a s := rfl
theorem idx_ok {i : Int} {n : Nat} (h0 : 0 ≤ i) (h : i < n) : idx i n = some i.toNat := (if_pos h0).trans (if_pos h)
theorem i_lst (l : List V) (i : Int) (s : MS) (h0 : 0 ≤ i) (h : i < l.length) : getItem (.lst l) (.int i) s = .ok (l[i.toNat]'(by omega)) s := by
  show okV s ((idx i l.length).bind fun j => l[j]?) = _
  rw [idx_ok h0 h]
  show okV s (l[i.toNat]?) = _
  rw [List.getElem?_eq_getElem (by omega)]; rfl
theorem comp_map (s₀ s : MS) (range : Bool) (src : V) (slot : Nat) (elt : Loc → MS → Res V) (l : Loc) (f : V → V)
    (hs : stays s₀ s range src = true) :
    ∀ (xs acc : List V) , (∀ x ∈ xs, elt (l.set slot (some x)) s = .ok (f x) s) → acc.length + xs.length ≤ sizeMax →
      compLoop s₀ range src slot none elt l acc xs s = .ok (acc ++ xs.map f) s
  | [], acc, h, g => by simp [compLoop_nil, compLoop_cons, hs]
  | x :: r, acc, h, g => by
    have ih := comp_map s₀ s range src slot elt l f hs r (acc ++ [f x]) (fun y hy => h y (by simp [hy])) (by simp at g ⊢; omega)
    have hx := h x (by simp)
    have g' : acc.length < sizeMax := by simp at g; omega
    simp [compLoop_nil, compLoop_cons, hs, r_bind_ok, hx, g', ih]
theorem items_range (s : MS) (n : Int) (h0 : 0 ≤ n) (h : n ≤ 16777216) : itemsOf s true (.int n) = some ((List.range n.toNat).map fun (i : Nat) => .int i) := if_pos ⟨Int.le_trans (by decide) h0, h⟩
theorem stays_range (s₀ s : MS) (v : V) : stays s₀ s true v = true := rfl
noncomputable def OkR {α : Type} (r : Res α) (Q : α → MS → Prop) : Prop := match r with
  | .ok a s => Q a s
  | _ => False
theorem okr_ok {α : Type} (a : α) (s : MS) (Q : α → MS → Prop) : OkR (.ok a s) Q = Q a s := rfl
theorem okr_bnd {α β : Type} (r : Res α) (f : α → MS → Res β) (Q : β → MS → Prop) : OkR (r.bnd f) Q = OkR r (fun a s => OkR (f a s) Q) := by
  cases r <;> rfl
theorem okr_bind {α β : Type} (r : Res α) (f : α → MS → Res β) (Q : β → MS → Prop) : OkR (r.bind f) Q = OkR r (fun a s => OkR (f a s) Q) := by
  cases r <;> rfl
theorem okr_elim {α : Type} {r : Res α} {Q : α → MS → Prop} (h : OkR r Q) : ∃ a s, r = .ok a s ∧ Q a s := by
  cases r with
  | ok a s => exact ⟨a, s, rfl, h⟩
  | _ => exact h.elim
theorem okr_of {α : Type} {r : Res α} {a : α} {s : MS} {Q : α → MS → Prop} (h : r = .ok a s) (k : Q a s) : OkR r Q := by rw [h]; exact k
theorem okr_eq {α : Type} {r : Res α} {a : α} {s : MS} (h : OkR r (fun b t => b = a ∧ t = s)) : r = .ok a s := by
  cases r with
  | ok b t => obtain ⟨rfl, rfl⟩ := h; rfl
  | _ => exact h.elim
noncomputable def flV : Fl → V
  | .ret v => v
  | .next => .none
theorem okr_run {P : Prog} {n f : Nat} {vs : List V} {s : MS} {fn : Fn} {Q : V → MS → Prop} (hf : P.fns f = some fn) (hl : vs.length = fn.np)
    (h : OkR (exs P (run P n) n fn.body (vs.map some ++ List.replicate (fn.names.length - fn.np) none) s) (fun p s => Q (flV p.1) s)) : OkR (run P (n + 1) f vs s) Q := by
  simp only [run, hf, if_pos hl, okr_bind]
  exact h
noncomputable def seqQ (P : Prog) (C : Calls) (n : Nat) (r : List S) (Q : Fl × Loc → MS → Prop) (p : Fl × Loc) (s : MS) : Prop :=
  match p.1 with
  | .next => OkR (exs P C n r p.2 s) Q
  | .ret v => Q (.ret v, p.2) s
theorem okr_cons (P : Prog) (C : Calls) (n : Nat) (st : S) (r : List S) (l : Loc) (s : MS) (Q : Fl × Loc → MS → Prop) :
    OkR (exs P C n (st :: r) l s) Q = OkR (ex P C n st l s) (seqQ P C n r Q) := by
  simp only [exs_cons, okr_bind]
  congr 1
  funext p s
  obtain ⟨f, l⟩ := p
  cases f <;> rfl
theorem okr_compF {s₀ s : MS} {range : Bool} {src : V} {slot : Nat} {elt : Loc → MS → Res V} {l : Loc} {xs : List V} {Q : List V → MS → Prop} (f : V → V)
    (hs : stays s₀ s range src = true) (hl : xs.length ≤ sizeMax)
    (he : ∀ x ∈ xs, OkR (elt (l.set slot (some x)) s) fun v t => v = f x ∧ t = s)
    (hq : Q (xs.map f) s) : OkR (compLoop s₀ range src slot none elt l [] xs s) Q := by
  have h1 := comp_map s₀ s range src slot elt l f hs xs [] (fun x hx => okr_eq (he x hx)) (by simpa using hl)
  simp only [h1, okr_ok, List.nil_append]
  exact hq

noncomputable def st0 : MS := ⟨fun _ => none, fun _ => 0, 0⟩
section
variable {P : Prog} {C : Calls} {n i : Nat} {e a b : E} {r : List S} {l : Loc} {s s' : MS} {v w : V} {Q : Fl × Loc → MS → Prop}
theorem st_nil (k : Q (.next, l) s) : OkR (exs P C n [] l s) Q := k
theorem st_next (k : OkR (exs P C n r l s) Q) : OkR (exs P C n [] l s) (seqQ P C n r Q) := k
theorem st_assign (hv : ev P C e l s = .ok v s') (hi : decide (i < l.length) = true) (k : OkR (exs P C n r (l.set i (some v)) s') Q) : OkR (exs P C n (.assign i e :: r) l s) Q := by
  have hi := of_decide_eq_true hi
  rw [exs_cons, okr_bind, ex_assign, okr_bnd, hv]
  show OkR (if i < l.length then Res.ok (Fl.next, l.set i (some v)) s' else .stuck) _
  rw [if_pos hi]; exact k
theorem st_ret (hv : ev P C e l s = .ok v s') (k : Q (.ret v, l) s') : OkR (exs P C n (.ret (some e) :: r) l s) Q := by
  rw [exs_cons, okr_bind, ex_ret]
  show OkR ((ev P C e l s).bnd _) _
  rw [hv]; exact k
theorem st_retQ {R : V → MS → Prop} (hv : OkR (ev P C e l s) R) (k : ∀ v s', R v s' → Q (.ret v, l) s') : OkR (exs P C n (.ret (some e) :: r) l s) Q := by
  obtain ⟨v, s', h1, h2⟩ := okr_elim hv
  exact st_ret h1 (k v s' h2)
theorem st_if {c : E} {b1 b2 : List S} {t : Bool} (hc : ev P C c l s = .ok (.bool t) s') (k : OkR (exs P C n (if t then b1 else b2) l s') (seqQ P C n r Q)) : OkR (exs P C n (.ite c b1 b2 :: r) l s) Q := by
  rw [okr_cons, ex_ite, hc]
  cases t <;> exact k
theorem st_tryCX {f : Nat} {es : List E} {c i : Nat} {b : List S} {vs : List V} {c' : Nat} {l2 : Loc} {s2 s3 s4 : MS} (hes : evL P C es l s = .ok vs s2) (hc : C f vs s2 = .exc c' s3)
    (hb : ((P.excBase c').contains c' && (P.excBase c').contains c) = true) (hr : exs P C n b (l.set i (some (.exc c'))) s3 = .ok (.ret v, l2) s4) (k : Q (.ret v, []) s4) : OkR (exs P C n (.tryC f es c i b :: r) l s) Q := by
  rw [okr_cons, ex_tryC, hes]
  delta Res.bnd
  dsimp only
  rw [hc]
  delta landOn
  dsimp only
  rw [if_pos hb, hr]
  exact k
theorem e_call {f : Nat} {es : List E} {vs : List V} {s1 : MS} (h1 : evL P C es l s = .ok vs s1) (h2 : C f vs s1 = .ok v s') : ev P C (.call f es) l s = .ok v s' := by
  rw [ev_call, h1]; exact h2
theorem e_compQ {slot : Nat} {range : Bool} {cond : Option E} {src : V} {xs : List V} {s1 : MS} {R : V → MS → Prop} (h1 : ev P C a l s = .ok src s1) (h2 : itemsOf s1 range src = some xs) (h3 : OkR (compLoop s1 range src slot (evC P C cond) (ev P C e) l [] xs s1) (fun vs t => R (.lst vs) t)) :
    OkR (ev P C (.comp none slot range a cond e) l s) R := by
  rw [ev_comp, h1]
  show OkR (match itemsOf s1 range src with | some xs => _ | none => _) _
  rw [h2]
  show OkR (Res.bind _ _) _
  rw [okr_bind]; exact h3
theorem e_bin {o : Bop} {x y : V} {s1 s2 : MS} (h1 : ev P C a l s = .ok x s1) (h2 : ev P C b l s1 = .ok y s2) (h3 : binOp o x y s2 = .ok v s') : ev P C (.bin o a b) l s = .ok v s' := by
  rw [ev_bin, h1]
  show Res.bind (ev P C b l s1) _ = _
  rw [h2]; exact h3
theorem e_sub {x y : V} {s1 s2 : MS} (h1 : ev P C a l s = .ok x s1) (h2 : ev P C b l s1 = .ok y s2) (h3 : getItem x y s2 = .ok v s') : ev P C (.sub a b) l s = .ok v s' := by
  rw [ev_sub, h1]
  show Res.bind (ev P C b l s1) _ = _
  rw [h2]; exact h3
theorem e_isinst {ks : List Kind} {x : V} {t : Bool} {s1 : MS} (h1 : ev P C a l s = .ok x s1) (h2 : isKinds P s1 x ks = some t) : ev P C (.isinst a ks) l s = .ok (.bool t) s1 := by
  rw [ev_isinst, h1]
  show okB s1 (isKinds P s1 x ks) = _
  rw [h2]; rfl
theorem e_cmp {o : Cop} {x y : V} {s1 s2 : MS} (h1 : ev P C a l s = .ok x s1) (h2 : ev P C b l s1 = .ok y s2) (h3 : cmpOp o x y s2 = .ok v s') : ev P C (.cmp a o b) l s = .ok v s' := by
  rw [ev_cmp, h1]
  show Res.bind (ev P C b l s1) _ = _
  rw [h2]; exact h3
theorem e_or2 {t u : Bool} {s1 : MS} (h1 : ev P C a l s = .ok (.bool t) s1) (h2 : t = false → ev P C b l s1 = .ok (.bool u) s1) : ev P C (.or [a, b]) l s = .ok (.bool (t || u)) s1 := by
  rw [ev_or, evOr_cons, h1]
  cases t with
  | true => rfl
  | false => exact h2 rfl
theorem e_and1 {q : Res V} (h : ev P C a l s = q) : ev P C (.and [a]) l s = q := by rw [ev_and, evAnd_one]; exact h
theorem e_andT {es : List E} {s1 : MS} {q : Res V} (h1 : ev P C a l s = .ok (.bool true) s1) (h2 : ev P C (.and (b :: es)) l s1 = q) : ev P C (.and (a :: b :: es)) l s = q := by
  rw [ev_and] at h2 ⊢
  rw [evAnd_cons, h1]; exact h2
theorem e_andF {es : List E} {s1 : MS} (h1 : ev P C a l s = .ok (.bool false) s1) : ev P C (.and (a :: b :: es)) l s = .ok (.bool false) s1 := by
  rw [ev_and, evAnd_cons, h1]; rfl
theorem e_or1 {q : Res V} (h : ev P C a l s = q) : ev P C (.or [a]) l s = q := by rw [ev_or, evOr_one]; exact h
theorem e_orF {es : List E} {s1 : MS} {q : Res V} (h1 : ev P C a l s = .ok (.bool false) s1) (h2 : ev P C (.or (b :: es)) l s1 = q) : ev P C (.or (a :: b :: es)) l s = q := by
  rw [ev_or] at h2 ⊢
  rw [evOr_cons, h1]; exact h2
theorem e_not {t : Bool} {s1 : MS} (h1 : ev P C a l s = .ok (.bool t) s1) : ev P C (.not a) l s = .ok (.bool (!t)) s1 := by
  rw [ev_not, h1]; rfl
theorem e_isN {g t : Bool} {s1 : MS} (h1 : ev P C a l s = .ok v s1) (h2 : decide (v = .none) = t) : ev P C (.isC g a .none) l s = .ok (.bool (t != g)) s1 := by
  rw [ev_isC, h1, ← h2]; rfl
theorem e_tup {es : List E} {vs : List V} {s1 : MS} (h1 : evL P C es l s = .ok vs s1) (hn : decide (vs.length ≤ sizeMax) = true) : ev P C (.tup es) l s = .ok (.tup vs) s1 := by
  rw [ev_tup, h1]; exact if_pos (of_decide_eq_true hn)
theorem e_prim {p : Prim} {es : List E} {vs : List V} {s1 : MS} (h1 : evL P C es l s = .ok vs s1) (h2 : prim p vs s1 = .ok v s') : ev P C (.prim p es) l s = .ok v s' := by
  rw [ev_prim, h1]; exact h2
theorem e_primQ {p : Prim} {R R' : V → MS → Prop} (h1 : OkR (ev P C e l s) R') (h2 : ∀ v s', R' v s' → OkR (prim p [v] s') R) : OkR (ev P C (.prim p [e]) l s) R := by
  obtain ⟨v, s', h3, h4⟩ := okr_elim h1
  rw [ev_prim, evL_cons, h3]; exact h2 v s' h4
theorem e_bm {m : Bm} {es : List E} {x : V} {vs : List V} {s1 s2 : MS} (h1 : ev P C a l s = .ok x s1) (h0 : bmOk m x s1 = true) (h2 : evL P C es l s1 = .ok vs s2) (h3 : bmeth m x vs s2 = .ok v s') : ev P C (.bm m a es) l s = .ok v s' := by
  rw [ev_bm, h1]
  show (if bmOk m x s1 = true then _ else _) = _
  rw [if_pos h0, h2]; exact h3
theorem e_cons {es : List E} {vs : List V} {s1 : MS} (h1 : ev P C e l s = .ok v s1) (h2 : evL P C es l s1 = .ok vs s') : evL P C (e :: es) l s = .ok (v :: vs) s' := by
  rw [evL_cons, h1]
  show Res.bind (evL P C es l s1) _ = _
  rw [h2]; rfl
end
end Mine
end

section
set_option genInjectivity false
set_option genSizeOf false
namespace Mine
open PySem PySem.W PyProof.Rows

noncomputable def attrs : List PySem.Str := ["number", "begun", "open_call", "closed", "known", "written", "laid", "fresh", "all_keys", "houses", "callers", "post", "rows"]
noncomputable def attrName (i : Nat) : PySem.Str := match attrs[i]? with
  | some x => x
  | none => toStr [0, i]
noncomputable def attrsOk : Bool := attrs.all (fun x => !(x.cps[0]? == some 0)) && (List.range 13).all fun i => (List.range 13).all fun j => decide (attrs[i]? = attrs[j]? → i = j)
theorem attrs_ok : attrsOk = true := by decide +kernel
theorem attr_inj (i j : Nat) (h : attrName i = attrName j) : i = j := by
  have hok := attrs_ok
  simp only [attrsOk, Bool.and_eq_true, List.all_eq_true, Bool.not_eq_true', beq_eq_false_iff_ne, decide_eq_true_eq] at hok
  unfold attrName at h
  cases hi : attrs[i]? with
  | some x =>
    cases hj : attrs[j]? with
    | some y =>
      rw [hi, hj] at h
      simp only at h
      subst h
      have h1 : i < 13 := (List.getElem?_eq_some_iff.1 hi).1
      have h2 : j < 13 := (List.getElem?_eq_some_iff.1 hj).1
      exact hok.2 i (List.mem_range.2 h1) j (List.mem_range.2 h2) (hi.trans hj.symm)
    | none =>
      rw [hi, hj] at h
      simp only at h
      have := hok.1 x (List.mem_of_getElem? hi)
      rw [h] at this
      exact (this rfl).elim
  | none =>
    cases hj : attrs[j]? with
    | some y =>
      rw [hi, hj] at h
      simp only at h
      have := hok.1 y (List.mem_of_getElem? hj)
      rw [← h] at this
      exact (this rfl).elim
    | none =>
      rw [hi, hj] at h
      simp only [toStr] at h
      injection h with h
      injection h with h
      injection h with _ h
      injection h
noncomputable def notAttr (x : PySem.Str) : Bool := !(x.cps[0]? == some 0) && attrs.all fun y => !(y == x)
theorem notAttr_ok {x : PySem.Str} (h : notAttr x = true) (i : Nat) : x ≠ attrName i := by
  simp only [notAttr, Bool.and_eq_true, List.all_eq_true, Bool.not_eq_true', beq_eq_false_iff_ne] at h
  unfold attrName
  cases hi : attrs[i]? with
  | some y =>
    intro e
    exact h.2 y (List.mem_of_getElem? hi) e.symm
  | none =>
    rintro rfl
    exact h.1 rfl

noncomputable def globIn (K : Frag) (x : PySem.Str) : Option Value := match K.lookup mainGlobals with
  | some ⟨_, _, .dict es _, _⟩ => nsFind es x
  | _ => none
noncomputable def hasGlob (K : Frag) : Bool := match K.lookup mainGlobals with
  | some ⟨_, _, .dict _ _, _⟩ => true
  | _ => false
theorem globIn_ok {K : Frag} {h : Heap} {mg : PySem.Str → Option Value} (X : K.In h) (hg : h.Ns mainGlobals mg) (hK : hasGlob K = true) (x : PySem.Str) : mg x = globIn K x := by
  unfold hasGlob at hK
  split at hK
  · rename_i c dd es n sl ho
    obtain ⟨o, es', ep, h1, h2, h3, h4⟩ := hg
    have h5 := X _ _ ho
    rw [h1] at h5
    cases h5
    cases h2
    rw [← h4]
    simp only [globIn, ho]
  · cases hK

structure Tab where
  fal : List (Nat × Addr)
  cal : List (Nat × Addr)
  fnl : List (Nat × Fn)
  mel : List ((Nat × Nat) × Nat)
  inl : List (Nat × (Nat × Nat))
  xbl : List (Nat × List Nat)

noncomputable def noneNames : List PySem.Str := ["len", "max", "int", "sorted", "tuple", "list", "all", "isinstance", "range", "dict", "bool", "str", "ValueError"]
noncomputable def isInt (v : Option Value) (i : Int) : Bool := match v with
  | some (.int j _) => decide (i = j)
  | _ => false
noncomputable def isTxt (v : Option Value) (x : PySem.Str) : Bool := match v with
  | some (.str y _) => x == y
  | _ => false
theorem isInt_ok {v : Option Value} {i : Int} (h : isInt v i = true) : ∃ k, v = some (.int i k) := by
  unfold isInt at h
  split at h
  · simp only [decide_eq_true_eq] at h; subst h; exact ⟨_, rfl⟩
  · cases h
theorem isTxt_ok {v : Option Value} {x : PySem.Str} (h : isTxt v x = true) : ∃ k, v = some (.str x k) := by
  unfold isTxt at h
  split at h
  · simp only [beq_iff_eq] at h; subst h; exact ⟨_, rfl⟩
  · cases h
noncomputable def ckGlob (K : Frag) (N : Names) : Bool :=
  hasGlob K && N.gi.all (fun p => isInt (globIn K p.1) p.2) && N.gs.all (fun p => isTxt (globIn K p.1) (toStr p.2)) && noneNames.all fun x => (globIn K x).isNone
noncomputable def ckFal (K : Frag) (N : Names) (T : Tab) : Bool := T.fal.all fun p => keepIn K (.ref p.2) && (N.fn p.1 == Str.empty || decide (globIn K (N.fn p.1) = some (.ref p.2)))
noncomputable def ckCls (K : Frag) (Ca : Addr) : Bool :=
  decide (findIn K (.ref Ca) "__getattribute__" = some (some (.builtin "object.__getattribute__"))) &&
  decide (findIn K (.ref Ca) "__getattr__" = some none) && decide (findIn K (.ref Ca) "__setattr__" = some (some (.builtin "object.__setattr__"))) &&
  attrs.all (fun x => decide (findIn K (.ref Ca) x = some none)) && (clsIn K Ca).any (·.hasDict) && plainOver K Ca
noncomputable def ckCal (K : Frag) (T : Tab) : Bool := T.cal.all fun p => ckCls K p.2
noncomputable def ckMel (K : Frag) (N : Names) (T : Tab) : Bool := T.mel.all fun p => match T.cal.lookup p.1.1 with
  | some Ca => (match T.fal.lookup p.2 with
    | some a => decide (findIn K (.ref Ca) (N.meth p.1.2) = some (some (.ref a))) && decide (typeIn K (.ref a) = some (.type "function")) && keepIn K (.ref a) && notAttr (N.meth p.1.2)
    | none => false)
  | none => true
noncomputable def ckInl (K : Frag) (N : Names) (T : Tab) : Bool := T.inl.all fun p => match T.cal.lookup p.1 with
  | some Ca => (match T.fal.lookup p.2.2 with
    | some fi => keepIn K (.ref Ca) && decide (globIn K (N.cls p.1) = some (.ref Ca)) && makesIn K Ca && decide (findIn K (.ref Ca) "__init__" = some (some (.ref fi))) && decide (typeIn K (.ref fi) = some (.type "function"))
    | none => false)
  | none => false
noncomputable def ckXk (K : Frag) (T : Tab) : Bool := T.xbl.all fun p => p.2.all fun k => decide (kitOne K (.ref p.1) (xval k) = some true) && (decide (k = 0) || decide (exmOne K (.ref p.1) (.ref k) = some true))
noncomputable def ckXi (K : Frag) (N : Names) (T : Tab) : Bool := T.xbl.all fun p => xcls K p.1 && p.2.contains 0 && N.xs.all fun x => p.2.contains x.2 || decide (kitOne K (.ref p.1) (xval x.2) = some false)
noncomputable def ckXm (N : Names) (T : Tab) : Bool := T.mel.all fun p => !N.xm p.1.2 || N.xf p.2
noncomputable def ckFnl (K : Frag) (N : Names) (T : Tab) : Bool := T.fnl.all fun p => match T.fal.lookup p.1 with
  | some a => ckFn K N p.2 a
  | none => false
noncomputable def ckXl (K : Frag) (T : Tab) {G : Gd} {N : Names} {C : Calls} {d : Dp} (n : Nat) (H : Hyp G N C d) : Bool := T.fnl.all fun p => !N.xf p.1 || (T.fal.lookup p.1).any fun a => ckXBody K n H p.2 a
noncomputable def ckQl (K : Frag) (T : Tab) {G : Gd} {N : Names} {C : Calls} {d : Dp} (n : Nat) (H : Hyp G N C d) : Bool := T.fnl.all fun p => !N.qf p.1 || (T.fal.lookup p.1).any fun a => ckBody K n H p.2 a
noncomputable def ckBl (K : Frag) (T : Tab) {G : Gd} {N : Names} {C : Calls} {d : Dp} (n : Nat) (H : Hyp G N C d) : Bool := T.fnl.all fun p => (T.fal.lookup p.1).any fun a => ckBody K n H p.2 a

theorem mem_of_lookup {α β : Type} [BEq α] [LawfulBEq α] : ∀ {l : List (α × β)} {k : α} {v : β}, l.lookup k = some v → (k, v) ∈ l
  | [], _, _, h => by simp at h
  | (a, b) :: l, k, v, h => by
    rw [List.lookup_cons] at h
    split at h
    · rename_i e
      cases h
      rw [beq_iff_eq.1 e]; exact List.mem_cons_self ..
    · exact List.mem_cons_of_mem _ (mem_of_lookup h)

noncomputable def Tab.prog (T : Tab) : Prog := ⟨fun f => T.fnl.lookup f, fun c m => T.mel.lookup (c, m), fun c => T.inl.lookup c, fun c => (T.xbl.lookup c).getD []⟩
noncomputable def Tab.gd (T : Tab) (prog : Program) (w : World) (K : Frag) (mg mb : PySem.Str → Option Value) (h : Heap) : Gd :=
  ⟨prog, w, K, mg, mb, h, T.prog, fun f => T.fal.lookup f, fun c => T.cal.lookup c, attrName⟩

theorem stat_of {T : Tab} {N : Names} {prog : Program} {w : World} {K : Frag} {mg mb : PySem.Str → Option Value} {h : Heap} (hN : N.attr = attrName)
    (X : K.In h) (g : h.Ns mainGlobals mg) (b : h.Ns builtinsNs mb) (bi : ∀ x : PySem.Str, x ≠ "__name__" → mb x = bootBuiltins x) (lim : h.NoLimit)
    (h1 : ckGlob K N = true) (h2 : ckFal K N T = true) (h3 : ckCal K T = true) (h4 : ckMel K N T = true) (h5 : ckInl K N T = true) (hxw : ∀ y c, N.xs.contains (y, c) = true → c ≠ 0 ∧ OwnCls y c vbm "ValueError.__new__" mg h) (h6 : ckXk K T = true) (h7 : ckXm N T = true) (h8 : ckXi K N T = true) : Stat (T.gd prog w K mg mb h) N := by
  simp only [ckGlob, Bool.and_eq_true, List.all_eq_true] at h1
  obtain ⟨⟨⟨g1, g2⟩, g3⟩, g4⟩ := h1
  have hm := fun x => globIn_ok X g g1 x
  simp only [ckFal, ckCal, ckMel, ckInl, List.all_eq_true, Bool.and_eq_true, Bool.or_eq_true, beq_iff_eq, decide_eq_true_eq] at h2 h3 h4 h5
  constructor
  · refine ⟨X, g, b, bi, lim, fun x i hc => ?_, fun x i hc => ?_, attr_inj, hN, fun x hx => ?_⟩
    · obtain ⟨k, e⟩ := isInt_ok (g2 (x, i) (by simpa using hc))
      exact ⟨k, (hm x).trans e⟩
    · obtain ⟨k, e⟩ := isTxt_ok (g3 (x, i) (by simpa using hc))
      exact ⟨k, (hm x).trans e⟩
    · exact (hm x).trans (Option.isNone_iff_eq_none.1 (g4 x hx))
  · intro c Ca hc
    have e := h3 _ (mem_of_lookup hc)
    simp only [ckCls, Bool.and_eq_true, decide_eq_true_eq, List.all_eq_true] at e
    obtain ⟨⟨⟨⟨⟨e1, e2⟩, e3⟩, e4⟩, e5⟩, e6⟩ := e
    refine ⟨e1, e2, e3, fun i hi => ?_, ?_, e6⟩
    · show findIn K (.ref Ca) (attrName i) = some none
      unfold attrName
      have hlt : i < attrs.length := hi
      rw [List.getElem?_eq_getElem hlt]
      exact e4 _ (List.getElem_mem _)
    · show ∃ cd, clsIn K Ca = some cd ∧ cd.hasDict = true
      cases hc : clsIn K Ca with
      | none => rw [hc] at e5; cases e5
      | some cd => rw [hc] at e5; exact ⟨cd, rfl, e5⟩
  · intro f a hf
    have e := h2 _ (mem_of_lookup hf)
    exact ⟨e.1, e.2.imp id fun e => (hm _).trans e⟩
  · intro c k f Ca hc hca
    have e := h4 _ (mem_of_lookup hc)
    have hca : T.cal.lookup c = some Ca := hca
    simp only [hca] at e
    split at e
    · rename_i a ha
      simp only [Bool.and_eq_true, decide_eq_true_eq] at e
      obtain ⟨⟨⟨e1, e2⟩, e3⟩, e4⟩ := e
      exact ⟨a, ha, e1, e2, e3, notAttr_ok e4⟩
    · cases e
  · intro c k f hc
    have e := h5 _ (mem_of_lookup hc)
    simp only at e
    split at e
    · rename_i Ca hca
      split at e
      · rename_i fi hfi
        simp only [Bool.and_eq_true, decide_eq_true_eq] at e
        obtain ⟨⟨⟨⟨e1, e2⟩, e3⟩, e4⟩, e5⟩ := e
        exact ⟨Ca, fi, hca, hfi, e1, (hm _).trans e2, e3, e4, e5⟩
      · cases e
    · cases e
  · exact hxw
  · intro c k h1 h2
    have h1 : ((T.xbl.lookup c).getD []).contains c = true := h1
    have h2 : ((T.xbl.lookup c).getD []).contains k = true := h2
    show kitOne K (.ref c) (xval k) = some true ∧ (k ≠ 0 → exmOne K (.ref c) (.ref k) = some true)
    cases hl : T.xbl.lookup c with
    | none => rw [hl] at h1; cases h1
    | some l =>
      rw [hl] at h2
      have e := List.all_eq_true.1 (List.all_eq_true.1 h6 _ (mem_of_lookup hl)) k (List.contains_iff_mem.1 h2)
      obtain ⟨e1, e2⟩ := Bool.and_eq_true_iff.1 e
      exact ⟨of_decide_eq_true e1, fun hk => (Bool.or_eq_true_iff.1 e2).elim (fun z => absurd (of_decide_eq_true z) hk) of_decide_eq_true⟩
  · intro k c f hk hc
    have e := List.all_eq_true.1 h7 _ (mem_of_lookup hc)
    exact (Bool.or_eq_true_iff.1 e).elim (fun z => by rw [show N.xm k = true from hk] at z; cases z) id
  · intro c k h1 h2
    have h1 : ((T.xbl.lookup c).getD []).contains c = true := h1
    show xcls K c = true ∧ kitOne K (.ref c) (xval k) = some (((T.xbl.lookup c).getD []).contains k)
    cases hl : T.xbl.lookup c with
    | none => rw [hl] at h1; cases h1
    | some l =>
      rw [hl] at h1
      obtain ⟨e1, e2⟩ := Bool.and_eq_true_iff.1 (List.all_eq_true.1 h8 _ (mem_of_lookup hl))
      obtain ⟨e0, e1⟩ := Bool.and_eq_true_iff.1 e1
      refine ⟨e0, ?_⟩
      show kitOne K (.ref c) (xval k) = some (l.contains k)
      cases hk : l.contains k with
      | true =>
        have e := List.all_eq_true.1 (List.all_eq_true.1 h6 _ (mem_of_lookup hl)) k (List.contains_iff_mem.1 hk)
        exact of_decide_eq_true (Bool.and_eq_true_iff.1 e).1
      | false =>
        rcases h2 with rfl | ⟨y, h2⟩
        · rw [hk] at e1; cases e1
        · have e := List.all_eq_true.1 e2 _ (List.contains_iff_mem.1 h2)
          exact of_decide_eq_true ((Bool.or_eq_true_iff.1 e).resolve_left fun z => by rw [hk] at z; cases z)

theorem bits_all : ∀ {ns : List Int} {n : Nat}, PyData.weightAll (ns.map .int) ≤ n → ∀ i ∈ ns, intBits i ≤ n
  | [], _, _, i, hi => by cases hi
  | j :: ns, n, h, i, hi => by
    simp only [List.map_cons, PyData.weightAll, PyData.weight] at h
    rcases List.mem_cons.1 hi with rfl | hi
    · unfold intBits
      by_cases e : i = 0
      · simp [e]
      · simp [e] at h ⊢; omega
    · exact bits_all (by omega) i hi
theorem bits_lay {ns : List Int} (h : (PyData.list (ns.map .int)).layable0 = true) : ∀ i ∈ ns, intBits i ≤ 1048576 := by
  simp only [PyData.layable0, Bool.and_eq_true, PyData.weight] at h
  exact bits_all (of_decide_eq_true h.2)
theorem law_close {T : Tab} {N : Names} {prog : Program} {w : World} {K : Frag} {mg mb : PySem.Str → Option Value} {s : Shared} (S : Stat (T.gd prog w K mg mb s.heap) N) (hf : ckFnl K N T = true) (hb : ∀ (G : Gd) (C : Calls) (n : Nat) (H : Hyp G N C ⟨n, true⟩), ckBl K T n H = true) (hbx : ∀ (G : Gd) (C : Calls) (n : Nat) (H : Hyp G N C ⟨n, true⟩), ckXl K T n H = true) (hbq : ∀ (G : Gd) (C : Calls) (n : Nat) (H : Hyp G N C ⟨n, false⟩), ckQl K T n H = true)
    {n law : Nat} {fa la : Addr} {ns : List Int} {vals : List Value} (hA : AC ⟨n, true⟩ callerA) (hfa : T.fal.lookup law = some fa) (hz : s.heap.get? la = some { cls := .type "list", data := .seq vals.toArray }) (hlen : ns.length ≤ 63) (hI : IntsAre vals ns)
    {st' : MS} (hrun : run T.prog n law [.lst (ns.map .int)] st0 = .ok (.bool true) st') {B : Result → Shared → Prop}
    (k : ∀ s' : Shared, (∀ b o, s.heap.get? b = some o → s'.heap.get? b = some o) → s'.os = s.os → s'.gens = s.gens → B (.ok (.ret (.bool true))) s') :
    codeAny (model prog w) callerA (.call (.ref fa) ⟨[.ref la], []⟩) B s := by
  let G := T.gd prog w K mg mb s.heap
  have hok : ∀ f fn, G.P.fns f = some fn → ∃ a, G.fa f = some a ∧ ckFn G.K N fn a = true := by
    intro f fn h
    have e := List.all_eq_true.1 hf _ (mem_of_lookup h)
    simp only at e
    split at e
    · rename_i a ha
      exact ⟨a, ha, e⟩
    · cases e
  have hfn : ∀ f fn, G.P.fns f = some fn → ∃ a, G.fa f = some a ∧ FnRec G true (CallsA G N.xf N.qf) fn a := by
    intro f fn h
    obtain ⟨a, ha, e⟩ := hok f fn h
    refine ⟨a, ha, fnRec_of (fun _ _ => S.hyp) e fun C n H => ?_⟩
    have g := List.all_eq_true.1 (hb G C n H) _ (mem_of_lookup h)
    rw [show T.fal.lookup f = some a from ha] at g
    exact g
  have hfx : ∀ f fn, N.xf f = true → G.P.fns f = some fn → ∃ a, G.fa f = some a ∧ FnX G N.xf N.qf fn a := by
    intro f fn hx h
    obtain ⟨a, ha, e⟩ := hok f fn h
    refine ⟨a, ha, fnX_of S e fun C n H => ?_⟩
    have g := (Bool.or_eq_true_iff.1 (List.all_eq_true.1 (hbx G C n H) _ (mem_of_lookup h))).resolve_left fun z => by
      rw [show N.xf f = true from hx] at z; cases z
    rw [show T.fal.lookup f = some a from ha] at g
    exact g
  have hfq : ∀ f fn, N.qf f = true → G.P.fns f = some fn → ∃ a, G.fa f = some a ∧ FnRec G false (fun C n => CallsQ G C n N.qf) fn a := by
    intro f fn hx h
    obtain ⟨a, ha, e⟩ := hok f fn h
    refine ⟨a, ha, fnRec_of (fun _ _ => S.hypQ) e fun C n H => ?_⟩
    have g := (Bool.or_eq_true_iff.1 (List.all_eq_true.1 (hbq G C n H) _ (mem_of_lookup h))).resolve_left fun z => by
      rw [show N.qf f = true from hx] at z; cases z
    rw [show T.fal.lookup f = some a from ha] at g
    exact g
  let t0 : Tie := ⟨fun _ => none, fun _ => none, fun _ => False, 0, []⟩
  have hno : ∀ a, ¬ t0.Avoid a := by
    rintro a (⟨l, e | e⟩ | e)
    · cases e
    · cases e
    · exact e
  have R : Rel G t0 st0 s :=
    { base := fun b o e => e, apart := fun a q => (hno a q).elim, live := fun a q => (hno a q).elim, pv := fun a q => q.elim, injρ := (fun l l' a e => by cases e), injδ := (fun l l' a e => by cases e), two := (fun l l' a e => by cases e),
      objs := (fun l o e => by cases e), cnt := (fun k i _ => ⟨rfl, rfl, rfl⟩), sys := (fun l e => by cases e), wr := rfl }
  have hV : ∀ {vs : List Value} {ms : List Int}, IntsAre vs ms → VRels t0 s.heap (ms.map .int) vs := by
    intro vs ms h
    induction h with
    | nil => rfl
    | cons n t _ ih => exact ⟨_, _, rfl, ⟨t, rfl⟩, ih⟩
  have rv : VRel t0 s.heap (.lst (ns.map .int)) (.ref la) := ⟨la, vals.toArray, rfl, ⟨_, hz⟩, hno _, by rw [List.length_map]; unfold sizeMax; omega, hV hI⟩
  obtain ⟨a, ha, go⟩ := (calls_both S.O hfn hfx hfq n).ok law [.lst (ns.map .int)] st0 (.bool true) st' hrun callerA hA
  have : a = fa := by
    have ha : T.fal.lookup law = some a := ha
    rw [hfa] at ha; cases ha; rfl
  subst this
  refine go t0 s [.ref la] ⟨rfl, fun e he => by cases he⟩ R ⟨_, _, rfl, rv, rfl⟩ B fun v t' s' S' R' r => ?_
  have r : v = .bool true := r
  subst r
  exact k s' R'.base S'.os S'.gens
end Mine
end

section
set_option genInjectivity false
set_option genSizeOf false
namespace Mine

noncomputable def f_cell : Fn := ⟨2, ["_law_script", "_law_k"], [.ite (.cmp (.loc 1) .lt (.prim .len [.loc 0])) [.ret (some (.sub (.loc 0) (.loc 1)))] [], .ret (some (.int 0))]⟩
noncomputable def f_alike (self : Nat) : Fn := ⟨2, ["_law_found", "_law_due", ""], [.ite (.isinst (.loc 1) [.list, .tuple]) [.ite (.or [.cmp (.isinst (.loc 1) [.list]) .ne (.isinst (.loc 0) [.list]), .cmp (.isinst (.loc 1) [.tuple]) .ne (.isinst (.loc 0) [.tuple])]) [.ret (some (.bool false))] [], .ite (.cmp (.prim .len [.loc 0]) .ne (.prim .len [.loc 1])) [.ret (some (.bool false))] [], .ret (some (.prim .all1 [.comp none 2 true (.prim .len [.loc 1]) none (.call self [.sub (.loc 0) (.loc 2), .sub (.loc 1) (.loc 2)])]))] [], .ite (.isinst (.loc 1) [.str]) [.ret (some (.and [.isinst (.loc 0) [.str], .cmp (.loc 0) .eq (.loc 1)]))] [], .ret (some (.and [.isinst (.loc 0) [.int], .not (.isinst (.loc 0) [.bool]), .cmp (.loc 0) .eq (.loc 1)]))]⟩
noncomputable def f_wish : Fn := ⟨1, ["_law_cell", "_law_number"], [.assign 1 (.bin .sub (.bin .mod (.bin .fdiv (.loc 0) (.int 6)) (.int 7)) (.int 3)), .ite (.cmp (.bin .mod (.bin .fdiv (.loc 0) (.int 3)) (.int 2)) .eq (.int 1)) [.assign 1 (.bin .sub (.bin .mod (.bin .fdiv (.loc 0) (.int 6)) (.bin .add (.bin .mul (.int 2) (.bin .pow (.int 10) (.int 30))) (.int 1))) (.bin .pow (.int 10) (.int 30)))] [], .ret (some (.sub (.lst [.tup [.str [103, 101, 116]], .tup [.str [115, 101, 116], .loc 1], .tup [.str [97, 100, 100], .loc 1]]) (.bin .mod (.loc 0) (.int 3))))]⟩
inductive W where | get | set (i : Int) | add (i : Int)
noncomputable def wv : W → V
  | .get => .tup [.str [103, 101, 116]]
  | .set i => .tup [.str [115, 101, 116], .int i]
  | .add i => .tup [.str [97, 100, 100], .int i]
noncomputable def dn (a : Int) : W → Int × Int
  | .get => (a, a)
  | .set i => (i, a)
  | .add i => (a + i, a + i)

variable {P : Prog}
theorem i_seq {s : MS} {a : V} {k : Bool} {l : List V} (h : seqOf s a = some (k, l)) (i : Nat) (hi : i < l.length) : getItem a (.int i) s = .ok l[i] s := by
  have h0 : (0 : Int) ≤ i := by omega
  have h1 : (i : Int) < l.length := by omega
  cases a <;> simp [seqOf] at h <;> simp_all [getItem, seqOf, idx, okV]
theorem run_cell {f : Nat} (hf : P.fns f = some f_cell) (n : Nat) (l : List Int) (k : Nat) (s : MS) : run P (n + 1) f [.lst (l.map .int), .int k] s = .ok (.int (l.getD k 0)) s := by
  refine okr_eq (okr_run (fn := f_cell) hf rfl ?_)
  have hc : ev P (run P n) (.cmp (.loc 1) .lt (.prim .len [.loc 0])) [some (.lst (l.map .int)), some (.int k)] s = .ok (.bool (decide ((k : Int) < ((l.map V.int).length : Nat)))) s := rfl
  rw [List.length_map] at hc
  by_cases h : k < l.length
  · refine st_if (hc.trans (congrArg (fun b => Res.ok (V.bool b) s) (decide_eq_true (by omega)))) (st_ret (e_sub (s1 := s) (s2 := s) rfl rfl (i_seq (a := .lst (l.map .int)) (k := true) rfl k (by simpa using h))) ⟨?_, rfl⟩)
    simp [flV, h]
  · refine st_if (hc.trans (congrArg (fun b => Res.ok (V.bool b) s) (decide_eq_false (by omega)))) (st_next (st_ret rfl ⟨?_, rfl⟩))
    simp [flV, h]
theorem run_cell0 {f : Nat} (hf : P.fns f = some f_cell) (n : Nat) (l : List Int) (s : MS) : run P (n + 1) f [.lst (l.map .int), .int 0] s = .ok (.int (l.getD 0 0)) s := run_cell hf n l 0 s
theorem run_cell1 {f : Nat} (hf : P.fns f = some f_cell) (n : Nat) (l : List Int) (s : MS) : run P (n + 1) f [.lst (l.map .int), .int 1] s = .ok (.int (l.getD 1 0)) s := run_cell hf n l 1 s
theorem run_cell2 {f : Nat} (hf : P.fns f = some f_cell) (n : Nat) (l : List Int) (s : MS) : run P (n + 1) f [.lst (l.map .int), .int 2] s = .ok (.int (l.getD 2 0)) s := run_cell hf n l 2 s
noncomputable def wnum (c : Int) (b : Bool) : Int := match b with
  | true => (c.fdiv 6).fmod 2000000000000000000000000000001 - 1000000000000000000000000000000
  | false => (c.fdiv 6).fmod 7 - 3
noncomputable def wpick (k i : Int) : W := if k = 0 then .get else if k = 1 then .set i else .add i
noncomputable def wishOf (c : Int) : W := wpick (c.fmod 3) (wnum c (decide ((c.fdiv 3).fmod 2 = 1)))
theorem pick_ok (k i : Int) (s : MS) (h : k = 0 ∨ k = 1 ∨ k = 2) : getItem (.lst [.tup [.str [103, 101, 116]], .tup [.str [115, 101, 116], .int i], .tup [.str [97, 100, 100], .int i]]) (.int k) s = .ok (wv (wpick k i)) s := by
  rcases h with rfl | rfl | rfl <;> rfl
theorem run_wish {f : Nat} (hf : P.fns f = some f_wish) (n : Nat) (c : Int) (s : MS) : run P (n + 1) f [.int c] s = .ok (wv (wishOf c)) s := by
  refine okr_eq (okr_run (fn := f_wish) hf rfl ?_)
  have h3 : c.fmod 3 = 0 ∨ c.fmod 3 = 1 ∨ c.fmod 3 = 2 := by
    rw [Int.fmod_eq_emod_of_nonneg c (by decide)]; omega
  refine st_assign (v := .int (wnum c false)) rfl rfl ?_
  cases hb : decide ((c.fdiv 3).fmod 2 = 1)
  · refine st_if (t := false) (congrArg (fun b => Res.ok (V.bool b) s) hb) (st_next (st_ret (pick_ok (c.fmod 3) (wnum c false) s h3) ⟨?_, rfl⟩))
    show wv (wpick _ (wnum c false)) = wv (wpick _ (wnum c (decide _))); rw [hb]
  · refine st_if (t := true) (congrArg (fun b => Res.ok (V.bool b) s) hb) (st_assign (v := .int (wnum c true)) rfl rfl (st_next (st_ret (pick_ok (c.fmod 3) (wnum c true) s h3) ⟨?_, rfl⟩)))
    show wv (wpick _ (wnum c true)) = wv (wpick _ (wnum c (decide _))); rw [hb]
noncomputable def abc : List Nat := [97, 98, 99, 100, 101, 102, 103, 104, 105, 106, 107, 108, 109, 110, 111, 112, 113, 114, 115, 116, 117, 118, 119, 120, 121, 122]
noncomputable def letter (x : Int) : Nat := abc[(x.fmod 26).toNat]?.getD 97
theorem fmod_range (x m : Int) (h : 0 < m) : 0 ≤ x.fmod m ∧ x.fmod m < m := by
  rw [Int.fmod_eq_emod_of_nonneg x (Int.le_of_lt h)]
  exact ⟨Int.emod_nonneg x (Int.ne_of_gt h), Int.emod_lt_of_pos x h⟩
noncomputable def AllA (R : V → V → Prop) : List V → List V → Prop
  | [], [] => True
  | x :: l, y :: m => R x y ∧ AllA R l m
  | _, _ => False
theorem AllA.len {R : V → V → Prop} : ∀ {a b : List V}, AllA R a b → a.length = b.length
  | [], [], _ => rfl
  | x :: l, y :: m, h => by simp [AllA.len h.2]
  | [], _ :: _, h => h.elim
  | _ :: _, [], h => h.elim
theorem AllA.get {R : V → V → Prop} : ∀ {a b : List V}, AllA R a b → ∀ (i : Nat) (h : i < a.length) (h' : i < b.length), R a[i] b[i]
  | x :: l, y :: m, h, 0, _, _ => h.1
  | x :: l, y :: m, h, i + 1, h1, h2 => AllA.get h.2 i (by simpa using h1) (by simpa using h2)
  | [], _, _, _, h1, _ => by simp at h1
  | _ :: _, [], h, _, _, _ => h.elim
theorem AllA.map {α : Type} {R : V → V → Prop} {f g : α → V} : ∀ (l : List α), (∀ x ∈ l, R (f x) (g x)) → AllA R (l.map f) (l.map g)
  | [], _ => trivial
  | x :: l, h => ⟨h x (by simp), AllA.map l fun y hy => h y (by simp [hy])⟩
noncomputable def Alike (s : MS) : Nat → V → V → Prop
  | 0, a, b => (∃ x, a = .int x ∧ b = .int x) ∨ (∃ x, a = .str x ∧ b = .str x)
  | d + 1, a, b => ((∃ x, a = .int x ∧ b = .int x) ∨ (∃ x, a = .str x ∧ b = .str x)) ∨
    ∃ k la lb, seqOf s a = some (k, la) ∧ seqOf s b = some (k, lb) ∧ la.length ≤ 16777216 ∧ AllA (Alike s d) la lb
theorem alike_int {s : MS} (d : Nat) (x : Int) : Alike s d (.int x) (.int x) := by
  cases d
  · exact .inl ⟨x, rfl, rfl⟩
  · exact .inl (.inl ⟨x, rfl, rfl⟩)
theorem alike_tup {s : MS} {d : Nat} {la lb : List V} (hl : la.length ≤ 16777216) (h : AllA (Alike s d) la lb) : Alike s (d + 1) (.tup la) (.tup lb) :=
  .inr ⟨false, la, lb, rfl, rfl, hl, h⟩
noncomputable def seqTag (k : Bool) : Tag := match k with | true => .list | false => .tuple
theorem tag_seq {s : MS} {a : V} {k : Bool} {l : List V} (h : seqOf s a = some (k, l)) : tagOf s a = some (seqTag k) := by
  cases a with
  | tup => cases h; rfl
  | lst => cases h; rfl
  | ref r =>
    have h : (match s.heap r with | some (.list l) => some (true, l) | _ => none) = some (k, l) := h
    show (match s.heap r with | some (.list _) => some Tag.list | some (.dict _) => some .dict | _ => none) = _
    cases e : s.heap r with
    | none => rw [e] at h; cases h
    | some o =>
      rw [e] at h
      cases o with
      | list m => cases h; rfl
      | _ => cases h
  | _ => cases h
theorem kinds_tag {s : MS} {v : V} {g : Tag} (h : tagOf s v = some g) (k : Kind) : isKind P s v k = kindHas g k := by
  cases v with
  | exc => cases h
  | ref r =>
    show (match tagOf s (.ref r) with | some g => kindHas g k | none => none) = _
    rw [h]
  | _ => cases h; rfl
theorem kind1 {s : MS} {v : V} {g : Tag} {k : Kind} {t : Bool} (h : tagOf s v = some g) (hk : kindHas g k = some t) : isKinds P s v [k] = some t := by
  rw [isKinds, kinds_tag h, hk]; cases t <;> rfl
theorem kind2 {s : MS} {v : V} {k : Bool} (h : tagOf s v = some (seqTag k)) : isKinds P s v [.list, .tuple] = some true := by
  rw [isKinds, kinds_tag h]
  cases k
  · show isKinds P s v [.tuple] = _
    exact kind1 h rfl
  · rfl
theorem all_true : ∀ xs : List V, allTrue (xs.map fun _ => V.bool true) = some true
  | [] => rfl
  | x :: r => by rw [List.map_cons, allTrue, all_true r]; rfl
theorem len_seq {s : MS} {a : V} {k : Bool} {l : List V} (h : seqOf s a = some (k, l)) : lenV a s = .ok (.int l.length) s := by
  cases a with
  | tup => cases h; rfl
  | lst => cases h; rfl
  | ref r =>
    show (match seqOf s (.ref r) with | some p => Res.ok (V.int p.2.length) s | none => .stuck) = _
    rw [h]
  | _ => cases h
theorem alike_flat {f : Nat} (hf : P.fns f = some (f_alike f)) (n : Nat) (a b : V) (s : MS) (h : (∃ x, a = .int x ∧ b = .int x) ∨ (∃ x, a = .str x ∧ b = .str x)) : run P (n + 1) f [a, b] s = .ok (.bool true) s := by
  refine okr_eq (okr_run (fn := f_alike f) hf rfl ?_)
  rcases h with ⟨x, rfl, rfl⟩ | ⟨x, rfl, rfl⟩
  · exact st_if (t := false) rfl (st_next (st_if (t := false) rfl (st_next (st_ret (congrArg (fun t => Res.ok (V.bool t) s) (decide_eq_true (rfl : x = x))) ⟨rfl, rfl⟩))))
  · exact st_if (t := false) rfl (st_next (st_if (t := true) rfl (st_ret (congrArg (fun t => Res.ok (V.bool t) s) (decide_eq_true (rfl : x = x))) ⟨rfl, rfl⟩)))
theorem run_alike {f : Nat} (hf : P.fns f = some (f_alike f)) : ∀ (d n : Nat) (a b : V) (s : MS), Alike s d a b → run P (n + d + 1) f [a, b] s = .ok (.bool true) s
  | 0, n, a, b, s, h => alike_flat hf n a b s h
  | d + 1, n, a, b, s, h => by
    rcases h with h | ⟨k, la, lb, ha, hb, h0, h⟩
    · exact alike_flat hf (n + (d + 1)) a b s h
    · have hl := h.len
      have t1 := tag_seq ha
      have t2 := tag_seq hb
      refine okr_eq (okr_run (fn := f_alike f) hf rfl ?_)
      refine st_if (t := true) (e_isinst rfl (kind2 t2)) (st_if (t := false) (s' := s) ?_ (st_next (st_if (t := false) (s' := s) ?_ (st_next (st_retQ (R := fun v t => v = .bool true ∧ t = s) ?_ fun v t h => h)))))
      · cases k
        · exact e_or2 (t := false) (u := false) (e_cmp (e_isinst rfl (kind1 t2 rfl)) (e_isinst rfl (kind1 t1 rfl)) rfl) fun _ => e_cmp (e_isinst rfl (kind1 t2 rfl)) (e_isinst rfl (kind1 t1 rfl)) rfl
        · exact e_or2 (t := false) (u := false) (e_cmp (e_isinst rfl (kind1 t2 rfl)) (e_isinst rfl (kind1 t1 rfl)) rfl) fun _ => e_cmp (e_isinst rfl (kind1 t2 rfl)) (e_isinst rfl (kind1 t1 rfl)) rfl
      · refine e_cmp (e_prim rfl (len_seq ha)) (e_prim rfl (len_seq hb)) ?_
        rw [hl, c_neI]; simp
      · refine e_primQ (R' := fun v t => v = .lst (((List.range lb.length).map fun (i : Nat) => V.int i).map fun _ => .bool true) ∧ t = s) (e_compQ (e_prim rfl (len_seq hb)) (items_range s lb.length (by omega) (by omega)) ?_) ?_
        · refine okr_compF (fun _ => .bool true) (stays_range ..) (by simp [sizeMax]; omega) ?_ ⟨rfl, rfl⟩
          intro x hx
          obtain ⟨i, hi, rfl⟩ := List.mem_map.1 hx
          have hi : i < lb.length := by simpa using hi
          exact okr_of (e_call (e_cons (e_sub rfl rfl (i_seq ha i (by omega))) (e_cons (e_sub rfl rfl (i_seq hb i hi)) rfl)) (run_alike hf d n _ _ s (h.get i (by omega) hi))) ⟨rfl, rfl⟩
        · rintro v t ⟨rfl, rfl⟩
          exact okr_of (congrArg (okB t) (all_true _)) ⟨rfl, rfl⟩
end Mine
end

section
namespace Mine.L01
open Mine

noncomputable def f_is_whole : Fn := ⟨1, ["thing"], [.ret (some (.and [.isinst (.loc 0) [.int], .not (.isinst (.loc 0) [.bool])]))]⟩
noncomputable def f_need_wish : Fn := ⟨1, ["wish"], [.ite (.or [.not (.isinst (.loc 0) [.tuple]), .cmp (.prim .len [.loc 0]) .lt (.int 1), .not (.isinst (.sub (.loc 0) (.int 0)) [.str])]) [.raise 85] [], .ite (.and [.cmp (.sub (.loc 0) (.int 0)) .eq (.str [103, 101, 116]), .cmp (.prim .len [.loc 0]) .eq (.int 1)]) [.ret none] [], .ite (.or [.cmp (.sub (.loc 0) (.int 0)) .notin (.tup [.str [115, 101, 116], .str [97, 100, 100]]), .cmp (.prim .len [.loc 0]) .ne (.int 2), .not (.call 0 [.sub (.loc 0) (.int 1)])]) [.raise 85] [], .ite (.not (.cmp2 (.neg (.gint "GREATEST" 1000000000000000000000000000000)) .le (.sub (.loc 0) (.int 1)) .le (.gint "GREATEST" 1000000000000000000000000000000))) [.raise 85] []]⟩
noncomputable def f_done : Fn := ⟨2, ["amount", "wish"], [.ite (.cmp (.sub (.loc 1) (.int 0)) .eq (.str [115, 101, 116])) [.ret (some (.tup [.sub (.loc 1) (.int 1), .loc 0]))] [], .ite (.cmp (.sub (.loc 1) (.int 0)) .eq (.str [97, 100, 100])) [.ret (some (.tup [.bin .add (.loc 0) (.sub (.loc 1) (.int 1)), .bin .add (.loc 0) (.sub (.loc 1) (.int 1))]))] [], .ret (some (.tup [.loc 0, .loc 0]))]⟩
noncomputable def f_law_cell_at : Fn := ⟨2, ["_law_script", "_law_k"], [.ite (.cmp (.loc 1) .lt (.prim .len [.loc 0])) [.ret (some (.sub (.loc 0) (.loc 1)))] [], .ret (some (.int 0))]⟩
noncomputable def f_law_alike : Fn := ⟨2, ["_law_found", "_law_due", ""], [.ite (.isinst (.loc 1) [.list, .tuple]) [.ite (.or [.cmp (.isinst (.loc 1) [.list]) .ne (.isinst (.loc 0) [.list]), .cmp (.isinst (.loc 1) [.tuple]) .ne (.isinst (.loc 0) [.tuple])]) [.ret (some (.bool false))] [], .ite (.cmp (.prim .len [.loc 0]) .ne (.prim .len [.loc 1])) [.ret (some (.bool false))] [], .ret (some (.prim .all1 [.comp none 2 true (.prim .len [.loc 1]) none (.call 101 [.sub (.loc 0) (.loc 2), .sub (.loc 1) (.loc 2)])]))] [], .ite (.isinst (.loc 1) [.str]) [.ret (some (.and [.isinst (.loc 0) [.str], .cmp (.loc 0) .eq (.loc 1)]))] [], .ret (some (.and [.isinst (.loc 0) [.int], .not (.isinst (.loc 0) [.bool]), .cmp (.loc 0) .eq (.loc 1)]))]⟩
noncomputable def f_law_wish : Fn := ⟨1, ["_law_cell", "_law_number"], [.assign 1 (.bin .sub (.bin .mod (.bin .fdiv (.loc 0) (.int 6)) (.int 7)) (.int 3)), .ite (.cmp (.bin .mod (.bin .fdiv (.loc 0) (.int 3)) (.int 2)) .eq (.int 1)) [.assign 1 (.bin .sub (.bin .mod (.bin .fdiv (.loc 0) (.int 6)) (.bin .add (.bin .mul (.int 2) (.bin .pow (.int 10) (.int 30))) (.int 1))) (.bin .pow (.int 10) (.int 30)))] [], .ret (some (.sub (.lst [.tup [.str [103, 101, 116]], .tup [.str [115, 101, 116], .loc 1], .tup [.str [97, 100, 100], .loc 1]]) (.bin .mod (.loc 0) (.int 3))))]⟩
noncomputable def f_law_odd : Fn := ⟨1, ["_law_cell", "_law_far", "_law_some"], [.assign 1 (.bin .add (.bin .add (.bin .pow (.int 10) (.int 30)) (.int 1)) (.bin .mod (.bin .fdiv (.loc 0) (.int 24)) (.bin .pow (.int 10) (.int 40)))), .assign 2 (.lst [.none, .tup [], .tup [.str [103, 101, 116], .int 1], .tup [.str [115, 101, 116]], .tup [.str [97, 100, 100]], .tup [.str [115, 101, 116], .bool true], .tup [.str [97, 100, 100], .bool false], .tup [.str [115, 101, 116], .none], .tup [.str [97, 100, 100], .str [49]]]), .assign 2 (.bin .add (.loc 2) (.lst [.tup [.str [115, 101, 116], .loc 1], .tup [.str [97, 100, 100], .loc 1], .tup [.str [115, 101, 116], .neg (.loc 1)], .tup [.str [97, 100, 100], .neg (.loc 1)], .tup [.str [115, 101, 116], .int 1, .int 2], .tup [.str [103, 101, 116], .tup []], .lst [.str [103, 101, 116]]])), .assign 2 (.bin .add (.loc 2) (.lst [.lst [.str [115, 101, 116], .int 1], .str [103, 101, 116], .int 5, .tup [.str [71, 101, 116]], .tup [.str [116, 97, 107, 101], .int 1], .tup [.int 1, .int 2], .tup [.tup [.str [103, 101, 116]]], .tup [.str [115, 101, 116], .tup [.int 1]]])), .ret (some (.sub (.loc 2) (.bin .mod (.loc 0) (.int 24))))]⟩
noncomputable def f_law_kinds : Fn := ⟨1, ["_law_e", "_law_some"], [.assign 1 (.lst [.isX (.loc 0) 37, .isX (.loc 0) 49, .isX (.loc 0) 61, .isX (.loc 0) 73]), .assign 1 (.bin .add (.loc 1) (.lst [.isX (.loc 0) 85, .isX (.loc 0) 97, .isX (.loc 0) 109, .isX (.loc 0) 121])), .ret (some (.bm .count (.bin .add (.loc 1) (.lst [.isX (.loc 0) 133])) [.bool true]))]⟩
noncomputable def f_law_refused : Fn := ⟨1, ["_law_thing", "_law_e"], [.tryC 1 [.loc 0] 24 1 [.ret (some (.and [.isX (.loc 1) 85, .isX (.loc 1) 0, .cmp (.call 121 [.loc 1]) .eq (.int 1)]))], .ret (some (.bool false))]⟩
noncomputable def f_law : Fn := ⟨1, ["_law_script", "_law_amount", "_law_wish_here", "_law_due"], [.assign 1 (.call 100 [.loc 0, .int 0]), .ite (.cmp (.bin .mod (.call 100 [.loc 0, .int 1]) (.int 2)) .eq (.int 1)) [.assign 1 (.bin .pow (.loc 1) (.int 5))] [], .assign 2 (.call 102 [.call 100 [.loc 0, .int 2]]), .ite (.and [.cmp (.bin .mod (.bin .fdiv (.call 100 [.loc 0, .int 1]) (.int 2)) (.int 4)) .eq (.int 1), .cmp (.prim .len [.loc 2]) .eq (.int 2)]) [.assign 2 (.tup [.sub (.loc 2) (.int 0), .sub (.lst [.bin .pow (.int 10) (.int 30), .neg (.bin .pow (.int 10) (.int 30))]) (.bin .mod (.bin .fdiv (.call 100 [.loc 0, .int 2]) (.int 6)) (.int 2))])] [], .assign 3 (.tup [.loc 1, .loc 1]), .ite (.cmp (.sub (.loc 2) (.int 0)) .eq (.str [115, 101, 116])) [.assign 3 (.tup [.sub (.loc 2) (.int 1), .loc 1])] [], .ite (.cmp (.sub (.loc 2) (.int 0)) .eq (.str [97, 100, 100])) [.assign 3 (.tup [.bin .add (.loc 1) (.sub (.loc 2) (.int 1)), .bin .add (.loc 1) (.sub (.loc 2) (.int 1))])] [], .ite (.or [.isC true (.call 1 [.loc 2]) .none, .not (.call 101 [.call 2 [.loc 1, .loc 2], .loc 3])]) [.ret (some (.bool false))] [], .ret (some (.call 122 [.call 120 [.call 100 [.loc 0, .int 3]]]))]⟩
noncomputable def fnl : List (Nat × Fn) := [(0, f_is_whole), (1, f_need_wish), (2, f_done), (100, f_law_cell_at), (101, f_law_alike), (102, f_law_wish), (118, f_law), (120, f_law_odd), (121, f_law_kinds), (122, f_law_refused)]
noncomputable def mel : List ((Nat × Nat) × Nat) := []
noncomputable def inl : List (Nat × (Nat × Nat)) := []
noncomputable def fnn : List (Nat × PySem.Str) := [(0, "is_whole"), (1, "need_wish"), (2, "done"), (100, "_law_cell_at"), (101, "_law_alike"), (102, "_law_wish"), (118, "law"), (120, "_law_odd"), (121, "_law_kinds"), (122, "_law_refused")]
noncomputable def xbl : List (Nat × List Nat) := [(24, [24, 0]), (37, [37, 24, 0]), (49, [49, 24, 0]), (61, [61, 24, 0]), (73, [73, 24, 0]), (85, [85, 24, 0]), (97, [97, 24, 0]), (109, [109, 24, 0]), (121, [121, 24, 0]), (133, [133, 24, 0])]
noncomputable def xsl : List (PySem.Str × Nat) := [("MoveError", 24), ("BadWorld", 37), ("NoCaller", 49), ("NoHouse", 61), ("NoKey", 73), ("BadWish", 85), ("Busy", 97), ("Idle", 109), ("NotHere", 121), ("NoLetter", 133)]
noncomputable abbrev x_BadWish : Nat := 85
noncomputable def xfl : List Nat := [1]
noncomputable def xml : List Nat := []
noncomputable def qfl : List Nat := [121]
noncomputable def prog : Prog := ⟨fun f => fnl.lookup f, fun c m => mel.lookup (c, m), fun c => inl.lookup c, fun c => (xbl.lookup c).getD []⟩

end Mine.L01
end

section
set_option genInjectivity false
set_option genSizeOf false
namespace Mine.L01
open Mine
theorem p_cell : prog.fns 100 = some f_cell := rfl
theorem p_alike : prog.fns 101 = some (f_alike 101) := rfl
theorem p_wish : prog.fns 102 = some f_wish := rfl
noncomputable abbrev big : Int := 1000000000000000000000000000000
section
variable {P : Prog} {C : Calls} {n f : Nat} {c a : E} {b1 b2 r : List S} {l : Loc} {s s' t : MS} {k : Nat} {vs : List V} {fn : Fn}
theorem x_run (hf : P.fns f = some fn) (hl : vs.length = fn.np) (h : exs P (run P n) n fn.body (vs.map some ++ List.replicate (fn.names.length - fn.np) none) s = .exc k t) : run P (n + 1) f vs s = .exc k t := by
  simp only [run, hf, if_pos hl, h]
  rfl
theorem x_no (hc : ev P C c l s = .ok (.bool false) s') (h : exs P C n r l s' = .exc k t) : exs P C n (.ite c b1 [] :: r) l s = .exc k t := by
  rw [exs_cons, ex_ite, hc]; exact h
theorem x_yes (hc : ev P C c l s = .ok (.bool true) s') : exs P C n (.ite c [.raise k] b2 :: r) l s = .exc k s' := by
  rw [exs_cons, ex_ite, hc]; rfl
theorem e_rng {i : Int} {p q : Bool} (ha : ev P C a l s = .ok (.int i) s) (h1 : decide (-big ≤ i) = p) (h2 : decide (i ≤ big) = q) :
    ev P C (.not (.cmp2 (.neg (.gint "GREATEST" 1000000000000000000000000000000)) .le a .le (.gint "GREATEST" 1000000000000000000000000000000))) l s = .ok (.bool (!(p && q))) s := by
  refine e_not ?_
  rw [ev_cmp2]
  show Res.bind (ev P C a l s) _ = _
  rw [ha]
  show (if decide (-big ≤ i) = true then Res.ok (V.bool (decide (i ≤ big))) s else Res.ok (V.bool false) s) = _
  rw [h1, h2]
  cases p <;> rfl
end
noncomputable def WOk : W → Prop
  | .get => True
  | .set i => -big ≤ i ∧ i ≤ big
  | .add i => -big ≤ i ∧ i ≤ big
theorem run_need (n : Nat) (w : W) (h : WOk w) (s : MS) : run prog (n + 2) 1 [wv w] s = .ok .none s := by
  cases w with
  | get => rfl
  | set i => exact okr_eq (okr_run (fn := f_need_wish) rfl rfl (st_if (t := false) (s' := s) rfl (st_next (st_if (t := false) (s' := s) rfl (st_next (st_if (t := false) (s' := s) rfl (st_next (st_if (t := false) (e_rng rfl (decide_eq_true h.1) (decide_eq_true h.2)) (st_next (st_nil ⟨rfl, rfl⟩))))))))))
  | add i => exact okr_eq (okr_run (fn := f_need_wish) rfl rfl (st_if (t := false) (s' := s) rfl (st_next (st_if (t := false) (s' := s) rfl (st_next (st_if (t := false) (s' := s) rfl (st_next (st_if (t := false) (e_rng rfl (decide_eq_true h.1) (decide_eq_true h.2)) (st_next (st_nil ⟨rfl, rfl⟩))))))))))
noncomputable def Bad (v : V) : Prop := ∀ n s, run prog (n + 2) 1 [v] s = .exc x_BadWish s
theorem bad0 {v : V} (h : ∀ C s, ev prog C (.or [.not (.isinst (.loc 0) [.tuple]), .cmp (.prim .len [.loc 0]) .lt (.int 1), .not (.isinst (.sub (.loc 0) (.int 0)) [.str])]) [some v] s = .ok (.bool true) s) : Bad v := fun n s => x_run (fn := f_need_wish) rfl rfl (x_yes (h _ s))
theorem bad2 {l : List V} (h0 : ∀ C s, ev prog C (.or [.not (.isinst (.loc 0) [.tuple]), .cmp (.prim .len [.loc 0]) .lt (.int 1), .not (.isinst (.sub (.loc 0) (.int 0)) [.str])]) [some (.tup l)] s = .ok (.bool false) s)
    (h1 : ∀ C s, ev prog C (.and [.cmp (.sub (.loc 0) (.int 0)) .eq (.str [103, 101, 116]), .cmp (.prim .len [.loc 0]) .eq (.int 1)]) [some (.tup l)] s = .ok (.bool false) s)
    (h2 : ∀ n s, ev prog (run prog (n + 1)) (.or [.cmp (.sub (.loc 0) (.int 0)) .notin (.tup [.str [115, 101, 116], .str [97, 100, 100]]), .cmp (.prim .len [.loc 0]) .ne (.int 2), .not (.call 0 [.sub (.loc 0) (.int 1)])]) [some (.tup l)] s = .ok (.bool true) s) : Bad (.tup l) :=
  fun n s => x_run (fn := f_need_wish) rfl rfl (x_no (h0 _ s) (x_no (h1 _ s) (x_yes (h2 n s))))
theorem bad_far (x : List Nat) (hx : x = [115, 101, 116] ∨ x = [97, 100, 100]) (i : Int) (p q : Bool) (h1 : decide (-big ≤ i) = p) (h2 : decide (i ≤ big) = q) (h : (!(p && q)) = true) : Bad (.tup [.str x, .int i]) := by
  have e := fun C s => e_rng (P := prog) (C := C) (a := .sub (.loc 0) (.int 1)) (l := [some (.tup [.str x, .int i])]) (s := s) (i := i) rfl h1 h2
  rw [h] at e
  rcases hx with rfl | rfl
  · exact fun n s => x_run (fn := f_need_wish) rfl rfl (x_no (s' := s) rfl (x_no (s' := s) rfl (x_no (s' := s) rfl (x_yes (e _ s)))))
  · exact fun n s => x_run (fn := f_need_wish) rfl rfl (x_no (s' := s) rfl (x_no (s' := s) rfl (x_no (s' := s) rfl (x_yes (e _ s)))))
noncomputable def oddL (far : Int) : List V := [.none, .tup [], .tup [.str [103, 101, 116], .int 1], .tup [.str [115, 101, 116]], .tup [.str [97, 100, 100]], .tup [.str [115, 101, 116], .bool true], .tup [.str [97, 100, 100], .bool false], .tup [.str [115, 101, 116], .none], .tup [.str [97, 100, 100], .str [49]],
  .tup [.str [115, 101, 116], .int far], .tup [.str [97, 100, 100], .int far], .tup [.str [115, 101, 116], .int (-far)], .tup [.str [97, 100, 100], .int (-far)], .tup [.str [115, 101, 116], .int 1, .int 2], .tup [.str [103, 101, 116], .tup []], .lst [.str [103, 101, 116]],
  .lst [.str [115, 101, 116], .int 1], .str [103, 101, 116], .int 5, .tup [.str [71, 101, 116]], .tup [.str [116, 97, 107, 101], .int 1], .tup [.int 1, .int 2], .tup [.tup [.str [103, 101, 116]]], .tup [.str [115, 101, 116], .tup [.int 1]]]
theorem mem_all {α : Type} {p : α → Prop} {x : α} {l : List α} (h1 : p x) (h2 : ∀ y ∈ l, p y) : ∀ y ∈ x :: l, p y := fun y hy => (List.mem_cons.1 hy).elim (fun e => e ▸ h1) (h2 y)
theorem odd_bad (far : Int) (h : big < far) : ∀ v ∈ oddL far, Bad v := by
  have f1 : decide (-big ≤ far) = true := decide_eq_true (by have : (0 : Int) < big := by decide
                                                             omega)
  have f2 : decide (far ≤ big) = false := decide_eq_false (by omega)
  have f3 : decide (-big ≤ -far) = false := decide_eq_false (by omega)
  refine mem_all (bad0 fun _ _ => rfl) (mem_all (bad0 fun _ _ => rfl) (mem_all (bad2 (fun _ _ => rfl) (fun _ _ => rfl) fun _ _ => rfl) (mem_all (bad2 (fun _ _ => rfl) (fun _ _ => rfl) fun _ _ => rfl) (mem_all (bad2 (fun _ _ => rfl) (fun _ _ => rfl) fun _ _ => rfl)
    (mem_all (bad2 (fun _ _ => rfl) (fun _ _ => rfl) fun _ _ => rfl) (mem_all (bad2 (fun _ _ => rfl) (fun _ _ => rfl) fun _ _ => rfl) (mem_all (bad2 (fun _ _ => rfl) (fun _ _ => rfl) fun _ _ => rfl) (mem_all (bad2 (fun _ _ => rfl) (fun _ _ => rfl) fun _ _ => rfl)
    (mem_all (bad_far _ (.inl rfl) _ _ _ f1 f2 rfl) (mem_all (bad_far _ (.inr rfl) _ _ _ f1 f2 rfl) (mem_all (bad_far _ (.inl rfl) _ _ _ f3 rfl (by rfl)) (mem_all (bad_far _ (.inr rfl) _ _ _ f3 rfl (by rfl))
    (mem_all (bad2 (fun _ _ => rfl) (fun _ _ => rfl) fun _ _ => rfl) (mem_all (bad2 (fun _ _ => rfl) (fun _ _ => rfl) fun _ _ => rfl) (mem_all (bad0 fun _ _ => rfl) (mem_all (bad0 fun _ _ => rfl) (mem_all (bad0 fun _ _ => rfl) (mem_all (bad0 fun _ _ => rfl)
    (mem_all (bad2 (fun _ _ => rfl) (fun _ _ => rfl) fun _ _ => rfl) (mem_all (bad2 (fun _ _ => rfl) (fun _ _ => rfl) fun _ _ => rfl) (mem_all (bad0 fun _ _ => rfl) (mem_all (bad0 fun _ _ => rfl) (mem_all (bad2 (fun _ _ => rfl) (fun _ _ => rfl) fun _ _ => rfl) nofun)))))))))))))))))))))))
noncomputable def farOf (c : Int) : Int := 1000000000000000000000000000000 + 1 + (c.fdiv 24).fmod 10000000000000000000000000000000000000000
theorem run_odd (n : Nat) (c : Int) (s : MS) : ∃ v, v ∈ oddL (farOf c) ∧ run prog (n + 1) 120 [.int c] s = .ok v s := by
  obtain ⟨h1, h2⟩ := fmod_range c 24 (by decide)
  have h3 : (c.fmod 24).toNat < (oddL (farOf c)).length := by show _ < 24; omega
  refine ⟨_, List.getElem_mem h3, okr_eq (okr_run (fn := f_law_odd) rfl rfl ?_)⟩
  refine st_assign (v := .int (farOf c)) (s' := s) rfl rfl ?_
  generalize farOf c = far at h3
  refine st_assign (v := .lst ((oddL far).take 9)) (s' := s) rfl rfl (st_assign (v := .lst ((oddL far).take 16)) (s' := s) rfl rfl (st_assign (v := .lst (oddL far)) (s' := s) rfl rfl ?_))
  exact st_ret (e_sub (x := .lst (oddL far)) (y := .int (c.fmod 24)) (s1 := s) (s2 := s) rfl rfl (i_lst (oddL far) _ s h1 (by show _ < ((24 : Nat) : Int); exact h2))) ⟨rfl, rfl⟩
noncomputable abbrev kindsL (b : Bool) : List V := [.bool false, .bool false, .bool false, .bool false, .bool b, .bool false, .bool false, .bool false, .bool false]
theorem cnt_f (l : List V) : (V.bool false :: l).countP (· = .bool true) = l.countP (· = .bool true) := List.countP_cons_of_neg fun h => nomatch of_decide_eq_true h
theorem cnt_t (l : List V) : (V.bool true :: l).countP (· = .bool true) = l.countP (· = .bool true) + 1 := List.countP_cons_of_pos (decide_eq_true rfl)
theorem kinds_count : (kindsL true).countP (· = .bool true) = 1 := by
  rw [kindsL, cnt_f, cnt_f, cnt_f, cnt_f, cnt_t, cnt_f, cnt_f, cnt_f, cnt_f]; rfl
theorem run_kinds (n : Nat) (s : MS) : run prog (n + 1) 121 [.exc x_BadWish] s = .ok (.int 1) s := by
  refine okr_eq (okr_run (fn := f_law_kinds) rfl rfl ?_)
  refine st_assign (v := .lst ((kindsL true).take 4)) (s' := s) rfl rfl (st_assign (v := .lst ((kindsL true).take 8)) (s' := s) rfl rfl (st_ret (e_bm (x := .lst (kindsL true)) (vs := [.bool true]) (s1 := s) (s2 := s) rfl rfl rfl ?_) ⟨rfl, rfl⟩))
  show Res.ok (V.int ((kindsL true).countP (· = .bool true) : Nat)) s = _
  rw [kinds_count]; rfl
theorem run_refused (n : Nat) (v : V) (h : Bad v) (s : MS) : run prog (n + 3) 122 [v] s = .ok (.bool true) s := by
  refine okr_eq (okr_run (fn := f_law_refused) rfl rfl ?_)
  have e : ev prog (run prog (n + 2)) (.and [.isX (.loc 1) x_BadWish, .isX (.loc 1) 0, .cmp (.call 121 [.loc 1]) .eq (.int 1)]) [some v, some (.exc x_BadWish)] s = .ok (.bool true) s :=
    e_andT (s1 := s) rfl (e_andT (s1 := s) rfl (e_and1 (e_cmp (e_call (vs := [.exc x_BadWish]) rfl (run_kinds (n + 1) s)) rfl rfl)))
  exact st_tryCX (vs := [v]) (v := .bool true) (l2 := [some v, some (.exc x_BadWish)]) (s2 := s) (s4 := s) rfl (h n s) rfl (okr_eq (st_ret e ⟨rfl, rfl⟩)) ⟨rfl, rfl⟩
theorem big_eq : big = 1000000000000000000000000000000 := rfl
theorem wnum_ok (c : Int) (b : Bool) : -big ≤ wnum c b ∧ wnum c b ≤ big := by
  rw [big_eq]
  cases b with
  | true =>
    obtain ⟨h1, h2⟩ := fmod_range (c.fdiv 6) 2000000000000000000000000000001 (by decide)
    show _ ≤ _ - _ ∧ _ - _ ≤ _
    constructor <;> omega
  | false =>
    obtain ⟨h1, h2⟩ := fmod_range (c.fdiv 6) 7 (by decide)
    show _ ≤ _ - _ ∧ _ - _ ≤ _
    constructor <;> omega
theorem wish_ok (c : Int) : WOk (wishOf c) := by
  unfold wishOf wpick
  split
  · trivial
  · split
    · exact wnum_ok c _
    · exact wnum_ok c _
theorem run_done (n : Nat) (a : Int) (w : W) (s : MS) : run prog (n + 1) 2 [.int a, wv w] s = .ok (.tup [.int (dn a w).1, .int (dn a w).2]) s := by
  cases w <;> rfl
theorem law_tail (n : Nat) (l : List Int) (a : Int) (w : W) (hw : WOk w) (s : MS) : OkR (exs prog (run prog (n + 4)) (n + 4) (f_law.body.drop 4) [some (.lst (l.map .int)), some (.int a), some (wv w), none] s) fun p _ => flV p.1 = .bool true := by
  have hal := run_alike p_alike 1 (n + 2) (.tup [.int (dn a w).1, .int (dn a w).2]) (.tup [.int (dn a w).1, .int (dn a w).2]) s (alike_tup (by show 2 ≤ 16777216; decide) ⟨alike_int _ _, alike_int _ _, trivial⟩)
  have fin : OkR (exs prog (run prog (n + 4)) (n + 4) (f_law.body.drop 7) [some (.lst (l.map .int)), some (.int a), some (wv w), some (.tup [.int (dn a w).1, .int (dn a w).2])] s) fun p _ => flV p.1 = .bool true := by
    refine st_if (t := false) (s' := s) (e_orF (e_isN (g := true) (t := true) (e_call (vs := [wv w]) rfl (run_need (n + 2) w hw s)) (decide_eq_true rfl)) (e_or1 (e_not (t := true) (e_call (e_cons (e_call (vs := [.int a, wv w]) rfl (run_done (n + 3) a w s)) (e_cons rfl rfl)) hal)))) (st_next ?_)
    obtain ⟨v, hv, e⟩ := run_odd (n + 3) (l.getD 3 0) s
    have hb := odd_bad _ (by have := (fmod_range ((l.getD 3 0).fdiv 24) 10000000000000000000000000000000000000000 (by decide)).1
                             show (1000000000000000000000000000000 : Int) < 1000000000000000000000000000000 + 1 + _
                             omega) v hv
    exact st_ret (e_call (e_cons (e_call (e_cons (e_call (vs := [.lst (l.map .int), .int 3]) rfl (run_cell p_cell (n + 3) l 3 s)) rfl) e) rfl) (run_refused (n + 1) v hb s)) rfl
  cases w with
  | get => exact st_assign (v := .tup [.int a, .int a]) (s' := s) rfl rfl (st_if (t := false) (s' := s) rfl (st_next (st_if (t := false) (s' := s) rfl (st_next fin))))
  | set i => exact st_assign (v := .tup [.int a, .int a]) (s' := s) rfl rfl (st_if (t := true) (s' := s) rfl (st_assign (v := .tup [.int i, .int a]) (s' := s) rfl rfl (st_next (st_if (t := false) (s' := s) rfl (st_next fin)))))
  | add i => exact st_assign (v := .tup [.int a, .int a]) (s' := s) rfl rfl (st_if (t := false) (s' := s) rfl (st_next (st_if (t := true) (s' := s) rfl (st_assign (v := .tup [.int (a + i), .int (a + i)]) (s' := s) rfl rfl (st_next fin)))))
theorem end_pick (k : Int) (s : MS) : ∃ i : Int, (-big ≤ i ∧ i ≤ big) ∧ getItem (.lst [.int big, .int (-big)]) (.int (k.fmod 2)) s = .ok (.int i) s := by
  obtain ⟨h1, h2⟩ := fmod_range k 2 (by decide)
  have : k.fmod 2 = 0 ∨ k.fmod 2 = 1 := by omega
  rcases this with e | e
  · rw [e]; exact ⟨big, ⟨by decide, by decide⟩, rfl⟩
  · rw [e]; exact ⟨-big, ⟨by decide, by decide⟩, rfl⟩
theorem law_mid (n : Nat) (l : List Int) (a : Int) (s : MS) : OkR (exs prog (run prog (n + 4)) (n + 4) (f_law.body.drop 2) [some (.lst (l.map .int)), some (.int a), none, none] s) fun p _ => flV p.1 = .bool true := by
  have c1 := run_cell1 p_cell (n + 3) l s
  have c2 := run_cell2 p_cell (n + 3) l s
  refine st_assign (e_call (e_cons (e_call (vs := [.lst (l.map .int), .int 2]) rfl c2) rfl) (run_wish p_wish (n + 3) _ s)) rfl ?_
  have hw := wish_ok (l.getD 2 0)
  generalize wishOf (l.getD 2 0) = w at hw
  have e1 : ev prog (run prog (n + 4)) (.cmp (.bin .mod (.bin .fdiv (.call 100 [.loc 0, .int 1]) (.int 2)) (.int 4)) .eq (.int 1)) [some (.lst (l.map .int)), some (.int a), some (wv w), none] s = .ok (.bool (decide (((l.getD 1 0).fdiv 2).fmod 4 = 1))) s :=
    e_cmp (x := .int (((l.getD 1 0).fdiv 2).fmod 4)) (e_bin (x := .int ((l.getD 1 0).fdiv 2)) (e_bin (e_call (vs := [.lst (l.map .int), .int 1]) rfl c1) rfl rfl) rfl rfl) rfl rfl
  have go : ∀ (w' : W), WOk w' → OkR (exs prog (run prog (n + 4)) (n + 4) (f_law.body.drop 4) [some (.lst (l.map .int)), some (.int a), some (wv w'), none] s) fun p _ => flV p.1 = .bool true := fun w' h => law_tail n l a w' h s
  cases hb : decide (((l.getD 1 0).fdiv 2).fmod 4 = 1) with
  | false =>
    rw [hb] at e1
    exact st_if (t := false) (s' := s) (e_andF e1) (st_next (go w hw))
  | true =>
    rw [hb] at e1
    obtain ⟨i, hi, ei⟩ := end_pick ((l.getD 2 0).fdiv 6) s
    have e2 : ev prog (run prog (n + 4)) (.sub (.lst [.bin .pow (.int 10) (.int 30), .neg (.bin .pow (.int 10) (.int 30))]) (.bin .mod (.bin .fdiv (.call 100 [.loc 0, .int 2]) (.int 6)) (.int 2))) [some (.lst (l.map .int)), some (.int a), some (wv w), none] s = .ok (.int i) s :=
      e_sub (x := .lst [.int big, .int (-big)]) (s1 := s) rfl (e_bin (x := .int ((l.getD 2 0).fdiv 6)) (e_bin (e_call (vs := [.lst (l.map .int), .int 2]) rfl c2) rfl rfl) rfl rfl) ei
    cases w with
    | get => exact st_if (t := false) (s' := s) (e_andT e1 (e_and1 rfl)) (st_next (go .get trivial))
    | set j => exact st_if (t := true) (s' := s) (e_andT e1 (e_and1 rfl)) (st_assign (v := wv (.set i)) (s' := s) (e_tup (e_cons (v := .str [115, 101, 116]) (s1 := s) rfl (e_cons e2 rfl)) (decide_eq_true (by show 2 ≤ 16777216; decide))) rfl (st_next (go (.set i) hi)))
    | add j => exact st_if (t := true) (s' := s) (e_andT e1 (e_and1 rfl)) (st_assign (v := wv (.add i)) (s' := s) (e_tup (e_cons (v := .str [97, 100, 100]) (s1 := s) rfl (e_cons e2 rfl)) (decide_eq_true (by show 2 ≤ 16777216; decide))) rfl (st_next (go (.add i) hi)))
theorem law_ok (n : Nat) (l : List Int) (hl : ∀ i ∈ l, intBits i ≤ 1048576) : OkR (run prog (n + 5) 118 [.lst (l.map .int)] st0) fun v _ => v = .bool true := by
  generalize st0 = s
  refine okr_run (fn := f_law) rfl rfl ?_
  refine st_assign (e_call (vs := [.lst (l.map .int), .int 0]) rfl (run_cell0 p_cell (n + 3) l s)) rfl ?_
  have h0 : intBits (l.getD 0 0) ≤ 1048576 := by
    cases l with
    | nil => decide
    | cons x r => exact hl x (List.mem_cons_self ..)
  generalize l.getD 0 0 = a at h0
  have e1 : ev prog (run prog (n + 4)) (.cmp (.bin .mod (.call 100 [.loc 0, .int 1]) (.int 2)) .eq (.int 1)) [some (.lst (l.map .int)), some (.int a), none, none] s = .ok (.bool (decide ((l.getD 1 0).fmod 2 = 1))) s :=
    e_cmp (x := .int ((l.getD 1 0).fmod 2)) (e_bin (e_call (vs := [.lst (l.map .int), .int 1]) rfl (run_cell1 p_cell (n + 3) l s)) rfl rfl) rfl rfl
  cases hb : decide ((l.getD 1 0).fmod 2 = 1) with
  | false =>
    rw [hb] at e1
    exact st_if (t := false) (s' := s) e1 (st_next (law_mid n l a s))
  | true =>
    rw [hb] at e1
    refine st_if (t := true) (s' := s) e1 (st_assign (v := .int (a ^ (5 : Int).toNat)) (s' := s) (e_bin rfl rfl (if_pos ⟨by decide, ?_⟩)) rfl (st_next (law_mid n l _ s)))
    have : (intBits a : Int) ≤ 1048576 := Int.ofNat_le.2 h0
    omega
end Mine.L01
end

section
open PySem PySem.W PyProof.Rows
set_option maxRecDepth 100000
set_option maxHeartbeats 8000000
namespace Mine.L01
noncomputable def bd : List Stmt := PySem.Challenge.pw_uf030007_01.main.body
noncomputable def fnIn (l : List Stmt) (i : Nat) : Arguments × List Stmt × Scope := match l[i]? with
  | some (.FunctionDef _ a b _ _ _ s _ _ _) => (a, b, s)
  | _ => default
noncomputable def clsIn_ (l : List Stmt) (i : Nat) : List Stmt := match l[i]? with
  | some (.ClassDef _ _ _ b _ _ _ _ _ _ _) => b
  | _ => []
noncomputable def view : Program := { PySem.Challenge.pw_uf030007_01 with main := { PySem.Challenge.pw_uf030007_01.main with body := ([1, 2, 3, 4, 5, 6, 7, 8, 9, 10, 12, 13, 14, 15, 17, 18, 19, 20, 21, 22, 23] : List Nat).filterMap fun i => bd[i]? } }
noncomputable def K (P : Params) : Frag :=
  [(2, { cls := Value.none, data := Data.dict #[] }),
   (3, { cls := Value.type "dict", data := Data.dict #[{ hash := PyData.keyHash P (Str.ofString "__name__"), key := Value.str (Str.ofString "__name__") 165, val := Value.str (Str.ofString "law_uf030007_01") 379 }, { hash := PyData.keyHash P (Str.ofString "__doc__"), key := Value.str (Str.ofString "__doc__") 166, val := Value.none }, { hash := PyData.keyHash P (Str.ofString "__package__"), key := Value.str (Str.ofString "__package__") 167, val := Value.none }, { hash := PyData.keyHash P (Str.ofString "__loader__"), key := Value.str (Str.ofString "__loader__") 168, val := Value.builtin "__main__.__loader__#opaque" }, { hash := PyData.keyHash P (Str.ofString "__spec__"), key := Value.str (Str.ofString "__spec__") 169, val := Value.none }, { hash := PyData.keyHash P (Str.ofString "__annotations__"), key := Value.str (Str.ofString "__annotations__") 170, val := Value.ref 6 }, { hash := PyData.keyHash P (Str.ofString "__builtins__"), key := Value.str (Str.ofString "__builtins__") 171, val := Value.ref 4 }, { hash := PyData.keyHash P (Str.ofString "__file__"), key := Value.str (Str.ofString "__file__") 173, val := Value.str (Str.ofString "/claim/cut.py") 172 }, { hash := PyData.keyHash P (Str.ofString "__cached__"), key := Value.str (Str.ofString "__cached__") 174, val := Value.none }, { hash := PyData.keyHash P (Str.ofString "MoveError"), key := Value.str (Str.ofString "MoveError") 206, val := Value.ref 24 }, { hash := PyData.keyHash P (Str.ofString "BadWorld"), key := Value.str (Str.ofString "BadWorld") 222, val := Value.ref 37 }, { hash := PyData.keyHash P (Str.ofString "NoCaller"), key := Value.str (Str.ofString "NoCaller") 238, val := Value.ref 49 }, { hash := PyData.keyHash P (Str.ofString "NoHouse"), key := Value.str (Str.ofString "NoHouse") 254, val := Value.ref 61 }, { hash := PyData.keyHash P (Str.ofString "NoKey"), key := Value.str (Str.ofString "NoKey") 270, val := Value.ref 73 }, { hash := PyData.keyHash P (Str.ofString "BadWish"), key := Value.str (Str.ofString "BadWish") 286, val := Value.ref 85 }, { hash := PyData.keyHash P (Str.ofString "Busy"), key := Value.str (Str.ofString "Busy") 302, val := Value.ref 97 }, { hash := PyData.keyHash P (Str.ofString "Idle"), key := Value.str (Str.ofString "Idle") 318, val := Value.ref 109 }, { hash := PyData.keyHash P (Str.ofString "NotHere"), key := Value.str (Str.ofString "NotHere") 334, val := Value.ref 121 }, { hash := PyData.keyHash P (Str.ofString "NoLetter"), key := Value.str (Str.ofString "NoLetter") 350, val := Value.ref 133 }, { hash := PyData.keyHash P (Str.ofString "GREATEST"), key := Value.str (Str.ofString "GREATEST") 356, val := Value.int 1000000000000000000000000000000 355 }, { hash := PyData.keyHash P (Str.ofString "is_whole"), key := Value.str (Str.ofString "is_whole") 363, val := Value.ref 142 }, { hash := PyData.keyHash P (Str.ofString "need_wish"), key := Value.str (Str.ofString "need_wish") 370, val := Value.ref 149 }, { hash := PyData.keyHash P (Str.ofString "done"), key := Value.str (Str.ofString "done") 378, val := Value.ref 156 }, { hash := PyData.keyHash P (Str.ofString "_law_cell_at"), key := Value.str (Str.ofString "_law_cell_at") 388, val := Value.ref 163 }, { hash := PyData.keyHash P (Str.ofString "_law_alike"), key := Value.str (Str.ofString "_law_alike") 394, val := Value.ref 168 }, { hash := PyData.keyHash P (Str.ofString "_law_wish"), key := Value.str (Str.ofString "_law_wish") 402, val := Value.ref 175 }, { hash := PyData.keyHash P (Str.ofString "_law_odd"), key := Value.str (Str.ofString "_law_odd") 411, val := Value.ref 182 }, { hash := PyData.keyHash P (Str.ofString "_law_kinds"), key := Value.str (Str.ofString "_law_kinds") 419, val := Value.ref 189 }, { hash := PyData.keyHash P (Str.ofString "_law_refused"), key := Value.str (Str.ofString "_law_refused") 427, val := Value.ref 196 }, { hash := PyData.keyHash P (Str.ofString "law"), key := Value.str (Str.ofString "law") 437, val := Value.ref 203 }] 30 }),
   (6, { cls := Value.type "dict", data := Data.dict #[] }),
   (23, { cls := Value.type "dict", data := Data.dict #[{ hash := PyData.keyHash P (Str.ofString "__module__"), key := Value.str (Str.ofString "__module__") 196, val := Value.str (Str.ofString "movehouse.errors") 187 }, { hash := PyData.keyHash P (Str.ofString "__firstlineno__"), key := Value.str (Str.ofString "__firstlineno__") 200, val := Value.int 2 199 }, { hash := PyData.keyHash P (Str.ofString "__static_attributes__"), key := Value.str (Str.ofString "__static_attributes__") 201, val := Value.ref 22 }, { hash := PyData.keyHash P (Str.ofString "__weakref__"), key := Value.str (Str.ofString "__weakref__") 203, val := Value.ref 25 }, { hash := PyData.keyHash P (Str.ofString "__doc__"), key := Value.str (Str.ofString "__doc__") 204, val := Value.none }] 3 }),
   (24, { cls := Value.type "type", data := Data.cls { name := Str.ofString "MoveError", bases := [Value.type "ValueError"], mro := [Value.ref 24, Value.type "ValueError", Value.type "Exception", Value.type "BaseException", Value.type "object"], ns := 23, qualname := Str.ofString "MoveError", subclasses := [Value.ref 37, Value.ref 49, Value.ref 61, Value.ref 73, Value.ref 85, Value.ref 97, Value.ref 109, Value.ref 121, Value.ref 133] }, slots := #[some (Value.ref 15), none, some (Value.str (Str.ofString "MoveError") 189), some (Value.str (Str.ofString "MoveError") 197), some (Value.builtin "ValueError.__new__"), some (Value.bool true)] }),
   (36, { cls := Value.type "dict", data := Data.dict #[{ hash := PyData.keyHash P (Str.ofString "__module__"), key := Value.str (Str.ofString "__module__") 214, val := Value.str (Str.ofString "movehouse.errors") 187 }, { hash := PyData.keyHash P (Str.ofString "__firstlineno__"), key := Value.str (Str.ofString "__firstlineno__") 218, val := Value.int 4 217 }, { hash := PyData.keyHash P (Str.ofString "__static_attributes__"), key := Value.str (Str.ofString "__static_attributes__") 219, val := Value.ref 35 }, { hash := PyData.keyHash P (Str.ofString "__doc__"), key := Value.str (Str.ofString "__doc__") 220, val := Value.none }] 2 }),
   (37, { cls := Value.type "type", data := Data.cls { name := Str.ofString "BadWorld", bases := [Value.ref 24], mro := [Value.ref 37, Value.ref 24, Value.type "ValueError", Value.type "Exception", Value.type "BaseException", Value.type "object"], ns := 36, qualname := Str.ofString "BadWorld" }, slots := #[some (Value.ref 28), none, some (Value.str (Str.ofString "BadWorld") 207), some (Value.str (Str.ofString "BadWorld") 215), some (Value.builtin "ValueError.__new__"), some (Value.bool true)] }),
   (48, { cls := Value.type "dict", data := Data.dict #[{ hash := PyData.keyHash P (Str.ofString "__module__"), key := Value.str (Str.ofString "__module__") 230, val := Value.str (Str.ofString "movehouse.errors") 187 }, { hash := PyData.keyHash P (Str.ofString "__firstlineno__"), key := Value.str (Str.ofString "__firstlineno__") 234, val := Value.int 6 233 }, { hash := PyData.keyHash P (Str.ofString "__static_attributes__"), key := Value.str (Str.ofString "__static_attributes__") 235, val := Value.ref 47 }, { hash := PyData.keyHash P (Str.ofString "__doc__"), key := Value.str (Str.ofString "__doc__") 236, val := Value.none }] 2 }),
   (49, { cls := Value.type "type", data := Data.cls { name := Str.ofString "NoCaller", bases := [Value.ref 24], mro := [Value.ref 49, Value.ref 24, Value.type "ValueError", Value.type "Exception", Value.type "BaseException", Value.type "object"], ns := 48, qualname := Str.ofString "NoCaller" }, slots := #[some (Value.ref 40), none, some (Value.str (Str.ofString "NoCaller") 223), some (Value.str (Str.ofString "NoCaller") 231), some (Value.builtin "ValueError.__new__"), some (Value.bool true)] }),
   (60, { cls := Value.type "dict", data := Data.dict #[{ hash := PyData.keyHash P (Str.ofString "__module__"), key := Value.str (Str.ofString "__module__") 246, val := Value.str (Str.ofString "movehouse.errors") 187 }, { hash := PyData.keyHash P (Str.ofString "__firstlineno__"), key := Value.str (Str.ofString "__firstlineno__") 250, val := Value.int 8 249 }, { hash := PyData.keyHash P (Str.ofString "__static_attributes__"), key := Value.str (Str.ofString "__static_attributes__") 251, val := Value.ref 59 }, { hash := PyData.keyHash P (Str.ofString "__doc__"), key := Value.str (Str.ofString "__doc__") 252, val := Value.none }] 2 }),
   (61, { cls := Value.type "type", data := Data.cls { name := Str.ofString "NoHouse", bases := [Value.ref 24], mro := [Value.ref 61, Value.ref 24, Value.type "ValueError", Value.type "Exception", Value.type "BaseException", Value.type "object"], ns := 60, qualname := Str.ofString "NoHouse" }, slots := #[some (Value.ref 52), none, some (Value.str (Str.ofString "NoHouse") 239), some (Value.str (Str.ofString "NoHouse") 247), some (Value.builtin "ValueError.__new__"), some (Value.bool true)] }),
   (72, { cls := Value.type "dict", data := Data.dict #[{ hash := PyData.keyHash P (Str.ofString "__module__"), key := Value.str (Str.ofString "__module__") 262, val := Value.str (Str.ofString "movehouse.errors") 187 }, { hash := PyData.keyHash P (Str.ofString "__firstlineno__"), key := Value.str (Str.ofString "__firstlineno__") 266, val := Value.int 10 265 }, { hash := PyData.keyHash P (Str.ofString "__static_attributes__"), key := Value.str (Str.ofString "__static_attributes__") 267, val := Value.ref 71 }, { hash := PyData.keyHash P (Str.ofString "__doc__"), key := Value.str (Str.ofString "__doc__") 268, val := Value.none }] 2 }),
   (73, { cls := Value.type "type", data := Data.cls { name := Str.ofString "NoKey", bases := [Value.ref 24], mro := [Value.ref 73, Value.ref 24, Value.type "ValueError", Value.type "Exception", Value.type "BaseException", Value.type "object"], ns := 72, qualname := Str.ofString "NoKey" }, slots := #[some (Value.ref 64), none, some (Value.str (Str.ofString "NoKey") 255), some (Value.str (Str.ofString "NoKey") 263), some (Value.builtin "ValueError.__new__"), some (Value.bool true)] }),
   (84, { cls := Value.type "dict", data := Data.dict #[{ hash := PyData.keyHash P (Str.ofString "__module__"), key := Value.str (Str.ofString "__module__") 278, val := Value.str (Str.ofString "movehouse.errors") 187 }, { hash := PyData.keyHash P (Str.ofString "__firstlineno__"), key := Value.str (Str.ofString "__firstlineno__") 282, val := Value.int 12 281 }, { hash := PyData.keyHash P (Str.ofString "__static_attributes__"), key := Value.str (Str.ofString "__static_attributes__") 283, val := Value.ref 83 }, { hash := PyData.keyHash P (Str.ofString "__doc__"), key := Value.str (Str.ofString "__doc__") 284, val := Value.none }] 2 }),
   (85, { cls := Value.type "type", data := Data.cls { name := Str.ofString "BadWish", bases := [Value.ref 24], mro := [Value.ref 85, Value.ref 24, Value.type "ValueError", Value.type "Exception", Value.type "BaseException", Value.type "object"], ns := 84, qualname := Str.ofString "BadWish" }, slots := #[some (Value.ref 76), none, some (Value.str (Str.ofString "BadWish") 271), some (Value.str (Str.ofString "BadWish") 279), some (Value.builtin "ValueError.__new__"), some (Value.bool true)] }),
   (96, { cls := Value.type "dict", data := Data.dict #[{ hash := PyData.keyHash P (Str.ofString "__module__"), key := Value.str (Str.ofString "__module__") 294, val := Value.str (Str.ofString "movehouse.errors") 187 }, { hash := PyData.keyHash P (Str.ofString "__firstlineno__"), key := Value.str (Str.ofString "__firstlineno__") 298, val := Value.int 14 297 }, { hash := PyData.keyHash P (Str.ofString "__static_attributes__"), key := Value.str (Str.ofString "__static_attributes__") 299, val := Value.ref 95 }, { hash := PyData.keyHash P (Str.ofString "__doc__"), key := Value.str (Str.ofString "__doc__") 300, val := Value.none }] 2 }),
   (97, { cls := Value.type "type", data := Data.cls { name := Str.ofString "Busy", bases := [Value.ref 24], mro := [Value.ref 97, Value.ref 24, Value.type "ValueError", Value.type "Exception", Value.type "BaseException", Value.type "object"], ns := 96, qualname := Str.ofString "Busy" }, slots := #[some (Value.ref 88), none, some (Value.str (Str.ofString "Busy") 287), some (Value.str (Str.ofString "Busy") 295), some (Value.builtin "ValueError.__new__"), some (Value.bool true)] }),
   (108, { cls := Value.type "dict", data := Data.dict #[{ hash := PyData.keyHash P (Str.ofString "__module__"), key := Value.str (Str.ofString "__module__") 310, val := Value.str (Str.ofString "movehouse.errors") 187 }, { hash := PyData.keyHash P (Str.ofString "__firstlineno__"), key := Value.str (Str.ofString "__firstlineno__") 314, val := Value.int 16 313 }, { hash := PyData.keyHash P (Str.ofString "__static_attributes__"), key := Value.str (Str.ofString "__static_attributes__") 315, val := Value.ref 107 }, { hash := PyData.keyHash P (Str.ofString "__doc__"), key := Value.str (Str.ofString "__doc__") 316, val := Value.none }] 2 }),
   (109, { cls := Value.type "type", data := Data.cls { name := Str.ofString "Idle", bases := [Value.ref 24], mro := [Value.ref 109, Value.ref 24, Value.type "ValueError", Value.type "Exception", Value.type "BaseException", Value.type "object"], ns := 108, qualname := Str.ofString "Idle" }, slots := #[some (Value.ref 100), none, some (Value.str (Str.ofString "Idle") 303), some (Value.str (Str.ofString "Idle") 311), some (Value.builtin "ValueError.__new__"), some (Value.bool true)] }),
   (120, { cls := Value.type "dict", data := Data.dict #[{ hash := PyData.keyHash P (Str.ofString "__module__"), key := Value.str (Str.ofString "__module__") 326, val := Value.str (Str.ofString "movehouse.errors") 187 }, { hash := PyData.keyHash P (Str.ofString "__firstlineno__"), key := Value.str (Str.ofString "__firstlineno__") 330, val := Value.int 18 329 }, { hash := PyData.keyHash P (Str.ofString "__static_attributes__"), key := Value.str (Str.ofString "__static_attributes__") 331, val := Value.ref 119 }, { hash := PyData.keyHash P (Str.ofString "__doc__"), key := Value.str (Str.ofString "__doc__") 332, val := Value.none }] 2 }),
   (121, { cls := Value.type "type", data := Data.cls { name := Str.ofString "NotHere", bases := [Value.ref 24], mro := [Value.ref 121, Value.ref 24, Value.type "ValueError", Value.type "Exception", Value.type "BaseException", Value.type "object"], ns := 120, qualname := Str.ofString "NotHere" }, slots := #[some (Value.ref 112), none, some (Value.str (Str.ofString "NotHere") 319), some (Value.str (Str.ofString "NotHere") 327), some (Value.builtin "ValueError.__new__"), some (Value.bool true)] }),
   (132, { cls := Value.type "dict", data := Data.dict #[{ hash := PyData.keyHash P (Str.ofString "__module__"), key := Value.str (Str.ofString "__module__") 342, val := Value.str (Str.ofString "movehouse.errors") 187 }, { hash := PyData.keyHash P (Str.ofString "__firstlineno__"), key := Value.str (Str.ofString "__firstlineno__") 346, val := Value.int 20 345 }, { hash := PyData.keyHash P (Str.ofString "__static_attributes__"), key := Value.str (Str.ofString "__static_attributes__") 347, val := Value.ref 131 }, { hash := PyData.keyHash P (Str.ofString "__doc__"), key := Value.str (Str.ofString "__doc__") 348, val := Value.none }] 2 }),
   (133, { cls := Value.type "type", data := Data.cls { name := Str.ofString "NoLetter", bases := [Value.ref 24], mro := [Value.ref 133, Value.ref 24, Value.type "ValueError", Value.type "Exception", Value.type "BaseException", Value.type "object"], ns := 132, qualname := Str.ofString "NoLetter" }, slots := #[some (Value.ref 124), none, some (Value.str (Str.ofString "NoLetter") 335), some (Value.str (Str.ofString "NoLetter") 343), some (Value.builtin "ValueError.__new__"), some (Value.bool true)] }),
   (141, { cls := Value.type "code", data := Data.fields #[Value.str (Str.ofString "is_whole") 357, Value.str (Str.ofString "is_whole") 358, Value.str (Str.ofString "/claim/cut.py") 359, Value.int 24 0, Value.int 1 0, Value.int 0 0, Value.int 0 0, Value.int 3 0, Value.ref 136, Value.bool true, Value.int 181 0, Value.ref 137, Value.none, Value.ref 138, Value.ref 139, Value.ref 140, Value.int 361 0, Value.int 24 0, Value.str (Str.ofString "/claim/cut.py") 362] }),
   (142, { cls := Value.type "function", data := Data.func { name := Str.ofString "is_whole", qualname := Str.ofString "is_whole", params := (fnIn bd 13).1, body := .stmts (fnIn bd 13).2.1, scope := (fnIn bd 13).2.2, globals := 3, closure := [], defaults := Value.none, kwdefaults := Value.none, pyModule := Value.str (Str.ofString "movehouse.desk") 351, code := Value.ref 141 } }),
   (148, { cls := Value.type "code", data := Data.fields #[Value.str (Str.ofString "need_wish") 364, Value.str (Str.ofString "need_wish") 365, Value.str (Str.ofString "/claim/cut.py") 366, Value.int 26 0, Value.int 1 0, Value.int 0 0, Value.int 0 0, Value.int 3 0, Value.ref 143, Value.bool true, Value.int 181 0, Value.ref 144, Value.none, Value.ref 145, Value.ref 146, Value.ref 147, Value.int 368 0, Value.int 26 0, Value.str (Str.ofString "/claim/cut.py") 369] }),
   (149, { cls := Value.type "function", data := Data.func { name := Str.ofString "need_wish", qualname := Str.ofString "need_wish", params := (fnIn bd 14).1, body := .stmts (fnIn bd 14).2.1, scope := (fnIn bd 14).2.2, globals := 3, closure := [], defaults := Value.none, kwdefaults := Value.none, pyModule := Value.str (Str.ofString "movehouse.desk") 351, code := Value.ref 148 } }),
   (155, { cls := Value.type "code", data := Data.fields #[Value.str (Str.ofString "done") 371, Value.str (Str.ofString "done") 372, Value.str (Str.ofString "/claim/cut.py") 373, Value.int 35 0, Value.int 2 0, Value.int 0 0, Value.int 0 0, Value.int 3 0, Value.ref 150, Value.bool true, Value.int 181 0, Value.ref 151, Value.none, Value.ref 152, Value.ref 153, Value.ref 154, Value.int 376 0, Value.int 35 0, Value.str (Str.ofString "/claim/cut.py") 377] }),
   (156, { cls := Value.type "function", data := Data.func { name := Str.ofString "done", qualname := Str.ofString "done", params := (fnIn bd 15).1, body := .stmts (fnIn bd 15).2.1, scope := (fnIn bd 15).2.2, globals := 3, closure := [], defaults := Value.none, kwdefaults := Value.none, pyModule := Value.str (Str.ofString "movehouse.desk") 351, code := Value.ref 155 } }),
   (162, { cls := Value.type "code", data := Data.fields #[Value.str (Str.ofString "_law_cell_at") 381, Value.str (Str.ofString "_law_cell_at") 382, Value.str (Str.ofString "/claim/cut.py") 383, Value.int 42 0, Value.int 2 0, Value.int 0 0, Value.int 0 0, Value.int 3 0, Value.ref 157, Value.bool true, Value.int 181 0, Value.ref 158, Value.none, Value.ref 159, Value.ref 160, Value.ref 161, Value.int 386 0, Value.int 42 0, Value.str (Str.ofString "/claim/cut.py") 387] }),
   (163, { cls := Value.type "function", data := Data.func { name := Str.ofString "_law_cell_at", qualname := Str.ofString "_law_cell_at", params := (fnIn bd 17).1, body := .stmts (fnIn bd 17).2.1, scope := (fnIn bd 17).2.2, globals := 3, closure := [], defaults := Value.none, kwdefaults := Value.none, pyModule := Value.str (Str.ofString "law_uf030007_01") 379, code := Value.ref 162 } }),
   (167, { cls := Value.type "code", data := Data.fields #[Value.str (Str.ofString "_law_alike") 389, Value.str (Str.ofString "_law_alike") 390, Value.str (Str.ofString "/claim/cut.py") 391, Value.int 46 0, Value.int 2 0, Value.int 0 0, Value.int 0 0, Value.int 3 0, Value.ref 164, Value.bool true, Value.int 181 0, Value.ref 165, Value.none, Value.none, Value.none, Value.ref 166, Value.int 392 0, Value.int 46 0, Value.str (Str.ofString "/claim/cut.py") 393] }),
   (168, { cls := Value.type "function", data := Data.func { name := Str.ofString "_law_alike", qualname := Str.ofString "_law_alike", params := (fnIn bd 18).1, body := .stmts (fnIn bd 18).2.1, scope := (fnIn bd 18).2.2, globals := 3, closure := [], defaults := Value.none, kwdefaults := Value.none, pyModule := Value.str (Str.ofString "law_uf030007_01") 379, code := Value.ref 167 } }),
   (174, { cls := Value.type "code", data := Data.fields #[Value.str (Str.ofString "_law_wish") 395, Value.str (Str.ofString "_law_wish") 396, Value.str (Str.ofString "/claim/cut.py") 397, Value.int 56 0, Value.int 1 0, Value.int 0 0, Value.int 0 0, Value.int 3 0, Value.ref 169, Value.bool true, Value.int 181 0, Value.ref 170, Value.none, Value.ref 171, Value.ref 172, Value.ref 173, Value.int 400 0, Value.int 56 0, Value.str (Str.ofString "/claim/cut.py") 401] }),
   (175, { cls := Value.type "function", data := Data.func { name := Str.ofString "_law_wish", qualname := Str.ofString "_law_wish", params := (fnIn bd 19).1, body := .stmts (fnIn bd 19).2.1, scope := (fnIn bd 19).2.2, globals := 3, closure := [], defaults := Value.none, kwdefaults := Value.none, pyModule := Value.str (Str.ofString "law_uf030007_01") 379, code := Value.ref 174 } }),
   (181, { cls := Value.type "code", data := Data.fields #[Value.str (Str.ofString "_law_odd") 403, Value.str (Str.ofString "_law_odd") 404, Value.str (Str.ofString "/claim/cut.py") 405, Value.int 61 0, Value.int 1 0, Value.int 0 0, Value.int 0 0, Value.int 3 0, Value.ref 176, Value.bool true, Value.int 181 0, Value.ref 177, Value.none, Value.ref 178, Value.ref 179, Value.ref 180, Value.int 409 0, Value.int 61 0, Value.str (Str.ofString "/claim/cut.py") 410] }),
   (182, { cls := Value.type "function", data := Data.func { name := Str.ofString "_law_odd", qualname := Str.ofString "_law_odd", params := (fnIn bd 20).1, body := .stmts (fnIn bd 20).2.1, scope := (fnIn bd 20).2.2, globals := 3, closure := [], defaults := Value.none, kwdefaults := Value.none, pyModule := Value.str (Str.ofString "law_uf030007_01") 379, code := Value.ref 181 } }),
   (188, { cls := Value.type "code", data := Data.fields #[Value.str (Str.ofString "_law_kinds") 412, Value.str (Str.ofString "_law_kinds") 413, Value.str (Str.ofString "/claim/cut.py") 414, Value.int 67 0, Value.int 1 0, Value.int 0 0, Value.int 0 0, Value.int 3 0, Value.ref 183, Value.bool true, Value.int 181 0, Value.ref 184, Value.none, Value.ref 185, Value.ref 186, Value.ref 187, Value.int 417 0, Value.int 67 0, Value.str (Str.ofString "/claim/cut.py") 418] }),
   (189, { cls := Value.type "function", data := Data.func { name := Str.ofString "_law_kinds", qualname := Str.ofString "_law_kinds", params := (fnIn bd 21).1, body := .stmts (fnIn bd 21).2.1, scope := (fnIn bd 21).2.2, globals := 3, closure := [], defaults := Value.none, kwdefaults := Value.none, pyModule := Value.str (Str.ofString "law_uf030007_01") 379, code := Value.ref 188 } }),
   (195, { cls := Value.type "code", data := Data.fields #[Value.str (Str.ofString "_law_refused") 420, Value.str (Str.ofString "_law_refused") 421, Value.str (Str.ofString "/claim/cut.py") 422, Value.int 71 0, Value.int 1 0, Value.int 0 0, Value.int 0 0, Value.int 3 0, Value.ref 190, Value.bool true, Value.int 181 0, Value.ref 191, Value.none, Value.ref 192, Value.ref 193, Value.ref 194, Value.int 425 0, Value.int 71 0, Value.str (Str.ofString "/claim/cut.py") 426] }),
   (196, { cls := Value.type "function", data := Data.func { name := Str.ofString "_law_refused", qualname := Str.ofString "_law_refused", params := (fnIn bd 22).1, body := .stmts (fnIn bd 22).2.1, scope := (fnIn bd 22).2.2, globals := 3, closure := [], defaults := Value.none, kwdefaults := Value.none, pyModule := Value.str (Str.ofString "law_uf030007_01") 379, code := Value.ref 195 } }),
   (202, { cls := Value.type "code", data := Data.fields #[Value.str (Str.ofString "law") 428, Value.str (Str.ofString "law") 429, Value.str (Str.ofString "/claim/cut.py") 430, Value.int 77 0, Value.int 1 0, Value.int 0 0, Value.int 0 0, Value.int 3 0, Value.ref 197, Value.bool true, Value.int 181 0, Value.ref 198, Value.none, Value.ref 199, Value.ref 200, Value.ref 201, Value.int 435 0, Value.int 77 0, Value.str (Str.ofString "/claim/cut.py") 436] }),
   (203, { cls := Value.type "function", data := Data.func { name := Str.ofString "law", qualname := Str.ofString "law", params := (fnIn bd 23).1, body := .stmts (fnIn bd 23).2.1, scope := (fnIn bd 23).2.2, globals := 3, closure := [], defaults := Value.none, kwdefaults := Value.none, pyModule := Value.str (Str.ofString "law_uf030007_01") 379, code := Value.ref 202 } })]
noncomputable def asL : List Addr := [2, 3, 6, 23, 24, 36, 37, 48, 49, 60, 61, 72, 73, 84, 85, 96, 97, 108, 109, 120, 121, 132, 133, 141, 142, 148, 149, 155, 156, 162, 163, 167, 168, 174, 175, 181, 182, 188, 189, 195, 196, 202, 203]
noncomputable def H : Hook := kHook K asL (fun _ => by kernel_rfl)
theorem lft : LeftO PySem.Challenge.rw_uf030007_01.row.prog view [Str.ofString "GREATEST"] (fun s => xlAt view [(Str.ofString "GREATEST", .int 1000000000000000000000000000000)] s && recOk (RowW.records PySem.Challenge.rw_uf030007_01.row.toRowW) s) (Hook.obs H) (Hook.val H) 5010 := fun w => by kernel_rfl
end Mine.L01
end

section
open PySem PySem.W PyProof.Rows
set_option maxRecDepth 100000
set_option maxHeartbeats 8000000
namespace Mine.L01
noncomputable def nm : Names where
  fn f := (fnn.lookup f).getD Str.empty
  cls c := (["World", "House", "Caller"] : List PySem.Str)[c]?.getD Str.empty
  meth m := (["has", "owes", "came", "called", "parcel", "move", "write", "sleep", "nudge", "begin", "letter", "asking", "answers", "need_caller", "need_house", "need_key", "need_place", "call", "again", "letters", "brought", "hand", "twice", "lose", "home", "ledger", "is_settled", "one_round", "settle"] : List PySem.Str)[m]?.getD Str.empty
  attr := attrName
  exc c := (["MoveError", "BadWorld", "NoCaller", "NoHouse", "NoKey", "BadWish", "Busy", "Idle", "NotHere", "NoLetter"] : List PySem.Str)[c]?.getD Str.empty
  gi := [("GREATEST", 1000000000000000000000000000000)]
  gs := []
  xs := xsl
  xf f := xfl.contains f
  xm k := xml.contains k
  qf f := qfl.contains f
noncomputable def tab : Tab := ⟨[(0, 142), (1, 149), (2, 156), (100, 163), (101, 168), (102, 175), (118, 203), (120, 182), (121, 189), (122, 196)], [], fnl, mel, inl, xbl⟩
end Mine.L01
open Mine in
theorem PySem.Challenge.cw_uf030007_01_holds : PySem.Challenge.rw_uf030007_01.Holds := by
  refine holds_law (by kernel_rfl) fun said => ?_
  refine holds_open (q := L01.view) (loose := [Str.ofString "GREATEST"]) (Xt := fun s => xlAt L01.view [(Str.ofString "GREATEST", .int 1000000000000000000000000000000)] s && recOk (RowW.records PySem.Challenge.rw_uf030007_01.row.toRowW) s) (XP := XL L01.view [(Str.ofString "GREATEST", .int 1000000000000000000000000000000)]) (Yf := Hook.obs L01.H) (Ya := Hook.val L01.H) (YP := Hook.says L01.H) (N := 5010) L01.lft (Hook.of L01.H) (Hook.keeps L01.H) (fun s e => xl_of s (Bool.and_eq_true_iff.mp e).1) XL.keeps (by rfl) (by rfl) (by rfl) (fun s e => recFacts_of (Bool.and_eq_true_iff.mp e).2) (by rfl) (by first | assumption | decide +kernel) (by decide +kernel) ⟨rfl, rfl, rfl, rfl, rfl, by decide +kernel⟩ ?hw ?hc
  case hw => w_witness2
  intro w s₀ s₁ mg mb G Y fa o pm cd doc dV kV ho hd hcd hD hmg hg args vals as hpre hlay hrd hwl hlo
  have KX := kIn_of Y
  clear ho hd hcd hD
  refine Ground.open G ?_
  intro T B D TE TW
  wrow_args hpre hlay hrd hwl hlo
  refine enter_call ?_
  rename_i ns hs h0 hlay hx1 hx2 a1 a2 la vs a3 hL ra w1 r0 hI rr hc1 hc2
  have hlen : ns.length ≤ 63 := by omega
  have hbits : ∀ i ∈ ns, intBits i ≤ 1048576 := bits_lay hlay
  have S := stat_of (T := L01.tab) (N := L01.nm) (prog := PySem.Challenge.rw_uf030007_01.row.prog) (w := w) rfl KX T.g T.b T.builtins T.nolimit (by kernel_rfl) (by kernel_rfl) (by kernel_rfl) (by kernel_rfl) (by kernel_rfl) (fun y c h => by have h := List.contains_iff_mem.1 h; (rcases List.mem_cons.1 h with h | h; (cases h; exact ⟨by decide, own_of_in KX (topRead_of T) (by kernel_rfl) (by kernel_rfl)⟩)); (rcases List.mem_cons.1 h with h | h; (cases h; exact ⟨by decide, own_of_in KX (topRead_of T) (by kernel_rfl) (by kernel_rfl)⟩)); (rcases List.mem_cons.1 h with h | h; (cases h; exact ⟨by decide, own_of_in KX (topRead_of T) (by kernel_rfl) (by kernel_rfl)⟩)); (rcases List.mem_cons.1 h with h | h; (cases h; exact ⟨by decide, own_of_in KX (topRead_of T) (by kernel_rfl) (by kernel_rfl)⟩)); (rcases List.mem_cons.1 h with h | h; (cases h; exact ⟨by decide, own_of_in KX (topRead_of T) (by kernel_rfl) (by kernel_rfl)⟩)); (rcases List.mem_cons.1 h with h | h; (cases h; exact ⟨by decide, own_of_in KX (topRead_of T) (by kernel_rfl) (by kernel_rfl)⟩)); (rcases List.mem_cons.1 h with h | h; (cases h; exact ⟨by decide, own_of_in KX (topRead_of T) (by kernel_rfl) (by kernel_rfl)⟩)); (rcases List.mem_cons.1 h with h | h; (cases h; exact ⟨by decide, own_of_in KX (topRead_of T) (by kernel_rfl) (by kernel_rfl)⟩)); (rcases List.mem_cons.1 h with h | h; (cases h; exact ⟨by decide, own_of_in KX (topRead_of T) (by kernel_rfl) (by kernel_rfl)⟩)); (rcases List.mem_cons.1 h with h | h; (cases h; exact ⟨by decide, own_of_in KX (topRead_of T) (by kernel_rfl) (by kernel_rfl)⟩)); cases h) (by kernel_rfl) (by kernel_rfl) (by kernel_rfl)
  have hfa : fa = 203 := by
    have e := globIn_ok KX T.g (by kernel_rfl) (Str.ofString "law")
    have e3 := hmg.symm.trans (e.trans (b := globIn _ _) (c := some (Value.ref 203)) (by kernel_rfl))
    cases e3; rfl
  subst hfa
  obtain ⟨v, st', hrun, rfl⟩ := okr_elim (L01.law_ok 10 ns hbits)
  cases w1 with
  | list hz _ =>
    rename_i vs' _
    have hvs : vs' = vs := by
      obtain ⟨o, h1, h2, n, h3⟩ := hL
      rw [hz] at h1
      cases h1
      simp at h3; exact h3.1
    subst hvs
    refine law_close S (by kernel_rfl) (by intro G C n H; kernel_rfl) (by intro G C n H; kernel_rfl) (by intro G C n H; kernel_rfl) (n := 15) (law := 118) ⟨fun _ => rfl, by decide, by decide⟩ rfl hz hlen hI hrun fun s' hk hos hgens => GoodW.toG ?_
    refine ⟨.inl ⟨.bool true, .bool true, [], rfl, raisesW_false (by wrow_none_raised), ?_, ?_, fun _ => ⟨List.nodup_nil, fun a h => by cases h⟩⟩, hk, hos, hgens.trans hg⟩
    · constructor
    · wrow_post
end
