import PyProof.Rows.All
import Wide.All
import OpenK.AllK
import Wide.FinOn
import Lean
import PySem.Challenge.RW_uf030007_09

set_option Elab.async false
set_option autoImplicit false
set_option linter.all false
set_option genInjectivity false
set_option genSizeOf false
set_option backward.match.sparseCases false
set_option backward.eqns.nonrecursive false
set_option bootstrap.genMatcherCode false
set_option genCtorIdx false
set_option tactic.hygienic false

section
open PySem PySem.W PyProof.Rows
namespace Internal
noncomputable abbrev Za := @of_decide_eq_true
noncomputable abbrev Zb := @decide_eq_true
noncomputable abbrev Zc := @decide_eq_false
noncomputable abbrev Zd := @List.length_map
noncomputable abbrev Ze := @wpAny_bind
noncomputable abbrev Zf := @List.length_append
noncomputable abbrev Zg := @if_pos
noncomputable abbrev Zh := @if_neg
noncomputable abbrev Zi := @Nat.lt_of_lt_of_le
noncomputable abbrev Zj := @Bool.and_eq_true_iff
noncomputable abbrev Zk := @List.mem_cons_of_mem
noncomputable abbrev Zl := @List.getElem?_eq_getElem
noncomputable abbrev Zm := @List.mem_cons_self
noncomputable abbrev Zn := @Heap.get?_push_of_some
noncomputable abbrev Zo := @Nat.eq_of_beq_eq_true
noncomputable abbrev Zp := @Nat.le_trans
noncomputable abbrev Zq := @List.mem_singleton
noncomputable abbrev Zr := @wpAny_pure
noncomputable abbrev Zs := @Nat.le_refl
noncomputable abbrev Zt := @List.mem_append
noncomputable abbrev Zu := @List.mem_cons
noncomputable abbrev Zv := @List.all_eq_true
noncomputable abbrev Zw := @Nat.le_succ
noncomputable abbrev Zx := @List.length_range
noncomputable abbrev Zy := @Nat.lt_succ_self
noncomputable abbrev Zz := @List.map_cons
noncomputable abbrev Z0 := @List.append_nil
noncomputable abbrev Z1 := @List.mem_map
noncomputable abbrev Z2 := @Nat.le_succ_of_le
noncomputable abbrev Z3 := @List.append_assoc
noncomputable abbrev Z4 := @List.length_cons
noncomputable abbrev Z5 := @Heap.get?_push_size
noncomputable abbrev Z6 := @List.mem_append_left
noncomputable abbrev Z7 := @Nat.lt_of_le_of_lt
noncomputable abbrev Z8 := @Bool.false_ne_true
noncomputable abbrev Z9 := @Nat.ne_of_lt
noncomputable abbrev Qa := @List.mem_append_right
noncomputable abbrev Qb := @List.map_append
noncomputable abbrev Qc := @List.getElem_mem
noncomputable abbrev Qd := @congrArg
noncomputable abbrev Qe := PySem.Expr
noncomputable abbrev Qf := PySem.Str
end Internal
end
section
namespace Internal
noncomputable abbrev Lbl:=Nat×Nat
set_option genCtorIdx true in
inductive V where
 | none
 | bool (b:Bool)
 | int (i:Int)
 | str (s:List Nat)
 | tup (l:List V)
 | lst (l:List V)
 | ref (l:Lbl)
 | exc (c:Nat)
noncomputable instance:DecidableEq V:=fun a b=>Classical.propDecidable (a=b)
noncomputable abbrev TK:=Int×(List Nat ⊕ Int)
set_option genCtorIdx true in
inductive MObj where
 | list (l:List V)
 | dict (l:List (V×V))
 | tdict (l:List (TK×V))
 | inst (c:Nat) (as:List (Nat×V))
noncomputable instance:DecidableEq MObj:=fun a b=>Classical.propDecidable (a=b)
structure MS where
 heap:Lbl->Option MObj
 cnt:Nat->Nat
 wr:Nat
set_option genCtorIdx true in
inductive Res (α:Type) where
 | ok (a:α) (s:MS)
 | exc (c:Nat) (s:MS)
 | stuck
theorem zb {α:Type}{a:α}{s:MS}{P:Prop} (e:(Res.stuck:Res α)=.ok a s):P:=by cases e
theorem za {α:Type}{a:α}{P:Prop} (e:(none:Option α)=some a):P:=by cases e
theorem z6 {P:Prop} (e:false=true):P:=by cases e
theorem zgd {P:Prop} (e:true=false):P:=by cases e
noncomputable def Res.bind {α β:Type}:Res α->(α->MS->Res β)->Res β
 | .ok a s,f=>f a s
 | .exc c s,_=>.exc c s
 | .stuck,_=>.stuck
noncomputable def Res.bnd {α β:Type}:Res α->(α->MS->Res β)->Res β
 | .ok a s,f=>f a s
 | _,_=>.stuck
noncomputable def MS.put (s:MS) (l:Lbl) (o:MObj):MS:={s with heap:=fun x=>if x=l then some o else s.heap x,wr:=s.wr+1}
noncomputable def MS.next (s:MS) (k:Nat):Lbl:=(k,s.cnt k)
noncomputable def MS.new (s:MS) (k:Nat) (o:MObj):MS:={s with heap:=fun x=>if x=(k,s.cnt k) then some o else s.heap x,cnt:=fun j=>if j=k then s.cnt k+1 else s.cnt j}
set_option genCtorIdx true in
inductive Bop where | add | sub | mul | fdiv | mod | pow
set_option genCtorIdx true in
inductive Cop where | eq | ne | lt | le | gt | ge | isin | notin
inductive Kind where | int | bool | str | list | tuple | valueError | cls (c:Nat)
set_option genCtorIdx true in
inductive Prim where | len | max2 | int1 | sorted | tuple1 | list1 | all1
set_option genCtorIdx true in
inductive Bm where | append | extend | pop | insert | count | get | join | upper
inductive E where
 | none
 | bool (b:Bool)
 | int (i:Int)
 | str (s:List Nat)
 | loc (i:Nat)
 | gint (x:Qf) (i:Int)
 | gstr (x:Qf) (s:List Nat)
 | neg (a:E)
 | not (a:E)
 | and (l:List E)
 | or (l:List E)
 | bin (o:Bop) (a b:E)
 | cmp (a:E) (o:Cop) (b:E)
 | cmp2 (a:E) (o:Cop) (b:E) (o2:Cop) (c:E)
 | isC (neg:Bool) (a:E) (c:V)
 | tup (l:List E)
 | lst (l:List E)
 | lstM (k:Nat) (l:List E)
 | dictM (k:Nat) (ks:List (List Nat)) (vs:List E)
 | sub (a b:E)
 | slice (a:E) (lo hi:Option E)
 | attr (a:E) (i:Nat)
 | call (f:Nat) (l:List E)
 | meth (a:E) (m:Nat) (l:List E)
 | new (c:Nat) (l:List E)
 | isinst (a:E) (ks:List Kind)
 | isX (a:E) (k:Nat)
 | prim (p:Prim) (l:List E)
 | listM (k:Nat) (a:E)
 | dictC (k:Nat) (a:E)
 | bm (m:Bm) (a:E) (l:List E)
 | comp (M:Option Nat) (slot:Nat) (range:Bool) (it:E) (cond:Option E) (elt:E)
inductive T where
 | loc (i:Nat)
 | item (a b:E)
inductive S where
 | expr (e:E)
 | assign (i:Nat) (e:E)
 | setattr (a:E) (i:Nat) (e:E)
 | setitem (a b e:E)
 | unpack (ts:List T) (e:E)
 | ite (c:E) (b1 b2:List S)
 | for_ (ts:T ⊕ List T) (range:Bool) (it:E) (body:List S)
 | while_ (c:E) (body:List S)
 | ret (e:Option E)
 | raise (c:Nat)
 | exprX (e:E)
 | retX (e:E)
 | assignX (i:Nat) (e:E)
 | tryX (e:E) (c:Nat) (i:Option Nat) (b:List S)
structure Fn where
 np:Nat
 names:List Qf
 body:List S
noncomputable abbrev Loc:=List (Option V)
structure Prog where
 fns:Nat->Option Fn
 meths:Nat->Nat->Option Nat
 inits:Nat->Option (Nat×Nat)   -- class: kind of its labels,its __init__
 excBase:Nat->List Nat           -- classes that an exception class is under (itself too)
set_option genCtorIdx true in
inductive Fl where
 | next
 | ret (v:V)
noncomputable def zr (s:MS):V->Option (Bool×List V)
 | .tup l=>some (false,l)
 | .lst l=>some (true,l)
 | .ref r=>match s.heap r with
  | some (.list l)=>some (true,l)
  | _=>Option.none
 | _=>Option.none
noncomputable def qm (f:V->V->Option Bool):List V->List V->Option Bool
 | [],[]=>some true
 | x::la,y::lb=>match f x y,qm f la lb with
  | some p,some q=>some (p&&q)
  | _,_=>Option.none
 | [],_::_=>some false
 | _::_,[]=>some false
noncomputable def xt:V->Option Bool
 | .none=>some false
 | .bool _=>some false
 | .int _=>some false
 | .str _=>some false
 | _=>Option.none
noncomputable def ma (a b:V):Option Bool:=match a with
 | .none=>(match b with | .none=>some true | .bool _=>some false | .int _=>some false | .str _=>some false | _=>Option.none)
 | .bool x=>(match b with | .none=>some false | .bool y=>some (x == y) | .str _=>some false | _=>Option.none)
 | .int x=>(match b with | .none=>some false | .int y=>some (decide (x=y)) | .str _=>some false | _=>Option.none)
 | .str x=>(match b with | .none=>some false | .bool _=>some false | .int _=>some false | .str y=>some (decide (x=y)) | _=>Option.none)
 | _=>Option.none
noncomputable def veq (s:MS):Nat->V->V->Option Bool
 | 0,_,_=>Option.none
 | n+1,a,b =>
  match zr s a,zr s b with
  | some p,some q=>if p.1=q.1 then (if p.1=true/\p.2.length≠q.2.length then some false else qm (veq s n) p.2 q.2) else some false
  | some _,Option.none=>xt b
  | .none,some _=>xt a
  | .none,Option.none=>ma a b
noncomputable def j6:Nat:=12
noncomputable def ze:Nat:=2 ^ 24
noncomputable def V.isKey:V->Bool
 | .str _=>true
 | _=>false
noncomputable def d7 (a b:V):Bool:=match a with
 | .str x=>(match b with | .str y=>decide (x=y) | _=>false)
 | _=>false
noncomputable def jh (k:V):List (V×V)->Option V
 | []=>Option.none
 | (a,v)::r=>if d7 a k then some v else jh k r
noncomputable def lc (k v:V):List (V×V)->List (V×V)
 | []=>[(k,v)]
 | (a,w)::r=>if d7 a k then (a,v)::r else (a,w)::lc k v r
noncomputable def vn (k:Nat):List (Nat×V)->Option V
 | []=>Option.none
 | (a,v)::r=>if a=k then some v else vn k r
noncomputable def pc (k:Nat) (v:V):List (Nat×V)->List (Nat×V)
 | []=>[(k,v)]
 | (a,w)::r=>if a=k then (a,v)::r else (a,w)::pc k v r
noncomputable def idx (i:Int) (n:Nat):Option Nat :=
 if 0<=i then (if i < n then some i.toNat else Option.none) else (if 0<=i+n then some (i+n).toNat else Option.none)
noncomputable def vin (s:MS) (x:V):List V->Option Bool
 | []=>some false
 | y::r=>match veq s j6 y x,vin s x r with
  | some p,some q=>some (p||q)
  | _,_=>Option.none
noncomputable def okV (s:MS) (o:Option V):Res V:=match o with
 | some v=>.ok v s
 | .none=>.stuck
noncomputable def okB (s:MS) (o:Option Bool):Res V:=match o with
 | some b=>.ok (.bool b) s
 | .none=>.stuck
noncomputable def intBits (i:Int):Nat:=if i=0 then 0 else i.natAbs.log2+1
noncomputable def zbj (a b:Int):Bool:=intBits a<=64||intBits b<=64||intBits a+intBits b<=134217728
noncomputable def zkl (a b:V) (s:MS):Res V :=
 match zr s a,zr s b with
 | some p,some q=>if p.1=q.1/\p.2.length+q.2.length<=ze then .ok (if p.1 then .lst (p.2++q.2) else .tup (p.2++q.2)) s else .stuck
 | _,_=>.stuck
noncomputable def ol (a b:V) (f:Int->Int->Res V):Res V:=match a with
 | .int x=>(match b with | .int y=>f x y | _=>.stuck)
 | _=>.stuck
noncomputable def zuk (a b:V) (f:List Nat->List Nat->Res V):Res V:=match a with
 | .str x=>(match b with | .str y=>f x y | _=>.stuck)
 | _=>.stuck
noncomputable def zuc (a b:V) (f:List V->Int->Res V):Res V:=match a with
 | .lst x=>(match b with | .int y=>f x y | _=>.stuck)
 | _=>.stuck
noncomputable def yd (o:Bop) (a b:V) (s:MS):Res V :=
 match o with
 | .add=>(match a with
  | .int _=>ol a b fun x y=>.ok (.int (x+y)) s
  | .str _=>zuk a b fun x y=>if x.length+y.length<=ze then .ok (.str (x++y)) s else .stuck
  | _=>zkl a b s)
 | .sub=>ol a b fun x y=>.ok (.int (x-y)) s
 | .mul=>(match a with
  | .lst _=>zuc a b fun x y=>if x.length*y.toNat<=ze/\0<=y/\y<=1000 then .ok (.lst (List.replicate y.toNat x).flatten) s else .stuck
  | _=>ol a b fun x y=>if zbj x y then .ok (.int (x*y)) s else .stuck)
 | .fdiv=>ol a b fun x y=>if y=0\/64 < intBits y then .stuck else .ok (.int (x.fdiv y)) s
 | .mod=>ol a b fun x y=>if y=0 then .stuck else .ok (.int (x.fmod y)) s
 | .pow=>ol a b fun x y=>if 0<=y/\(intBits x:Int)*y<=134217728 then .ok (.int (x ^ y.toNat)) s else .stuck
theorem zrw {a b v:V}{f:Int->Int->Res V}{s:MS} (h:ol a b f=.ok v s):∃ x y,a=.int x/\b=.int y/\f x y=.ok v s:=by
 cases a with
 | int x=>cases b with
  | int y=>exact⟨x,y,rfl,rfl,h⟩
  | _=>exact zb h
 | _=>exact zb h
theorem zpc {a b v:V}{f:List Nat->List Nat->Res V}{s:MS} (h:zuk a b f=.ok v s):∃ x y,a=.str x/\b=.str y/\f x y=.ok v s:=by
 cases a with
 | str x=>cases b with
  | str y=>exact⟨x,y,rfl,rfl,h⟩
  | _=>exact zb h
 | _=>exact zb h
theorem zq0 {a b v:V}{f:List V->Int->Res V}{s:MS} (h:zuc a b f=.ok v s):∃ x y,a=.lst x/\b=.int y/\f x y=.ok v s:=by
 cases a with
 | lst x=>cases b with
  | int y=>exact⟨x,y,rfl,rfl,h⟩
  | _=>exact zb h
 | _=>exact zb h
theorem zsp {c:Prop} [Decidable c] {a v:V}{s s':MS} (h:(if c then Res.ok a s else .stuck)=.ok v s'):c/\a=v/\s=s':=by
 by_cases hc:c
 ·rw[Zg hc] at h;cases h;exact⟨hc,rfl,rfl⟩
 ·rw[Zh hc] at h;exact zb h
theorem rj {β:Type}{o:Option (Bool×List V)}{f:Bool×List V->Res β}{y:β}{s:MS} (e:(match o with | some p=>f p | .none=>.stuck)=.ok y s):∃ p,o=some p/\f p=.ok y s:=by
 cases o with
 | none=>exact zb e
 | some p=>exact⟨p,rfl,e⟩
theorem zdq {β:Type}{o:Option (Lbl×List V)}{f:Lbl×List V->Res β}{y:β}{s:MS} (e:(match o with | some p=>f p | .none=>.stuck)=.ok y s):∃ p,o=some p/\f p=.ok y s:=by
 cases o with
 | none=>exact zb e
 | some p=>exact⟨p,rfl,e⟩
theorem zun {β:Type}{o:Option (Lbl×List (V×V))}{f:Lbl×List (V×V)->Res β}{y:β}{s:MS} (e:(match o with | some p=>f p | .none=>.stuck)=.ok y s):∃ p,o=some p/\f p=.ok y s:=by
 cases o with
 | none=>exact zb e
 | some p=>exact⟨p,rfl,e⟩
theorem zsw {β:Type}{o:Option (Nat)}{f:Nat->Res β}{y:β}{s:MS} (e:(match o with | some p=>f p | .none=>.stuck)=.ok y s):∃ p,o=some p/\f p=.ok y s:=by
 cases o with
 | none=>exact zb e
 | some p=>exact⟨p,rfl,e⟩
theorem zua {β:Type}{o:Option (V)}{f:V->Res β}{y:β}{s:MS} (e:(match o with | some p=>f p | .none=>.stuck)=.ok y s):∃ p,o=some p/\f p=.ok y s:=by
 cases o with
 | none=>exact zb e
 | some p=>exact⟨p,rfl,e⟩
theorem zsu {β:Type}{o:Option (List Nat)}{f:List Nat->Res β}{y:β}{s:MS} (e:(match o with | some p=>f p | .none=>.stuck)=.ok y s):∃ p,o=some p/\f p=.ok y s:=by
 cases o with
 | none=>exact zb e
 | some p=>exact⟨p,rfl,e⟩
theorem zgw {β:Type}{o:Option (List V)}{f:List V->Res β}{y:β}{s:MS} (e:(match o with | some p=>f p | .none=>.stuck)=.ok y s):∃ p,o=some p/\f p=.ok y s:=by
 cases o with
 | none=>exact zb e
 | some p=>exact⟨p,rfl,e⟩
theorem jl {β:Type}{c:Prop} [Decidable c] {x:Res β}{y:β}{s:MS} (e:(if c then x else .stuck)=.ok y s):c/\x=.ok y s:=by
 by_cases h:c
 ·rw[Zg h] at e;exact⟨h,e⟩
 ·rw[Zh h] at e;exact zb e
theorem jk {β:Type}{a b:β}{s s':MS} (e:Res.ok a s=.ok b s'):b=a/\s'=s:=by cases e;exact⟨rfl,rfl⟩
theorem zfm {β:Type}{X:V}{f:Lbl->Res β}{y:β}{s:MS} (e:(match X with | .ref r=>f r | _=>.stuck)=.ok y s):∃ r,X=.ref r/\f r=.ok y s:=by
 cases X with
 | ref r=>exact⟨r,rfl,e⟩
 | _=>exact zb e
theorem zgq {β:Type}{X:V}{f:List V->Res β}{y:β}{s:MS} (e:(match X with | .lst r=>f r | _=>.stuck)=.ok y s):∃ r,X=.lst r/\f r=.ok y s:=by
 cases X with
 | lst r=>exact⟨r,rfl,e⟩
 | _=>exact zb e
theorem zfw {β:Type}{X:V}{f:Int->Res β}{y:β}{s:MS} (e:(match X with | .int r=>f r | _=>.stuck)=.ok y s):∃ r,X=.int r/\f r=.ok y s:=by
 cases X with
 | int r=>exact⟨r,rfl,e⟩
 | _=>exact zb e
theorem zk6 {β:Type}{X:V}{f:Bool->Res β}{y:β}{s:MS} (e:(match X with | .bool r=>f r | _=>.stuck)=.ok y s):∃ r,X=.bool r/\f r=.ok y s:=by
 cases X with
 | bool r=>exact⟨r,rfl,e⟩
 | _=>exact zb e
theorem zf0 {β:Type}{X:V}{f:List Nat->Res β}{y:β}{s:MS} (e:(match X with | .str r=>f r | _=>.stuck)=.ok y s):∃ r,X=.str r/\f r=.ok y s:=by
 cases X with
 | str r=>exact⟨r,rfl,e⟩
 | _=>exact zb e
theorem fj {o:Option V}{Z:V}{st st':MS} (h:okV st o=.ok Z st'):o=some Z/\st'=st:=by
 cases o with
 | none=>exact zb h
 | some b=>cases h;exact⟨rfl,rfl⟩
theorem fm {o:Option Bool}{Z:V}{st st':MS} (h:okB st o=.ok Z st'):∃ b,o=some b/\Z=.bool b/\st'=st:=by
 cases o with
 | none=>exact zb h
 | some b=>cases h;exact⟨b,rfl,rfl,rfl⟩
noncomputable def cmpOp (o:Cop) (a b:V) (s:MS):Res V :=
 match o with
 | .eq=>okB s (veq s j6 a b)
 | .ne=>okB s ((veq s j6 a b).map (!·))
 | .lt=>match a,b with | .int x,.int y=>.ok (.bool (decide (x < y))) s | _,_=>.stuck
 | .le=>match a,b with | .int x,.int y=>.ok (.bool (decide (x<=y))) s | _,_=>.stuck
 | .gt=>match a,b with | .int x,.int y=>.ok (.bool (decide (y < x))) s | _,_=>.stuck
 | .ge=>match a,b with | .int x,.int y=>.ok (.bool (decide (y<=x))) s | _,_=>.stuck
 | .isin=>okB s (memb a b s)
 | .notin=>okB s ((memb a b s).map (!·))
where
 memb (a b:V) (s:MS):Option Bool :=
  match zr s b with
  | some (_,l)=>vin s a l
  | .none=>match b with
   | .str y=>match a with | .str [c]=>some (decide (c∈y)) | _=>Option.none
   | .ref r=>match s.heap r with
    | some (.dict l)=>if a.isKey then some (jh a l).isSome else Option.none
    | _=>Option.none
   | _=>Option.none
noncomputable def getItem (a b:V) (s:MS):Res V :=
 match b with
 | .int i=>match a with
  | .str x=>if x.length<=ze then okV s ((idx i x.length).bind fun j=>(x[j]?).map fun c=>.str [c]) else .stuck
  | a=>match zr s a with
   | some (_,l)=>okV s ((idx i l.length).bind fun j=>l[j]?)
   | .none=>.stuck
 | b=>match a with
  | .ref r=>match s.heap r with
   | some (.dict l)=>if b.isKey then okV s (jh b l) else .stuck
   | _=>.stuck
  | _=>.stuck
noncomputable def j7 (a:V) (s:MS):Option (Lbl×List V) :=
 match a with
 | .ref r=>match s.heap r with
  | some (.list l)=>some (r,l)
  | _=>Option.none
 | _=>Option.none
noncomputable def dictAt (a:V) (s:MS):Option (Lbl×List (V×V)) :=
 match a with
 | .ref r=>match s.heap r with
  | some (.dict l)=>some (r,l)
  | _=>Option.none
 | _=>Option.none
noncomputable def setItem (a b v:V) (s:MS):Res Unit :=
 match j7 a s with
 | some p=>match b with
  | .int i=>if 0<=i/\i < p.2.length then .ok () (s.put p.1 (.list (p.2.set i.toNat v))) else .stuck
  | _=>.stuck
 | .none=>match dictAt a s with
  | some p=>if b.isKey/\p.2.length < ze then .ok () (s.put p.1 (.dict (lc b v p.2))) else .stuck
  | .none=>.stuck
noncomputable def kc (d:Nat):Option V->Option Nat
 | .none=>some d
 | some (.int i)=>if 0<=i then some i.toNat else Option.none
 | _=>Option.none
noncomputable def kf (a:V) (lo hi:Option V) (s:MS):Res V :=
 match a with
 | .str x=>match kc 0 lo,kc x.length hi with
  | some i,some j=>if x.length<=ze then .ok (.str ((x.take j).drop i)) s else .stuck
  | _,_=>.stuck
 | a=>match zr s a with
  | some (true,l)=>match kc 0 lo,kc l.length hi with
   | some i,some j=>.ok (.lst ((l.take j).drop i)) s
   | _,_=>.stuck
  | some (false,l)=>match kc 0 lo,kc l.length hi with
   | some i,some j=>if ((l.take j).drop i).length < l.length then .ok (.tup ((l.take j).drop i)) s else .stuck
   | _,_=>.stuck
  | .none=>.stuck
noncomputable def getAttr (a:V) (i:Nat) (s:MS):Res V :=
 match a with
 | .ref r=>match s.heap r with
  | some (.inst _ as)=>okV s (vn i as)
  | _=>.stuck
 | _=>.stuck
noncomputable def setAttr (a:V) (i:Nat) (v:V) (s:MS):Res Unit :=
 match a with
 | .ref r=>match s.heap r with
  | some (.inst c as)=>if as.length < 1000 then .ok () (s.put r (.inst c (pc i v as))) else .stuck
  | _=>.stuck
 | _=>.stuck
set_option genCtorIdx true in
inductive Tag where | none | bool | int | str | tuple | list | dict
noncomputable def bt (s:MS):V->Option Tag
 | .none=>some .none
 | .bool _=>some .bool
 | .int _=>some .int
 | .str _=>some .str
 | .tup _=>some .tuple
 | .lst _=>some .list
 | .ref r=>match s.heap r with
  | some (.list _)=>some .list
  | some (.dict _)=>some .dict
  | _=>Option.none
 | .exc _=>Option.none
noncomputable def yr (g:Tag):Kind->Option Bool
 | .int=>some (match g with | .int | .bool=>true | _=>false)
 | .bool=>some (match g with | .bool=>true | _=>false)
 | .str=>some (match g with | .str=>true | _=>false)
 | .tuple=>some (match g with | .tuple=>true | _=>false)
 | .list=>some (match g with | .list=>true | _=>false)
 | .valueError=>Option.none
 | .cls _=>Option.none
noncomputable def u0 (P:Prog) (s:MS) (v:V) (k:Kind):Option Bool :=
 match v with
 | .exc d=>match k with
  | .valueError=>some true
  | .cls c=>some ((P.excBase d).contains c)
  | _=>Option.none
 | v=>match bt s v with
  | some g=>yr g k
  | .none=>Option.none
noncomputable def kh (P:Prog) (s:MS) (v:V):List Kind->Option Bool
 | []=>some false
 | k::r=>match u0 P s v k with
  | some true=>some true
  | some false=>kh P s v r
  | .none=>Option.none
noncomputable def allTrue:List V->Option Bool
 | []=>some true
 | .bool b::r=>(allTrue r).map (b&&·)
 | _::_=>Option.none
noncomputable def qy:V->Option Int
 | .tup (.int x::_)=>some x
 | _=>Option.none
noncomputable def rising:List Int->Bool
 | x::y::r=>decide (x < y)&&rising (y::r)
 | _=>true
noncomputable def xu (x:Int):List Int->Nat
 | []=>0
 | k::r=>if x < k then 0 else xu x r+1
noncomputable def y3 (m pos:Nat):List Nat:=List.range pos++m::(List.range (m-pos)).map (pos+·)
noncomputable def ju (l:List V):Option (List V) :=
 match l.reverse with
 | []=>some []
 | v::r=>match qy v,(r.reverse).mapM qy with
  | some x,some ks=>if rising ks&&!ks.contains x&&decide (l.length<=6) then some ((y3 ks.length (xu x ks)).map fun i=>l.getD i .none) else Option.none
  | _,_=>Option.none
noncomputable def zl8 (v:V) (s:MS):Res V :=
 match v with
 | .str x=>if x.length<=ze then .ok (.int x.length) s else .stuck
 | v=>match zr s v with
  | some p=>.ok (.int p.2.length) s
  | .none=>.stuck
noncomputable def zbe (p:Prim) (v:V) (s:MS):Res V :=
 match p with
 | .len=>zl8 v s
 | .int1=>match v with
  | .bool b=>.ok (.int (if b then 1 else 0)) s
  | _=>.stuck
 | .tuple1=>match zr s v with
  | some p=>.ok (.tup p.2) s
  | .none=>.stuck
 | .list1=>match zr s v with
  | some p=>.ok (.lst p.2) s
  | .none=>.stuck
 | .sorted=>match v with
  | .lst l=>match ju l with
   | some m=>.ok (.lst m) s
   | .none=>.stuck
  | _=>.stuck
 | _=>.stuck
noncomputable def zuu (p:Prim) (v w:V) (s:MS):Res V :=
 match p with
 | .max2=>match v,w with
  | .int x,.int y=>.ok (.int (if x < y then y else x)) s
  | _,_=>.stuck
 | _=>.stuck
noncomputable def prim (p:Prim) (l:List V) (s:MS):Res V :=
 match l with
 | [v]=>zbe p v s
 | [v,w]=>zuu p v w s
 | _=>.stuck
noncomputable def wh:List V->Option (List Nat)
 | []=>some []
 | .str x::r=>(wh r).map (x++·)
 | _=>Option.none
noncomputable def bm0 (m:Bm) (a:V) (s:MS):Res V :=
 match m with
 | .upper=>match a with
  | .str x=>if x.all (fun c=>decide (97<=c)&&decide (c<=122))&&decide (x.length<=1000) then .ok (.str (x.map (·-32))) s else .stuck
  | _=>.stuck
 | _=>.stuck
noncomputable def bm1 (m:Bm) (a v:V) (s:MS):Res V :=
 match m with
 | .append=>match j7 a s with
  | some p=>if p.2.length < ze then .ok .none (s.put p.1 (.list (p.2++[v]))) else .stuck
  | .none=>.stuck
 | .extend=>match j7 a s with
  | some p=>match zr s v with
   | some q=>if p.2.length+q.2.length<=ze then .ok .none (s.put p.1 (.list (p.2++q.2))) else .stuck
   | .none=>.stuck
  | .none=>.stuck
 | .pop=>match j7 a s with
  | some p=>match v with
   | .int i=>match idx i p.2.length with
    | some j=>match p.2[j]? with
     | some v=>.ok v (s.put p.1 (.list (p.2.eraseIdx j)))
     | .none=>.stuck
    | .none=>.stuck
   | _=>.stuck
  | .none=>.stuck
 | .join=>match a with
  | .str x0=>match x0 with
   | []=>match v with
    | .lst l=>match wh l with
     | some x=>if x.length<=ze then .ok (.str x) s else .stuck
     | .none=>.stuck
    | _=>.stuck
   | _::_=>.stuck
  | _=>.stuck
 | _=>.stuck
noncomputable def bm2 (m:Bm) (a v w:V) (s:MS):Res V :=
 match m with
 | _=>.stuck
noncomputable def uv (m:Bm) (a:V) (l:List V) (s:MS):Res V :=
 match l with
 | []=>bm0 m a s
 | [v]=>bm1 m a v s
 | [v,w]=>bm2 m a v w s
 | _=>.stuck
noncomputable def zz (s:MS) (range:Bool) (v:V):Option (List V) :=
 match range with
 | true=>match v with
  | .int n=>if -1000<=n/\n<=ze then some ((List.range n.toNat).map fun (i:Nat)=>.int i) else Option.none
  | _=>Option.none
 | false=>match v with
  | .str x=>if x.all (fun c=>decide (c < 128)) then some (x.map fun c=>.str [c]) else Option.none
  | v=>match dictAt v s with
   | some p=>some (p.2.map (·.1))
   | .none=>(zr s v).map (·.2)
noncomputable def stays (s₀ s:MS) (range:Bool) (v:V):Bool :=
 match range,v with
 | false,.ref r=>decide (s₀.heap r=s.heap r)&&((dictAt v s₀).isNone||decide (s₀.wr=s.wr))
 | _,_=>true
noncomputable abbrev Calls:=Nat->List V->MS->Res V
noncomputable def vw:V->MS->Res Bool
 | .bool b,s=>.ok b s
 | _,_=>.stuck
noncomputable def ji (P:Prog) (C:Calls) (c:Nat) (vs:List V) (s:MS):Res V :=
 match P.inits c with
 | some (k,f)=>(C f (.ref (k,s.cnt k)::vs) (s.new k (.inst c []))).bind fun r s'=>match r with
  | .none=>.ok (.ref (k,s.cnt k)) s'
  | _=>.stuck
 | .none=>.stuck
noncomputable def jr (P:Prog) (a:V) (m:Nat) (s:MS):Option Nat :=
 match a with
 | .ref r=>match s.heap r with
  | some (.inst c _)=>P.meths c m
  | _=>Option.none
 | _=>Option.none
noncomputable def zdo (m:Bm) (a:V) (s:MS):Bool :=
 match m with
 | .count=>match a with | .lst _=>true | _=>false
 | .join=>match a with | .str _=>true | _=>false
 | .upper=>match a with | .str _=>true | _=>false
 | .get=>(dictAt a s).isSome
 | _=>(j7 a s).isSome
noncomputable def compLoop (s₀:MS) (range:Bool) (src:V) (slot:Nat) (cond:Option (Loc->MS->Res V)) (elt:Loc->MS->Res V) (loc:Loc):List V->List V->MS->Res (List V)
 | acc,[],s=>if stays s₀ s range src then .ok acc s else .stuck
 | acc,x::r,s =>
  if stays s₀ s range src then
   (match cond with
    | some c=>(c (loc.set slot (some x)) s).bind vw
    | .none=>.ok true s).bind fun b s =>
   if b then (elt (loc.set slot (some x)) s).bind fun v s=>if acc.length < ze then compLoop s₀ range src slot cond elt loc (acc++[v]) r s else .stuck
   else compLoop s₀ range src slot cond elt loc acc r s
  else .stuck
theorem gy {s₀:MS}{range:Bool}{src:V}{slot:Nat}{cond:Option (Loc->MS->Res V)}{elt:Loc->MS->Res V}{loc:Loc}{acc:List V}{s:MS}:compLoop s₀ range src slot cond elt loc acc [] s=if stays s₀ s range src then .ok acc s else .stuck:=rfl
theorem bw {s₀:MS}{range:Bool}{src x:V}{r:List V}{slot:Nat}{cond:Option (Loc->MS->Res V)}{elt:Loc->MS->Res V}{loc:Loc}{acc:List V}{s:MS}:compLoop s₀ range src slot cond elt loc acc (x::r) s =
  if stays s₀ s range src then
   (match cond with
    | some c=>(c (loc.set slot (some x)) s).bind vw
    | .none=>.ok true s).bind fun b s =>
   if b then (elt (loc.set slot (some x)) s).bind fun v s=>if acc.length < ze then compLoop s₀ range src slot cond elt loc (acc++[v]) r s else .stuck
   else compLoop s₀ range src slot cond elt loc acc r s
  else .stuck:=rfl
mutual
noncomputable def ev (P:Prog) (C:Calls):E->Loc->MS->Res V
 | .none,_,s=>.ok .none s
 | .bool b,_,s=>.ok (.bool b) s
 | .int i,_,s=>.ok (.int i) s
 | .str x,_,s=>.ok (.str x) s
 | .loc i,l,s=>match l[i]? with
  | some (some v)=>.ok v s
  | _=>.stuck
 | .gint _ i,_,s=>.ok (.int i) s
 | .gstr _ x,_,s=>.ok (.str x) s
 | .neg a,l,s=>(ev P C a l s).bind fun v s=>match v with
  | .int i=>.ok (.int (-i)) s
  | _=>.stuck
 | .not a,l,s=>(ev P C a l s).bind fun v s=>(vw v s).bind fun b s=>.ok (.bool (!b)) s
 | .and es,l,s=>g8 P C es l s
 | .or es,l,s=>zad P C es l s
 | .bin o a b,l,s=>(ev P C a l s).bind fun x s=>(ev P C b l s).bind fun y s=>yd o x y s
 | .cmp a o b,l,s=>(ev P C a l s).bind fun x s=>(ev P C b l s).bind fun y s=>cmpOp o x y s
 | .cmp2 a o b o2 c,l,s=>(ev P C a l s).bind fun x s=>(ev P C b l s).bind fun y s=>(cmpOp o x y s).bind fun v s=>(vw v s).bind fun t s =>
   if t then (ev P C c l s).bind fun z s=>cmpOp o2 y z s else .ok (.bool false) s
 | .isC n a c,l,s=>(ev P C a l s).bind fun v s=>match c with
  | .none | .bool _=>.ok (.bool (decide (v=c) != n)) s
  | _=>.stuck
 | .tup es,l,s=>(evL P C es l s).bind fun vs s=>if vs.length<=ze then .ok (.tup vs) s else .stuck
 | .lst es,l,s=>(evL P C es l s).bind fun vs s=>if vs.length<=ze then .ok (.lst vs) s else .stuck
 | .lstM k es,l,s=>(evL P C es l s).bind fun vs s=>if vs.length<=ze then .ok (.ref (k,s.cnt k)) (s.new k (.list vs)) else .stuck
 | .dictM k ks es,l,s=>(evL P C es l s).bind fun vs s=>if ks.length=vs.length/\ks.length<=15/\ks.Nodup then
   .ok (.ref (k,s.cnt k)) (s.new k (.dict ((ks.zip vs).map fun p=>(.str p.1,p.2)))) else .stuck
 | .sub a b,l,s=>(ev P C a l s).bind fun x s=>(ev P C b l s).bind fun y s=>getItem x y s
 | .slice a lo hi,l,s=>(ev P C a l s).bind fun x s=>(evO P C lo l s).bind fun y s=>(evO P C hi l s).bind fun z s=>kf x y z s
 | .attr a i,l,s=>(ev P C a l s).bind fun x s=>getAttr x i s
 | .call f es,l,s=>(evL P C es l s).bind fun vs s=>C f vs s
 | .meth a m es,l,s=>(ev P C a l s).bind fun x s=>match jr P x m s with
  | some f=>(evL P C es l s).bind fun vs s=>C f (x::vs) s
  | .none=>.stuck
 | .new c es,l,s=>(evL P C es l s).bind fun vs s=>ji P C c vs s
 | .isinst a ks,l,s=>(ev P C a l s).bind fun x s=>okB s (kh P s x ks)
 | .isX a k,l,s=>(ev P C a l s).bind fun v s=>match v with
  | .exc c=>if (P.excBase c).contains c then .ok (.bool ((P.excBase c).contains k)) s else .stuck
  | _=>.stuck
 | .prim p es,l,s=>(evL P C es l s).bind fun vs s=>prim p vs s
 | .listM k a,l,s=>(ev P C a l s).bind fun x s=>match zr s x with
  | some (_,vs)=>.ok (.ref (k,s.cnt k)) (s.new k (.list vs))
  | .none=>.stuck
 | .dictC k a,l,s=>(ev P C a l s).bind fun x s=>match x with
  | .ref r=>match s.heap r with
   | some (.dict d)=>if d.length<=1000 then .ok (.ref (k,s.cnt k)) (s.new k (.dict d)) else .stuck
   | _=>.stuck
  | _=>.stuck
 | .bm m a es,l,s=>(ev P C a l s).bind fun x s=>if zdo m x s then (evL P C es l s).bind fun vs s=>uv m x vs s else .stuck
 | .comp M slot range it cond elt,l,s=>(ev P C it l s).bind fun src s=>match zz s range src with
  | some xs=>(compLoop s range src slot (evC P C cond) (ev P C elt) l [] xs s).bind fun vs s=>match M with
   | .none=>.ok (.lst vs) s
   | some k=>.ok (.ref (k,s.cnt k)) (s.new k (.list vs))
  | .none=>.stuck
noncomputable def evC (P:Prog) (C:Calls):Option E->Option (Loc->MS->Res V)
 | .none=>Option.none
 | some e=>some (ev P C e)
noncomputable def evO (P:Prog) (C:Calls):Option E->Loc->MS->Res (Option V)
 | .none,_,s=>.ok Option.none s
 | some e,l,s=>(ev P C e l s).bind fun v s=>.ok (some v) s
noncomputable def evL (P:Prog) (C:Calls):List E->Loc->MS->Res (List V)
 | [],_,s=>.ok [] s
 | e::r,l,s=>(ev P C e l s).bind fun v s=>(evL P C r l s).bind fun vs s=>.ok (v::vs) s
noncomputable def g8 (P:Prog) (C:Calls):List E->Loc->MS->Res V
 | [],_,_=>.stuck
 | [e],l,s=>ev P C e l s
 | e::e'::r,l,s=>(ev P C e l s).bind fun v s=>(vw v s).bind fun b s=>if b then g8 P C (e'::r) l s else .ok v s
noncomputable def zad (P:Prog) (C:Calls):List E->Loc->MS->Res V
 | [],_,_=>.stuck
 | [e],l,s=>ev P C e l s
 | e::e'::r,l,s=>(ev P C e l s).bind fun v s=>(vw v s).bind fun b s=>if b then .ok v s else zad P C (e'::r) l s
end
noncomputable def zh8 (P:Prog) (C:Calls) (t:T) (v:V) (l:Loc) (s:MS):Res Loc :=
 match t with
 | .loc i=>if i < l.length then .ok (l.set i (some v)) s else .stuck
 | .item a b=>(ev P C a l s).bind fun x s=>(ev P C b l s).bind fun y s=>(setItem x y v s).bind fun ξ s=>.ok l s
noncomputable def ug (P:Prog) (C:Calls):List T->List V->Loc->MS->Res Loc
 | [],[],l,s=>.ok l s
 | t::ts,v::vs,l,s=>(zh8 P C t v l s).bind fun l s=>ug P C ts vs l s
 | _,_,_,_=>.stuck
noncomputable def zpu (P:Prog) (C:Calls) (ts:List T) (v:V) (l:Loc) (s:MS):Res Loc :=
 match v with
 | .tup vs=>ug P C ts vs l s
 | _=>.stuck
noncomputable def pi (P:Prog) (C:Calls) (ts:List T) (v:V) (l:Loc) (s:MS):Res Loc :=
 match v with
 | .tup vs=>ug P C ts vs l s
 | .lst vs=>ug P C ts vs l s
 | _=>.stuck
noncomputable def wu (P:Prog) (C:Calls) (ts:T ⊕ List T) (v:V) (l:Loc) (s:MS):Res Loc :=
 match ts with
 | .inl t=>zh8 P C t v l s
 | .inr ts=>zpu P C ts v l s
noncomputable def mt (ts:T ⊕ List T) (range:Bool) (src:V) (s:MS):Bool :=
 match ts with
 | .inl _=>true
 | .inr _=>!range&&(zr s src).isSome
noncomputable def qt (s₀:MS) (range:Bool) (src:V) (tgt:V->Loc->MS->Res Loc) (body:Loc->MS->Res (Fl×Loc)):List V->Loc->MS->Res (Fl×Loc)
 | [],l,s=>if stays s₀ s range src then .ok (.next,l) s else .stuck
 | x::r,l,s =>
  if stays s₀ s range src then
   (tgt x l s).bnd fun l s=>(body l s).bind fun p s=>match p.1 with
    | .next=>qt s₀ range src tgt body r p.2 s
    | .ret v=>.ok (.ret v,p.2) s
  else .stuck
theorem vj {s₀:MS}{range:Bool}{src:V}{tgt:V->Loc->MS->Res Loc}{body:Loc->MS->Res (Fl×Loc)}{l:Loc}{s:MS}:qt s₀ range src tgt body [] l s=if stays s₀ s range src then .ok (.next,l) s else .stuck:=rfl
theorem xe {s₀:MS}{range:Bool}{src x:V}{r:List V}{tgt:V->Loc->MS->Res Loc}{body:Loc->MS->Res (Fl×Loc)}{l:Loc}{s:MS}:qt s₀ range src tgt body (x::r) l s=if stays s₀ s range src then
   (tgt x l s).bnd fun l s=>(body l s).bind fun p s=>match p.1 with
    | .next=>qt s₀ range src tgt body r p.2 s
    | .ret v=>.ok (.ret v,p.2) s
  else .stuck:=rfl
noncomputable def ka (test:Loc->MS->Res V) (body:Loc->MS->Res (Fl×Loc)):Nat->Loc->MS->Res (Fl×Loc)
 | 0,_,_=>.stuck
 | n+1,l,s=>(test l s).bnd fun v s=>(vw v s).bnd fun b s =>
  if b then (body l s).bind fun p s=>match p.1 with
   | .next=>ka test body n p.2 s
   | .ret v=>.ok (.ret v,p.2) s
  else .ok (.next,l) s
noncomputable def evQ (P:Prog) (C:Calls):E->Loc->MS->Res V
 | .call f es,l,s=>(evL P C es l s).bnd fun vs s=>C f vs s
 | .meth a m es,l,s=>(ev P C a l s).bnd fun x s=>match jr P x m s with
  | some f=>(evL P C es l s).bnd fun vs s=>C f (x::vs) s
  | .none=>.stuck
 | .new c es,l,s=>(evL P C es l s).bnd fun vs s=>ji P C c vs s
 | _,_,_=>.stuck
noncomputable def zr1 (i:Option Nat) (c:Nat) (l:Loc):Loc:=match i with
 | some i=>l.set i (some (.exc c))
 | .none=>l
noncomputable def zau (P:Prog) (k:Loc->MS->Res (Fl×Loc)) (c:Nat) (i:Option Nat) (l:Loc):Res V->Res (Fl×Loc)
 | .ok _ s=>.ok (.next,l) s
 | .exc c' s=>if (P.excBase c').contains c'&&(P.excBase c').contains c then (k (zr1 i c' l) s).bnd fun p s=>(match p.1 with | .ret v=>.ok (.ret v,[]) s | .next=>.stuck) else .stuck
 | .stuck=>.stuck
mutual
noncomputable def ex (P:Prog) (C:Calls) (n:Nat):S->Loc->MS->Res (Fl×Loc)
 | .expr e,l,s=>(ev P C e l s).bnd fun ξ s=>.ok (.next,l) s
 | .assign i e,l,s=>(ev P C e l s).bnd fun v s=>if i < l.length then .ok (.next,l.set i (some v)) s else .stuck
 | .setattr a i e,l,s=>(ev P C e l s).bnd fun v s=>(ev P C a l s).bnd fun x s=>(setAttr x i v s).bnd fun ξ s=>.ok (.next,l) s
 | .setitem a b e,l,s=>(ev P C e l s).bnd fun v s=>(ev P C a l s).bnd fun x s=>(ev P C b l s).bnd fun y s=>(setItem x y v s).bnd fun ξ s=>.ok (.next,l) s
 | .unpack ts e,l,s=>(ev P C e l s).bnd fun v s=>(pi P C ts v l s).bnd fun l s=>.ok (.next,l) s
 | .ite c b1 b2,l,s=>(ev P C c l s).bnd fun v s=>(vw v s).bnd fun b s=>if b then exs P C n b1 l s else exs P C n b2 l s
 | .for_ ts range it body,l,s=>(ev P C it l s).bnd fun src s=>match zz s range src with
  | some xs=>if mt ts range src s then qt s range src (wu P C ts) (exs P C n body) xs l s else .stuck
  | .none=>.stuck
 | .while_ c body,l,s=>ka (ev P C c) (exs P C n body) n l s
 | .ret e,l,s=>match e with
  | some e=>(ev P C e l s).bnd fun v s=>.ok (.ret v,l) s
  | .none=>.ok (.ret .none,l) s
 | .raise c,_,s=>.exc c s
 | .exprX e,l,s=>(evQ P C e l s).bind fun ξ s=>.ok (.next,l) s
 | .retX e,l,s=>(evQ P C e l s).bind fun v s=>.ok (.ret v,l) s
 | .assignX i e,l,s=>(evQ P C e l s).bind fun v s=>if i < l.length then .ok (.next,l.set i (some v)) s else .stuck
 | .tryX e c i b,l,s=>zau P (exs P C n b) c i l (evQ P C e l s)
noncomputable def exs (P:Prog) (C:Calls) (n:Nat):List S->Loc->MS->Res (Fl×Loc)
 | [],l,s=>.ok (.next,l) s
 | st::r,l,s=>(ex P C n st l s).bind fun p s=>match p.1 with
  | .next=>exs P C n r p.2 s
  | .ret v=>.ok (.ret v,p.2) s
noncomputable def exH (P:Prog) (C:Calls) (n:Nat):List (Nat×Option Nat×List S)->Nat->Loc->MS->Res (Fl×Loc)
 | [],c,_,s=>.exc c s
 | (k,x,b)::r,c,l,s=>if (P.excBase c).contains k then
   (exs P C n b (match x with | some i=>l.set i (some (.exc c)) | .none=>l) s).bind fun p s =>
    .ok (p.1,match x with | some i=>p.2.set i Option.none | .none=>p.2) s
  else exH P C n r c l s
end
noncomputable def run (P:Prog):Nat->Calls
 | 0,_,_,_=>.stuck
 | n+1,f,vs,s=>match P.fns f with
  | some fn=>if vs.length=fn.np then
    (exs P (run P n) n fn.body (vs.map some++List.replicate (fn.names.length-fn.np) Option.none) s).bind fun p s=>.ok (match p.1 with | .ret v=>v | .next=>.none) s
   else .stuck
  | .none=>.stuck
theorem zsr (P:Prog) (C:Calls):∀ i l s,ev P C (.loc i) l s=match l[i]? with
  | some (some v)=>.ok v s
  | _=>.stuck:=by intros;rfl
theorem zss (P:Prog) (C:Calls):∀ a l s,ev P C (.neg a) l s=(ev P C a l s).bind fun v s=>match v with
  | .int i=>.ok (.int (-i)) s
  | _=>.stuck:=by intros;rfl
theorem zdc (P:Prog) (C:Calls):∀ a l s,ev P C (.not a) l s=(ev P C a l s).bind fun v s=>(vw v s).bind fun b s=>.ok (.bool (!b)) s:=by intros;rfl
theorem n0 (P:Prog) (C:Calls):∀ es l s,ev P C (.and es) l s=g8 P C es l s:=by intros;rfl
theorem tu (P:Prog) (C:Calls):∀ es l s,ev P C (.or es) l s=zad P C es l s:=by intros;rfl
theorem zm9 (P:Prog) (C:Calls):∀ o a b l s,ev P C (.bin o a b) l s=(ev P C a l s).bind fun x s=>(ev P C b l s).bind fun y s=>yd o x y s:=by intros;rfl
theorem zeh (P:Prog) (C:Calls):∀ a o b l s,ev P C (.cmp a o b) l s=(ev P C a l s).bind fun x s=>(ev P C b l s).bind fun y s=>cmpOp o x y s:=by intros;rfl
theorem gw (P:Prog) (C:Calls):∀ a o b o2 c l s,ev P C (.cmp2 a o b o2 c) l s=(ev P C a l s).bind fun x s=>(ev P C b l s).bind fun y s=>(cmpOp o x y s).bind fun v s=>(vw v s).bind fun t s =>
   if t then (ev P C c l s).bind fun z s=>cmpOp o2 y z s else .ok (.bool false) s:=by intros;rfl
theorem ze2 (P:Prog) (C:Calls):∀ n a c l s,ev P C (.isC n a c) l s=(ev P C a l s).bind fun v s=>match c with
  | .none | .bool _=>.ok (.bool (decide (v=c) != n)) s
  | _=>.stuck:=by intros;rfl
theorem zor (P:Prog) (C:Calls):∀ es l s,ev P C (.tup es) l s=(evL P C es l s).bind fun vs s=>if vs.length<=ze then .ok (.tup vs) s else .stuck:=by intros;rfl
theorem zmf (P:Prog) (C:Calls):∀ es l s,ev P C (.lst es) l s=(evL P C es l s).bind fun vs s=>if vs.length<=ze then .ok (.lst vs) s else .stuck:=by intros;rfl
theorem zfh (P:Prog) (C:Calls):∀ k es l s,ev P C (.lstM k es) l s=(evL P C es l s).bind fun vs s=>if vs.length<=ze then .ok (.ref (k,s.cnt k)) (s.new k (.list vs)) else .stuck:=by intros;rfl
theorem zml (P:Prog) (C:Calls):∀ k ks es l s,ev P C (.dictM k ks es) l s=(evL P C es l s).bind fun vs s=>if ks.length=vs.length/\ks.length<=15/\ks.Nodup then
   .ok (.ref (k,s.cnt k)) (s.new k (.dict ((ks.zip vs).map fun p=>(.str p.1,p.2)))) else .stuck:=by intros;rfl
theorem zmu (P:Prog) (C:Calls):∀ a b l s,ev P C (.sub a b) l s=(ev P C a l s).bind fun x s=>(ev P C b l s).bind fun y s=>getItem x y s:=by intros;rfl
theorem zbh (P:Prog) (C:Calls):∀ a lo hi l s,ev P C (.slice a lo hi) l s=(ev P C a l s).bind fun x s=>(evO P C lo l s).bind fun y s=>(evO P C hi l s).bind fun z s=>kf x y z s:=by intros;rfl
theorem zfj (P:Prog) (C:Calls):∀ a i l s,ev P C (.attr a i) l s=(ev P C a l s).bind fun x s=>getAttr x i s:=by intros;rfl
theorem lr (P:Prog) (C:Calls):∀ f es l s,ev P C (.call f es) l s=(evL P C es l s).bind fun vs s=>C f vs s:=by intros;rfl
theorem g5 (P:Prog) (C:Calls):∀ a m es l s,ev P C (.meth a m es) l s=(ev P C a l s).bind fun x s=>match jr P x m s with
  | some f=>(evL P C es l s).bind fun vs s=>C f (x::vs) s
  | .none=>.stuck:=by intros;rfl
theorem zd4 (P:Prog) (C:Calls):∀ c es l s,ev P C (.new c es) l s=(evL P C es l s).bind fun vs s=>ji P C c vs s:=by intros;rfl
theorem me (P:Prog) (C:Calls):∀ a ks l s,ev P C (.isinst a ks) l s=(ev P C a l s).bind fun x s=>okB s (kh P s x ks):=by intros;rfl
theorem zly (P:Prog) (C:Calls):∀ a k l s,ev P C (.isX a k) l s=(ev P C a l s).bind fun v s=>match v with
  | .exc c=>if (P.excBase c).contains c then .ok (.bool ((P.excBase c).contains k)) s else .stuck
  | _=>.stuck:=by intros;rfl
theorem iz (P:Prog) (C:Calls):∀ p es l s,ev P C (.prim p es) l s=(evL P C es l s).bind fun vs s=>prim p vs s:=by intros;rfl
theorem zcy (P:Prog) (C:Calls):∀ k a l s,ev P C (.listM k a) l s=(ev P C a l s).bind fun x s=>match zr s x with
  | some (_,vs)=>.ok (.ref (k,s.cnt k)) (s.new k (.list vs))
  | .none=>.stuck:=by intros;rfl
theorem zbf (P:Prog) (C:Calls):∀ k a l s,ev P C (.dictC k a) l s=(ev P C a l s).bind fun x s=>match x with
  | .ref r=>match s.heap r with
   | some (.dict d)=>if d.length<=1000 then .ok (.ref (k,s.cnt k)) (s.new k (.dict d)) else .stuck
   | _=>.stuck
  | _=>.stuck:=by intros;rfl
theorem zr9 (P:Prog) (C:Calls):∀ m a es l s,ev P C (.bm m a es) l s=(ev P C a l s).bind fun x s=>if zdo m x s then (evL P C es l s).bind fun vs s=>uv m x vs s else .stuck:=by intros;rfl
theorem zah (P:Prog) (C:Calls):∀ M slot range it cond elt l s,ev P C (.comp M slot range it cond elt) l s=(ev P C it l s).bind fun src s=>match zz s range src with
  | some xs=>(compLoop s range src slot (evC P C cond) (ev P C elt) l [] xs s).bind fun vs s=>match M with
   | .none=>.ok (.lst vs) s
   | some k=>.ok (.ref (k,s.cnt k)) (s.new k (.list vs))
  | .none=>.stuck:=by intros;rfl
theorem zc2 (P:Prog) (C:Calls):∀ l s,evO P C Option.none l s=.ok Option.none s:=by intros;rfl
theorem zb6 (P:Prog) (C:Calls):∀ e l s,evO P C (some e) l s=(ev P C e l s).bind fun v s=>.ok (some v) s:=by intros;rfl
theorem zaq (P:Prog) (C:Calls):∀ l s,evL P C [] l s=.ok [] s:=by intros;rfl
theorem y7 (P:Prog) (C:Calls):∀ e r l s,evL P C (e::r) l s=(ev P C e l s).bind fun v s=>(evL P C r l s).bind fun vs s=>.ok (v::vs) s:=by intros;rfl
theorem v8 (P:Prog) (C:Calls):∀ l s,g8 P C [] l s=.stuck:=by intros;rfl
theorem kt (P:Prog) (C:Calls):∀ e l s,g8 P C [e] l s=ev P C e l s:=by intros;rfl
theorem xd (P:Prog) (C:Calls):∀ e e' r l s,g8 P C (e::e'::r) l s=(ev P C e l s).bind fun v s=>(vw v s).bind fun b s=>if b then g8 P C (e'::r) l s else .ok v s:=by intros;rfl
theorem yw (P:Prog) (C:Calls):∀ l s,zad P C [] l s=.stuck:=by intros;rfl
theorem yg (P:Prog) (C:Calls):∀ e l s,zad P C [e] l s=ev P C e l s:=by intros;rfl
theorem xh (P:Prog) (C:Calls):∀ e e' r l s,zad P C (e::e'::r) l s=(ev P C e l s).bind fun v s=>(vw v s).bind fun b s=>if b then .ok v s else zad P C (e'::r) l s:=by intros;rfl
theorem lq (P:Prog) (C:Calls) (n:Nat):∀ e l s,ex P C n (.expr e) l s=(ev P C e l s).bnd fun ξ s=>.ok (.next,l) s:=by intros;rfl
theorem bk (P:Prog) (C:Calls) (n:Nat):∀ i e l s,ex P C n (.assign i e) l s=(ev P C e l s).bnd fun v s=>if i < l.length then .ok (.next,l.set i (some v)) s else .stuck:=by intros;rfl
theorem b7 (P:Prog) (C:Calls) (n:Nat):∀ a i e l s,ex P C n (.setattr a i e) l s=(ev P C e l s).bnd fun v s=>(ev P C a l s).bnd fun x s=>(setAttr x i v s).bnd fun ξ s=>.ok (.next,l) s:=by intros;rfl
theorem b4 (P:Prog) (C:Calls) (n:Nat):∀ a b e l s,ex P C n (.setitem a b e) l s=(ev P C e l s).bnd fun v s=>(ev P C a l s).bnd fun x s=>(ev P C b l s).bnd fun y s=>(setItem x y v s).bnd fun ξ s=>.ok (.next,l) s:=by intros;rfl
theorem o7 (P:Prog) (C:Calls) (n:Nat):∀ ts e l s,ex P C n (.unpack ts e) l s=(ev P C e l s).bnd fun v s=>(pi P C ts v l s).bnd fun l s=>.ok (.next,l) s:=by intros;rfl
theorem u7 (P:Prog) (C:Calls) (n:Nat):∀ c b1 b2 l s,ex P C n (.ite c b1 b2) l s=(ev P C c l s).bnd fun v s=>(vw v s).bnd fun b s=>if b then exs P C n b1 l s else exs P C n b2 l s:=by intros;rfl
theorem zc6 (P:Prog) (C:Calls) (n:Nat):∀ ts range it body l s,ex P C n (.for_ ts range it body) l s=(ev P C it l s).bnd fun src s=>match zz s range src with
  | some xs=>if mt ts range src s then qt s range src (wu P C ts) (exs P C n body) xs l s else .stuck
  | .none=>.stuck:=by intros;rfl
theorem zbo (P:Prog) (C:Calls) (n:Nat):∀ c body l s,ex P C n (.while_ c body) l s=ka (ev P C c) (exs P C n body) n l s:=by intros;rfl
theorem p5 (P:Prog) (C:Calls) (n:Nat):∀ e l s,ex P C n (.ret e) l s=match e with
  | some e=>(ev P C e l s).bnd fun v s=>.ok (.ret v,l) s
  | .none=>.ok (.ret .none,l) s:=by intros;rfl
theorem zoj (P:Prog) (C:Calls) (n:Nat):∀ c l s,ex P C n (.raise c) l s=.exc c s:=by intros;rfl
theorem um (P:Prog) (C:Calls) (n:Nat):∀ e l s,ex P C n (.exprX e) l s=(evQ P C e l s).bind fun ξ s=>.ok (.next,l) s:=by intros;rfl
theorem zat (P:Prog) (C:Calls) (n:Nat):∀ e l s,ex P C n (.retX e) l s=(evQ P C e l s).bind fun v s=>.ok (.ret v,l) s:=by intros;rfl
theorem yj (P:Prog) (C:Calls) (n:Nat):∀ i e l s,ex P C n (.assignX i e) l s=(evQ P C e l s).bind fun v s=>if i < l.length then .ok (.next,l.set i (some v)) s else .stuck:=by intros;rfl
theorem ip (P:Prog) (C:Calls) (n:Nat):∀ e c i b l s,ex P C n (.tryX e c i b) l s=zau P (exs P C n b) c i l (evQ P C e l s):=by intros;rfl
theorem du (P:Prog) (C:Calls):∀ f es l s,evQ P C (.call f es) l s=(evL P C es l s).bnd fun vs s=>C f vs s:=by intros;rfl
theorem pe (P:Prog) (C:Calls):∀ a m es l s,evQ P C (.meth a m es) l s=(ev P C a l s).bnd fun x s=>match jr P x m s with
  | some f=>(evL P C es l s).bnd fun vs s=>C f (x::vs) s
  | .none=>.stuck:=by intros;rfl
theorem zgb (P:Prog) (C:Calls) (n:Nat):∀ l s,exs P C n [] l s=.ok (.next,l) s:=by intros;rfl
theorem qg (P:Prog) (C:Calls) (n:Nat):∀ st r l s,exs P C n (st::r) l s=(ex P C n st l s).bind fun p s=>match p.1 with
  | .next=>exs P C n r p.2 s
  | .ret v=>.ok (.ret v,p.2) s:=by intros;rfl
theorem byQ {A:Prop} (h:∀ Q:Prop,(A->Q)->Q):A:=h A id
end Internal
end
section
namespace Internal
open PySem PySem.W PyProof.Rows
structure Tie where
 ρ:Lbl->Option Addr
 δ:Lbl->Option Addr
 pv:Addr->Prop
 wr:Nat
 st:List Env
noncomputable def Tie.Own (t:Tie) (a:Addr):Prop:=∃ l,t.ρ l=some a\/t.δ l=some a
noncomputable def Tie.Fr (t:Tie) (a:Addr):Prop:=t.pv a/\∃ e,e∈t.st/\e.frame=some a
noncomputable def Tie.Avoid (t:Tie) (a:Addr):Prop:=t.Own a\/t.pv a
structure Tie.Le (t t':Tie):Prop where
 ρ:∀ l a,t.ρ l=some a->t'.ρ l=some a
 δ:∀ l a,t.δ l=some a->t'.δ l=some a
 pv:t'.pv=t.pv
 wr:t.wr<=t'.wr
 st:t'.st=t.st
theorem Tie.Le.refl (t:Tie):t.Le t:=⟨fun ξ ξ e=>e,fun ξ ξ e=>e,rfl,Zs _,rfl⟩
theorem Tie.Le.fr {t t':Tie} (x:t.Le t') {a:Addr} (f:t'.Fr a):t.Fr a:=⟨x.pv▸f.1,x.st▸f.2⟩
theorem Tie.Le.fr' {t t':Tie} (x:t.Le t') {a:Addr} (f:t.Fr a):t'.Fr a:=⟨x.pv▸f.1,x.st▸f.2⟩
theorem Tie.Le.trans {t t' t'':Tie} (x:t.Le t') (y:t'.Le t''):t.Le t'':=⟨fun l a e=>y.ρ l a (x.ρ l a e),fun l a e=>y.δ l a (x.δ l a e),y.pv.trans x.pv,Zp x.wr y.wr,y.st.trans x.st⟩
theorem Tie.Le.own {t t':Tie} (x:t.Le t') {a:Addr} (o:t.Own a):t'.Own a:=by
 obtain⟨l,e | e⟩:=o
 ·exact⟨l,.inl (x.ρ l a e)⟩
 ·exact⟨l,.inr (x.δ l a e)⟩
noncomputable def PL (h:Heap) (a:Addr) (vs:Array Value):Prop:=∃ n,h.get? a=some {cls:=.type "list",data:=.seq vs n}
noncomputable def PT (h:Heap) (a:Addr) (vs:Array Value):Prop:=∃ n,h.get? a=some {cls:=.type "tuple",data:=.seq vs n}
theorem PL.isList {h:Heap}{a:Addr}{vs:Array Value} (x:PL h a vs):h.IsList a vs:=let ⟨n,e⟩:=x;⟨_,e,rfl,n,rfl⟩
theorem PT.isTuple {h:Heap}{a:Addr}{vs:Array Value} (x:PT h a vs):h.IsTuple a vs:=let ⟨n,e⟩:=x;⟨_,e,rfl,n,rfl⟩
theorem PT.isTup {h:Heap}{a:Addr}{vs:Array Value} (x:PT h a vs):IsTup h a vs:=let ⟨n,e⟩:=x;⟨_,e,rfl,n,rfl⟩
mutual
noncomputable def VRel (t:Tie) (h:Heap):V->Value->Prop
 | .none,v=>v=.none
 | .bool b,v=>v=.bool b
 | .int i,v=>∃ k,v=.int i k
 | .str x,v=>∃ k,v=.str (Str.mk x.toArray) k
 | .tup l,v=>∃ a vs,v=.ref a/\PT h a vs/\¬ t.Avoid a/\l.length<=ze/\VRels t h l vs.toList
 | .lst l,v=>∃ a vs,v=.ref a/\PL h a vs/\¬ t.Avoid a/\l.length<=ze/\VRels t h l vs.toList
 | .ref l,v=>∃ a,v=.ref a/\t.ρ l=some a
 | .exc c,v=>∃ e o,v=.ref e/\h.get? e=some o/\o.cls=.ref c/\¬ t.Avoid e
noncomputable def VRels (t:Tie) (h:Heap):List V->List Value->Prop
 | [],vs=>vs=[]
 | x::l,vs=>∃ v r,vs=v::r/\VRel t h x v/\VRels t h l r
end
structure Step (X:Addr->Prop) (t t':Tie) (s s':Shared):Prop where
 le:t.Le t'
 keepW:∀ a o,s.heap.get? a=some o->(t.Own a->t'.wr=t.wr)->¬ X a->¬ t.Fr a->s'.heap.get? a=some o
 slots:∀ a o,s.heap.get? a=some o->¬ t.Own a->¬ X a->t.Fr a->∃ sl,s'.heap.get? a=some {o with slots:=sl}
 new:∀ a,t'.Own a->t.Own a\/s.heap.get? a=none
 live:∀ a o,s.heap.get? a=some o->(s'.heap.get? a).isSome=true
 gens:s'.gens=s.gens
 os:s'.os=s.os
theorem Step.refl (X:Addr->Prop) (t:Tie) (s:Shared):Step X t t s s:=⟨.refl t,fun ξ ξ e ξ ξ ξ=>e,fun ξ o e ξ ξ ξ=>⟨o.slots,e⟩,fun ξ o=>.inl o,fun ξ ξ e=>by rw[e];rfl,rfl,rfl⟩
theorem Step.keep {X:Addr->Prop}{t t':Tie}{s s':Shared} (x:Step X t t' s s') (a:Addr) (o:Obj) (e:s.heap.get? a=some o) (n:¬ t.Own a) (nx:¬ X a) (nf:¬ t.Fr a):s'.heap.get? a=some o:=x.keepW a o e (fun q=>(n q).elim) nx nf
theorem Step.trans {X:Addr->Prop}{t t' t'':Tie}{s s' s'':Shared} (x:Step X t t' s s') (y:Step X t' t'' s' s''):Step X t t'' s s'' where
 le:=x.le.trans y.le
 keepW a o e n nx nf:=by
  have sq:t.Own a->t'.wr=t.wr/\t''.wr=t'.wr:=fun q=>by have:=n q;have:=x.le.wr;have:=y.le.wr;lia
  exact y.keepW a o (x.keepW a o e (fun q=>(sq q).1) nx nf) (fun q=>(x.new a q).elim (fun q=>(sq q).2) fun z=>by rw[e] at z;cases z) nx fun q=>nf (x.le.fr q)
 slots a o e n nx f:=by
  obtain⟨sl,e1⟩:=x.slots a o e n nx f
  obtain⟨sl2,e2⟩:=y.slots a _ e1 (fun q=>(x.new a q).elim n fun z=>by rw[e] at z;cases z) nx (x.le.fr' f)
  exact⟨sl2,e2⟩
 new a o:=(y.new a o).elim (x.new a) fun z=>by
  cases q:s.heap.get? a with
  | none=>exact .inr rfl
  | some ob =>
   have:=x.live a ob q
   rw[z] at this;exact z6 this
 live a o e:=by
  have:=x.live a o e
  obtain⟨o',e'⟩:=Option.isSome_iff_exists.mp this
  exact y.live a o' e'
 gens:=y.gens.trans x.gens
 os:=y.os.trans x.os
theorem Step.mono {X Y:Addr->Prop}{t t':Tie}{s s':Shared} (x:Step X t t' s s') (xy:∀ a,X a->Y a):Step Y t t' s s':=⟨x.le,fun a o e n ny=>x.keepW a o e n fun q=>ny (xy a q),fun a o e n ny=>x.slots a o e n fun q=>ny (xy a q),x.new,x.live,x.gens,x.os⟩
noncomputable def noX:Addr->Prop:=fun ξ=>False
mutual
theorem VRel.map {t t':Tie}{h h':Heap} (hρ:∀ l a,t.ρ l=some a->t'.ρ l=some a) (k:∀ a o,¬ t.Avoid a->h.get? a=some o->h'.get? a=some o/\¬ t'.Avoid a):∀ (x:V) {v:Value},VRel t h x v->VRel t' h' x v
 | .none,_,e=>e
 | .bool _,_,e=>e
 | .int _,_,e=>e
 | .str _,_,e=>e
 | .tup l,_,⟨a,vs,e,⟨n,ho⟩,na,sz,r⟩=>⟨a,vs,e,⟨n,(k a _ na ho).1⟩,(k a _ na ho).2,sz,VRels.map hρ k l r⟩
 | .lst l,_,⟨a,vs,e,⟨n,ho⟩,na,sz,r⟩=>⟨a,vs,e,⟨n,(k a _ na ho).1⟩,(k a _ na ho).2,sz,VRels.map hρ k l r⟩
 | .ref l,_,⟨a,e,r⟩=>⟨a,e,hρ l a r⟩
 | .exc _,_,⟨e,o,h1,h2,h3,h4⟩=>⟨e,o,h1,(k e o h4 h2).1,h3,(k e o h4 h2).2⟩
theorem VRels.map {t t':Tie}{h h':Heap} (hρ:∀ l a,t.ρ l=some a->t'.ρ l=some a) (k:∀ a o,¬ t.Avoid a->h.get? a=some o->h'.get? a=some o/\¬ t'.Avoid a):∀ (l:List V) {vs:List Value},VRels t h l vs->VRels t' h' l vs
 | [],_,e=>e
 | x::l,_,⟨v,r,e,a,b⟩=>⟨v,r,e,VRel.map hρ k x a,VRels.map hρ k l b⟩
end
theorem Step.val {X:Addr->Prop}{t t':Tie}{σ σ':Shared} (s:Step X t t' σ σ') (xp:∀ a,X a->t.pv a) (a:Addr) (o:Obj) (na:¬ t.Avoid a) (ho:σ.heap.get? a=some o):σ'.heap.get? a=some o/\¬ t'.Avoid a :=
 ⟨s.keep a o ho (fun q=>na (.inl q)) (fun q=>na (.inr (xp a q))) (fun q=>na (.inr q.1)),fun q=>q.elim (fun q=>(s.new a q).elim (fun q=>na (.inl q)) fun z=>by rw[ho] at z;cases z) (fun q=>na (.inr (by rw[s.le.pv] at q;exact q)))⟩
theorem VRel.step {X:Addr->Prop}{t t':Tie}{σ σ':Shared} (s:Step X t t' σ σ') (xp:∀ a,X a->t.pv a) (x:V) {v:Value} (r:VRel t σ.heap x v):VRel t' σ'.heap x v:=VRel.map s.le.ρ (s.val xp) x r
theorem VRels.step {X:Addr->Prop}{t t':Tie}{σ σ':Shared} (s:Step X t t' σ σ') (xp:∀ a,X a->t.pv a) (l:List V) {vs:List Value} (r:VRels t σ.heap l vs):VRels t' σ'.heap l vs:=VRels.map s.le.ρ (s.val xp) l r
noncomputable def Tie.hideS (t:Tie) (P:Addr->Prop) (l:List Env):Tie:={t with pv:=fun a=>t.pv a\/P a,st:=l}
noncomputable abbrev Tie.hide (t:Tie) (P:Addr->Prop):Tie:=t.hideS P t.st
theorem Tie.hid {t:Tie}{h:Heap}{P:Addr->Prop}{l:List Env} (np:∀ a,P a->h.get? a=none) (a:Addr) (o:Obj) (na:¬ t.Avoid a) (ho:h.get? a=some o):h.get? a=some o/\¬ (t.hideS P l).Avoid a :=
 ⟨ho,fun q=>Or.elim q (fun q=>na (.inl q)) fun q=>Or.elim q (fun q=>na (.inr q)) fun q=>absurd ((np a q).symm.trans ho) nofun⟩
theorem VRel.hide {t:Tie}{h:Heap}{P:Addr->Prop}{l:List Env} (np:∀ a,P a->h.get? a=none) (x:V) {v:Value} (r:VRel t h x v):VRel (t.hideS P l) h x v:=VRel.map (t:=t) (t':=t.hideS P l) (fun ξ ξ e=>e) (Tie.hid np) x r
theorem VRels.hide {t:Tie}{h:Heap}{P:Addr->Prop}{k:List Env} (np:∀ a,P a->h.get? a=none) (l:List V) {vs:List Value} (r:VRels t h l vs):VRels (t.hideS P k) h l vs:=VRels.map (t:=t) (t':=t.hideS P k) (fun ξ ξ e=>e) (Tie.hid np) l r
theorem VRels.length {t:Tie}{h:Heap}:∀ {l:List V}{vs:List Value},VRels t h l vs->vs.length=l.length
 | [],_,e=>by cases e;rfl
 | _::l,_,⟨v,r,e,_,b⟩=>by subst e;simp[VRels.length b]
theorem VRels.append {t:Tie}{h:Heap}:∀ {l m:List V}{vs ws:List Value},VRels t h l vs->VRels t h m ws->VRels t h (l++m) (vs++ws)
 | [],_,_,_,e,b=>by cases e;exact b
 | _::_,_,_,_,⟨v,r,e,a,c⟩,b=>by subst e;exact⟨v,_,rfl,a,VRels.append c b⟩
theorem VRels.get {t:Tie}{h:Heap}:∀ {l:List V}{vs:List Value}{i:Nat}{x:V},VRels t h l vs->l[i]?=some x->∃ v,vs[i]?=some v/\VRel t h x v
 | x::l,_,0,_,⟨v,r,e,a,b⟩,q=>by subst e;cases q;exact⟨v,rfl,a⟩
 | x::l,_,i+1,_,⟨v,r,e,a,b⟩,q=>by subst e;exact VRels.get (l:=l) (vs:=r) b q
theorem VRels.take {t:Tie}{h:Heap}:∀ {l:List V}{vs:List Value} (n:Nat),VRels t h l vs->VRels t h (l.take n) (vs.take n)
 | [],_,n,e=>by cases e;simp[VRels]
 | x::l,_,0,_=>rfl
 | x::l,_,n+1,⟨v,r,e,a,b⟩=>by subst e;exact⟨v,_,rfl,a,VRels.take n b⟩
theorem VRels.drop {t:Tie}{h:Heap}:∀ {l:List V}{vs:List Value} (n:Nat),VRels t h l vs->VRels t h (l.drop n) (vs.drop n)
 | [],_,n,e=>by cases e;simp[VRels]
 | x::l,vs,0,r=>r
 | x::l,_,n+1,⟨v,r,e,a,b⟩=>by subst e;exact VRels.drop n b
theorem VRels.set {t:Tie}{h:Heap}:∀ {l:List V}{vs:List Value} (i:Nat) {x:V}{v:Value},VRels t h l vs->VRel t h x v->VRels t h (l.set i x) (vs.set i v)
 | [],_,i,_,_,e,_=>by cases e;simp[VRels]
 | y::l,_,0,_,_,⟨v,r,e,a,b⟩,q=>by subst e;exact⟨_,_,rfl,q,b⟩
 | y::l,_,i+1,_,_,⟨v,r,e,a,b⟩,q=>by subst e;exact⟨v,_,rfl,a,VRels.set i b q⟩
theorem VRels.eraseIdx {t:Tie}{h:Heap}:∀ {l:List V}{vs:List Value} (i:Nat),VRels t h l vs->VRels t h (l.eraseIdx i) (vs.eraseIdx i)
 | [],_,i,e=>by cases e;simp[VRels]
 | y::l,_,0,⟨v,r,e,a,b⟩=>by subst e;exact b
 | y::l,_,i+1,⟨v,r,e,a,b⟩=>by subst e;exact⟨v,_,rfl,a,VRels.eraseIdx i b⟩
end Internal
end
section
namespace Internal
end Internal
end
section
namespace Internal
open PySem PySem.W PyProof.Rows
structure Gd where
 prog:Program
 w:World
 K:Frag
 mg:Qf->Option Value
 mb:Qf->Option Value
 h₀:Heap
 P:Prog
 fa:Nat->Option Addr
 ca:Nat->Option Addr
 an:Nat->Qf
noncomputable abbrev Gd.M (G:Gd):Model:=model G.prog G.w
noncomputable abbrev z7 (x:List Nat):Qf:=Str.mk x.toArray
noncomputable def DRel (t:Tie) (h:Heap):List (V×V)->List (Qf×Value)->Prop
 | [],kvs=>kvs=[]
 | (k,v)::r,kvs=>∃ x y rest,k=.str x/\kvs=(z7 x,y)::rest/\VRel t h v y/\DRel t h r rest
noncomputable def zkv (G:Gd) (t:Tie) (h:Heap) (as:List (Nat×V)) (m:Qf->Option Value):Prop :=
 (∀ i v,vn i as=some v->∃ y,m (G.an i)=some y/\VRel t h v y)/\∀ x y,m x=some y->∃ i v,x=G.an i/\vn i as=some v
noncomputable def NsZ (h:Heap) (a:Addr) (m:Qf->Option Value) (n:Nat):Prop :=
 ∃ o es ep,h.get? a=some o/\o.data=.dict es ep/\StrKeys es/\(∀ name,nsFind es name=m name)/\es.size<=n
theorem NsZ.ns {h:Heap}{a:Addr}{m:Qf->Option Value}{n:Nat} (x:NsZ h a m n):h.Ns a m:=let ⟨o,es,ep,h1,h2,h3,h4,_⟩:=x;⟨o,es,ep,h1,h2,h3,h4⟩
theorem ij {M:Model}{A:Around}{E:Value->Shared->Prop}{s:Shared}{a:Addr}{m:Qf->Option Value}{n:Nat}{name:Qf}{v:Value}{Q:Unit->Shared->Prop} (hn:NsZ s.heap a m n)
  (h:∀ h',NsZ h' a (fun x=>if x=name then some v else m x) (if (m name).isSome then n else n+1)->Heap.SameBut a s.heap h'->Q () {s with heap:=h',toks:=s.toks+1}) :
  wpAny M A (nsSet a name v) Q E s:=by
 obtain⟨o,es,ep,ho,hd,hk,hm,hz⟩:=hn
 have hany:es.any (·.refKey)=false:=by
  rw[Array.any_eq_false'];intro e he;obtain⟨n,t,h⟩:=hk e he;simp[DictEntry.refKey,h]
 unfold nsSet
 refine Ze (Ze (wpAny_askSetting (Zr (Ze (wpAny_mkText (Ze (wpAny_loadPart (s:={s with toks:=s.toks+1}) ho ?_)))))))
 rw[hd]
 dsimp only
 rw[aRefKeyMayBeTheName_at,hany,Bool.and_false]
 refine wpAny_updatePart (s:={s with toks:=s.toks+1}) ho ?_
 refine h _ ?_ (Heap.SameBut.update ..)
 obtain⟨c,d,dt,sl⟩:=o
 subst hd
 have hfind:=hm name
 unfold nsFind at hfind
 rw[findBy_of_findIdx?] at hfind
 cases hi:es.findIdx? (·.key.isStr name) with
 | some i =>
  have hlt:i < es.size:=(Array.findIdx?_eq_some_iff_getElem.mp hi).1
  have hsome:(m name).isSome=true:=by
   rw[<- hfind,hi];simp[hlt]
  have hif:(if (m name).isSome=true then n else n+1)=n:=by rw[hsome];rfl
  rw[hif]
  refine⟨_,_,ep,Heap.get?_update_self _ ho (by simp only[Obj.putName_eq,Obj.putNameByArray,hi];rfl),by simp only[Obj.putName_eq,Obj.putNameByArray,hi];rfl,hk.modify _ _,fun x=>?_,by rw[Array.size_modify];exact hz⟩
  show _=if x=name then some v else m x
  rw[<- hm];exact findBy_modify (fun n v=>v.isStr n) Value.isStr_inj es name x v i hi
 | none =>
  have hnone:(m name).isSome=false:=by rw[<- hfind,hi];rfl
  have hif:(if (m name).isSome=true then n else n+1)=n+1:=by rw[hnone];rfl
  rw[hif]
  refine⟨_,_,ep+1,Heap.get?_update_self _ ho (by simp only[Obj.putName_eq,Obj.putNameByArray,hi];rfl),by simp only[Obj.putName_eq,Obj.putNameByArray,hi];rfl,hk.push _ _ _ _,fun x=>?_,by rw[Array.size_push];lia⟩
  show _=if x=name then some v else m x
  rw[<- hm]
  exact findBy_push (fun n v=>v.isStr n) es name x _ _ v (fun y=>by
   show(name == y)=decide (y=name)
   by_cases q:y=name
   ·subst q;simp
   ·have:¬ name=y:=fun z=>q z.symm
    simp[q,this]) hi
noncomputable def ObjOk (G:Gd) (t:Tie) (h:Heap) (l:Lbl):MObj->Prop
 | .list xs=>∃ a vs,t.ρ l=some a/\PL h a vs/\xs.length<=ze/\VRels t h xs vs.toList
 | .dict d=>∃ a kvs,t.ρ l=some a/\h.DictOf (strKind G.prog G.w) a kvs/\DRel t h d kvs
 | .tdict _=>False
 | .inst c as=>∃ a d C m,t.ρ l=some a/\t.δ l=some d/\G.ca c=some C/\h.get? a=some (instObj C d)/\NsZ h d m as.length/\zkv G t h as m
structure Rel (G:Gd) (t:Tie) (st:MS) (s:Shared):Prop where
 base:∀ b o,G.h₀.get? b=some o->s.heap.get? b=some o
 apart:∀ a,t.Avoid a->G.h₀.get? a=none
 live:∀ a,t.Avoid a->(s.heap.get? a).isSome=true
 pv:∀ a,t.pv a->¬ t.Own a
 injρ:∀ l l' a,t.ρ l=some a->t.ρ l'=some a->l=l'
 injδ:∀ l l' a,t.δ l=some a->t.δ l'=some a->l=l'
 two:∀ l l' a,t.ρ l=some a->t.δ l'=some a->False
 objs:∀ l o,st.heap l=some o->ObjOk G t s.heap l o
 cnt:∀ k i,st.cnt k<=i->t.ρ (k,i)=none/\t.δ (k,i)=none/\st.heap (k,i)=none
 sys:∀ l,t.ρ l≠some sysModules
 wr:t.wr=st.wr
theorem DRel.map {t t':Tie}{h h':Heap} (k:∀ (x:V) {v:Value},VRel t h x v->VRel t' h' x v):∀ {d:List (V×V)}{kvs:List (Qf×Value)},DRel t h d kvs->DRel t' h' d kvs
 | [],_,e=>e
 | (_,v)::_,_,⟨x,y,r,e1,e2,a,b⟩=>⟨x,y,r,e1,e2,k v a,DRel.map k b⟩
theorem DRel.step {X:Addr->Prop}{t t':Tie}{σ σ':Shared} (s:Step X t t' σ σ') (xp:∀ a,X a->t.pv a) {d:List (V×V)}{kvs:List (Qf×Value)} (r:DRel t σ.heap d kvs):DRel t' σ'.heap d kvs:=DRel.map (VRel.step s xp) r
theorem ObjOk.map {G:Gd}{t t':Tie}{h h':Heap}{l:Lbl} (hρ:∀ l a,t.ρ l=some a->t'.ρ l=some a) (hδ:∀ l a,t.δ l=some a->t'.δ l=some a) (k:∀ a o,¬ t.Avoid a->h.get? a=some o->h'.get? a=some o/\¬ t'.Avoid a)
  (same:∀ a o,(t.ρ l=some a\/t.δ l=some a)->h.get? a=some o->h'.get? a=some o) {o:MObj} (r:ObjOk G t h l o):ObjOk G t' h' l o:=by
 cases o with
 | list=>obtain⟨a,vs,e,⟨n,ho⟩,sz,b⟩:=r;exact⟨a,vs,hρ l a e,⟨n,same a _ (.inl e) ho⟩,sz,VRels.map hρ k _ b⟩
 | dict=>obtain⟨a,kvs,e,⟨o,es,ep,ho,r⟩,b⟩:=r;exact⟨a,kvs,hρ l a e,⟨o,es,ep,same a o (.inl e) ho,r⟩,DRel.map (VRel.map hρ k) b⟩
 | tdict=>exact r.elim
 | inst =>
  obtain⟨a,d,C,m,e,f,c,ho,⟨od,es,ep,hd,r⟩,b⟩:=r
  exact⟨a,d,C,m,hρ l a e,hδ l d f,c,same a _ (.inl e) ho,⟨od,es,ep,same d _ (.inr f) hd,r⟩,fun i v e=>let ⟨y,e1,e2⟩:=b.1 i v e;⟨y,e1,VRel.map hρ k v e2⟩,b.2⟩
theorem ObjOk.step {G:Gd}{X:Addr->Prop}{t t':Tie}{σ σ':Shared}{l:Lbl} (s:Step X t t' σ σ') (xp:∀ a,X a->t.pv a)
  (same:∀ a o,(t.ρ l=some a\/t.δ l=some a)->σ.heap.get? a=some o->σ'.heap.get? a=some o) {o:MObj} (r:ObjOk G t σ.heap l o):ObjOk G t' σ'.heap l o:=ObjOk.map s.le.ρ s.le.δ (s.val xp) same r
section
variable {G:Gd}{t:Tie}{st:MS}{s:Shared}
theorem Rel.fresh (R:Rel G t st s) {a:Addr} (e:s.heap.get? a=none):¬ t.Avoid a:=fun q=>by
 have:=R.live a q;rw[e] at this;exact z6 this
theorem Step.grow (_R:Rel G t st s) {s':Shared} (hk:∀ b o,s.heap.get? b=some o->s'.heap.get? b=some o) (hg:s'.gens=s.gens) (ho:s'.os=s.os):Step noX t t s s' :=
 ⟨.refl t,fun a o e ξ ξ ξ=>hk a o e,fun a o e ξ ξ ξ=>⟨o.slots,hk a o e⟩,fun ξ o=>.inl o,fun a o e=>by rw[hk a o e];rfl,hg,ho⟩
theorem Rel.grow (R:Rel G t st s) {s':Shared} (hk:∀ b o,s.heap.get? b=some o->s'.heap.get? b=some o) (hg:s'.gens=s.gens) (ho:s'.os=s.os):Rel G t st s' where
 base b o e:=hk b o (R.base b o e)
 apart:=R.apart
 live a q:=by obtain⟨o,e⟩:=Option.isSome_iff_exists.mp (R.live a q);rw[hk a o e];rfl
 pv:=R.pv
 injρ:=R.injρ
 injδ:=R.injδ
 two:=R.two
 objs l o e:=(R.objs l o e).step (Step.grow R hk hg ho) (fun ξ x=>x.elim) fun a o ξ e=>hk a o e
 cnt:=R.cnt
 sys:=R.sys
 wr:=R.wr
theorem Rel.toks (R:Rel G t st s) (n:Nat):Rel G t st {s with toks:=n}:=R.grow (fun ξ ξ e=>e) rfl rfl
theorem Step.toks (X:Addr->Prop) (t:Tie) (s:Shared) (n:Nat):Step X t t s {s with toks:=n}:=⟨.refl t,fun ξ ξ e ξ ξ ξ=>e,fun ξ o e ξ ξ ξ=>⟨o.slots,e⟩,fun ξ o=>.inl o,fun ξ ξ e=>by show(s.heap.get? _).isSome=true;rw[e];rfl,rfl,rfl⟩
noncomputable def Tie.tick (t:Tie):Tie:={t with wr:=t.wr+1}
theorem Step.upd {a:Addr}{h':Heap}{tk:Nat} (own:t.Own a) (hl:(h'.get? a).isSome=true) (hs:Heap.SameBut a s.heap h'):Step noX t t.tick s {s with heap:=h',toks:=tk} :=
 ⟨⟨fun ξ ξ e=>e,fun ξ ξ e=>e,rfl,Zw _,rfl⟩,fun b o e n ξ ξ=>(hs.2 b fun (q:b=a)=>Nat.succ_ne_self _ (n (q▸own))).trans e,fun b o e n ξ ξ=>⟨o.slots,(hs.2 b fun (q:b=a)=>n (q▸own)).trans e⟩,fun ξ o=>.inl o,fun b o e=>by
  by_cases q:b=a
  ·subst q;exact hl
  ·show(h'.get? b).isSome=true;rw[hs.2 b q,e];rfl,rfl,rfl⟩
theorem Rel.upd (R:Rel G t st s) {l:Lbl}{a:Addr}{h':Heap}{tk:Nat}{o:MObj} (own:t.ρ l=some a\/t.δ l=some a) (hl:(h'.get? a).isSome=true) (hs:Heap.SameBut a s.heap h') (hn:st.heap l≠none)
  (ho:ObjOk G t.tick h' l o):Rel G t.tick (st.put l o) {s with heap:=h',toks:=tk} where
 base b ob e:=(hs.2 b fun (q:b=a)=>by rw[q,R.apart a (.inl ⟨l,own⟩)] at e;exact za e).trans (R.base b ob e)
 apart:=R.apart
 live b q:=by
  by_cases z:b=a
  ·subst z;exact hl
  ·show(h'.get? b).isSome=true;rw[hs.2 b z];exact R.live b q
 pv:=R.pv
 injρ:=R.injρ
 injδ:=R.injδ
 two:=R.two
 objs l' o' e:=by
  unfold MS.put at e
  dsimp only at e
  by_cases z:l'=l
  ·rw[Zg z] at e;cases e;subst z;exact ho
  ·rw[Zh z] at e
   refine(R.objs l' o' e).step (Step.upd ⟨l,own⟩ hl hs) (fun ξ x=>x.elim) fun b ob hb eb=>(hs.2 b fun (q:b=a)=>z ?_).trans eb
   subst q
   rcases hb with hb | hb <;> rcases own with ow | ow
   ·exact R.injρ l' l b hb ow
   ·exact(R.two l' l b hb ow).elim
   ·exact(R.two l l' b ow hb).elim
   ·exact R.injδ l' l b hb ow
 cnt k i e:=by
  obtain⟨c1,c2,c3⟩:=R.cnt k i e
  refine⟨c1,c2,?_⟩
  show(if (k,i)=l then some o else st.heap (k,i))=none
  rw[Zh (fun (q:(k,i)=l)=>hn (by rw[<- q];exact c3)),c3]
 sys:=R.sys
 wr:=Qd Nat.succ R.wr
noncomputable def Tie.bind (t:Tie) (l:Lbl) (a:Addr) (d:Option Addr):Tie:={t with ρ:=fun x=>if x=l then some a else t.ρ x,δ:=fun x=>if x=l then d else t.δ x}
theorem Step.bind {k:Nat}{a:Addr}{d:Option Addr}{s':Shared} (R:Rel G t st s) (hk:∀ b o,s.heap.get? b=some o->s'.heap.get? b=some o) (hg:s'.gens=s.gens) (ho:s'.os=s.os)
  (fa:s.heap.get? a=none) (fd:∀ x,d=some x->s.heap.get? x=none):Step noX t (t.bind (k,st.cnt k) a d) s s' where
 le:=⟨fun l b e=>by
   obtain⟨c1,_,_⟩:=R.cnt k _ (Zs _)
   show(if l=(k,st.cnt k) then some a else t.ρ l)=some b
   rw[Zh (fun q=>by rw[q,c1] at e;exact za e)];exact e,
  fun l b e=>by
   obtain⟨_,c2,_⟩:=R.cnt k _ (Zs _)
   show(if l=(k,st.cnt k) then d else t.δ l)=some b
   rw[Zh (fun q=>by rw[q,c2] at e;exact za e)];exact e,rfl,Zs _,rfl⟩
 keepW b o e _ _ _:=hk b o e
 slots b o e _ _ _:=⟨o.slots,hk b o e⟩
 new b:=by
  rintro⟨l,e | e⟩
  ·change (if l=(k,st.cnt k) then some a else t.ρ l)=some b at e
   split at e
   ·cases e;exact .inr fa
   ·exact .inl ⟨l,.inl e⟩
  ·change (if l=(k,st.cnt k) then d else t.δ l)=some b at e
   split at e
   ·exact .inr (fd b e)
   ·exact .inl ⟨l,.inr e⟩
 live b o e:=by rw[hk b o e];rfl
 gens:=hg
 os:=ho
set_option tactic.hygienic true in
theorem Rel.bind {k:Nat}{a:Addr}{d:Option Addr}{s':Shared}{o:MObj} (R:Rel G t st s) (hk:∀ b o,s.heap.get? b=some o->s'.heap.get? b=some o) (hg:s'.gens=s.gens) (ho:s'.os=s.os)
  (fa:s.heap.get? a=none) (fd:∀ x,d=some x->s.heap.get? x=none/\x≠a/\(s'.heap.get? x).isSome=true) (la:(s'.heap.get? a).isSome=true) (hsys:a≠sysModules)
  (hO:ObjOk G (t.bind (k,st.cnt k) a d) s'.heap (k,st.cnt k) o):Rel G (t.bind (k,st.cnt k) a d) (st.new k o) s':=by
 have S:=Step.bind (k:=k) (d:=d) R hk hg ho fa fun x e=>(fd x e).1
 have c:=R.cnt k _ (Zs _)
 have nr:∀ {l:Lbl}{b:Addr},(t.bind (k,st.cnt k) a d).ρ l=some b->(l=(k,st.cnt k)/\b=a)\/(l≠(k,st.cnt k)/\t.ρ l=some b):=fun {l b} e=>by
  change (if l=(k,st.cnt k) then some a else t.ρ l)=some b at e
  split at e
  ·rename_i q;cases e;exact .inl ⟨q,rfl⟩
  ·rename_i q;exact .inr ⟨q,e⟩
 have nd:∀ {l:Lbl}{b:Addr},(t.bind (k,st.cnt k) a d).δ l=some b->(l=(k,st.cnt k)/\d=some b)\/(l≠(k,st.cnt k)/\t.δ l=some b):=fun {l b} e=>by
  change (if l=(k,st.cnt k) then d else t.δ l)=some b at e
  split at e
  ·rename_i q;exact .inl ⟨q,e⟩
  ·rename_i q;exact .inr ⟨q,e⟩
 have na:¬ t.Avoid a:=R.fresh fa
 have nx:∀ x,d=some x->¬ t.Avoid x:=fun x e=>R.fresh (fd x e).1
 refine⟨fun b ob e=>hk b ob (R.base b ob e),?_,?_,?_,?_,?_,?_,?_,?_,fun l e=>by rcases nr e with ⟨_,z⟩ | ⟨_,z⟩;exact hsys z.symm;exact R.sys l z,R.wr⟩
 ·rintro b (⟨l,e | e⟩ | e)
  ·rcases nr e with ⟨_,rfl⟩ | ⟨_,e⟩
   ·cases q:G.h₀.get? b with
    | none=>rfl
    | some ob=>rw[R.base b ob q] at fa;cases fa
   ·exact R.apart b (.inl ⟨l,.inl e⟩)
  ·rcases nd e with ⟨_,e⟩ | ⟨_,e⟩
   ·cases q:G.h₀.get? b with
    | none=>rfl
    | some ob=>have:=(fd b e).1;rw[R.base b ob q] at this;cases this
   ·exact R.apart b (.inl ⟨l,.inr e⟩)
  ·exact R.apart b (.inr e)
 ·rintro b (⟨l,e | e⟩ | e)
  ·rcases nr e with ⟨_,rfl⟩ | ⟨_,e⟩
   ·exact la
   ·obtain⟨ob,q⟩:=Option.isSome_iff_exists.mp (R.live b (.inl ⟨l,.inl e⟩));rw[hk b ob q];rfl
  ·rcases nd e with ⟨_,e⟩ | ⟨_,e⟩
   ·exact(fd b e).2.2
   ·obtain⟨ob,q⟩:=Option.isSome_iff_exists.mp (R.live b (.inl ⟨l,.inr e⟩));rw[hk b ob q];rfl
  ·obtain⟨ob,q⟩:=Option.isSome_iff_exists.mp (R.live b (.inr e));rw[hk b ob q];rfl
 ·rintro b p ⟨l,e | e⟩
  ·rcases nr e with ⟨_,rfl⟩ | ⟨_,e⟩
   ·exact na (.inr p)
   ·exact R.pv b p ⟨l,.inl e⟩
  ·rcases nd e with ⟨_,e⟩ | ⟨_,e⟩
   ·exact nx b e (.inr p)
   ·exact R.pv b p ⟨l,.inr e⟩
 ·intro l l' b e e'
  rcases nr e with ⟨q1,z1⟩ | ⟨_,e1⟩ <;> rcases nr e' with ⟨q,z⟩ | ⟨_,e2⟩
  ·exact q1.trans q.symm
  ·exact(na (.inl ⟨l',.inl (z1▸e2)⟩)).elim
  ·exact(na (.inl ⟨l,.inl (z▸e1)⟩)).elim
  ·exact R.injρ l l' b e1 e2
 ·intro l l' b e e'
  rcases nd e with ⟨q1,z1⟩ | ⟨_,e1⟩ <;> rcases nd e' with ⟨q,z⟩ | ⟨_,e2⟩
  ·exact q1.trans q.symm
  ·exact(nx b z1 (.inl ⟨l',.inr e2⟩)).elim
  ·exact(nx b z (.inl ⟨l,.inr e1⟩)).elim
  ·exact R.injδ l l' b e1 e2
 ·intro l l' b e e'
  rcases nr e with ⟨q1,z1⟩ | ⟨_,e1⟩ <;> rcases nd e' with ⟨q,z⟩ | ⟨_,e2⟩
  ·exact(fd b z).2.1 z1
  ·exact na (.inl ⟨l',.inr (z1▸e2)⟩)
  ·exact nx b z (.inl ⟨l,.inl e1⟩)
  ·exact R.two l l' b e1 e2
 ·intro l o' e
  change (if l=(k,st.cnt k) then some o else st.heap l)=some o' at e
  split at e
  ·rename_i q;cases e;subst q;exact hO
  ·exact(R.objs l o' e).step S (fun ξ x=>x.elim) fun b ob ξ e=>hk b ob e
 ·intro k' i e
  change (if k'=k then st.cnt k+1 else st.cnt k')<=i at e
  have ne:(k',i)≠(k,st.cnt k):=fun q=>by
   cases q;rw[Zg rfl] at e;lia
  have le:st.cnt k'<=i:=by
   by_cases q:k'=k
   ·subst q;rw[Zg rfl] at e;lia
   ·rw[Zh q] at e;exact e
  obtain⟨c1,c2,c3⟩:=R.cnt k' i le
  refine⟨?_,?_,?_⟩
  ·show(if (k',i)=(k,st.cnt k) then some a else t.ρ (k',i))=none
   rw[Zh ne];exact c1
  ·show(if (k',i)=(k,st.cnt k) then d else t.δ (k',i))=none
   rw[Zh ne];exact c2
  ·show(if (k',i)=(k,st.cnt k) then some o else st.heap (k',i))=none
   rw[Zh ne];exact c3
end
end Internal
end
section
namespace Internal
open PySem PySem.W PyProof.Rows
structure Names where
 fn:Nat->Qf
 cls:Nat->Qf
 meth:Nat->Qf
 attr:Nat->Qf
 exc:Nat->Qf
 gi:List (Qf×Int)
 gs:List (Qf×List Nat)
 xs:List (Qf×Nat)
 xf:Nat->Bool
 xm:Nat->Bool
 qf:Nat->Bool
noncomputable abbrev Sc:=List (Qf×NameKind)
noncomputable abbrev Gam:=List (Option Qf)
noncomputable def jp (sc:Sc) (x:Qf):Bool:=sc.lookup x == some .globalImplicit&&x != ("__debug__":Qf)
noncomputable def cw:Kind->Option Qf
 | .int=>some "int"
 | .bool=>some "bool"
 | .str=>some "str"
 | .list=>some "list"
 | .tuple=>some "tuple"
 | .valueError=>some "ValueError"
 | .cls _=>none
noncomputable def ph (N:Names) (sc:Sc) (k:Kind) (y:Qe):Bool:=match y with
 | .Name x _=>cw k == some x&&jp sc x
 | _=>false
noncomputable def ut (N:Names) (sc:Sc):List Kind->List Qe->Bool
 | [],[]=>true
 | k::ks,e::es=>ph N sc k e&&ut N sc ks es
 | _,_=>false
noncomputable def zs9:Bop->Operator
 | .add=>.Add | .sub=>.Sub | .mul=>.Mult | .fdiv=>.FloorDiv | .mod=>.Mod | .pow=>.Pow
noncomputable def ja:Cop->CmpOp
 | .eq=>.Eq | .ne=>.NotEq | .lt=>.Lt | .le=>.LtE | .gt=>.Gt | .ge=>.GtE | .isin=>.In | .notin=>.NotIn
noncomputable def vh:Prim->Qf
 | .len=>"len" | .max2=>"max" | .int1=>"int" | .sorted=>"sorted" | .tuple1=>"tuple" | .list1=>"list" | .all1=>"all"
noncomputable def zeb:Bm->Qf
 | .append=>"append" | .extend=>"extend" | .pop=>"pop" | .insert=>"insert" | .count=>"count" | .get=>"get" | .join=>"join" | .upper=>"upper"
noncomputable def qi (sc:Sc) (names:Sc):Sc:=names.map fun x=>if x.2 == .free&&sc.lookup x.1 == some .cell then (x.1,.cell) else x
noncomputable def j1 (sc':Sc) (Γ:Gam) (slot:Nat) (x:Qf):Gam:=(Γ.map fun y=>match y with | some n=>if sc'.lookup n == some .cell then some n else none | none=>none).set slot (some x)
noncomputable def iy (sc:Sc) (scope:Scope) (slot:Nat) (Γ:Gam) (x:Qf):Bool :=
 scope.kind == .function&&decide (slot < Γ.length)&&scope.names.lookup x == some .local &&
 scope.names.all (fun y=>y.2 != .cell&&(y.2 != .local||scope.names.lookup y.1 == some .local)&&(y.2 != .free||sc.lookup y.1 == some .cell))
noncomputable def sb:CmpOp->Bool->Bool
 | .Is,b=>!b
 | .IsNot,b=>b
 | _,_=>false
end Internal
end
section
namespace Internal
open PySem PySem.W PyProof.Rows
structure Dp where
 n:Nat
 q:Bool
structure AOk (d:Dp) (A:Around):Prop where
 hd:d.q=true->A.handled=none
 dep:A.depth+2*d.n+6<=recursionLimit
 un:A.units+20*d.n+110<=cLine
structure AC (d:Dp) (A:Around):Prop where
 hd:d.q=true->A.handled=none
 dep:A.depth+2*d.n+5<=recursionLimit
 un:A.units+20*d.n+105<=cLine
theorem AOk.ac {d:Dp}{A:Around} (h:AOk d A):AC d A:=⟨h.hd,by have:=h.dep;lia,by have:=h.un;lia⟩
structure Stk (A:Around) (t:Tie) (h:Heap):Prop where
 fr:A.frames=some t.st
 ob:∀ e,e∈t.st->e.scope.kind≠.module/\∃ L o,e.frame=some L/\t.pv L/\h.get? L=some o/\∀ vs,o.data≠.fields vs
theorem Stk.step {G:Gd}{A:Around}{X:Addr->Prop}{t t':Tie}{st:MS}{s s':Shared} (K:Stk A t s.heap) (R:Rel G t st s) (S:Step X t t' s s') (hX:∀ a,X a->t.Fr a->∀ o,s'.heap.get? a=some o->∀ vs,o.data≠.fields vs):Stk A t' s'.heap where
 fr:=by rw[S.le.st];exact K.fr
 ob e he:=by
  rw[S.le.st] at he
  obtain⟨h1,L,o,h2,h3,h4,h5⟩:=K.ob e he
  refine⟨h1,L,?_⟩
  by_cases x:X L
  ·obtain⟨o',e'⟩:=Option.isSome_iff_exists.mp (S.live L o h4)
   exact⟨o',h2,by rw[S.le.pv];exact h3,e',hX L x ⟨h3,e,he,h2⟩ o' e'⟩
  ·obtain⟨sl,e'⟩:=S.slots L o h4 (R.pv L h3) x ⟨h3,e,he,h2⟩
   exact⟨_,h2,by rw[S.le.pv];exact h3,e',h5⟩
theorem Stk.step0 {G:Gd}{A:Around}{t t':Tie}{st:MS}{s s':Shared} (K:Stk A t s.heap) (R:Rel G t st s) (S:Step noX t t' s s'):Stk A t' s'.heap:=K.step R S fun ξ x=>x.elim
theorem Stk.fresh {A:Around}{t:Tie}{h:Heap} (K:Stk A t h) {P:Addr->Prop}{a:Addr} (np:h.get? a=none):¬ (t.hide P).Fr a:=fun f=>by
 obtain⟨-,e,h1,h2⟩:=f
 obtain⟨-,L,o,h3,-,h4,-⟩:=K.ob e h1
 rw[h3] at h2;cases h2
 rw[np] at h4;exact za h4
theorem Step.pvk {G:Gd}{X:Addr->Prop}{t t':Tie}{st:MS}{s s':Shared} (S:Step X t t' s s') (R:Rel G t st s) {a:Addr}{o:Obj} (hp:t.pv a) (nx:¬ X a) (e:s.heap.get? a=some o):∃ sl,s'.heap.get? a=some {o with slots:=sl}:=by
 by_cases f:t.Fr a
 ·exact S.slots a o e (R.pv a hp) nx f
 ·exact⟨o.slots,S.keep a o e (R.pv a hp) nx f⟩
structure FrOk (G:Gd) (A:Around) (t:Tie) (env:Env) (Γ:Gam) (loc:Loc) (s:Shared):Prop where
 sk:Stk A t s.heap
 fn:env.scope.kind=.function
 gl:env.globals=mainGlobals
 bl:env.builtins=builtinsNs
 pvl:t.pv env.locals
 pvc:∀ n c,env.cells.lookup n=some c->t.pv c
 apart:∀ n n' c,env.cells.lookup n=some c->env.cells.lookup n'=some c->n=n'
 ex:∃ m cm:Qf->Option Value,s.heap.Ns env.locals m/\(∀ n c,env.cells.lookup n=some c->s.heap.IsCell c (cm n))/\(∀ x,env.kindOf x=some .cell->(env.cells.lookup x).isSome=true) /\
  ∀ (i:Nat) (x:Qf) (X:V),Γ[i]?=some (some x)->loc[i]?=some (some X)->∃ v,VRel t s.heap X v/\((env.kindOf x=some .local/\m x=some v)\/(env.kindOf x=some .cell/\cm x=some v))
theorem FrOk.step {G:Gd}{A:Around}{t t':Tie}{env:Env}{Γ:Gam}{loc:Loc}{st:MS}{s s':Shared} (F:FrOk G A t env Γ loc s) (R:Rel G t st s) (S:Step noX t t' s s'):FrOk G A t' env Γ loc s' where
 sk:=F.sk.step0 R S
 fn:=F.fn
 gl:=F.gl
 bl:=F.bl
 pvl:=by rw[S.le.pv];exact F.pvl
 pvc n c h:=by rw[S.le.pv];exact F.pvc n c h
 apart:=F.apart
 ex:=by
  obtain⟨m,cm,⟨o,es,ep,ho,r⟩,hc,hz,hs⟩:=F.ex
  obtain⟨sl,ho'⟩:=Step.pvk S R F.pvl (fun q=>q) ho
  refine⟨m,cm,⟨_,es,ep,ho',r⟩,fun n c e=>?_,hz,fun i x X e1 e2=>?_⟩
  ·obtain⟨oc,h1,h2⟩:=hc n c e
   obtain⟨sl,h1'⟩:=Step.pvk S R (F.pvc n c e) (fun q=>q) h1
   exact⟨_,h1',h2⟩
  ·obtain⟨v,hv,r⟩:=hs i x X e1 e2
   exact⟨v,VRel.step S (fun ξ q=>q.elim) X hv,r⟩
noncomputable def Sim (G:Gd) (A:Around) {α:Type} (t:Tie) (s:Shared) (tree:Sem α) (st':MS) (rel:Tie->Shared->α->Prop):Prop :=
 ∀ (Q:α->Shared->Prop) (E:Value->Shared->Prop),(∀ v t' s',Step noX t t' s s'->Rel G t' st' s'->rel t' s' v->Q v s')->wpAny G.M A tree Q E s
noncomputable abbrev qo (X:V):Tie->Shared->Value->Prop:=fun t s v=>VRel t s.heap X v
noncomputable abbrev zu8 (X:List V):Tie->Shared->List Value->Prop:=fun t s v=>VRels t s.heap X v
theorem Sim.ok {G:Gd}{A:Around}{t:Tie}{s:Shared}{tree:Sem Value}{X Z:V}{st st':MS} (e:Res.ok X st=.ok Z st') (h:Sim G A t s tree st (qo X)):Sim G A t s tree st' (qo Z):=by cases e;exact h
theorem Res.bind_ok {α β:Type}{r:Res α}{f:α->MS->Res β}{b:β}{s':MS} (e:r.bind f=.ok b s'):∃ a s,r=.ok a s/\f a s=.ok b s':=by
 cases r with
 | ok a s=>exact⟨a,s,rfl,e⟩
 | exc _ _=>cases e
 | stuck=>exact zb e
theorem Res.bnd_ok {α β:Type}{r:Res α}{f:α->MS->Res β}{b:β}{s':MS} (e:r.bnd f=.ok b s'):∃ a s,r=.ok a s/\f a s=.ok b s':=by
 cases r with
 | ok a s=>exact⟨a,s,rfl,e⟩
 | exc _ _=>exact zb e
 | stuck=>exact zb e
theorem Res.bnd_exc {α β:Type}{r:Res α}{f:α->MS->Res β}{c:Nat}{s':MS} (e:r.bnd f=.exc c s'):∃ a s,r=.ok a s/\f a s=.exc c s':=by
 cases r with
 | ok a s=>exact⟨a,s,rfl,e⟩
 | exc _ _=>cases e
 | stuck=>cases e
theorem Res.bind_exc {α β:Type}{r:Res α}{f:α->MS->Res β}{c:Nat}{s':MS} (e:r.bind f=.exc c s'):r=.exc c s'\/∃ a s,r=.ok a s/\f a s=.exc c s':=by
 cases r with
 | ok a s=>exact .inr ⟨a,s,rfl,e⟩
 | exc _ _=>cases e;exact .inl rfl
 | stuck=>cases e
noncomputable def md (G:Gd) (C:Calls) (d:Dp) (f:Nat):Prop :=
 ∀ vs st X st',C f vs st=.ok X st'->∀ A,AC d A->∃ a,G.fa f=some a/\∀ t s args,Stk A t s.heap->Rel G t st s->VRels t s.heap vs args->∀ (B:Result->Shared->Prop),
  (∀ v t' s',Step noX t t' s s'->Rel G t' st' s'->VRel t' s'.heap X v->B (.ok (.ret v)) s')->codeAny G.M A (.call (.ref a) ⟨args,[]⟩) B s
noncomputable def lu (G:Gd) (C:Calls) (d:Dp):Prop:=∀ f,md G C d f
structure Gd.Ok (G:Gd) (N:Names):Prop where
 K:G.K.In G.h₀
 g:G.h₀.Ns mainGlobals G.mg
 b:G.h₀.Ns builtinsNs G.mb
 bi:∀ x:Qf,x≠"__name__"->G.mb x=bootBuiltins x
 lim:G.h₀.NoLimit
 gi:∀ x i,N.gi.contains (x,i)=true->∃ k,G.mg x=some (.int i k)
 gs:∀ x l,N.gs.contains (x,l)=true->∃ k,G.mg x=some (.str (z7 l) k)
 an:∀ i j,G.an i=G.an j->i=j
 attr:N.attr=G.an
 none:∀ x,x∈(["len","max","int","sorted","tuple","list","all","isinstance","range","dict","bool","str","ValueError"]:List Qf)->G.mg x=none
noncomputable def z0 (G:Gd) (C:Calls) (d:Dp) (sc:Sc) (Γ:Gam) (e:E) (ast:Qe):Prop :=
 ∀ t st s env loc X st' A,AOk d A->env.scope.names=sc->FrOk G A t env Γ loc s->Rel G t st s->ev G.P C e loc st=.ok X st'->Sim G A t s (eval ast env) st' (qo X)
noncomputable def vi (G:Gd) (C:Calls) (d:Dp) (sc:Sc) (Γ:Gam) (l:List E) (m:List Qe):Prop :=
 ∀ pos t st s env loc Xs st' A,AOk d A->env.scope.names=sc->FrOk G A t env Γ loc s->Rel G t st s->evL G.P C l loc st=.ok Xs st'->Sim G A t s (spliced (backTo pos (starEach m env))) st' (zu8 Xs)
section
variable {G:Gd}{N:Names}{C:Calls}{d:Dp}{sc:Sc}{Γ:Gam}
theorem Sim.here {A:Around}{α:Type}{t:Tie}{st:MS}{s:Shared}{tree:Sem α}{rel:Tie->Shared->α->Prop} (R:Rel G t st s)
  (h:∀ (Q:α->Shared->Prop) (E:Value->Shared->Prop),(∀ v tk,rel t {s with toks:=tk} v->Q v {s with toks:=tk})->wpAny G.M A tree Q E s):Sim G A t s tree st rel :=
 fun Q E k=>h Q E fun v tk r=>k v t _ (Step.toks _ t s tk) (R.toks tk) r
theorem VRel.flat {t:Tie}{h h':Heap}{X:V}{v:Value} (r:VRel t h X v) (e:h'=h):VRel t h' X v:=e▸r
theorem zkb {k:Nat}{pos:Pos}:z0 G C d sc Γ .none (.Constant .none k pos):=by
 intro t st s env loc X st' A hA hsc F R e
 cases e
 exact Sim.here R fun Q E k=>fun ξ ξ ξ=>k .none s.toks rfl
theorem zob {b:Bool}{k:Nat}{pos:Pos}:z0 G C d sc Γ (.bool b) (.Constant (.bool b) k pos):=by
 intro t st s env loc X st' A hA hsc F R e
 cases e
 exact Sim.here R fun Q E k=>fun ξ ξ ξ=>k (.bool b) s.toks rfl
theorem zo2 {i:Int}{k:Nat}{pos:Pos}:z0 G C d sc Γ (.int i) (.Constant (.int i) k pos):=by
 intro t st s env loc X st' A hA hsc F R e
 cases e
 exact Sim.here R fun Q E k=>wpAny_Constant_int (k _ _ ⟨_,rfl⟩)
theorem zfq {x:List Nat}{k:Nat}{pos:Pos}:z0 G C d sc Γ (.str x) (.Constant (.str (z7 x)) k pos):=by
 intro t st s env loc X st' A hA hsc F R e
 cases e
 exact Sim.here R fun Q E k=>wpAny_Constant_str (k _ _ ⟨_,rfl⟩)
set_option tactic.hygienic true in
theorem zrh {i:Nat}{x:Qf}{pos:Pos} (hx:Γ[i]?=some (some x)) (hd:(x == ("__debug__":Qf))=false):z0 G C d sc Γ (.loc i) (.Name x pos):=by
 intro t st s env loc X st' A hA hsc F R e
 rw[zsr] at e
 split at e
 ·rename_i v hv
  cases e
  obtain⟨m,cm,hn,hc,hz,hs⟩:=F.ex
  obtain⟨y,hy,r⟩:=hs i x X hx hv
  refine Sim.here R fun Q E k=>wpAny_Name ?_ hd
  rcases r with ⟨hk,hm⟩ | ⟨hk,hm⟩
  ·exact wpAny_loadName_local F.fn hk hn hm (k y s.toks hy)
  ·obtain⟨c,hcl⟩:=Option.isSome_iff_exists.mp (hz x hk)
   exact wpAny_loadName_cell F.fn hk hcl (hm▸hc x c hcl) (k y s.toks hy)
 ·exact zb e
theorem kb {A:Around}{t:Tie}{st:MS}{s:Shared}{env:Env}{loc:Loc}{x:Qf}{pos:Pos}{v:Value}{Q:Value->Shared->Prop}{E:Value->Shared->Prop} (O:G.Ok N) (F:FrOk G A t env Γ loc s) (R:Rel G t st s)
  (hsc:env.scope.names=sc) (hg:jp sc x=true) (hm:G.mg x=some v) (h:Q v s):wpAny G.M A (eval (.Name x pos) env) Q E s:=by
 simp only[jp,Bool.and_eq_true,beq_iff_eq,bne_iff_ne,ne_eq] at hg
 refine Calls.Name_function_global F.fn (by unfold Env.kindOf;rw[hsc];exact hg.1) (Calls.loadGlobal_global (by rw[F.gl];exact O.g.keeps R.base) hm h) (by simpa using hg.2)
theorem ze4 {A:Around}{t:Tie}{st:MS}{s:Shared}{env:Env}{loc:Loc}{x:Qf}{pos:Pos}{v:Value}{Q:Value->Shared->Prop}{E:Value->Shared->Prop} (O:G.Ok N) (F:FrOk G A t env Γ loc s) (R:Rel G t st s)
  (hsc:env.scope.names=sc) (hg:jp sc x=true) (hm:G.mg x=none) (hb:bootBuiltins x=some v) (hn:x≠"__name__") (h:Q v s):wpAny G.M A (eval (.Name x pos) env) Q E s:=by
 simp only[jp,Bool.and_eq_true,beq_iff_eq,bne_iff_ne,ne_eq] at hg
 refine Calls.Name_function_global F.fn (by unfold Env.kindOf;rw[hsc];exact hg.1) (Calls.loadGlobal_builtin (by rw[F.gl];exact O.g.keeps R.base) hm (by rw[F.bl];exact O.b.keeps R.base) ((O.bi x hn).trans hb) h) (by simpa using hg.2)
theorem zme (O:G.Ok N) {x:Qf}{i:Int}{pos:Pos} (hg:jp sc x=true) (hi:N.gi.contains (x,i)=true):z0 G C d sc Γ (.gint x i) (.Name x pos):=by
 intro t st s env loc X st' A hA hsc F R e
 cases e
 obtain⟨k',hk⟩:=O.gi x i hi
 exact Sim.here R fun Q E k=>kb O F R hsc hg hk (k _ s.toks ⟨_,rfl⟩)
theorem zm7 (O:G.Ok N) {x:Qf}{l:List Nat}{pos:Pos} (hg:jp sc x=true) (hi:N.gs.contains (x,l)=true):z0 G C d sc Γ (.gstr x l) (.Name x pos):=by
 intro t st s env loc X st' A hA hsc F R e
 cases e
 obtain⟨k',hk⟩:=O.gs x l hi
 exact Sim.here R fun Q E k=>kb O F R hsc hg hk (k _ s.toks ⟨_,rfl⟩)
theorem yi:vi G C d sc Γ [] []:=by
 intro pos t st s env loc X st' A hA hsc F R e
 cases e
 exact fun Q E k=>Calls.spliced_nil (k [] t s (.refl _ _ _) R rfl)
theorem vq {e:E}{l:List E}{x:Qe}{m:List Qe} (hx:isStarred x=false) (h1:z0 G C d sc Γ e x) (h2:vi G C d sc Γ l m):vi G C d sc Γ (e::l) (x::m):=by
 intro pos t st s env loc X st' A hA hsc F R q
 rw[y7] at q
 obtain⟨v,s1,q1,q⟩:=Res.bind_ok q
 obtain⟨vs,s2,q2,q⟩:=Res.bind_ok q
 cases q
 intro Q E k
 have he:starEach (x::m) env=(false,eval x env)::starEach m env:=by cases x <;> first | rfl | exact zgd hx
 refine wpAny_items_cons (h1 t st s env loc v s1 A hA hsc F R q1 _ _ fun y t1 σ1 S1 R1 r1=>?_) he
 refine h2 pos t1 s1 σ1 env loc vs st' A hA hsc (F.step R S1) R1 q2 _ _ fun ys t2 σ2 S2 R2 r2=>?_
 exact k _ t2 σ2 (S1.trans S2) R2 ⟨y,ys,rfl,VRel.step S2 (fun ξ z=>z.elim) v r1,r2⟩
end
end Internal
end
section
namespace Internal
open PySem PySem.W PyProof.Rows PySem.SeqAt
section
variable {G:Gd}{t:Tie}{st:MS}{s:Shared}
set_option tactic.hygienic true in
theorem qa (R:Rel G t st s) {X:V}{v:Value}{k:Bool}{l:List V} (r:VRel t s.heap X v) (e:zr st X=some (k,l)) :
  ∃ a vs,v=.ref a/\(if k=true then PL s.heap a vs else PT s.heap a vs)/\VRels t s.heap l vs.toList/\l.length<=ze:=by
 cases X with
 | tup m=>cases e;obtain⟨a,vs,e1,e2,_,sz,e3⟩:=r;exact⟨a,vs,e1,e2,e3,sz⟩
 | lst m=>cases e;obtain⟨a,vs,e1,e2,_,sz,e3⟩:=r;exact⟨a,vs,e1,e2,e3,sz⟩
 | ref lb =>
  simp only[zr] at e
  split at e
  ·rename_i m hm
   cases e
   obtain⟨a,vs,h1,h2,sz,h3⟩:=R.objs lb _ hm
   obtain⟨a',e1,e2⟩:=r
   rw[h1] at e2;cases e2
   exact⟨a,vs,e1,h2,h3,sz⟩
  ·exact za e
 | _=>exact za e
noncomputable def vk (t:Tie) (h:Heap) (v:Value):Nat:=match v with
 | .none=>0
 | .bool _=>1
 | .int _ _=>2
 | .str _ _=>3
 | .ref a=>@ite Nat (∃ l,t.ρ l=some a) (Classical.propDecidable _) 6 ((h.get? a).elim 7 fun o=>@ite Nat (o.cls=.type "tuple") (Classical.propDecidable _) 4 (@ite Nat (o.cls=.type "list") (Classical.propDecidable _) 5 7))
 | _=>8
theorem zd0 {h:Heap}{a:Addr}{o:Obj} (ho:h.get? a=some o) (na:¬ t.Avoid a):vk t h (.ref a)=@ite Nat (o.cls=.type "tuple") (Classical.propDecidable _) 4 (@ite Nat (o.cls=.type "list") (Classical.propDecidable _) 5 7):=by
 have n1:¬ ∃ l,t.ρ l=some a:=fun ⟨l,q⟩=>na (.inl ⟨l,.inl q⟩)
 show @ite Nat (∃ l,t.ρ l=some a) (Classical.propDecidable _) 6 ((h.get? a).elim 7 _)=_
 rw[Zh n1,ho];rfl
theorem oq:¬ (Value.type "list"=.type "tuple"):=by decide
theorem VRel.kind {h:Heap}:∀ {X:V}{v:Value},VRel t h X v->vk t h v=X.ctorIdx
 | .none,_,e=>by rw[show _=_ from e];rfl
 | .bool b,_,e=>by rw[show _=_ from e];rfl
 | .int i,_,⟨k,e⟩=>by rw[e];rfl
 | .str x,_,⟨k,e⟩=>by rw[e];rfl
 | .tup l,_,⟨a,vs,e,⟨n,ho⟩,na,_⟩=>by rw[e,zd0 ho na,Zg rfl];rfl
 | .lst l,_,⟨a,vs,e,⟨n,ho⟩,na,_⟩=>by rw[e,zd0 ho na,Zh oq,Zg rfl];rfl
 | .ref l,_,⟨a,e,hl⟩=>by
  rw[e]
  show @ite Nat (∃ l,t.ρ l=some a) (Classical.propDecidable _) 6 _=_
  rw[Zg ⟨l,hl⟩];rfl
 | .exc c,_,⟨a,o,e,ho,hc,na⟩=>by rw[e,zd0 ho na,hc,Zh nofun,Zh nofun];rfl
theorem lz {a b:Addr} (e:Value.ref a=.ref b):a=b:=by cases e;rfl
mutual
theorem VRel.inj (R:Rel G t st s):∀ (X Y:V) {v:Value},VRel t s.heap X v->VRel t s.heap Y v->X=Y
 | .none,Y,v,h,h'=>V.none.elim (motive_1:=fun Y=>V.none=Y) Y (h'.kind.symm.trans h.kind) rfl
 | .bool b,Y,v,h,h'=>V.bool.elim (motive_1:=fun Y=>VRel t s.heap Y v->V.bool b=Y) Y (h'.kind.symm.trans h.kind) (fun b' h'=>by
  have e:Value.bool b=.bool b':=(show v=.bool b from h).symm.trans h'
  cases e;rfl) h'
 | .int i,Y,v,h,h'=>V.int.elim (motive_1:=fun Y=>VRel t s.heap Y v->V.int i=Y) Y (h'.kind.symm.trans h.kind) (fun i' h'=>by
  obtain⟨k,e⟩:=h
  obtain⟨k',e'⟩:=h'
  rw[e] at e';cases e';rfl) h'
 | .str x,Y,v,h,h'=>V.str.elim (motive_1:=fun Y=>VRel t s.heap Y v->V.str x=Y) Y (h'.kind.symm.trans h.kind) (fun y h'=>by
  obtain⟨k,e⟩:=h
  obtain⟨k',e'⟩:=h'
  rw[e] at e'
  simp only[Value.str.injEq,Str.mk.injEq] at e'
  have:=Qd Array.toList e'.1
  simp only[List.toList_toArray] at this
  rw[this]) h'
 | .tup l,Y,v,h,h'=>V.tup.elim (motive_1:=fun Y=>VRel t s.heap Y v->V.tup l=Y) Y (h'.kind.symm.trans h.kind) (fun m h'=>by
  obtain⟨a,vs,e,⟨n,ho⟩,_,_,hr⟩:=h
  obtain⟨b,ws,e',⟨n',ho'⟩,_,_,hr'⟩:=h'
  cases lz (e.symm.trans e')
  rw[ho] at ho';cases ho'
  rw[VRels.inj R l m hr hr']) h'
 | .lst l,Y,v,h,h'=>V.lst.elim (motive_1:=fun Y=>VRel t s.heap Y v->V.lst l=Y) Y (h'.kind.symm.trans h.kind) (fun m h'=>by
  obtain⟨a,vs,e,⟨n,ho⟩,_,_,hr⟩:=h
  obtain⟨b,ws,e',⟨n',ho'⟩,_,_,hr'⟩:=h'
  cases lz (e.symm.trans e')
  rw[ho] at ho';cases ho'
  rw[VRels.inj R l m hr hr']) h'
 | .ref l,Y,v,h,h'=>V.ref.elim (motive_1:=fun Y=>VRel t s.heap Y v->V.ref l=Y) Y (h'.kind.symm.trans h.kind) (fun r h'=>by
  obtain⟨a,e,hl⟩:=h
  obtain⟨b,e',hb⟩:=h'
  cases lz (e.symm.trans e')
  rw[R.injρ l r a hl hb]) h'
 | .exc c,Y,v,h,h'=>V.exc.elim (motive_1:=fun Y=>VRel t s.heap Y v->V.exc c=Y) Y (h'.kind.symm.trans h.kind) (fun c' h'=>by
  obtain⟨a,o,e,ho,hc,_⟩:=h
  obtain⟨b,o',e',ho',hc',_⟩:=h'
  cases lz (e.symm.trans e')
  rw[ho] at ho';cases ho'
  rw[hc] at hc';cases hc';rfl) h'
theorem VRels.inj (R:Rel G t st s):∀ (l m:List V) {vs:List Value},VRels t s.heap l vs->VRels t s.heap m vs->l=m
 | [],[],vs,h,h'=>rfl
 | [],y::m,vs,h,h'=>by
  obtain⟨_,_,e,_⟩:=h'
  rw[show vs=[] from h] at e;cases e
 | x::l,[],vs,h,h'=>by
  obtain⟨_,_,e,_⟩:=h
  rw[show vs=[] from h'] at e;cases e
 | x::l,y::m,vs,h,h'=>by
  obtain⟨v,r,e,a,b⟩:=h
  obtain⟨v',r',e',a',b'⟩:=h'
  rw[e] at e';cases e'
  rw[VRel.inj R x y a a',VRels.inj R l m b b']
end
noncomputable def vv (st:MS) (n:Nat) (la lb:List V) (j:Nat):Bool:=(veq st n ((la[j]?).getD .none) ((lb[j]?).getD .none)).getD false
theorem zqc {f:V->V->Option Bool}{x y:V}{la lb:List V}{r:Bool} (e:qm f (x::la) (y::lb)=some r):∃ p q,f x y=some p/\qm f la lb=some q/\r=(p&&q):=by
 have e:(match f x y,qm f la lb with | some p,some q=>some (p&&q) | _,_=>none)=some r:=e
 cases hp:f x y with
 | none=>rw[hp] at e;exact za e
 | some p =>
  cases hq:qm f la lb with
  | none=>rw[hp,hq] at e;exact za e
  | some q=>rw[hp,hq] at e;cases e;exact⟨p,q,rfl,rfl,rfl⟩
theorem uw (st:MS) (n:Nat):∀ (la lb:List V) (r:Bool),qm (veq st n) la lb=some r->
  (∀ (j:Nat) (x y:V),la[j]?=some x->lb[j]?=some y->∃ b,veq st n x y=some b)/\r=((List.range (min la.length lb.length)).all (vv st n la lb)&&la.length == lb.length)
 | [],[],r,e=>by cases e;exact⟨fun j x y e=>(by cases e),rfl⟩
 | [],y::lb,r,e=>by cases e;exact⟨fun j x y e=>(by cases e),by rw[List.length_nil,Nat.zero_min];rfl⟩
 | x::la,[],r,e=>by cases e;exact⟨fun j x y ξ e=>(by cases e),by rw[List.length_nil,Nat.min_zero];rfl⟩
 | x::la,y::lb,r,e=>by
  obtain⟨p,q,hp,hq,rfl⟩:=zqc e
  obtain⟨h1,h2⟩:=uw st n la lb q hq
  refine⟨fun j x' y' e1 e2=>?_,?_⟩
  ·cases j with
   | zero=>cases e1;cases e2;exact⟨p,hp⟩
   | succ j=>exact h1 j x' y' e1 e2
  ·have hv:vv st n (x::la) (y::lb) 0=p:=by show(veq st n x y).getD false=p;rw[hp];rfl
   rw[Z4,Z4,Nat.add_min_add_right,List.range_succ_eq_map,List.all_cons,List.all_map,hv,h2,Bool.and_assoc]
   rw[show(la.length+1 == lb.length+1)=(la.length == lb.length) by rw[Bool.eq_iff_iff,beq_iff_eq,beq_iff_eq];exact Nat.add_right_cancel_iff];rfl
theorem zgu {f:V->V->Option Bool} (h:∀ x b,f x x=some b->b=true):∀ (l:List V) (r:Bool),qm f l l=some r->r=true
 | [],_,e=>by cases e;rfl
 | x::l,r,e=>by
  have e:(match f x x,qm f l l with | some p,some q=>some (p&&q) | _,_=>none)=some r:=e
  cases hp:f x x with
  | none=>rw[hp] at e;exact za e
  | some p =>
   cases hq:qm f l l with
   | none=>rw[hp,hq] at e;exact za e
   | some q =>
    rw[hp,hq] at e
    cases e
    rw[h x p hp,zgu h l q hq];rfl
theorem zkc {X:V}{r:Bool} (e:ma X X=some r):r=true:=by
 cases X with
 | bool b=>cases e;cases b <;> rfl
 | int i=>cases e;exact Zb rfl
 | str x=>cases e;exact Zb rfl
 | none=>cases e;rfl
 | _=>exact za e
theorem zcp (st:MS):∀ (n:Nat) (X:V) (r:Bool),veq st n X X=some r->r=true
 | 0,_,_,e=>by exact za e
 | n+1,X,r,e=>by
  have e:(match zr st X,zr st X with
   | some p,some q=>if p.1=q.1 then (if p.1=true/\p.2.length≠q.2.length then some false else qm (veq st n) p.2 q.2) else some false
   | some _,Option.none=>xt X
   | .none,some _=>xt X
   | .none,Option.none=>ma X X)=some r:=e
  cases h:zr st X with
  | none=>rw[h] at e;exact zkc e
  | some p =>
   rw[h] at e
   have e:(if p.1=p.1 then (if p.1=true/\p.2.length≠p.2.length then some false else qm (veq st n) p.2 p.2) else some false)=some r:=e
   rw[Zg rfl,Zh fun q=>q.2 rfl] at e
   exact zgu (zcp st n) p.2 r e
theorem VRels.at {h:Heap}{l:List V}{vs:Array Value} (r:VRels t h l vs.toList) {j:Nat} (hj:j < vs.size):∃ x,l[j]?=some x/\VRel t h x vs[j]:=by
 have hl:=r.length
 have:j < l.length:=by rw[<- hl];simpa using hj
 obtain⟨v,e1,e2⟩:=r.get (i:=j) (x:=l[j]) (by simp[this])
 refine⟨l[j],by simp[this],?_⟩
 rw[Array.getElem?_toList,Array.getElem?_eq_getElem hj] at e1
 cases e1;exact e2
noncomputable abbrev RR (A:Around) (s:Shared) (v w:Value) (r:Bool):Prop:=RcAt A s v w r/\RcNeAt A s v w (!r)
theorem q7 {A:Around}{v v' w w':Value}{r r':Bool} (hv:v=v') (hw:w=w') (h1:RcAt A s v' w' r') (h2:RcNeAt A s v' w' (!r')) (e:some r'=some r):RR A s v w r:=by
 subst hv hw;cases e;exact⟨h1,h2⟩
theorem zvn (a b:List Nat):(z7 a == z7 b)=decide (a=b):=by
 by_cases q:a=b
 ·subst q;rw[Zb rfl];exact beq_self_eq_true _
 ·rw[Zc q]
  exact beq_false_of_ne fun z=>q (by injection z with z;exact Qd Array.toList z)
theorem zp5 {A:Around}{X Y:V}{v w:Value}{r:Bool} (e:ma X Y=some r) (hX:VRel t s.heap X v) (hY:VRel t s.heap Y w):RR A s v w r:=by
 cases X with
 | none=>cases Y with
  | none=>exact q7 hX hY RcAt.none_none RcNeAt.none_none e
  | bool y=>exact q7 hX hY (RcAt.none_bool _) (RcNeAt.none_bool _) e
  | int y=>exact hY.elim fun ξ hw=>q7 hX hw (RcAt.none_int _ _) (RcNeAt.none_int _ _) e
  | str y=>exact hY.elim fun ξ hw=>q7 hX hw (RcAt.none_str _ _) (RcNeAt.none_str _ _) e
  | _=>exact za e
 | bool x=>cases Y with
  | none=>exact q7 hX hY (RcAt.bool_none _) (RcNeAt.bool_none _) e
  | bool y=>exact q7 hX hY (RcAt.bool_bool _ _) (RcNeAt.bool_bool _ _) e
  | str y=>exact hY.elim fun ξ hw=>q7 hX hw (RcAt.bool_str _ _ _) (RcNeAt.bool_str _ _ _) e
  | _=>exact za e
 | int x =>
  obtain⟨_,hX⟩:=hX
  cases Y with
  | none=>exact q7 hX hY (RcAt.int_none _ _) (RcNeAt.int_none _ _) e
  | int y=>exact hY.elim fun ξ hw=>q7 hX hw (RcAt.int_int _ _ _ _) (RcNeAt.int_int _ _ _ _) e
  | str y=>exact hY.elim fun ξ hw=>q7 hX hw (RcAt.int_str _ _ _ _) (RcNeAt.int_str _ _ _ _) e
  | _=>exact za e
 | str x =>
  obtain⟨_,hX⟩:=hX
  cases Y with
  | none=>exact q7 hX hY (RcAt.str_none _ _) (RcNeAt.str_none _ _) e
  | bool y=>exact q7 hX hY (RcAt.str_bool _ _ _) (RcNeAt.str_bool _ _ _) e
  | int y=>exact hY.elim fun ξ hw=>q7 hX hw (RcAt.str_int _ _ _ _) (RcNeAt.str_int _ _ _ _) e
  | str y=>exact hY.elim fun ξ hw=>q7 hX hw (RcAt.str_str _ _ _ _) (RcNeAt.str_str _ _ _ _) ((Qd some (zvn x y)).trans e)
  | _=>exact za e
 | _=>exact za e
theorem zqw {A:Around}{k:Bool}{a:Addr}{vs:Array Value}{Y:V}{w:Value}{r:Bool} (ia:if k=true then PL s.heap a vs else PT s.heap a vs) (hu:A.units < cLine) (e:xt Y=some r) (hY:VRel t s.heap Y w):RR A s (.ref a) w r:=by
 cases k with
 | true =>
  have ia:=PL.isList (show PL s.heap a vs from ia)
  cases Y with
  | none=>exact q7 rfl hY (RcAt.list_none ia hu) (RcNeAt.list_none ia hu) e
  | bool y=>exact q7 rfl hY (RcAt.list_bool _ ia hu) (RcNeAt.list_bool _ ia hu) e
  | int y=>exact hY.elim fun ξ hw=>q7 rfl hw (RcAt.list_int _ _ ia hu) (RcNeAt.list_int _ _ ia hu) e
  | str y=>exact hY.elim fun ξ hw=>q7 rfl hw (RcAt.list_str _ _ ia hu) (RcNeAt.list_str _ _ ia hu) e
  | _=>exact za e
 | false =>
  have ia:=PT.isTuple (show PT s.heap a vs from ia)
  cases Y with
  | none=>exact q7 rfl hY (RcAt.tuple_none ia hu) (RcNeAt.tuple_none ia hu) e
  | bool y=>exact q7 rfl hY (RcAt.tuple_bool _ ia hu) (RcNeAt.tuple_bool _ ia hu) e
  | int y=>exact hY.elim fun ξ hw=>q7 rfl hw (RcAt.tuple_int _ _ ia hu) (RcNeAt.tuple_int _ _ ia hu) e
  | str y=>exact hY.elim fun ξ hw=>q7 rfl hw (RcAt.tuple_str _ _ ia hu) (RcNeAt.tuple_str _ _ ia hu) e
  | _=>exact za e
theorem zpp {A:Around}{k:Bool}{a:Addr}{vs:Array Value}{Y:V}{w:Value}{r:Bool} (ia:if k=true then PL s.heap a vs else PT s.heap a vs) (hu:A.units < cLine) (e:xt Y=some r) (hY:VRel t s.heap Y w):RR A s w (.ref a) r:=by
 cases k with
 | true =>
  have ia:=PL.isList (show PL s.heap a vs from ia)
  cases Y with
  | none=>exact q7 hY rfl (RcAt.none_list ia hu) (RcNeAt.none_list ia hu) e
  | bool y=>exact q7 hY rfl (RcAt.bool_list _ ia hu) (RcNeAt.bool_list _ ia hu) e
  | int y=>exact hY.elim fun ξ hw=>q7 hw rfl (RcAt.int_list _ _ ia hu) (RcNeAt.int_list _ _ ia hu) e
  | str y=>exact hY.elim fun ξ hw=>q7 hw rfl (RcAt.str_list _ _ ia hu) (RcNeAt.str_list _ _ ia hu) e
  | _=>exact za e
 | false =>
  have ia:=PT.isTuple (show PT s.heap a vs from ia)
  cases Y with
  | none=>exact q7 hY rfl (RcAt.none_tuple ia hu) (RcNeAt.none_tuple ia hu) e
  | bool y=>exact q7 hY rfl (RcAt.bool_tuple _ ia hu) (RcNeAt.bool_tuple _ ia hu) e
  | int y=>exact hY.elim fun ξ hw=>q7 hw rfl (RcAt.int_tuple _ _ ia hu) (RcNeAt.int_tuple _ _ ia hu) e
  | str y=>exact hY.elim fun ξ hw=>q7 hw rfl (RcAt.str_tuple _ _ ia hu) (RcNeAt.str_tuple _ _ ia hu) e
  | _=>exact za e
theorem zl6 {A:Around}{k j:Bool}{a b:Addr}{vs ws:Array Value} (ia:if k=true then PL s.heap a vs else PT s.heap a vs) (ib:if j=true then PL s.heap b ws else PT s.heap b ws) (hu:A.units < cLine) (hk:¬ k=j):RR A s (.ref a) (.ref b) false:=by
 cases k with
 | true =>
  cases j with
  | true=>exact absurd rfl hk
  | false =>
   have ia:=PL.isList (show PL s.heap a vs from ia)
   have ib:=PT.isTuple (show PT s.heap b ws from ib)
   exact⟨RcAt.list_tuple ia ib hu,RcNeAt.list_tuple ia ib hu⟩
 | false =>
  cases j with
  | false=>exact absurd rfl hk
  | true =>
   have ia:=PT.isTuple (show PT s.heap a vs from ia)
   have ib:=PL.isList (show PL s.heap b ws from ib)
   exact⟨RcAt.tuple_list ia ib hu,RcNeAt.tuple_list ia ib hu⟩
theorem VRels.size {h:Heap}{l:List V}{vs:Array Value} (r:VRels t h l vs.toList):vs.size=l.length:=r.length
theorem zpe {A:Around}{n:Nat}{k:Bool}{a b:Addr}{vs ws:Array Value}{la lb:List V}{r:Bool} (ia:if k=true then PL s.heap a vs else PT s.heap a vs) (ib:if k=true then PL s.heap b ws else PT s.heap b ws) (hu:A.units < cLine)
  (ra:VRels t s.heap la vs.toList) (rb:VRels t s.heap lb ws.toList) (ih:∀ x y v w z,veq st n x y=some z->VRel t s.heap x v->VRel t s.heap y w->EqAt A.in1 s v w z)
  (e:(if k=true/\la.length≠lb.length then some false else qm (veq st n) la lb)=some r):RR A s (.ref a) (.ref b) r:=by
 have items (g1:∀ (j:Nat) (x y:V),la[j]?=some x->lb[j]?=some y->∃ b,veq st n x y=some b):∀ j (h1:j < vs.size) (h2:j < ws.size),EqAt A.in1 s vs[j] ws[j] (vv st n la lb j):=fun j h1 h2=>by
  obtain⟨x,q1,q2⟩:=ra.at h1
  obtain⟨y,q3,q4⟩:=rb.at h2
  obtain⟨z,hz⟩:=g1 j x y q1 q3
  delta vv
  rw[q1,q3,Option.getD_some,Option.getD_some,hz]
  exact ih x y _ _ z hz q2 q4
 cases k with
 | true =>
  have ia:=PL.isList (show PL s.heap a vs from ia)
  have ib:=PL.isList (show PL s.heap b ws from ib)
  by_cases hne:la.length=lb.length
  ·rw[Zh fun q=>q.2 hne] at e
   obtain⟨g1,g2⟩:=uw st n la lb r e
   have hz:vs.size=ws.size:=ra.size.trans (hne.trans rb.size.symm)
   have g2:r=(List.range vs.size).all (vv st n la lb):=by rw[g2,ra.size,hne,Nat.min_self,beq_self_eq_true,Bool.and_true]
   rw[g2]
   exact⟨RcAt.lists ia ib hz hu (items g1),RcNeAt.lists ia ib hz hu (items g1)⟩
  ·rw[Zg ⟨rfl,hne⟩] at e
   have hz:(vs.size != ws.size)=true:=by rw[ra.size,rb.size];exact bne_iff_ne.2 hne
   exact q7 rfl rfl (RcAt.lists_lengths ia ib hz hu) (RcNeAt.lists_lengths ia ib hz hu) e
 | false =>
  have ia:=PT.isTuple (show PT s.heap a vs from ia)
  have ib:=PT.isTuple (show PT s.heap b ws from ib)
  rw[Zh fun q=>z6 q.1] at e
  obtain⟨g1,g2⟩:=uw st n la lb r e
  rw[<- ra.size,<- rb.size] at g2
  rw[g2]
  exact⟨RcAt.tuples ia ib hu (items g1),RcNeAt.tuples ia ib hu (items g1)⟩
noncomputable def zk7:Value->Bool
 | .float _ _=>true
 | _=>false
theorem zi1 {v w:Value} (hv:zk7 v=false):eqBool v w=holding [v,w] (do
  if v == w then rule "eq-bool.same-object";return true
  truthOfDropped (<- richCompare .Eq v w)):=by
 cases v with
 | float=>exact zgd hv
 | _=>rfl
theorem zn6 {A:Around}{v w:Value}{k:Bool} (hv:zk7 v=false) (hne:v≠w) (h:RcAt A s v w k):EqAt A s v w k:=fun prog W E Q hq=>by
 rw[zi1 hv]
 refine wpAny_holding ?_
 refine wpAny_ite_split (fun hab=>absurd (eq_of_beq hab) hne) (fun ξ=>?_)
 exact Ze (h prog W E _ (wpAny_truthy_bool hq))
theorem VRel.noFlt {h:Heap}:∀ {X:V}{v:Value},VRel t h X v->zk7 v=false
 | .none,_,e=>by rw[show _=_ from e];rfl
 | .bool b,_,e=>by rw[show _=_ from e];rfl
 | .int i,_,⟨k,e⟩=>by rw[e];rfl
 | .str x,_,⟨k,e⟩=>by rw[e];rfl
 | .tup l,_,⟨a,vs,e,_⟩=>by rw[e];rfl
 | .lst l,_,⟨a,vs,e,_⟩=>by rw[e];rfl
 | .ref l,_,⟨a,e,hl⟩=>by rw[e];rfl
 | .exc c,_,⟨a,o,e,_⟩=>by rw[e];rfl
theorem zsi (R:Rel G t st s) {n:Nat}{X Y:V}{v w:Value}{r:Bool}{A:Around} (e:veq st n X Y=some r) (hX:VRel t s.heap X v) (hY:VRel t s.heap Y w) (h:RR A s v w r):EqAt A s v w r:=by
 by_cases q:v=w
 ·subst q
  cases VRel.inj R X Y hX hY
  rw[zcp st n X r e]
  exact EqAt.same _
 ·exact zn6 hX.noFlt q h.1
theorem zd8 (R:Rel G t st s):∀ (n:Nat) (X Y:V) (v w:Value) (r:Bool) (A:Around),veq st n X Y=some r->VRel t s.heap X v->VRel t s.heap Y w->A.units+n < cLine->RR A s v w r
 | 0,_,_,_,_,_,_,e,_,_,_=>za e
 | n+1,X,Y,v,w,r,A,e,hX,hY,hu=>by
  have e:(match zr st X,zr st Y with
   | some p,some q=>if p.1=q.1 then (if p.1=true/\p.2.length≠q.2.length then some false else qm (veq st n) p.2 q.2) else some false
   | some _,Option.none=>xt Y
   | .none,some _=>xt X
   | .none,Option.none=>ma X Y)=some r:=e
  have hu0:A.units < cLine:=Z7 (Nat.le_add_right _ _) hu
  cases hx:zr st X with
  | some p =>
   obtain⟨a,vs,rfl,ia,ra,_⟩:=qa R hX hx
   cases hy:zr st Y with
   | some q =>
    obtain⟨b,ws,rfl,ib,rb,_⟩:=qa R hY hy
    rw[hx,hy] at e
    have e:(if p.1=q.1 then (if p.1=true/\p.2.length≠q.2.length then some false else qm (veq st n) p.2 q.2) else some false)=some r:=e
    by_cases hk:p.1=q.1
    ·rw[Zg hk] at e
     rw[<- hk] at ib
     exact zpe ia ib hu0 ra rb (fun x y v w z hz hx hy=>zsi R hz hx hy (zd8 R n x y v w z A.in1 hz hx hy (show A.units+1+n < cLine by rw[Nat.add_assoc,Nat.add_comm 1];exact hu))) e
    ·rw[Zh hk] at e
     cases e
     exact zl6 ia ib hu0 hk
   | none=>rw[hx,hy] at e;exact zqw ia hu0 e hY
  | none =>
   cases hy:zr st Y with
   | some q =>
    obtain⟨b,ws,rfl,ib,rb,_⟩:=qa R hY hy
    rw[hx,hy] at e
    exact zpp ib hu0 e hX
   | none=>rw[hx,hy] at e;exact zp5 e hX hY
theorem zc4 (R:Rel G t st s) {n:Nat}{X Y:V}{v w:Value}{r:Bool}{A:Around} (e:veq st n X Y=some r) (hX:VRel t s.heap X v) (hY:VRel t s.heap Y w) (hu:A.units+n < cLine):RR A s v w r:=zd8 R n X Y v w r A e hX hY hu
theorem zhz (R:Rel G t st s) (n:Nat) (X Y:V) (v w:Value) (r:Bool) (A:Around) (e:veq st n X Y=some r) (hX:VRel t s.heap X v) (hY:VRel t s.heap Y w) (hu:A.units+n < cLine):EqAt A s v w r:=zsi R e hX hY (zd8 R n X Y v w r A e hX hY hu)
end
end Internal
end
section
namespace Internal
open PySem PySem.W PyProof.Rows PySem.SeqAt
section
variable {G:Gd}{t:Tie}{st:MS}{s:Shared}
theorem zrz {st:MS}{x y:V}{l:List V}{r:Bool} (e:vin st x (y::l)=some r):∃ p q,veq st j6 y x=some p/\vin st x l=some q/\r=(p||q):=by
 have e:(match veq st j6 y x,vin st x l with | some p,some q=>some (p||q) | _,_=>none)=some r:=e
 cases hp:veq st j6 y x with
 | none=>rw[hp] at e;exact za e
 | some p =>
  cases hq:vin st x l with
  | none=>rw[hp,hq] at e;exact za e
  | some q=>rw[hp,hq] at e;cases e;exact⟨p,q,rfl,rfl,rfl⟩
theorem zc1 (st:MS) (x:V):∀ (l:List V) (r:Bool),vin st x l=some r->(∀ y∈l,∃ b,veq st j6 y x=some b)/\r=l.any fun y=>(veq st j6 y x).getD false
 | [],r,e=>by cases e;exact⟨fun y h=>(by cases h),rfl⟩
 | y::l,r,e=>by
  obtain⟨p,q,hp,hq,rfl⟩:=zrz e
  obtain⟨h1,h2⟩:=zc1 st x l q hq
  refine⟨fun z hz=>?_,?_⟩
  ·rcases Zu.mp hz with rfl | hz
   ·exact⟨p,hp⟩
   ·exact h1 z hz
  ·rw[List.any_cons,hp,h2];rfl
end
end Internal
end
section
namespace Internal
open PySem PySem.W PyProof.Rows PySem.SeqAt
section
variable {G:Gd}{N:Names}{C:Calls}{d:Dp}{sc:Sc}{Γ:Gam}{t:Tie}{st st':MS}{s:Shared}{A:Around}{X Y Z:V}{v w:Value}
theorem AOk.u12 (h:AOk d A):A.units+j6 < cLine:=by have:=h.un;unfold j6;lia
theorem AOk.u1 (h:AOk d A):A.units < cLine:=by have:=h.un;omega
theorem DRel.find {h:Heap}:∀ {dd:List (V×V)}{kvs:List (Qf×Value)}{x:List Nat},DRel t h dd kvs->
  (match jh (.str x) dd with | some X=>∃ y,valueAt kvs (z7 x)=some y/\VRel t h X y | none=>valueAt kvs (z7 x)=none)
 | [],_,x,e=>by cases e;rfl
 | (k,u)::r,_,x,⟨z,y,rest,e1,e2,e3,e4⟩=>by
  subst e1 e2
  have ih:=DRel.find (x:=x) e4
  have hh:jh (.str x) ((V.str z,u)::r)=if decide (z=x)=true then some u else jh (.str x) r:=rfl
  rw[hh]
  by_cases q:z=x
  ·subst q;rw[Zg (Zb rfl)];exact⟨y,by simp[valueAt],e3⟩
  ·rw[Zh (by rw[Zc q];exact Z8)]
   have q2:¬ (z7 z=z7 x):=fun z'=>q (by simpa using Qd Array.toList (Str.mk.inj z'))
   have:valueAt ((z7 z,y)::rest) (z7 x)=valueAt rest (z7 x):=by simp[valueAt,q2]
   rw[this];exact ih
theorem ztr {h:Heap}:∀ {m:List V}{ws:List Value},VRels t h m ws->∀ p∈m.zip ws,VRel t h p.1 p.2:=by
 intro m
 induction m with
 | nil=>intro ws h p hp;cases h;cases hp
 | cons x m ih =>
  rintro ws ⟨u,r,rfl,h1,h2⟩ p hp
  rcases Zu.mp hp with rfl | hp
  ·exact h1
  ·exact ih h2 p hp
theorem zy7 {h:Heap}:∀ {m:List V}{ws:List Value},VRels t h m ws->∀ y∈ws,∃ Y',(Y',y)∈m.zip ws:=by
 intro m
 induction m with
 | nil=>intro ws h y hy;cases h;cases hy
 | cons x m ih =>
  rintro ws ⟨u,r,rfl,h1,h2⟩ y hy
  rcases Zu.mp hy with rfl | hy
  ·exact⟨x,.head _⟩
  ·obtain⟨Y',h3⟩:=ih h2 y hy;exact⟨Y',.tail _ h3⟩
noncomputable def eqs (st:MS) (X:V) (l:List V) (vs:List Value) (y:Value):Bool:=(l.zip vs).any fun p=>decide (p.2=y)&&(veq st j6 p.1 X).getD false
theorem zlp (R:Rel G t st s) {l:List V}{vs:List Value} (ra:VRels t s.heap l vs) {Y':V}{y:Value} (hin:(Y',y)∈l.zip vs) {z:Bool} (hz:veq st j6 Y' X=some z):eqs st X l vs y=z:=by
 cases z with
 | true=>exact List.any_eq_true.mpr ⟨_,hin,by rw[hz,Zb rfl];rfl⟩
 | false =>
  refine List.any_eq_false.mpr fun p hp=>?_
  by_cases q:p.2=y
  ·have h3:=ztr ra p hp
   rw[q] at h3
   rw[VRel.inj R _ _ h3 (ztr ra _ hin),hz,Option.getD_some,Bool.and_false];exact Z8
  ·rw[Zc q,Bool.false_and];exact Z8
theorem zrk (R:Rel G t st s) {l:List V}{vs:List Value} (ra:VRels t s.heap l vs) (g1:∀ y∈l,∃ z,veq st j6 y X=some z):∀ (m:List V) (ws:List Value),VRels t s.heap m ws->(∀ p∈m.zip ws,p∈l.zip vs)->ws.any (eqs st X l vs)=m.any fun y=>(veq st j6 y X).getD false:=by
 intro m
 induction m with
 | nil=>intro ws h _;cases h;rfl
 | cons x m ih =>
  rintro ws ⟨u,r,rfl,h1,h2⟩ hsub
  have hin:(x,u)∈l.zip vs:=hsub _ (.head _)
  obtain⟨z,hz⟩:=g1 x (List.of_mem_zip hin).1
  rw[List.any_cons,List.any_cons,ih r h2 fun p hp=>hsub p (.tail _ hp),zlp R ra hin hz,hz];rfl
theorem zt9 (R:Rel G t st s) (hA:AOk d A) (hX:VRel t s.heap X v) {l:List V}{vs:List Value} (ra:VRels t s.heap l vs) (g1:∀ y∈l,∃ z,veq st j6 y X=some z) {y:Value} (hy:y∈vs):EqAt A.in1 s y v (eqs st X l vs y):=by
 obtain⟨Y',h1⟩:=zy7 ra y hy
 obtain⟨z,hz⟩:=g1 Y' (List.of_mem_zip h1).1
 rw[zlp R ra h1 hz]
 exact zhz R _ Y' X y v z A.in1 hz (ztr ra _ h1) hX (by show A.units+1+j6 < cLine;have:=hA.un;unfold j6;omega)
noncomputable def rn (G:Gd) (A:Around) (s:Shared) (v w:Value) (b:Bool):Prop :=
 ∃ tk,(∀ (Q:Value->Shared->Prop) (E:Value->Shared->Prop),Q (.bool b) {s with toks:=tk}->wpAny G.M A (compareOp .In v w) Q E s) /\
  ∀ (Q:Value->Shared->Prop) (E:Value->Shared->Prop),Q (.bool (!b)) {s with toks:=tk}->wpAny G.M A (compareOp .NotIn v w) Q E s
theorem zul (R:Rel G t st s) (hA:AOk d A) (hX:VRel t s.heap X v) (hY:VRel t s.heap Y w) {k:Bool}{l:List V} (hs:zr st Y=some (k,l)) {b:Bool} (hb:vin st X l=some b):rn G A s v w b:=by
 obtain⟨a,vs,rfl,ia,ra,_⟩:=qa R hY hs
 obtain⟨g1,g2⟩:=zc1 st X l b hb
 have ev:∀ y∈vs,EqAt A.in1 s y v (eqs st X l vs.toList y):=fun y hy=>zt9 R hA hX ra g1 (Array.mem_toList_iff.mpr hy)
 have anyE:vs.any (eqs st X l vs.toList)=b:=by rw[g2,<- Array.any_toList];exact zrk R ra g1 l vs.toList ra fun p hp=>hp
 cases k with
 | true=>exact⟨s.toks,fun Q E q=>in_listAt _ (PL.isList ia) ev (by rw[anyE];exact q),fun Q E q=>notIn_listAt _ (PL.isList ia) ev (by rw[anyE];exact q)⟩
 | false=>exact⟨s.toks,fun Q E q=>in_tupleAt _ (PT.isTuple ia) ev (by rw[anyE];exact q),fun Q E q=>notIn_tupleAt _ (PT.isTuple ia) ev (by rw[anyE];exact q)⟩
theorem zth {x y:List Nat}{c:Nat} (hx:x=[c]) (hX:VRel t s.heap (.str x) v) (hY:VRel t s.heap (.str y) w):rn G A s v w (decide (c∈y)):=by
 subst hx
 obtain⟨k1,rfl⟩:=hX
 obtain⟨k2,rfl⟩:=hY
 have q:=StrLaws.found_one (z7 y) c
 have q2:(z7 y).cps.toList=y:=by simp
 rw[q2] at q
 exact⟨s.toks,fun Q E h=>PyProof.Rows.in_str (by rw[q];exact h),fun Q E h=>PyProof.Rows.notIn_str (by rw[q];exact h)⟩
theorem zpo (R:Rel G t st s) {x:List Nat}{r:Lbl}{dd:List (V×V)} (hX:VRel t s.heap (.str x) v) (hY:VRel t s.heap (.ref r) w) (hdd:st.heap r=some (.dict dd)):rn G A s v w (jh (.str x) dd).isSome:=by
 obtain⟨a,kvs,h1,h2,h3⟩:=R.objs r _ hdd
 obtain⟨a',rfl,e2⟩:=hY
 rw[h1] at e2;cases e2
 have hsys:(a == sysModules)=false:=by simp only[beq_eq_false_iff_ne,ne_eq];rintro rfl;exact R.sys r h1
 obtain⟨k1,rfl⟩:=hX
 have f:=DRel.find (x:=x) h3
 have this:(valueAt kvs (z7 x)).isSome=(jh (.str x) dd).isSome:=by
  cases q:jh (.str x) dd with
  | none=>rw[q] at f;rw[f];rfl
  | some z=>rw[q] at f;obtain⟨y,e1,_⟩:=f;rw[e1];rfl
 exact⟨s.toks+1,fun Q E h=>wpAny_in_of (strKind_is G.prog G.w (z7 x) k1) hsys h2.mapOf (by rw[this];exact h),fun Q E h=>wpAny_notIn_of (strKind_is G.prog G.w (z7 x) k1) hsys h2.mapOf (by rw[this];exact h)⟩
theorem zrx {y:List Nat}{b:Bool} (e:(match X with | .str [c]=>some (decide (c∈y)) | _=>none)=some b):∃ c,X=.str [c]/\b=decide (c∈y):=by
 cases X with
 | str x=>cases x with
  | nil=>exact za e
  | cons c r=>cases r with
   | nil=>cases e;exact⟨c,rfl,rfl⟩
   | cons _ _=>exact za e
 | _=>exact za e
theorem zpi {h:Option MObj}{b:Bool} (e:(match h with | some (.dict l)=>if X.isKey then some (jh X l).isSome else none | _=>none)=some b):∃ x dd,X=.str x/\h=some (.dict dd)/\b=(jh (.str x) dd).isSome:=by
 cases h with
 | none=>exact za e
 | some o=>cases o with
  | dict l=>cases X with
   | str x=>cases e;exact⟨x,l,rfl,rfl,rfl⟩
   | _=>exact za e
  | _=>exact za e
theorem zne {b:Bool} (hb:cmpOp.memb X Y st=some b):(∃ k l,zr st Y=some (k,l)/\vin st X l=some b)\/(∃ c y,X=.str [c]/\Y=.str y/\b=decide (c∈y))\/∃ x r dd,X=.str x/\Y=.ref r/\st.heap r=some (.dict dd)/\b=(jh (.str x) dd).isSome:=by
 delta cmpOp.memb at hb
 cases hs:zr st Y with
 | some p=>rw[hs] at hb;exact .inl ⟨p.1,p.2,rfl,hb⟩
 | none =>
  rw[hs] at hb
  cases Y with
  | str y=>obtain⟨c,h1,h2⟩:=zrx hb;exact .inr (.inl ⟨c,y,h1,rfl,h2⟩)
  | ref r=>obtain⟨x,dd,h1,h2,h3⟩:=zpi hb;exact .inr (.inr ⟨x,r,dd,h1,rfl,h2,h3⟩)
  | _=>exact za hb
theorem cj (R:Rel G t st s) (hA:AOk d A) (hX:VRel t s.heap X v) (hY:VRel t s.heap Y w) {b:Bool} (hb:cmpOp.memb X Y st=some b):rn G A s v w b:=by
 rcases zne hb with ⟨k,l,h1,h2⟩ | ⟨c,y,rfl,rfl,rfl⟩ | ⟨x,r,dd,rfl,rfl,h1,rfl⟩
 ·exact zul R hA hX hY h1 h2
 ·exact zth rfl hX hY
 ·exact zpo R hX hY h1
theorem p7 (R:Rel G t st s) {op:CmpOp}{b:Bool} (h:∀ (Q:Value->Shared->Prop) (E:Value->Shared->Prop),Q (.bool b) s->wpAny G.M A (compareOp op v w) Q E s):Sim G A t s (compareOp op v w) st (qo (.bool b)) :=
 fun Q E k=>h Q E (k _ t s (.refl _ _ _) R rfl)
theorem zk9 {f:Int->Int->Bool} (e:(match X,Y with | .int x,.int y=>Res.ok (V.bool (f x y)) st | _,_=>Res.stuck)=.ok Z st'):∃ x y,X=.int x/\Y=.int y/\Z=.bool (f x y)/\st'=st:=by
 cases X with
 | int x=>cases Y with
  | int y=>cases e;exact⟨x,y,rfl,rfl,rfl,rfl⟩
  | _=>exact zb e
 | _=>exact zb e
theorem gu {op:CmpOp}{f:Int->Int->Bool} (R:Rel G t st s) (hX:VRel t s.heap X v) (hY:VRel t s.heap Y w) (e:(match (generalizing:=false) X,Y with | .int x,.int y=>Res.ok (V.bool (f x y)) st | _,_=>Res.stuck)=.ok Z st')
  (h:∀ x y k1 k2 (Q:Value->Shared->Prop) (E:Value->Shared->Prop),Q (.bool (f x y)) s->wpAny G.M A (compareOp op (.int x k1) (.int y k2)) Q E s):Sim G A t s (compareOp op v w) st' (qo Z):=by
 obtain⟨x,y,rfl,rfl,rfl,rfl⟩:=zk9 e
 obtain⟨k1,rfl⟩:=hX
 obtain⟨k2,rfl⟩:=hY
 exact p7 R fun Q E q=>h x y k1 k2 Q E q
theorem zt1 (R:Rel G t st s) (hA:AOk d A) (hX:VRel t s.heap X v) (hY:VRel t s.heap Y w) (e:cmpOp .eq X Y st=.ok Z st'):Sim G A t s (compareOp .Eq v w) st' (qo Z):=by
 obtain⟨b,h1,rfl,rfl⟩:=fm e
 exact p7 R fun Q E q=>(zc4 R h1 hX hY hA.u12).1 _ _ _ _ q
theorem zso (R:Rel G t st s) (hA:AOk d A) (hX:VRel t s.heap X v) (hY:VRel t s.heap Y w) (e:cmpOp .ne X Y st=.ok Z st'):Sim G A t s (compareOp .NotEq v w) st' (qo Z):=by
 obtain⟨b,h1,rfl,rfl⟩:=fm e
 obtain⟨b',h2,rfl⟩:=Option.map_eq_some_iff.mp h1
 exact p7 R fun Q E q=>(zc4 R h2 hX hY hA.u12).2 _ _ _ _ q
theorem zup (R:Rel G t st s) (hA:AOk d A) (hX:VRel t s.heap X v) (hY:VRel t s.heap Y w) (e:cmpOp .isin X Y st=.ok Z st'):Sim G A t s (compareOp .In v w) st' (qo Z):=by
 obtain⟨b,hb,rfl,rfl⟩:=fm e
 obtain⟨tk,h,_⟩:=cj R hA hX hY hb
 exact fun Q E k=>h _ _ (k _ t _ (Step.toks _ t s _) (R.toks _) rfl)
theorem zhx (R:Rel G t st s) (hA:AOk d A) (hX:VRel t s.heap X v) (hY:VRel t s.heap Y w) (e:cmpOp .notin X Y st=.ok Z st'):Sim G A t s (compareOp .NotIn v w) st' (qo Z):=by
 obtain⟨b,hb,rfl,rfl⟩:=fm e
 obtain⟨b',h2,rfl⟩:=Option.map_eq_some_iff.mp hb
 obtain⟨tk,_,h⟩:=cj R hA hX hY h2
 exact fun Q E k=>h _ _ (k _ t _ (Step.toks _ t s _) (R.toks _) rfl)
theorem v7 {o:Cop} (R:Rel G t st s) (hA:AOk d A) (hX:VRel t s.heap X v) (hY:VRel t s.heap Y w) (e:cmpOp o X Y st=.ok Z st'):Sim G A t s (compareOp (ja o) v w) st' (qo Z):=by
 cases o with
 | eq=>exact zt1 R hA hX hY e
 | ne=>exact zso R hA hX hY e
 | lt=>exact gu (f:=fun x y=>decide (x < y)) R hX hY e fun ξ ξ ξ ξ Q E q=>PyProof.Rows.lt_int q
 | le=>exact gu (f:=fun x y=>decide (x<=y)) R hX hY e fun ξ ξ ξ ξ Q E q=>PyProof.Rows.le_int q
 | gt=>exact gu (f:=fun x y=>decide (y < x)) R hX hY e fun ξ ξ ξ ξ Q E q=>PyProof.Rows.gt_int q
 | ge=>exact gu (f:=fun x y=>decide (y<=x)) R hX hY e fun ξ ξ ξ ξ Q E q=>PyProof.Rows.ge_int q
 | isin=>exact zup R hA hX hY e
 | notin=>exact zhx R hA hX hY e
end
end Internal
end
section
namespace Internal
open PySem PySem.W PyProof.Rows PySem.SeqAt
section
variable {G:Gd}{N:Names}{C:Calls}{d:Dp}{sc:Sc}{Γ:Gam}{t:Tie}{st st':MS}{s:Shared}{A:Around}{X Y Z:V}{v w:Value}
theorem qe (h:Heap):h.get? h.objs.size=none:=by
 cases e:h.get? h.objs.size with
 | none=>rfl
 | some o=>exact absurd (Heap.lt_size e) (Nat.lt_irrefl _)
theorem Rel.push (R:Rel G t st s) (o:Obj):Rel G t st {s with heap:=s.heap.push o}:=R.grow (fun ξ ξ e=>Zn o e) rfl rfl
theorem Step.push (R:Rel G t st s) (o:Obj):Step noX t t s {s with heap:=s.heap.push o}:=Step.grow R (fun ξ ξ e=>Zn o e) rfl rfl
theorem VRel.newL (R:Rel G t st s) {l:List V}{vs:List Value} (r:VRels t s.heap l vs) (sz:l.length<=ze):VRel t (s.heap.push {cls:=.type "list",data:=.seq vs.toArray}) (.lst l) (.ref s.heap.objs.size) :=
 ⟨_,vs.toArray,rfl,⟨_,Z5 _ rfl⟩,R.fresh (qe _),sz,VRels.step (σ':={s with heap:=s.heap.push _}) (Step.push R _) (fun ξ q=>q.elim) l r⟩
theorem VRel.newT (R:Rel G t st s) {l:List V}{vs:List Value} (r:VRels t s.heap l vs) (sz:l.length<=ze):VRel t (s.heap.push {cls:=.type "tuple",data:=.seq vs.toArray}) (.tup l) (.ref s.heap.objs.size) :=
 ⟨_,vs.toArray,rfl,⟨_,Z5 _ rfl⟩,R.fresh (qe _),sz,VRels.step (σ':={s with heap:=s.heap.push _}) (Step.push R _) (fun ξ q=>q.elim) l r⟩
theorem Sim.newL (R:Rel G t st s) {l:List V}{vs:List Value} (r:VRels t s.heap l vs) (sz:l.length<=ze) {tree:Sem Value}
  (h:∀ (Q:Value->Shared->Prop) (E:Value->Shared->Prop),Q (.ref s.heap.objs.size) {s with heap:=s.heap.push {cls:=.type "list",data:=.seq vs.toArray}}->wpAny G.M A tree Q E s):Sim G A t s tree st (qo (.lst l)) :=
 fun Q E k=>h Q E (k _ t _ (Step.push R _) (R.push _) (VRel.newL R r sz))
theorem Sim.newT (R:Rel G t st s) {l:List V}{vs:List Value} (r:VRels t s.heap l vs) (sz:l.length<=ze) {tree:Sem Value}
  (h:∀ (Q:Value->Shared->Prop) (E:Value->Shared->Prop),Q (.ref s.heap.objs.size) {s with heap:=s.heap.push {cls:=.type "tuple",data:=.seq vs.toArray}}->wpAny G.M A tree Q E s):Sim G A t s tree st (qo (.tup l)) :=
 fun Q E k=>h Q E (k _ t _ (Step.push R _) (R.push _) (VRel.newT R r sz))
theorem ya (i:Int):intBits i=Builtin.Int.intBits i:=by
 unfold intBits Builtin.Int.intBits
 simp only[beq_iff_eq]
theorem zd6 {a b:Int} (h:zbj a b=true):IntMulOk a b:=by
 simp only[zbj,Bool.or_eq_true,decide_eq_true_eq] at h
 rcases h with (h | h) | h
 ·exact IntMulOk.of_left (by rw[<- ya];exact h)
 ·exact IntMulOk.of_right (by rw[<- ya];exact h)
 ·exact mulOk_of_bits (m:=intBits a) (n:=intBits b) (by rw[ya];exact Zs _) (by rw[ya];exact Zs _) h
set_option tactic.hygienic true in
theorem zk5 {x y:Int} (h:¬ 64 < intBits y):Builtin.divisionGoesByPylong x y=false:=by
 delta Builtin.divisionGoesByPylong
 dsimp only
 have:¬ ((if (y == 0)=true then 0 else y.natAbs.log2 / 30+1) > 300):=by
  unfold intBits at h
  split
  ·lia
  ·rename_i q
   rw[Zh (by simpa using q)] at h
   lia
 rw[Zc this];rfl
theorem ax {m:List V} (e:zr st X=some (false,m)):X=.tup m:=by
 cases X with
 | tup m=>cases e;rfl
 | lst m=>cases e
 | ref r =>
  have e:(match st.heap r with | some (.list l)=>some (true,l) | _=>none)=some (false,m):=e
  cases h:st.heap r with
  | none=>rw[h] at e;exact za e
  | some o=>rw[h] at e;cases o with
   | list l=>cases e
   | _=>exact za e
 | _=>exact za e
theorem zmo {o1 o2:Option (Bool×List V)}{f:Bool×List V->Bool×List V->Res V} (e:(match o1,o2 with | some p,some q=>f p q | _,_=>.stuck)=.ok Z st'):∃ p q,o1=some p/\o2=some q/\f p q=.ok Z st':=by
 cases o1 with
 | none=>exact zb e
 | some p=>cases o2 with
  | none=>exact zb e
  | some q=>exact⟨p,q,rfl,rfl,e⟩
theorem VRels.nil_of {h:Heap}{l:List V}{vs:Array Value} (r:VRels t h l vs.toList) (q:vs.isEmpty=true):l=[]:=by
 have hz:=r.size
 rw[Array.isEmpty_iff.1 q] at hz
 exact List.length_eq_zero_iff.mp hz.symm
theorem zfi (vs ws:Array Value):vs++ws=(vs.toList++ws.toList).toArray:=by
 rw[<- Array.toList_append,Array.toArray_toList]
theorem zjq {x y:List V}{a b:Addr}{vs ws:Array Value} (R:Rel G t st s) (ia:PL s.heap a vs) (ib:PL s.heap b ws) (ra:VRels t s.heap x vs.toList) (rb:VRels t s.heap y ws.toList) (hz:x.length+y.length<=ze):Sim G A t s (binaryOp .Add (.ref a) (.ref b)) st (qo (.lst (x++y))):=by
 have hsz:vs.size+ws.size<=sizeLine:=by rw[ra.size,rb.size];exact hz
 obtain⟨n,ha⟩:=ia
 obtain⟨n2,hb⟩:=ib
 exact Sim.newL R (ra.append rb) (by rw[Zf];exact hz) fun Q E q=>P.add_list ha hb (by rw[zfi];exact q) hsz
theorem zlq {x y:List V}{a b:Addr}{vs ws:Array Value} (R:Rel G t st s) (ia:PT s.heap a vs) (ib:PT s.heap b ws) (ra:VRels t s.heap x vs.toList) (rb:VRels t s.heap y ws.toList) (hz:x.length+y.length<=ze) (hX:VRel t s.heap (.tup x) (.ref a)) (hY:VRel t s.heap (.tup y) (.ref b)):Sim G A t s (binaryOp .Add (.ref a) (.ref b)) st (qo (.tup (x++y))):=by
 have hsz:vs.size+ws.size<=sizeLine:=by rw[ra.size,rb.size];exact hz
 obtain⟨n,ha⟩:=ia
 obtain⟨n2,hb⟩:=ib
 by_cases q1:vs.isEmpty=true
 ·cases ra.nil_of q1
  exact fun Q E k=>concat_meets ⟨_,ha,rfl⟩ ⟨_,hb,rfl⟩ noFill_tuple_add seq_tuple_add PySem.F.slot_tuple_add PySem.F.entry_tuple_add (PySem.F.args_tuple_add_2 _ _) (tuple_addW0 a b vs ws n n2 none none #[] #[] q1) ⟨ha,hb,k _ t s (.refl _ _ _) R hY⟩
 ·by_cases q2:ws.isEmpty=true
  ·cases rb.nil_of q2
   exact fun Q E k=>concat_meets ⟨_,ha,rfl⟩ ⟨_,hb,rfl⟩ noFill_tuple_add seq_tuple_add PySem.F.slot_tuple_add PySem.F.entry_tuple_add (PySem.F.args_tuple_add_2 _ _) (tuple_addW1 a b vs ws n n2 none none #[] #[] q1 q2) ⟨ha,hb,k _ t s (.refl _ _ _) R (by rw[Z0];exact hX)⟩
  ·exact Sim.newT R (ra.append rb) (by rw[Zf];exact hz) fun Q E q=>P.add_tuple ha hb q1 q2 (by rw[zfi];exact q) hsz
theorem af (R:Rel G t st s) (hX:VRel t s.heap X v) (hY:VRel t s.heap Y w) (e:zkl X Y st=.ok Z st'):Sim G A t s (binaryOp .Add v w) st' (qo Z):=by
 obtain⟨⟨k,x⟩,⟨k',y⟩,h1,h2,e⟩:=zmo e
 obtain⟨⟨hk,hz⟩,e⟩:=jl e
 cases (show k=k' from hk)
 obtain⟨rfl,rfl⟩:=jk e
 obtain⟨aa,vs,rfl,ia,ra,_⟩:=qa R hX h1
 obtain⟨bb,ws,rfl,ib,rb,_⟩:=qa R hY h2
 cases k with
 | true=>exact zjq R ia ib ra rb hz
 | false =>
  rw[ax h1] at hX
  rw[ax h2] at hY
  exact zlq R ia ib ra rb hz hX hY
theorem p27:(2:Int) ^ 27=134217728:=by decide
set_option tactic.hygienic true in
set_option maxHeartbeats 1000000 in
theorem zdp {x:List V}{y:Int} (O:G.Ok N) (R:Rel G t st s) (hX:VRel t s.heap (.lst x) v) (hY:VRel t s.heap (.int y) w) (hm:x.length*y.toNat<=ze/\0<=y/\y<=1000):Sim G A t s (binaryOp .Mult v w) st (qo (.lst (List.replicate y.toNat x).flatten)):=by
 obtain⟨a,vs,rfl,⟨n,ha⟩,_,_,r⟩:=hX
 obtain⟨k2,rfl⟩:=hY
 have hlen:vs.size=x.length:=by rw[<- r.length];simp
 rw[<- hlen] at hm
 have hm1:vs.size*y.toNat<=16777216:=hm.1
 have rep:∀ n:Nat,VRels t s.heap (List.replicate n x).flatten (List.replicate n vs.toList).flatten:=by
  intro n
  induction n with
  | zero=>rfl
  | succ n ih=>simp only[List.replicate_succ,List.flatten_cons];exact r.append ih
 have fold:∀ (n:Nat) (acc:Array Value),(List.foldl (fun x1 x2=>x1++x2) acc (List.replicate n vs)).toList=acc.toList++(List.replicate n vs.toList).flatten:=by
  intro n
  induction n with
  | zero=>intro acc;simp
  | succ n ih=>intro acc;simp only[List.replicate_succ,List.foldl_cons,List.flatten_cons];rw[ih];simp
 have key:(List.foldl (fun x1 x2=>x1++x2) #[] (List.replicate (if vs.isEmpty=true then 0 else y.toNat) vs))=((List.replicate y.toNat vs.toList).flatten).toArray:=by
  apply Array.toList_inj.mp
  rw[fold]
  split
  ·rename_i q
   have:vs.toList=[]:=by simpa using q
   rw[this];simp
  ·simp
 refine Sim.newL R (rep y.toNat) (by have:∀ n:Nat,((List.replicate n x).flatten).length=x.length*n:=(fun n=>by induction n with | zero=>simp | succ n ih=>rw[List.replicate_succ,List.flatten_cons,Zf,ih,Nat.mul_succ,Nat.add_comm]);rw[this,<- hlen];exact hm1) fun Q E q=>?_
 refine wpAny_binaryOp_repeat_ref (T:="list") (U:="int") (by decide) ⟨_,ha,rfl⟩ (fun s'=>typeIs_int s' y k2) noFill_list_mul PySem.F.fills_int_mul PySem.F.slot_int_rmul repeat_list PySem.F.slot_int_index.lookup
  (call_meets PySem.F.slot_int_rmul (typeIs_int s y k2) PySem.F.entry_int_rmul (PySem.F.args_int_rmul_2 _ _) (int___rmul___int_list y k2 a vs n)
   ⟨ha,rfl,⟨_,ha,rfl⟩,call_meets PySem.F.slot_list_mul ⟨_,ha,rfl⟩ PySem.F.entry_list_mul (PySem.F.args_list_mul_2 _ _)
    (AutoListH.list___mul___list_int_3 a vs n y k2 (by simp[Builtin.List.listFitsIndex];lia) (by lia) (by simp[Builtin.List.listTooLong,sizeLine];lia)) ⟨ha,by rw[key];exact q⟩⟩)
theorem zef {x y:List Nat} (R:Rel G t st s) (hX:VRel t s.heap (.str x) v) (hY:VRel t s.heap (.str y) w) (hm:x.length+y.length<=ze):Sim G A t s (binaryOp .Add v w) st (qo (.str (x++y))):=by
 obtain⟨k1,rfl⟩:=hX;obtain⟨k2,rfl⟩:=hY
 intro Q E k
 refine PyProof.Rows.add_str (fun t' tk=>?_) ?_
 ·refine k _ t _ (Step.toks _ t s tk) (R.toks tk) ⟨t',?_⟩
  show Value.str (Str.mk x.toArray++Str.mk y.toArray) t'=_
  congr 1
  show Str.mk (x.toArray++y.toArray)=_
  simp
 ·simpa [Str.length,ze,sizeLine] using hm
theorem bn {op:Operator}{f:Int->Int->Res V} (R:Rel G t st s) (hX:VRel t s.heap X v) (hY:VRel t s.heap Y w) (e:ol X Y f=.ok Z st')
  (h:∀ x y,f x y=.ok Z st'->∃ z,(Z=.int z/\st'=st)/\∀ (k1 k2:Tok) (Q:Value->Shared->Prop) (E:Value->Shared->Prop),Q (.int z s.toks) {s with toks:=s.toks+1}->wpAny G.M A (binaryOp op (.int x k1) (.int y k2)) Q E s):Sim G A t s (binaryOp op v w) st' (qo Z):=by
 obtain⟨x,y,rfl,rfl,e⟩:=zrw e
 obtain⟨z,⟨rfl,rfl⟩,hz⟩:=h x y e
 obtain⟨k1,rfl⟩:=hX
 obtain⟨k2,rfl⟩:=hY
 exact fun Q E k=>hz k1 k2 Q E (k _ t _ (Step.toks _ t s _) (R.toks _) ⟨_,rfl⟩)
theorem pj {β:Type}{c:Prop} [Decidable c] {x:Res β}{y:β}{s:MS} (e:(if c then .stuck else x)=.ok y s):¬ c/\x=.ok y s:=by
 by_cases h:c
 ·rw[Zg h] at e;exact zb e
 ·rw[Zh h] at e;exact⟨h,e⟩
theorem znc (R:Rel G t st s) (hX:VRel t s.heap X v) (hY:VRel t s.heap Y w) (e:ol X Y (fun x y=>if zbj x y then .ok (.int (x*y)) st else .stuck)=.ok Z st'):Sim G A t s (binaryOp .Mult v w) st' (qo Z) :=
 bn R hX hY e fun x y e=>⟨_,jk (jl e).2,fun ξ ξ Q E q=>PyProof.Rows.mul_int q (zd6 (jl e).1)⟩
theorem zoh (R:Rel G t st s) (hX:VRel t s.heap X v) (hY:VRel t s.heap Y w) (e:ol X Y (fun x y=>.ok (.int (x+y)) st)=.ok Z st'):Sim G A t s (binaryOp .Add v w) st' (qo Z) :=
 bn R hX hY e fun x y e=>⟨_,jk e,fun ξ ξ Q E q=>PyProof.Rows.add_int q⟩
theorem zhl (R:Rel G t st s) (hX:VRel t s.heap X v) (hY:VRel t s.heap Y w) (e:yd .fdiv X Y st=.ok Z st'):Sim G A t s (binaryOp .FloorDiv v w) st' (qo Z) :=
 bn R hX hY e fun x y e=>⟨_,jk (pj e).2,fun ξ ξ Q E q=>PyProof.Rows.floordiv_int (fun z=>(pj e).1 (.inl z)) q (.inl (zk5 fun z=>(pj e).1 (.inr z)))⟩
theorem zk1 (R:Rel G t st s) (hX:VRel t s.heap X v) (hY:VRel t s.heap Y w) (e:yd .mod X Y st=.ok Z st'):Sim G A t s (binaryOp .Mod v w) st' (qo Z) :=
 bn R hX hY e fun x y e=>⟨_,jk (pj e).2,fun ξ ξ Q E q=>PyProof.Rows.mod_int' (pj e).1 q⟩
theorem zl2 (R:Rel G t st s) (hX:VRel t s.heap X v) (hY:VRel t s.heap Y w) (e:yd .pow X Y st=.ok Z st'):Sim G A t s (binaryOp .Pow v w) st' (qo Z) :=
 bn R hX hY e fun x y e=>⟨_,jk (jl e).2,fun ξ ξ Q E q=>PyProof.Rows.pow_int (jl e).1.1 (by rw[<- ya,p27];exact(jl e).1.2) q⟩
theorem zn8 (R:Rel G t st s) (hX:VRel t s.heap X v) (hY:VRel t s.heap Y w) (e:yd .sub X Y st=.ok Z st'):Sim G A t s (binaryOp .Sub v w) st' (qo Z) :=
 bn R hX hY e fun x y e=>⟨_,jk e,fun ξ ξ Q E q=>PyProof.Rows.sub_int q⟩
theorem znj {x:List Nat} (R:Rel G t st s) (hX:VRel t s.heap (.str x) v) (hY:VRel t s.heap Y w) (e:zuk (.str x) Y (fun x y=>if x.length+y.length<=ze then .ok (.str (x++y)) st else .stuck)=.ok Z st'):Sim G A t s (binaryOp .Add v w) st' (qo Z):=by
 obtain⟨x,y,ex,rfl,e⟩:=zpc e
 cases ex
 obtain⟨hm,e⟩:=jl e
 obtain⟨rfl,rfl⟩:=jk e
 exact zef R hX hY hm
theorem zro {x:List V} (O:G.Ok N) (R:Rel G t st s) (hX:VRel t s.heap (.lst x) v) (hY:VRel t s.heap Y w) (e:zuc (.lst x) Y (fun x y=>if x.length*y.toNat<=ze/\0<=y/\y<=1000 then .ok (.lst (List.replicate y.toNat x).flatten) st else .stuck)=.ok Z st'):Sim G A t s (binaryOp .Mult v w) st' (qo Z):=by
 obtain⟨x,y,ex,rfl,e⟩:=zq0 e
 cases ex
 obtain⟨hm,e⟩:=jl e
 obtain⟨rfl,rfl⟩:=jk e
 exact zdp O R hX hY hm
theorem zhg {o:Bop} (O:G.Ok N) (R:Rel G t st s) (hA:AOk d A) (hX:VRel t s.heap X v) (hY:VRel t s.heap Y w) (e:yd o X Y st=.ok Z st'):Sim G A t s (binaryOp (zs9 o) v w) st' (qo Z):=by
 cases o with
 | add =>
  cases X with
  | int x=>exact zoh R hX hY e
  | str x=>exact znj R hX hY e
  | _=>exact af R hX hY e
 | sub=>exact zn8 R hX hY e
 | mul =>
  cases X with
  | lst x=>exact zro O R hX hY e
  | _=>exact znc R hX hY e
 | fdiv=>exact zhl R hX hY e
 | mod=>exact zk1 R hX hY e
 | pow=>exact zl2 R hX hY e
end
end Internal
end
section
namespace Internal
open PySem PySem.W PyProof.Rows PySem.SeqAt
section
variable {G:Gd}{N:Names}{C:Calls}{d:Dp}{sc:Sc}{Γ:Gam}
theorem jx {X:V}{st st':MS}{b:Bool} (e:vw X st=.ok b st'):X=.bool b/\st'=st:=by
 cases X <;> first | (cases e;exact⟨rfl,rfl⟩) | exact zb e
theorem zrf {a:E}{x:Qe}{pos:Pos} (ha:z0 G C d sc Γ a x):z0 G C d sc Γ (.neg a) (.UnaryOp .USub x pos):=by
 intro t st s env loc X st' A hA hsc F R e Q E k
 rw[zss] at e
 obtain⟨v,s1,e1,e⟩:=Res.bind_ok e
 split at e
 ·cases e
  refine wpAny_UnaryOp (ha t st s env loc _ _ A hA hsc F R e1 _ _ fun y t1 σ1 S1 R1 r1=>?_)
  obtain⟨k1,rfl⟩:=r1
  exact neg_int (k _ t1 _ (S1.trans (Step.toks _ t1 σ1 _)) (R1.toks _) ⟨_,rfl⟩)
 ·exact zb e
theorem zrq {a:E}{x:Qe}{pos:Pos} (ha:z0 G C d sc Γ a x):z0 G C d sc Γ (.not a) (.UnaryOp .Not x pos):=by
 intro t st s env loc X st' A hA hsc F R e Q E k
 rw[zdc] at e
 obtain⟨v,s1,e1,e⟩:=Res.bind_ok e
 obtain⟨b,s2,e2,e⟩:=Res.bind_ok e
 obtain⟨rfl,rfl⟩:=jx e2
 cases e
 refine wpAny_UnaryOp (ha t st s env loc _ _ A hA hsc F R e1 _ _ fun y t1 σ1 S1 R1 r1=>?_)
 cases r1
 exact not_of (wpAny_truthy_bool (k _ t1 _ S1 R1 rfl))
theorem zqd (O:G.Ok N) {o:Bop}{a b:E}{x y:Qe}{pos:Pos} (ha:z0 G C d sc Γ a x) (hb:z0 G C d sc Γ b y):z0 G C d sc Γ (.bin o a b) (.BinOp x (zs9 o) y pos):=by
 intro t st s env loc X st' A hA hsc F R e Q E k
 rw[zm9] at e
 obtain⟨v1,s1,e1,e⟩:=Res.bind_ok e
 obtain⟨v2,s2,e2,e⟩:=Res.bind_ok e
 refine wpAny_BinOp (ha t st s env loc _ _ A hA hsc F R e1 _ _ fun u t1 σ1 S1 R1 r1=>?_)
 refine hb t1 s1 σ1 env loc _ _ A hA hsc (F.step R S1) R1 e2 _ _ fun w t2 σ2 S2 R2 r2=>?_
 exact zhg O R2 hA (VRel.step S2 (fun ξ z=>z.elim) _ r1) r2 e _ _ fun z t3 σ3 S3 R3 r3=>k z t3 σ3 ((S1.trans S2).trans S3) R3 r3
theorem zrl {o:Cop}{a b:E}{x y:Qe}{pos:Pos} (hm:behindInMarks (ja o) y=false) (ha:z0 G C d sc Γ a x) (hb:z0 G C d sc Γ b y):z0 G C d sc Γ (.cmp a o b) (.Compare x [ja o] [y] pos):=by
 intro t st s env loc X st' A hA hsc F R e Q E k
 rw[zeh] at e
 obtain⟨v1,s1,e1,e⟩:=Res.bind_ok e
 obtain⟨v2,s2,e2,e⟩:=Res.bind_ok e
 refine wpAny_Compare1 (ha t st s env loc _ _ A hA hsc F R e1 _ _ fun u t1 σ1 S1 R1 r1=>?_) hm
 refine hb t1 s1 σ1 env loc _ _ A hA hsc (F.step R S1) R1 e2 _ _ fun w t2 σ2 S2 R2 r2=>?_
 exact v7 R2 hA (VRel.step S2 (fun ξ z=>z.elim) _ r1) r2 e _ _ fun z t3 σ3 S3 R3 r3=>k z t3 σ3 ((S1.trans S2).trans S3) R3 r3
theorem zt5 (pos:Pos) (left:Value) (op op2:CmpOp) (r r2:Sem Value):compareChain pos left [op,op2] [r,r2]=(do
  let rv <- holding [left] r
  standAt pos
  let c <- holding [left,rv] (compareOp op left rv)
  release [left,rv] [c]
  if <- holding [c,rv] (truthy c) then compareChain pos rv [op2] [r2] else pure c):=rfl
theorem zs3 (pos:Pos) (left:Value) (op:CmpOp) (r:Sem Value):compareChain pos left [op] [r]=(do
  let rv <- holding [left] r
  standAt pos
  operate [left,rv] (compareOp op left rv)):=rfl
theorem zkp {o o2:Cop}{a b c:E}{x y z:Qe}{pos:Pos} (hm:behindInMarks (ja o2) z=false) (ha:z0 G C d sc Γ a x) (hb:z0 G C d sc Γ b y) (hc:z0 G C d sc Γ c z) :
  z0 G C d sc Γ (.cmp2 a o b o2 c) (.Compare x [ja o,ja o2] [y,z] pos):=by
 intro t st s env loc X st' A hA hsc F R e Q E k
 rw[gw] at e
 obtain⟨v1,s1,e1,e⟩:=Res.bind_ok e
 obtain⟨v2,s2,e2,e⟩:=Res.bind_ok e
 obtain⟨v3,s3,e3,e⟩:=Res.bind_ok e
 obtain⟨b3,s4,e4,ee⟩:=Res.bind_ok e
 obtain⟨rfl,rfl⟩:=jx e4
 have mk:markedEach [ja o,ja o2] [y,z] (evalEach [y,z] env)=[eval y env,eval z env]:=by
  show eval y env::[markedBehindIn (ja o2) z (eval z env)]=_
  rw[markedBehindIn_of_false hm]
 show wpAny G.M A (do compareChain pos (<- eval x env) [ja o,ja o2] (markedEach [ja o,ja o2] [y,z] (evalEach [y,z] env))) Q E s
 rw[mk]
 refine Ze (ha t st s env loc _ _ A hA hsc F R e1 _ _ fun u t1 σ1 S1 R1 r1=>?_)
 rw[zt5]
 refine Ze (wpAny_holding (hb t1 s1 σ1 env loc _ _ A hA hsc (F.step R S1) R1 e2 _ _ fun w t2 σ2 S2 R2 r2=>?_))
 refine Ze (wpAny_standAt (Ze (wpAny_holding ?_)))
 refine v7 R2 hA (VRel.step S2 (fun ξ z=>z.elim) _ r1) r2 e3 _ _ fun q t3 σ3 S3 R3 r3=>?_
 cases r3
 refine Ze (wpAny_release (Ze (wpAny_holding (wpAny_truthy_bool ?_))))
 cases b3 with
 | false =>
  simp only[Bool.false_eq_true,if_false] at ee ⊢
  cases ee
  exact Zr (k _ t3 σ3 ((S1.trans S2).trans S3) R3 rfl)
 | true =>
  simp only[if_true] at ee ⊢
  obtain⟨v5,s5,e5,e6⟩:=Res.bind_ok ee
  rw[zs3]
  refine Ze (wpAny_holding (hc t3 _ σ3 env loc _ _ A hA hsc (((F.step R S1).step R1 S2).step R2 S3) R3 e5 _ _ fun w' t4 σ4 S4 R4 r4=>?_))
  refine Ze (wpAny_standAt (wpAny_operating ?_))
  exact v7 R4 hA (VRel.step (S3.trans S4) (fun ξ z=>z.elim) _ r2) r4 e6 _ _ fun z t5 σ5 S5 R5 r5=>k z t5 σ5 ((((S1.trans S2).trans S3).trans S4).trans S5) R5 r5
theorem VRel.notB {t:Tie}{h:Heap}{X:V}{v:Value} (r:VRel t h X v):∀ i,v≠.builtin i:=by
 intro i q
 subst q
 cases X with
 | none=>cases r
 | bool=>cases r
 | int=>obtain⟨_,e⟩:=r;cases e
 | str=>obtain⟨_,e⟩:=r;cases e
 | tup=>obtain⟨_,_,e,_⟩:=r;cases e
 | lst=>obtain⟨_,_,e,_⟩:=r;cases e
 | ref=>obtain⟨_,e,_⟩:=r;cases e
 | exc=>obtain⟨_,_,e,_⟩:=r;cases e
theorem zr2 {n:Bool}{a:E}{x:Qe}{p:CmpOp}{pos p2:Pos}{j:Nat} (hp:sb p n=true) (ha:z0 G C d sc Γ a x):z0 G C d sc Γ (.isC n a .none) (.Compare x [p] [.Constant .none j p2] pos):=by
 intro t st s env loc X st' A hA hsc F R e Q E k
 rw[ze2] at e
 obtain⟨v,s1,e1,e⟩:=Res.bind_ok e
 cases e
 refine wpAny_Compare1 (ha t st s env loc _ _ A hA hsc F R e1 _ _ fun u t1 σ1 S1 R1 r1=>?_) rfl
 refine wpAny_Constant_none ?_
 have key:(u == Value.none)=decide (v=.none):=by
  cases v with
  | none=>cases r1;(first | exact(Zb rfl).symm | exact(Zc nofun).symm)
  | bool=>cases r1;(first | exact(Zb rfl).symm | exact(Zc nofun).symm)
  | int=>obtain⟨_,rfl⟩:=r1;(first | exact(Zb rfl).symm | exact(Zc nofun).symm)
  | str=>obtain⟨_,rfl⟩:=r1;(first | exact(Zb rfl).symm | exact(Zc nofun).symm)
  | tup=>obtain⟨_,_,rfl,_⟩:=r1;(first | exact(Zb rfl).symm | exact(Zc nofun).symm)
  | lst=>obtain⟨_,_,rfl,_⟩:=r1;(first | exact(Zb rfl).symm | exact(Zc nofun).symm)
  | ref=>obtain⟨_,rfl,_⟩:=r1;(first | exact(Zb rfl).symm | exact(Zc nofun).symm)
  | exc=>obtain⟨_,_,rfl,_⟩:=r1;(first | exact(Zb rfl).symm | exact(Zc nofun).symm)
 cases p <;> simp only[sb] at hp <;> (try contradiction)
 ·have:n=false:=by simpa using hp
  subst this
  exact is_none (k _ t1 _ S1 R1 (by rw[key];show Value.bool _=Value.bool _;congr 1;cases decide (v=V.none) <;> rfl))
 ·have:n=true:=hp
  subst this
  exact isNot_none (k _ t1 _ S1 R1 (by rw[key];show Value.bool _=Value.bool _;congr 1;cases decide (v=V.none) <;> rfl))
set_option tactic.hygienic true in
theorem zqf {l:List E}{m:List Qe}{j:Nat}{pos:Pos} (h:vi G C d sc Γ l m):z0 G C d sc Γ (.tup l) (.Tuple m j pos):=by
 intro t st s env loc X st' A hA hsc F R e Q E k
 rw[zor] at e
 obtain⟨vs,s1,e1,e⟩:=Res.bind_ok e
 split at e
 ·rename_i hz
  cases e
  refine wpAny_Tuple (h pos t st s env loc _ _ A hA hsc F R e1 _ _ fun ys t1 σ1 S1 R1 r1=>⟨by rw[r1.length];exact hz,?_⟩)
  exact k _ t1 _ (S1.trans (Step.push R1 _)) (R1.push _) (VRel.newT R1 r1 hz)
 ·exact zb e
set_option tactic.hygienic true in
theorem zps {l:List E}{m:List Qe}{pos:Pos} (h:vi G C d sc Γ l m):z0 G C d sc Γ (.lst l) (.List m pos):=by
 intro t st s env loc X st' A hA hsc F R e Q E k
 rw[zmf] at e
 obtain⟨vs,s1,e1,e⟩:=Res.bind_ok e
 split at e
 ·rename_i hz
  cases e
  refine wpAny_List (h pos t st s env loc _ _ A hA hsc F R e1 _ _ fun ys t1 σ1 S1 R1 r1=>⟨by rw[r1.length];exact hz,?_⟩)
  exact k _ t1 _ (S1.trans (Step.push R1 _)) (R1.push _) (VRel.newL R1 r1 hz)
 ·exact zb e
theorem Rel.size_sys (O:G.Ok N) {t:Tie}{st:MS}{s:Shared} (R:Rel G t st s):s.heap.objs.size≠sysModules:=by
 obtain⟨mc,⟨o,es,ep,ho,_⟩,_⟩:=O.lim
 have:=Heap.lt_size (R.base _ _ ho)
 intro q
 rw[q] at this
 exact absurd this (by decide)
set_option tactic.hygienic true in
theorem zl9 (O:G.Ok N) {kd:Nat}{l:List E}{m:List Qe}{pos:Pos} (h:vi G C d sc Γ l m):z0 G C d sc Γ (.lstM kd l) (.List m pos):=by
 intro t st s env loc X st' A hA hsc F R e Q E k
 rw[zfh] at e
 obtain⟨vs,s1,e1,e⟩:=Res.bind_ok e
 split at e
 ·rename_i hz
  cases e
  refine wpAny_List (h pos t st s env loc _ _ A hA hsc F R e1 _ _ fun ys t1 σ1 S1 R1 r1=>⟨by rw[r1.length];exact hz,?_⟩)
  have S2:=Step.bind (k:=kd) (d:=none) (s':={σ1 with heap:=σ1.heap.push {cls:=.type "list",data:=.seq ys.toArray}}) R1 (fun ξ ξ e=>Zn _ e) rfl rfl (qe _) (fun x e=>by exact za e)
  have rho:(t1.bind (kd,s1.cnt kd) σ1.heap.objs.size none).ρ (kd,s1.cnt kd)=some σ1.heap.objs.size:=by simp[Tie.bind]
  refine k _ _ _ (S1.trans S2) (Rel.bind R1 (fun ξ ξ e=>Zn _ e) rfl rfl (qe _) (fun x e=>by exact za e) ?_ (R1.size_sys O) ⟨_,ys.toArray,rho,⟨_,Z5 _ rfl⟩,hz,VRels.step S2 (fun ξ q=>q.elim) _ r1⟩) ⟨_,rfl,rho⟩
  show((σ1.heap.push _).get? _).isSome=true;rw[Z5 _ rfl];rfl
 ·exact zb e
end
end Internal
end
section
namespace Internal
open PySem PySem.W PyProof.Rows PySem.SeqAt
noncomputable def bq (G:Gd) (C:Calls) (d:Dp) (sc:Sc) (Γ:Gam) (e:E) (ast:Qe):Prop :=
 ∀ t st s env loc b st' A,AOk d A->env.scope.names=sc->FrOk G A t env Γ loc s->Rel G t st s->ev G.P C e loc st=.ok (.bool b) st'->Sim G A t s (isTrue ast env (eval ast env)) st' (fun ξ ξ b'=>b'=b)
set_option genCtorIdx true in
inductive SimL (G:Gd) (C:Calls) (d:Dp) (sc:Sc) (Γ:Gam):List E->List Qe->Prop
 | nil:SimL G C d sc Γ [] []
 | cons {e:E}{l:List E}{x:Qe}{m:List Qe}:z0 G C d sc Γ e x->bq G C d sc Γ e x->SimL G C d sc Γ l m->SimL G C d sc Γ (e::l) (x::m)
noncomputable def o5:Qe->Bool
 | .UnaryOp .Not _ _ | .BoolOp .. | .IfExp .. | .Compare ..=>false
 | _=>true
section
variable {G:Gd}{N:Names}{C:Calls}{d:Dp}{sc:Sc}{Γ:Gam}
set_option backward.match.sparseCases true in
theorem zgs {pos:Pos}:∀ {l:List E}{m:List Qe},SimL G C d sc Γ l m->∀ t st s env loc X st' A,AOk d A->env.scope.names=sc->FrOk G A t env Γ loc s->Rel G t st s->g8 G.P C l loc st=.ok X st'->
  Sim G A t s (boolOp pos .And (evalEach m env)) st' (qo X)
 | [],_,_=>by intro t st s env loc X st' A hA hsc F R e;simp only[v8,kt,xd] at e;exact zb e
 | [e],_,.cons he _ .nil=>by
  intro t st s env loc X st' A hA hsc F R q Q E k
  simp only[v8,kt,xd] at q
  exact he t st s env loc X st' A hA hsc F R q Q E k
 | e::e'::l,_,.cons he _ (.cons (x:=x') (m:=m') he' ht' r)=>by
  intro t st s env loc X st' A hA hsc F R q Q E k
  simp only[v8,kt,xd] at q
  obtain⟨v,s1,q1,q⟩:=Res.bind_ok q
  obtain⟨b,s2,q2,qq⟩:=Res.bind_ok q
  obtain⟨rfl,rfl⟩:=jx q2
  show wpAny G.M A (do
   let v <- eval _ env
   standAt pos
   let t <- holding [v] (truthy v)
   match BoolOp.And,t with
   | .And,false | .Or,true=>pure v
   | _,_=>boolOp pos .And (evalEach (x'::m') env)) Q E s
  refine Ze (he t st s env loc _ _ A hA hsc F R q1 _ _ fun u t1 σ1 S1 R1 r1=>?_)
  cases r1
  refine Ze (wpAny_standAt (Ze (wpAny_holding (wpAny_truthy_bool ?_))))
  cases b with
  | false=>simp only[Bool.false_eq_true,if_false] at qq;cases qq;exact Zr (k _ t1 σ1 S1 R1 rfl)
  | true =>
   simp only[if_true] at qq
   exact zgs (.cons he' ht' r) t1 _ σ1 env loc X st' A hA hsc (F.step R S1) R1 qq Q E fun u t2 σ2 S2 R2 r2=>k u t2 σ2 (S1.trans S2) R2 r2
set_option backward.match.sparseCases true in
theorem zld {pos:Pos}:∀ {l:List E}{m:List Qe},SimL G C d sc Γ l m->∀ t st s env loc X st' A,AOk d A->env.scope.names=sc->FrOk G A t env Γ loc s->Rel G t st s->zad G.P C l loc st=.ok X st'->
  Sim G A t s (boolOp pos .Or (evalEach m env)) st' (qo X)
 | [],_,_=>by intro t st s env loc X st' A hA hsc F R e;simp only[yw,yg,xh] at e;exact zb e
 | [e],_,.cons he _ .nil=>by
  intro t st s env loc X st' A hA hsc F R q Q E k
  simp only[yw,yg,xh] at q
  exact he t st s env loc X st' A hA hsc F R q Q E k
 | e::e'::l,_,.cons he _ (.cons (x:=x') (m:=m') he' ht' r)=>by
  intro t st s env loc X st' A hA hsc F R q Q E k
  simp only[yw,yg,xh] at q
  obtain⟨v,s1,q1,q⟩:=Res.bind_ok q
  obtain⟨b,s2,q2,qq⟩:=Res.bind_ok q
  obtain⟨rfl,rfl⟩:=jx q2
  show wpAny G.M A (do
   let v <- eval _ env
   standAt pos
   let t <- holding [v] (truthy v)
   match BoolOp.Or,t with
   | .And,false | .Or,true=>pure v
   | _,_=>boolOp pos .Or (evalEach (x'::m') env)) Q E s
  refine Ze (he t st s env loc _ _ A hA hsc F R q1 _ _ fun u t1 σ1 S1 R1 r1=>?_)
  cases r1
  refine Ze (wpAny_standAt (Ze (wpAny_holding (wpAny_truthy_bool ?_))))
  cases b with
  | true=>simp only[if_true] at qq;cases qq;exact Zr (k _ t1 σ1 S1 R1 rfl)
  | false =>
   simp only[Bool.false_eq_true,if_false] at qq
   exact zld (.cons he' ht' r) t1 _ σ1 env loc X st' A hA hsc (F.step R S1) R1 qq Q E fun u t2 σ2 S2 R2 r2=>k u t2 σ2 (S1.trans S2) R2 r2
theorem zn7 {l:List E}{m:List Qe}{pos:Pos} (h:SimL G C d sc Γ l m):z0 G C d sc Γ (.and l) (.BoolOp .And m pos):=by
 intro t st s env loc X st' A hA hsc F R e
 rw[n0] at e
 exact zgs h t st s env loc X st' A hA hsc F R e
theorem zq1 {l:List E}{m:List Qe}{pos:Pos} (h:SimL G C d sc Γ l m):z0 G C d sc Γ (.or l) (.BoolOp .Or m pos):=by
 intro t st s env loc X st' A hA hsc F R e
 rw[tu] at e
 exact zld h t st s env loc X st' A hA hsc F R e
set_option tactic.hygienic true in
theorem zec {e:E}{x:Qe} (hx:o5 x=true) (h:z0 G C d sc Γ e x):bq G C d sc Γ e x:=by
 intro t st s env loc b st' A hA hsc F R q Q E k
 have he:isTrue x env (eval x env)=(do let v <- eval x env;standAt x.pos;holding [v] (truthy v)):=by
  cases x <;> first | rfl | (cases hx;done) | skip
  rename_i op _ _
  cases op <;> first | rfl | exact z6 hx
 rw[he]
 refine Ze (h t st s env loc _ _ A hA hsc F R q _ _ fun u t1 σ1 S1 R1 r1=>?_)
 cases r1
 exact Ze (wpAny_standAt (wpAny_holding (wpAny_truthy_bool (k _ t1 σ1 S1 R1 rfl))))
theorem zlw {a:E}{x:Qe}{pos:Pos} (ha:bq G C d sc Γ a x):bq G C d sc Γ (.not a) (.UnaryOp .Not x pos):=by
 intro t st s env loc b st' A hA hsc F R e Q E k
 rw[zdc] at e
 obtain⟨v,s1,e1,e⟩:=Res.bind_ok e
 obtain⟨c,s2,e2,ee⟩:=Res.bind_ok e
 obtain⟨rfl,rfl⟩:=jx e2
 cases ee
 refine wpAny_isTrue_Not (ha t st s env loc _ _ A hA hsc F R e1 _ _ fun u t1 σ1 S1 R1 r1=>?_)
 subst r1
 exact k _ t1 σ1 S1 R1 rfl
theorem zbi:∀ {l:List E}{m:List Qe},SimL G C d sc Γ l m->∀ t st s env loc b st' A,AOk d A->env.scope.names=sc->FrOk G A t env Γ loc s->Rel G t st s->g8 G.P C l loc st=.ok (.bool b) st'->
  Sim G A t s (PySem.allTrue .And m env) st' (fun ξ ξ b'=>b'=b)
 | [],_,_=>by intro t st s env loc X st' A hA hsc F R e;simp only[v8,kt,xd] at e;exact zb e
 | [e],_,.cons (x:=x) he ht .nil=>by
  intro t st s env loc b st' A hA hsc F R q Q E k
  simp only[v8,kt,xd] at q
  refine wpAny_allTrue_And_cons (ht t st s env loc b st' A hA hsc F R q _ _ fun u t1 σ1 S1 R1 r1=>?_)
  subst r1
  cases u with
  | false=>exact k _ t1 σ1 S1 R1 rfl
  | true=>exact wpAny_allTrue_And_nil (k _ t1 σ1 S1 R1 rfl)
 | e::e'::l,_,.cons he ht (.cons (x:=x') (m:=m') he' ht' r)=>by
  intro t st s env loc b st' A hA hsc F R q Q E k
  simp only[v8,kt,xd] at q
  obtain⟨v,s1,q1,q⟩:=Res.bind_ok q
  obtain⟨c,s2,q2,qq⟩:=Res.bind_ok q
  obtain⟨rfl,rfl⟩:=jx q2
  refine wpAny_allTrue_And_cons (ht t st s env loc _ _ A hA hsc F R q1 _ _ fun u t1 σ1 S1 R1 r1=>?_)
  subst r1
  cases u with
  | false=>simp only[Bool.false_eq_true,if_false] at qq;cases qq;exact k _ t1 σ1 S1 R1 rfl
  | true =>
   simp only[if_true] at qq
   exact zbi (.cons he' ht' r) t1 _ σ1 env loc b st' A hA hsc (F.step R S1) R1 qq Q E fun u t2 σ2 S2 R2 r2=>k u t2 σ2 (S1.trans S2) R2 r2
theorem zfv:∀ {l:List E}{m:List Qe},SimL G C d sc Γ l m->∀ t st s env loc b st' A,AOk d A->env.scope.names=sc->FrOk G A t env Γ loc s->Rel G t st s->zad G.P C l loc st=.ok (.bool b) st'->
  Sim G A t s (PySem.allTrue .Or m env) st' (fun ξ ξ b'=>b'=b)
 | [],_,_=>by intro t st s env loc X st' A hA hsc F R e;simp only[yw,yg,xh] at e;exact zb e
 | [e],_,.cons (x:=x) he ht .nil=>by
  intro t st s env loc b st' A hA hsc F R q Q E k
  simp only[yw,yg,xh] at q
  refine wpAny_allTrue_Or_cons (ht t st s env loc b st' A hA hsc F R q _ _ fun u t1 σ1 S1 R1 r1=>?_)
  subst r1
  cases u with
  | true=>exact k _ t1 σ1 S1 R1 rfl
  | false=>exact wpAny_allTrue_Or_nil (k _ t1 σ1 S1 R1 rfl)
 | e::e'::l,_,.cons he ht (.cons (x:=x') (m:=m') he' ht' r)=>by
  intro t st s env loc b st' A hA hsc F R q Q E k
  simp only[yw,yg,xh] at q
  obtain⟨v,s1,q1,q⟩:=Res.bind_ok q
  obtain⟨c,s2,q2,qq⟩:=Res.bind_ok q
  obtain⟨rfl,rfl⟩:=jx q2
  refine wpAny_allTrue_Or_cons (ht t st s env loc _ _ A hA hsc F R q1 _ _ fun u t1 σ1 S1 R1 r1=>?_)
  subst r1
  cases u with
  | true=>simp only[if_true] at qq;cases qq;exact k _ t1 σ1 S1 R1 rfl
  | false =>
   simp only[Bool.false_eq_true,if_false] at qq
   exact zfv (.cons he' ht' r) t1 _ σ1 env loc b st' A hA hsc (F.step R S1) R1 qq Q E fun u t2 σ2 S2 R2 r2=>k u t2 σ2 (S1.trans S2) R2 r2
theorem ziv {l:List E}{m:List Qe}{pos:Pos} (h:SimL G C d sc Γ l m):bq G C d sc Γ (.and l) (.BoolOp .And m pos):=by
 intro t st s env loc X st' A hA hsc F R e
 rw[n0] at e
 exact zbi h t st s env loc X st' A hA hsc F R e
theorem zmt {l:List E}{m:List Qe}{pos:Pos} (h:SimL G C d sc Γ l m):bq G C d sc Γ (.or l) (.BoolOp .Or m pos):=by
 intro t st s env loc X st' A hA hsc F R e
 rw[tu] at e
 exact zfv h t st s env loc X st' A hA hsc F R e
theorem n6 {M:Model}{A:Around}{E:Value->Shared->Prop}{s:Shared}{env:Env}{x y:Qe}{op:CmpOp}{pos:Pos}{Q:Bool->Shared->Prop} (hm:behindInMarks op y=false)
  (h:wpAny M A (eval x env) (fun a s₁=>wpAny M A (eval y env) (fun b s₂=>wpAny M A (compareOp op a b) (fun c s₃=>∃ z,c=.bool z/\Q z s₃) E s₂) E s₁) E s) :
  wpAny M A (isTrue (.Compare x [op] [y] pos) env (eval (.Compare x [op] [y] pos) env)) Q E s:=by
 refine wpAny_isTrue_Compare1 (wpAny_mono h (fun a s₁ h₁=>wpAny_mono h₁ (fun b s₂ h₂=>wpAny_mono h₂ (fun c s₃ h₃=>?_) fun ξ ξ e=>e) fun ξ ξ e=>e) fun ξ ξ e=>e) hm
 obtain⟨z,rfl,hz⟩:=h₃
 exact wpAny_truthy_bool hz
theorem zmp {o:Cop}{a b:E}{x y:Qe}{pos:Pos} (hm:behindInMarks (ja o) y=false) (ha:z0 G C d sc Γ a x) (hb:z0 G C d sc Γ b y):bq G C d sc Γ (.cmp a o b) (.Compare x [ja o] [y] pos):=by
 intro t st s env loc c st' A hA hsc F R e Q E k
 rw[zeh] at e
 obtain⟨v1,s1,e1,e⟩:=Res.bind_ok e
 obtain⟨v2,s2,e2,e⟩:=Res.bind_ok e
 refine n6 hm (ha t st s env loc _ _ A hA hsc F R e1 _ _ fun u t1 σ1 S1 R1 r1=>?_)
 refine hb t1 s1 σ1 env loc _ _ A hA hsc (F.step R S1) R1 e2 _ _ fun w t2 σ2 S2 R2 r2=>?_
 exact v7 R2 hA (VRel.step S2 (fun ξ z=>z.elim) _ r1) r2 e _ _ fun z t3 σ3 S3 R3 r3=>⟨c,r3,k c t3 σ3 ((S1.trans S2).trans S3) R3 rfl⟩
theorem zzc (pos:Pos) (left:Value) (op op2:CmpOp) (r r2:Sem Value):testChain pos left [op,op2] [r,r2]=(do
  let rv <- holding [left] r
  standAt pos
  let c <- holding [left,rv] (compareOp op left rv)
  release [left,rv] [c]
  if <- holding [c,rv] (truthy c) then testChain pos rv [op2] [r2] else pure false):=rfl
theorem zz7 (pos:Pos) (left:Value) (op:CmpOp) (r:Sem Value):testChain pos left [op] [r]=(do
  let rv <- holding [left] r
  standAt pos
  let c <- operate [left,rv] (compareOp op left rv)
  holding [c] (truthy c)):=rfl
theorem zjo {o o2:Cop}{a b c:E}{x y z:Qe}{pos:Pos} (hm:behindInMarks (ja o2) z=false) (ha:z0 G C d sc Γ a x) (hb:z0 G C d sc Γ b y) (hc:z0 G C d sc Γ c z) :
  bq G C d sc Γ (.cmp2 a o b o2 c) (.Compare x [ja o,ja o2] [y,z] pos):=by
 intro t st s env loc X st' A hA hsc F R e Q E k
 rw[gw] at e
 obtain⟨v1,s1,e1,e⟩:=Res.bind_ok e
 obtain⟨v2,s2,e2,e⟩:=Res.bind_ok e
 obtain⟨v3,s3,e3,e⟩:=Res.bind_ok e
 obtain⟨b3,s4,e4,ee⟩:=Res.bind_ok e
 obtain⟨rfl,rfl⟩:=jx e4
 have mk:markedEach [ja o,ja o2] [y,z] (evalEach [y,z] env)=[eval y env,eval z env]:=by
  show eval y env::[markedBehindIn (ja o2) z (eval z env)]=_
  rw[markedBehindIn_of_false hm]
 show wpAny G.M A (do testChain pos (<- eval x env) [ja o,ja o2] (markedEach [ja o,ja o2] [y,z] (evalEach [y,z] env))) Q E s
 rw[mk]
 refine Ze (ha t st s env loc _ _ A hA hsc F R e1 _ _ fun u t1 σ1 S1 R1 r1=>?_)
 rw[zzc]
 refine Ze (wpAny_holding (hb t1 s1 σ1 env loc _ _ A hA hsc (F.step R S1) R1 e2 _ _ fun w t2 σ2 S2 R2 r2=>?_))
 refine Ze (wpAny_standAt (Ze (wpAny_holding ?_)))
 refine v7 R2 hA (VRel.step S2 (fun ξ z=>z.elim) _ r1) r2 e3 _ _ fun q t3 σ3 S3 R3 r3=>?_
 cases r3
 refine Ze (wpAny_release (Ze (wpAny_holding (wpAny_truthy_bool ?_))))
 cases b3 with
 | false =>
  simp only[Bool.false_eq_true,if_false] at ee ⊢
  cases ee
  exact Zr (k _ t3 σ3 ((S1.trans S2).trans S3) R3 rfl)
 | true =>
  simp only[if_true] at ee ⊢
  obtain⟨v5,s5,e5,e6⟩:=Res.bind_ok ee
  rw[zz7]
  refine Ze (wpAny_holding (hc t3 _ σ3 env loc _ _ A hA hsc (((F.step R S1).step R1 S2).step R2 S3) R3 e5 _ _ fun w' t4 σ4 S4 R4 r4=>?_))
  refine Ze (wpAny_standAt (Ze (wpAny_operating ?_)))
  refine v7 R4 hA (VRel.step (S3.trans S4) (fun ξ z=>z.elim) _ r2) r4 e6 _ _ fun z t5 σ5 S5 R5 r5=>?_
  cases r5
  exact wpAny_holding (wpAny_truthy_bool (k _ t5 σ5 ((((S1.trans S2).trans S3).trans S4).trans S5) R5 rfl))
theorem ztl {n:Bool}{p:CmpOp}{A:Around}{t:Tie}{s:Shared}{v:V}{u:Value}{Q:Value->Shared->Prop}{E:Value->Shared->Prop} (hp:sb p n=true) (r1:VRel t s.heap v u) (h:Q (.bool (decide (v=.none) != n)) s):wpAny G.M A (compareOp p u .none) Q E s:=by
 have key:(u == Value.none)=decide (v=.none):=by
  cases v with
  | none=>cases r1;(first | exact(Zb rfl).symm | exact(Zc nofun).symm)
  | bool=>cases r1;(first | exact(Zb rfl).symm | exact(Zc nofun).symm)
  | int=>obtain⟨_,rfl⟩:=r1;(first | exact(Zb rfl).symm | exact(Zc nofun).symm)
  | str=>obtain⟨_,rfl⟩:=r1;(first | exact(Zb rfl).symm | exact(Zc nofun).symm)
  | tup=>obtain⟨_,_,rfl,_⟩:=r1;(first | exact(Zb rfl).symm | exact(Zc nofun).symm)
  | lst=>obtain⟨_,_,rfl,_⟩:=r1;(first | exact(Zb rfl).symm | exact(Zc nofun).symm)
  | ref=>obtain⟨_,rfl,_⟩:=r1;(first | exact(Zb rfl).symm | exact(Zc nofun).symm)
  | exc=>obtain⟨_,_,rfl,_⟩:=r1;(first | exact(Zb rfl).symm | exact(Zc nofun).symm)
 cases p <;> simp only[sb] at hp <;> (try contradiction)
 ·have:n=false:=by simpa using hp
  subst this
  exact is_none (by rw[key];revert h;cases decide (v=V.none) <;> exact id)
 ·have:n=true:=hp
  subst this
  exact isNot_none (by rw[key];revert h;cases decide (v=V.none) <;> exact id)
theorem zlg {n:Bool}{a:E}{x:Qe}{p:CmpOp}{pos p2:Pos}{j:Nat} (hp:sb p n=true) (ha:z0 G C d sc Γ a x):bq G C d sc Γ (.isC n a .none) (.Compare x [p] [.Constant .none j p2] pos):=by
 intro t st s env loc c st' A hA hsc F R e Q E k
 rw[ze2] at e
 obtain⟨v,s1,e1,e⟩:=Res.bind_ok e
 cases e
 refine n6 rfl (ha t st s env loc _ _ A hA hsc F R e1 _ _ fun u t1 σ1 S1 R1 r1=>?_)
 exact wpAny_Constant_none (ztl hp r1 ⟨_,rfl,k _ t1 σ1 S1 R1 rfl⟩)
end
end Internal
end
section
namespace Internal
open PySem PySem.W PyProof.Rows PySem.SeqAt
section
variable {G:Gd}{N:Names}{C:Calls}{d:Dp}{sc:Sc}{Γ:Gam}{t:Tie}{st st':MS}{s:Shared}{A:Around}{X Y Z:V}{v w:Value}
theorem zas {i:Int}{n j:Nat} (e:idx i n=some j):(0<=i/\i < n/\j=i.toNat)\/(i < 0/\0<=i+n/\j=(i+n).toNat):=by
 have e:(if 0<=i then (if i < n then some i.toNat else Option.none) else (if 0<=i+n then some (i+n).toNat else Option.none))=some j:=e
 by_cases h:0<=i
 ·rw[Zg h] at e
  by_cases h2:i < n
  ·rw[Zg h2] at e;cases e;exact .inl ⟨h,h2,rfl⟩
  ·rw[Zh h2] at e;exact za e
 ·rw[Zh h] at e
  by_cases h2:0<=i+n
  ·rw[Zg h2] at e;cases e;exact .inr ⟨Int.lt_of_not_ge h,h2,rfl⟩
  ·rw[Zh h2] at e;exact za e
theorem mq {i k:Int}{n:Nat} (h:(if i < 0 then i+n else i)=k) (h0:0<=k) (h1:k < n):seqIndex? i n=some k.toNat/\k.toNat < n:=by
 have e:seqIndex? i n=if (decide (0<=(if i < 0 then i+n else i))&&decide ((if i < 0 then i+n else i) < (n:Int)))=true then some (if i < 0 then i+n else i).toNat else none:=rfl
 rw[e,h,Zb h0,Zb h1]
 exact⟨rfl,(Int.toNat_lt h0).2 h1⟩
theorem v0 {i:Int}{n j:Nat} (e:idx i n=some j):seqIndex? i n=some j/\j < n:=by
 rcases zas e with ⟨h1,h2,rfl⟩ | ⟨h1,h2,rfl⟩
 ·exact mq (Zh (Int.not_lt.2 h1)) h1 h2
 ·exact mq (Zg h1) h2 (by lia)
noncomputable def j5 (x:Qe):Bool:=!Nat.beq x.ctorIdx 26
theorem j2 {slice:Qe} (h:j5 slice=true) (o i:Value):subscripted slice false o i=operate [o,i] (PySem.getItem o i):=by
 cases slice <;> first | rfl | exact z6 h
theorem eu {i:Int}{n j:Nat} (h:idx i n=some j) (hn:n<=ze):-(2 ^ 63:Int)<=i/\i < 2 ^ 63:=by
 have hn:n<=16777216:=hn
 have h:-(n:Int)<=i/\i < n:=by rcases zas h with h | h <;> omega
 omega
theorem zs1 {i:Int}{n j:Nat} (h:idx i n=some j) (hn:n<=ze):(decide (i < -(2 ^ 63))||decide (i ≥ 2 ^ 63))=false:=by
 obtain⟨h1,h2⟩:=eu h hn
 rw[Zc (Int.not_lt.2 h1),Zc (Int.not_le.2 h2)];rfl
theorem zuq {i:Int}{n j:Nat} (h:idx i n=some j) (h0:0<=i):j=i.toNat:=by
 rcases zas h with ⟨_,_,h⟩ | ⟨h,_⟩
 ·exact h
 ·exact absurd h0 (Int.not_le.2 h)
theorem so {b:V} (h:b.isKey=true):∃ x,b=.str x:=by
 cases b with
 | str x=>exact⟨x,rfl⟩
 | _=>exact z6 h
theorem zmg {α β:Type}{h:Option MObj}{f:List (V×V)->Res β}{y:β}{s:MS} (e:(match h with | some (.dict l)=>f l | _=>.stuck)=.ok y s):∃ l,h=some (.dict l)/\f l=.ok y s:=by
 cases h with
 | none=>exact zb e
 | some o=>cases o with
  | dict l=>exact⟨l,rfl,e⟩
  | _=>exact zb e
theorem zp2 {X Y Z:V}{st st':MS} (e:(match X with
  | .ref r=>match st.heap r with
   | some (.dict l)=>if Y.isKey then okV st (jh Y l) else .stuck
   | _=>.stuck
  | _=>.stuck)=.ok Z st'):∃ x r l,Y=.str x/\X=.ref r/\st.heap r=some (.dict l)/\jh (.str x) l=some Z/\st'=st:=by
 cases X with
 | ref r =>
  obtain⟨l,h1,h2⟩:=zmg (α:=V) e
  by_cases hk:Y.isKey=true
  ·rw[Zg hk] at h2
   obtain⟨x,rfl⟩:=so hk
   obtain⟨h3,h4⟩:=fj h2
   exact⟨x,r,l,rfl,rfl,h1,h3,h4⟩
  ·rw[Zh hk] at h2;exact zb h2
 | _=>exact zb e
theorem zt3 {X Z:V}{i:Int}{st st':MS} (e:(match zr st X with
  | some (_,l)=>okV st ((idx i l.length).bind fun j=>l[j]?)
  | .none=>.stuck)=.ok Z st'):∃ k l j,zr st X=some (k,l)/\idx i l.length=some j/\l[j]?=some Z/\st'=st:=by
 cases h:zr st X with
 | none=>rw[h] at e;exact zb e
 | some p =>
  rw[h] at e
  obtain⟨h1,h2⟩:=fj e
  obtain⟨j,h3,h4⟩:=Option.bind_eq_some_iff.mp h1
  exact⟨p.1,p.2,j,rfl,h3,h4,h2⟩
theorem zj7 {x:List Nat}{i:Int}{Z:V}{st st':MS} (e:getItem (.str x) (.int i) st=.ok Z st'):x.length<=ze/\∃ j c,idx i x.length=some j/\x[j]?=some c/\Z=.str [c]/\st'=st:=by
 have e:(if x.length<=ze then okV st ((idx i x.length).bind fun j=>(x[j]?).map fun c=>.str [c]) else .stuck)=.ok Z st':=e
 by_cases hz:x.length<=ze
 ·rw[Zg hz] at e
  obtain⟨ez,h⟩:=fj e
  obtain⟨j,h1,h2⟩:=Option.bind_eq_some_iff.mp ez
  obtain⟨c,h3,h4⟩:=Option.map_eq_some_iff.mp h2
  exact⟨hz,j,c,h1,h3,h4.symm,h⟩
 ·rw[Zh hz] at e;exact zb e
theorem zmw {value slice:Qe}{x:List Nat}{i:Int}{kx ki:Tok} (hs:j5 slice=true) (R:Rel G t st s) (e:getItem (.str x) (.int i) st=.ok Z st'):Sim G A t s (subscriptTail value slice (.str (z7 x) kx) (.int i ki)) st' (qo Z):=by
 obtain⟨hz,j,c,h1,h3,rfl,rfl⟩:=zj7 e
 intro Q E q
 refine tail_any (typeIs_str s _ kx) PySem.F.slot_str_getitem.lookup (PyProof.Rows.getItem_str (c:=c) (zs1 h1 hz) ?_ (q _ t _ (Step.toks _ t s _) (R.toks _) ⟨_,rfl⟩)) (j2 hs _ _)
 rw[show(z7 x).length=x.length from rfl,(v0 h1).1,Option.bind_some]
 exact List.getElem?_toArray.trans h3
theorem zg7 {value slice:Qe}{l:List V}{i:Int}{ki:Tok}{a:Addr}{vs:Array Value}{j:Nat} (hs:j5 slice=true) (R:Rel G t st s) (ia:PL s.heap a vs) (ra:VRels t s.heap l vs.toList) (sz:l.length<=ze) (h1:idx i l.length=some j) (h2:l[j]?=some Z) :
  Sim G A t s (subscriptTail value slice (.ref a) (.int i ki)) st (qo Z):=by
 obtain⟨y,h6,h7⟩:=ra.get h2
 have hbd:=eu h1 sz
 intro Q E q
 refine tail_any ia.isList.typeIs slot_list_getitem.lookup ?_ (j2 hs _ _)
 by_cases h0:0<=i
 ·cases zuq h1 h0
  exact wpAny_getItem_list ia.isList h0 hbd.2 (Array.getElem?_toList.symm.trans h6) (q _ t s (.refl _ _ _) R h7)
 ·rw[show vs=vs.toList.toArray from Array.toArray_toList.symm] at ia
  exact kde_getNeg ia.isList (Int.lt_of_not_ge h0) hbd.1 (by rw[ra.length];exact(v0 h1).1) h6 (q _ t s (.refl _ _ _) R h7)
theorem zk0 {value slice:Qe}{l:List V}{i:Int}{ki:Tok}{a:Addr}{vs:Array Value}{j:Nat} (hs:j5 slice=true) (R:Rel G t st s) (ia:PT s.heap a vs) (ra:VRels t s.heap l vs.toList) (sz:l.length<=ze) (h1:idx i l.length=some j) (h2:l[j]?=some Z) :
  Sim G A t s (subscriptTail value slice (.ref a) (.int i ki)) st (qo Z):=by
 obtain⟨y,h6,h7⟩:=ra.get h2
 have hbd:=eu h1 sz
 obtain⟨n,ha⟩:=ia
 intro Q E q
 exact tail_any ⟨_,ha,rfl⟩ PySem.F.slot_tuple_getitem.lookup (P.getItem_tuple ha (Int.le_trans (by decide) hbd.1) hbd.2 (by rw[show vs.size=_ from ra.length];exact(v0 h1).1) (Array.getElem?_toList.symm.trans h6) (q _ t s (.refl _ _ _) R h7)) (j2 hs _ _)
theorem zls {value slice:Qe}{x:List Nat}{k:Tok}{r:Lbl}{dd:List (V×V)} (hs:j5 slice=true) (R:Rel G t st s) (hX:VRel t s.heap (.ref r) v) (hd:st.heap r=some (.dict dd)) (ez:jh (.str x) dd=some Z) :
  Sim G A t s (subscriptTail value slice v (.str (z7 x) k)) st (qo Z):=by
 obtain⟨a,kvs,h1,h2,h3⟩:=R.objs r _ hd
 obtain⟨a',rfl,e2⟩:=hX
 cases h1.symm.trans e2
 have f:=DRel.find (x:=x) h3
 rw[ez] at f
 obtain⟨y,f1,f2⟩:=f
 intro Q E q
 exact tail_any h2.mapOf.typeIs slot_dict_getitem.lookup (wpAny_getItem_of (strKind_is G.prog G.w (z7 x) k) h2.mapOf f1 (q _ t _ (Step.toks _ t s _) (R.toks _) f2)) (j2 hs _ _)
theorem zna {value slice:Qe}{i:Int}{ki:Tok} (hs:j5 slice=true) (R:Rel G t st s) (hX:VRel t s.heap X v) (e:(match zr st X with
  | some (_,l)=>okV st ((idx i l.length).bind fun j=>l[j]?)
  | .none=>.stuck)=.ok Z st'):Sim G A t s (subscriptTail value slice v (.int i ki)) st' (qo Z):=by
 obtain⟨kk,l,j,hl,h1,h2,rfl⟩:=zt3 e
 obtain⟨a,vs,rfl,ia,ra,sz⟩:=qa R hX hl
 cases kk with
 | true=>exact zg7 hs R ia ra sz h1 h2
 | false=>exact zk0 hs R ia ra sz h1 h2
theorem zds {value slice:Qe} (hs:j5 slice=true) (R:Rel G t st s) (hX:VRel t s.heap X v) (hY:VRel t s.heap Y w) (e:(match X with
  | .ref r=>match st.heap r with
   | some (.dict l)=>if Y.isKey then okV st (jh Y l) else .stuck
   | _=>.stuck
  | _=>.stuck)=.ok Z st'):Sim G A t s (subscriptTail value slice v w) st' (qo Z):=by
 obtain⟨x,r,l,rfl,rfl,h1,h2,rfl⟩:=zp2 e
 obtain⟨k,rfl⟩:=hY
 exact zls hs R hX h1 h2
theorem og {value slice:Qe} (hs:j5 slice=true) (R:Rel G t st s) (hA:AOk d A) (hX:VRel t s.heap X v) (hY:VRel t s.heap Y w) (e:getItem X Y st=.ok Z st'):Sim G A t s (subscriptTail value slice v w) st' (qo Z):=by
 cases Y with
 | int i =>
  obtain⟨k,rfl⟩:=hY
  cases X with
  | str x=>obtain⟨k1,rfl⟩:=hX;exact zmw hs R e
  | _=>exact zna hs R hX e
 | _=>exact zds hs R hX hY e
theorem zpy {a b:E}{x y:Qe}{pos:Pos} (hs:j5 y=true) (ha:z0 G C d sc Γ a x) (hb:z0 G C d sc Γ b y):z0 G C d sc Γ (.sub a b) (.Subscript x y pos):=by
 intro t st s env loc X st' A hA hsc F R e Q E k
 rw[zmu] at e
 obtain⟨v1,s1,e1,e⟩:=Res.bind_ok e
 obtain⟨v2,s2,e2,e⟩:=Res.bind_ok e
 refine Subscript_ (ha t st s env loc _ _ A hA hsc F R e1 _ _ fun u t1 σ1 S1 R1 r1=>?_)
 refine hb t1 s1 σ1 env loc _ _ A hA hsc (F.step R S1) R1 e2 _ _ fun w t2 σ2 S2 R2 r2=>?_
 exact og hs R2 hA (VRel.step S2 (fun ξ z=>z.elim) _ r1) r2 e _ _ fun z t3 σ3 S3 R3 r3=>k z t3 σ3 ((S1.trans S2).trans S3) R3 r3
noncomputable def j4 (x:Qe):Bool:=!Nat.beq x.ctorIdx 16
theorem gc {x:Qe} (h:j4 x=true) (n:Qf) (env:Env):attributeBase x n env (eval x env)=eval x env:=by
 cases x with
 | Call f l k p=>exact z6 h
 | _=>rfl
structure ClsOk (G:Gd) (Ca:Addr):Prop where
 ga:findIn G.K (.ref Ca) "__getattribute__"=some (some (.builtin "object.__getattribute__"))
 gt:findIn G.K (.ref Ca) "__getattr__"=some none
 sa:findIn G.K (.ref Ca) "__setattr__"=some (some (.builtin "object.__setattr__"))
 at_:∀ i,i < 13->findIn G.K (.ref Ca) (G.an i)=some none
 cd:∃ cd,clsIn G.K Ca=some cd/\cd.hasDict=true
 po:plainOver G.K Ca=true
theorem zh7 {h:Heap}{a:Addr}{m:Qf->Option Value} (hn:h.Ns a m) (x:Qf):∃ o,h.get? a=some o/\lookIn x o=some (m x):=by
 obtain⟨o,es,ep,ho,hd,hk,hf⟩:=hn
 refine⟨o,ho,?_⟩
 unfold lookIn
 rw[hd]
 dsimp only
 have:=hf x
 unfold nsFind findBy at this
 rw[<- Array.find?_toList] at this
 cases q:es.toList.find? (fun e=>e.key.isStr x) with
 | some e=>rw[q] at this;simp only[Option.map_some] at this;rw[<- this]
 | none =>
  rw[q] at this
  simp only[Option.map_none] at this
  have nr:es.toList.any (·.refKey)=false:=by
   refine List.any_eq_false.mpr fun e he=>?_
   obtain⟨n,tk,hk'⟩:=hk e (Array.mem_toList_iff.mp he)
   simp[DictEntry.refKey,hk']
  dsimp only
  rw[nr,Zh (by decide),<- this]
theorem ie {G:Gd}{t:Tie}{st:MS}{s:Shared} (R:Rel G t st s) {l:Lbl}{c:Nat}{as:List (Nat×V)} (h:st.heap l=some (.inst c as)) :
  ∃ a dd Ca m od,t.ρ l=some a/\t.δ l=some dd/\G.ca c=some Ca/\InstAt s.heap a (instObj Ca dd) Ca (some od)/\s.heap.get? dd=some od/\(∀ x,lookIn x od=some (m x))/\NsZ s.heap dd m as.length/\zkv G t s.heap as m:=by
 obtain⟨a,dd,Ca,m,h1,h2,h3,h4,h5,h6⟩:=R.objs l _ h
 have h7:∃ od,s.heap.get? dd=some od:=let ⟨o,_,_,ho,_⟩:=h5;⟨o,ho⟩
 obtain⟨od,ho⟩:=h7
 refine⟨a,dd,Ca,m,od,h1,h2,h3,⟨h4,rfl,rfl,ho⟩,ho,fun x=>?_,h5,h6⟩
 obtain⟨o',e1,e2⟩:=zh7 h5.ns x
 rw[ho] at e1;cases e1;exact e2
theorem zcg {β:Type}{h:Option MObj}{f:Nat->List (Nat×V)->Res β}{y:β}{s:MS} (e:(match h with | some (.inst c as)=>f c as | _=>.stuck)=.ok y s):∃ c as,h=some (.inst c as)/\f c as=.ok y s:=by
 cases h with
 | none=>exact zb e
 | some o=>cases o with
  | inst c as=>exact⟨c,as,rfl,e⟩
  | _=>exact zb e
theorem zbv {X Z:V}{i:Nat}{st st':MS} (e:getAttr X i st=.ok Z st'):∃ r c as,X=.ref r/\st.heap r=some (.inst c as)/\vn i as=some Z/\st'=st:=by
 obtain⟨r,rfl,e⟩:=zfm e
 obtain⟨c,as,h,e⟩:=zcg e
 obtain⟨h1,h2⟩:=fj e
 exact⟨r,c,as,rfl,h,h1,h2⟩
theorem zh2 {y:Value} (h:∀ n,y≠.builtin n):handedIn y=true:=by
 cases y with
 | builtin n=>exact absurd rfl (h n)
 | _=>rfl
theorem zur {cd:ClassData}{od:Obj}{x:Qf}{o:Option Value} (c2:cd.hasDict=true) (h:lookIn x od=some o):W.ownOf cd (some od) x=some o:=by
 delta W.ownOf;rw[c2,Zg rfl];exact h
theorem zb7 {K:Frag}{Ca:Addr}{cd:ClassData}{od:Obj}{x:Qf}{y:Value} (c1:clsIn K Ca=some cd) (c2:cd.hasDict=true) (hf:findIn K (.ref Ca) x=some none) (h:lookIn x od=some (some y)):findObj K Ca (some od) x=some (.value y):=by
 delta findObj
 rw[c1,hf]
 show(W.ownOf cd (some od) x).bind _=_
 rw[zur c2 h];rfl
theorem om (O:G.Ok N) (hcl:∀ c Ca,G.ca c=some Ca->ClsOk G Ca) {i:Nat}{b:Bool} (hi:i < 13) (R:Rel G t st s) (hX:VRel t s.heap X v) (e:getAttr X i st=.ok Z st'):Sim G A t s (PySem.getAttr v (G.an i) b) st' (qo Z):=by
 obtain⟨r,c,as,rfl,has,q,rfl⟩:=zbv e
 obtain⟨a,dd,Ca,m,od,h1,h2,h3,I,h5,h6,h7,h8⟩:=ie R has
 obtain⟨a',rfl,e2⟩:=hX
 cases h1.symm.trans e2
 obtain⟨y,y1,y2⟩:=h8.1 i Z q
 have K:=hcl c Ca h3
 obtain⟨cd,c1,c2⟩:=K.cd
 intro Q E k
 exact get_value (O.K.keeps R.base) I K.ga (zb7 c1 c2 (K.at_ i hi) ((h6 _).trans (Qd some y1))) (zh2 y2.notB) (k _ t _ (Step.toks _ t s _) (R.toks _) y2)
theorem zn1 (O:G.Ok N) (hcl:∀ c Ca,G.ca c=some Ca->ClsOk G Ca) {i:Nat}{a:E}{x:Qe}{pos:Pos} (hi:i < 13) (hx:j4 x=true) (ha:z0 G C d sc Γ a x):z0 G C d sc Γ (.attr a i) (.Attribute x (G.an i) pos):=by
 intro t st s env loc X st' A hA hsc F R e Q E k
 rw[zfj] at e
 obtain⟨v1,s1,e1,e⟩:=Res.bind_ok e
 refine Attribute_any_ (ha t st s env loc _ _ A hA hsc F R e1 _ _ fun u t1 σ1 S1 R1 r1=>?_) ?_
 ·exact om O hcl hi R1 r1 e _ _ fun z t3 σ3 S3 R3 r3=>k z t3 σ3 (S1.trans S3) R3 r3
 ·show(attributeBase x (G.an i) env (eval x env) >>= _)=_
  rw[gc hx]
theorem fw {i:Nat}{w:V}{r:List (Nat×V)}:vn i ((i,w)::r)=some w:=Zg rfl
theorem ba {i k:Nat}{w:V}{r:List (Nat×V)} (h:¬ k=i):vn i ((k,w)::r)=vn i r:=Zh h
theorem znx {i:Nat}{v w:V}{r:List (Nat×V)}:pc i v ((i,w)::r)=(i,v)::r:=Zg rfl
theorem zga {i k:Nat}{v w:V}{r:List (Nat×V)} (h:¬ k=i):pc i v ((k,w)::r)=(k,w)::pc i v r:=Zh h
theorem y9 (i j:Nat) (v:V):∀ as:List (Nat×V),vn j (pc i v as)=if j=i then some v else vn j as
 | []=>by
  by_cases q:i=j
  ·subst q;rw[Zg rfl];exact fw
  ·rw[Zh (fun z=>q z.symm)];exact ba q
 | (k,w)::r=>by
  by_cases q:k=i
  ·subst q
   rw[znx]
   by_cases z:k=j
   ·subst z;rw[Zg rfl];exact fw
   ·rw[Zh (fun y=>z y.symm),ba z,ba z]
  ·rw[zga q]
   by_cases z:k=j
   ·subst z;rw[Zh q,fw,fw]
   ·rw[ba z,ba z,y9 i j v r]
theorem ui (i:Nat) (v:V):∀ as:List (Nat×V),(pc i v as).length=if (vn i as).isSome=true then as.length else as.length+1
 | []=>rfl
 | (k,w)::r=>by
  by_cases q:k=i
  ·subst q;rw[znx,fw];rfl
  ·rw[zga q,ba q,Z4,ui i v r,Z4]
   cases (vn i r).isSome <;> rfl
theorem zeg {i:Nat}{v:V}{as:List (Nat×V)} (h:as.length < 1000):(pc i v as).length<=1000:=by
 rw[ui]
 cases (vn i as).isSome with
 | true=>exact Nat.le_of_lt h
 | false=>exact h
theorem zm6 (O:G.Ok N) {h:Heap}{i:Nat}{as:List (Nat×V)}{m:Qf->Option Value} (h8:zkv G t h as m):(if (m (G.an i)).isSome=true then as.length else as.length+1)=(pc i Y as).length:=by
 rw[ui]
 cases q:vn i as with
 | some z=>obtain⟨y,y1,_⟩:=h8.1 i z q;rw[y1];rfl
 | none =>
  cases q2:m (G.an i) with
  | none=>rfl
  | some y=>obtain⟨j,z,z1,z2⟩:=h8.2 _ _ q2;rw[<- O.an _ _ z1,q] at z2;exact za z2
theorem zod (O:G.Ok N) {t':Tie}{h h':Heap}{i:Nat}{as:List (Nat×V)}{m:Qf->Option Value} (h8:zkv G t h as m) (hY:VRel t' h' Y w) (hs:∀ z y,VRel t h z y->VRel t' h' z y):zkv G t' h' (pc i Y as) (fun x=>if x=G.an i then some w else m x):=by
 refine⟨fun j z hz=>?_,fun x y hx=>?_⟩
 ·rw[y9] at hz
  by_cases q:j=i
  ·subst q
   rw[Zg rfl] at hz;cases hz
   exact⟨w,Zg rfl,hY⟩
  ·rw[Zh q] at hz
   obtain⟨y,y1,y2⟩:=h8.1 j z hz
   exact⟨y,(Zh fun z=>q (O.an _ _ z)).trans y1,hs _ _ y2⟩
 ·by_cases q:x=G.an i
  ·subst q;exact⟨i,Y,rfl,by rw[y9,Zg rfl]⟩
  ·obtain⟨j,z,rfl,z2⟩:=h8.2 x y ((Zh q).symm.trans hx)
   exact⟨j,z,rfl,by rw[y9,Zh fun (z:j=i)=>q (by rw[z])];exact z2⟩
theorem zck {X:V}{i:Nat}{u:Unit}{st st':MS} (e:setAttr X i Y st=.ok u st'):∃ r c as,X=.ref r/\st.heap r=some (.inst c as)/\as.length < 1000/\st'=st.put r (.inst c (pc i Y as)):=by
 obtain⟨r,rfl,e⟩:=zfm e
 obtain⟨c,as,h,e⟩:=zcg e
 by_cases q:as.length < 1000
 ·rw[Zg q] at e;cases e;exact⟨r,c,as,rfl,h,q,rfl⟩
 ·rw[Zh q] at e;exact zb e
theorem zog {K:Frag}{Ca:Addr}{x:Qf} (h:findIn K (.ref Ca) x=some none):takerIn K Ca x=some none:=by
 delta takerIn;rw[h];rfl
theorem zn0 {h:Heap}{a:Addr}{m:Qf->Option Value}{n:Nat} (hn:NsZ h a m n):(h.get? a).isSome=true:=by
 obtain⟨o,_,_,ho,_⟩:=hn;rw[ho];rfl
theorem zra {n:Nat} (h:n<=1000):n<=sizeLine+1:=Zp h (by rw[sizeLine_eq];decide)
theorem zl4 {h:Heap}{a:Addr}{m:Qf->Option Value}{n:Nat}{M:Model}{A:Around}{Q:Unit->Shared->Prop}{E:Value->Shared->Prop}{s:Shared} (hn:NsZ s.heap a m n) (hz:n<=1000) (q:Q () s):wpAny M A (lookBehind a) Q E s:=by
 obtain⟨on,esn,epn,hon,hdn,_,_,hzn⟩:=hn
 exact wpAny_lookBehind hon (by rw[hdn];exact pastItsLine_dict (zra (Zp hzn hz))) q
theorem ox (O:G.Ok N) (hcl:∀ c Ca,G.ca c=some Ca->ClsOk G Ca) {i:Nat}{u:Unit} (hi:i < 13) (R:Rel G t st s) (hX:VRel t s.heap X v) (hY:VRel t s.heap Y w) (e:setAttr X i Y st=.ok u st'):Sim G A t s (PySem.setAttr v (G.an i) w) st' (fun ξ ξ ξ=>True):=by
 obtain⟨r,c,as,rfl,has,hlen,rfl⟩:=zck e
 obtain⟨a,dd,Ca,m,od,h1,h2,h3,I,h5,h6,h7,h8⟩:=ie R has
 obtain⟨a',rfl,e2⟩:=hX
 cases h1.symm.trans e2
 have K:=hcl c Ca h3
 obtain⟨cd,c1,c2⟩:=K.cd
 have XK:=O.K.keeps R.base
 intro Q E k
 refine set_plain XK I K.sa ?_
 refine osa_open (s:={s with toks:=s.toks+1}) XK (od:=some od) ⟨I.at_,I.cls,I.no,I.dict⟩ K.po (r:=none) (zog (K.at_ i hi)) fun b=>?_
 refine Ze (Zr (Ze (Ze (wpAny_loadPart (s:={s with toks:=s.toks+1}) I.at_ (Ze (Looks.here (s:={s with toks:=s.toks+1}) (looks_clsIn XK c1) ?_))))))
 rw[c2]
 refine Zr (a:=some dd) (Ze (Zr (Ze (ij (s:={s with toks:=s.toks+1}) h7 fun h' hn hs=>?_))))
 rw[zm6 O (Y:=Y) h8] at hn
 have hl:=zn0 hn
 have S:=Step.upd (t:=t) (s:=s) (tk:=s.toks+1+1) ⟨r,.inr h2⟩ hl hs
 refine Ze (zl4 (h:=h') hn (zeg hlen) ?_)
 exact Zr (k () t.tick _ S (R.upd (l:=r) (.inr h2) hl hs (by rw[has];exact fun q=>za q.symm) ⟨a,dd,Ca,_,h1,h2,h3,(hs.2 a fun q=>R.two r r a h1 (q▸h2)).trans I.at_,hn,zod O h8 (VRel.step S (fun ξ z=>z.elim) _ hY) (fun z y=>VRel.step S (fun ξ z=>z.elim) _)⟩) trivial)
end
end Internal
end
section
namespace Internal
open PySem PySem.W PyProof.Rows
section
variable {G:Gd}{N:Names}{C:Calls}{d:Dp}{sc:Sc}{Γ:Gam}{A:Around}{t:Tie}{st st':MS}{s:Shared}{env:Env}{loc:Loc}
noncomputable def z8 (m:List Qe):Bool:=m.all fun x=>!isStarred x
theorem k9 {x:Qe} (hx:isStarred x=false) (m:List Qe) (env:Env):starEach (x::m) env=(false,eval x env)::starEach m env:=by cases x <;> first | rfl | exact zgd hx
theorem k8 (pos:Pos) (env:Env):∀ {m:List Qe},z8 m=true->(backTo pos (starEach m env)).any (·.1)=false
 | [],_=>rfl
 | x::m,h=>by
  simp only[z8,List.all_cons,Bool.and_eq_true,Bool.not_eq_true'] at h
  rw[k9 h.1]
  exact k8 pos env (m:=m) h.2
theorem zoi (pos:Pos) (env:Env) {m:List Qe} (h:z8 m=true):(backTo pos (starEach m env)).all (fun x=>!x.1)=true:=by
 have:=k8 pos env h
 rw[List.any_eq_false] at this
 rw[Zv]
 intro x hx
 simpa using this x hx
theorem zg0 {f:Value}{pos:Pos}{l:List E}{m:List Qe}{Vs:List V}{Q:Args->Shared->Prop}{E':Value->Shared->Prop} (hm:z8 m=true) (hlm:l.length=m.length) (hl:vi G C d sc Γ l m) (hA:AOk d A) (hsc:env.scope.names=sc)
  (F:FrOk G A t env Γ loc s) (R:Rel G t st s) (e:evL G.P C l loc st=.ok Vs st') (h:∀ vs t' s',Step noX t t' s s'->Rel G t' st' s'->VRels t' s'.heap Vs vs->Q ⟨vs,[]⟩ s') :
  wpAny G.M A (evalArgs f true (backTo pos (starEach m env)) []) Q E' s:=by
 cases m with
 | nil =>
  cases l with
  | nil=>cases e;exact evalArgs_nil3 (h [] t s (.refl _ _ _) R rfl)
  | cons a l=>cases hlm
 | cons x m =>
  simp only[z8,List.all_cons,Bool.and_eq_true,Bool.not_eq_true'] at hm
  have q:=hl pos t st s env loc Vs st' A hA hsc F R e (fun vs s'=>Q ⟨vs,[]⟩ s') E' h
  rw[k9 hm.1] at q ⊢
  exact Calls.evalArgs_plain q
noncomputable def zb2 (G:Gd) (f:Value):Prop:=∀ h,G.K.In h->∃ k,(k=Keeper.frame\/k=Keeper.machine\/k=Keeper.boundFrame)/\Looks G.M h (keeperOf f) k
theorem bh (id:String):zb2 G (.builtin id):=fun ξ ξ=>⟨.machine,.inr (.inl rfl),Looks.of_pure rfl⟩
theorem rz (id:String):zb2 G (.type id):=fun ξ ξ=>⟨.machine,.inr (.inl rfl),Looks.of_pure rfl⟩
theorem fh {a:Addr} (h:keepIn G.K (.ref a)=true):zb2 G (.ref a):=fun ξ X=>keeps_K h _ X
theorem vc {f:Value}{first:List Value}{pos:Pos}{l:List E}{m:List Qe}{Vs:List V}{Q:Value->Shared->Prop}{E':Value->Shared->Prop} (O:G.Ok N) (hk:zb2 G f) (hm:z8 m=true) (hlm:l.length=m.length) (hl:vi G C d sc Γ l m) (hA:AOk d A) (hsc:env.scope.names=sc)
  (F:FrOk G A t env Γ loc s) (R:Rel G t st s) (e:evL G.P C l loc st=.ok Vs st') (h:∀ vs t' s',Step noX t t' s s'->Rel G t' st' s'->VRels t' s'.heap Vs vs->wpAny G.M A (call f (first++vs)) Q E' s') :
  wpAny G.M A (callWith pos f first (backTo pos (starEach m env)) []) Q E' s :=
 callWith_of (by rw[k8 pos env hm];rfl) hk (zg0 hm hlm hl hA hsc F R e fun vs t' s' S R' r=>⟨O.K.keeps R'.base,h vs t' s' S R' r⟩)
structure FnOk (G:Gd) (N:Names) (f:Nat) (a:Addr):Prop where
 keep:keepIn G.K (.ref a)=true
 name:N.fn f=Str.empty\/G.mg (N.fn f)=some (.ref a)
theorem zf1 {f:Nat}{a:Addr}{Vs:List V}{vs:List Value}{X:V} (O:md G C d f) (hA:AC d A) (hf:G.fa f=some a) (K:Stk A t s.heap) (R:Rel G t st s) (r:VRels t s.heap Vs vs) (e:C f Vs st=.ok X st'):Sim G A t s (call (.ref a) vs) st' (qo X):=by
 obtain⟨a',h1,h2⟩:=O Vs st X st' e A hA
 rw[hf] at h1;cases h1
 exact fun Q E' k=>wpAny_call (h2 t s vs K R r _ fun v t' s' S R' q=>k v t' s' S R' q)
theorem znq (O:G.Ok N) {f:Nat} (CO:md G C d f) (hfn:∀ f a,G.fa f=some a->FnOk G N f a) {l:List E}{m:List Qe}{np pos:Pos} (hne:N.fn f≠Str.empty) (hg:jp sc (N.fn f)=true) (hm:z8 m=true) (hlm:l.length=m.length) (hl:vi G C d sc Γ l m) :
  z0 G C d sc Γ (.call f l) (.Call (.Name (N.fn f) np) m [] pos):=by
 intro t st s env loc X st' A hA hsc F R e Q E k
 rw[lr] at e
 obtain⟨Vs,s1,e1,e⟩:=Res.bind_ok e
 obtain⟨a,h1,_⟩:=CO Vs s1 X st' e A hA.ac
 have fo:=hfn f a h1
 refine wpAny_Call_ofName (kb O F R hsc hg (fo.name.resolve_left hne) ?_)
 refine vc O (fh fo.keep) hm hlm hl hA hsc F R e1 fun vs t1 σ1 S1 R1 r1=>?_
 exact zf1 CO hA.ac h1 (F.step R S1).sk R1 r1 e _ _ fun v t2 σ2 S2 R2 r2=>k v t2 σ2 (S1.trans S2) R2 r2
structure MethOk (G:Gd) (Ca:Addr) (x:Qf) (a:Addr):Prop where
 find:findIn G.K (.ref Ca) x=some (some (.ref a))
 typ:typeIn G.K (.ref a)=some (.type "function")
 keep:keepIn G.K (.ref a)=true
 notA:∀ i,x≠G.an i
theorem tl {m:List Qe}{pos:Pos}{env:Env} (hm:z8 m=true) (h30:m.length < 30):methodCallForm (m.length+([]:List Keyword).length) (backTo pos (starEach m env)) (backToKw pos (keywordEach [] env))=true:=by
 unfold methodCallForm
 rw[zoi pos env hm]
 show(true&&true&&decide (m.length+0+0 < 30))=true
 simpa using h30
set_option tactic.hygienic true in
theorem zfl (O:G.Ok N) (hcl:∀ c Ca,G.ca c=some Ca->ClsOk G Ca)
  (hme:∀ c k f Ca,G.P.meths c k=some f->G.ca c=some Ca->∃ a,G.fa f=some a/\MethOk G Ca (N.meth k) a)
  {k:Nat}{a:E}{x:Qe}{l:List E}{m:List Qe}{ap pos:Pos} (hx:j4 x=true) (hln:(ap.endLine == pos.line)=true) (h30:m.length < 30) (hm:z8 m=true) (hlm:l.length=m.length)
  (ha:z0 G C d sc Γ a x) (hl:vi G C d sc Γ l m) (hA:AOk d A) (hsc:env.scope.names=sc) (F:FrOk G A t env Γ loc s) (R:Rel G t st s) {U:V}{s1 s2:MS}{f:Nat}{Vs:List V} (e1:ev G.P C a loc st=.ok U s1) (hmo:jr G.P U k s1=some f) (e2:evL G.P C l loc s1=.ok Vs s2)
  {Q E:Value->Shared->Prop} (q:∀ fa v vs t2 σ2,G.fa f=some fa->Step noX t t2 s σ2->Rel G t2 s2 σ2->VRels t2 σ2.heap (U::Vs) (v::vs)->wpAny G.M A (call (.ref fa) (v::vs)) Q E σ2) :
  wpAny G.M A (eval (.Call (.Attribute x (N.meth k) ap) m [] pos) env) Q E s:=by
 rw[arm_eval_Call,gc hx]
 refine Ze (ha t st s env loc _ _ A hA hsc F R e1 _ _ fun v t1 σ1 S1 R1 r1=>Ze (wpAny_standAt ?_))
 cases U with
 | ref r =>
  simp only[jr] at hmo
  split at hmo
  ·rename_i c as hr2
   obtain⟨a,dd,Ca,mm,od,h1,h2,h3,I,h5,h6,h7,h8⟩:=ie R1 hr2
   obtain⟨a',rfl,e4⟩:=id r1
   rw[h1] at e4;cases e4
   obtain⟨fa,f1,mo⟩:=hme c k f Ca hmo h3
   have KC:=hcl c Ca h3
   have hpos:methodCallPos true x env ap pos=pure pos:=by unfold methodCallPos;rw[hln];rfl
   unfold methodCall
   rw[tl hm h30]
   refine Ze (wpAny_holding ?_)
   show wpAny _ _ (getMethod (.ref a) (N.meth k) _) _ _ _
   refine method_fn (O.K.keeps R1.base) I KC.ga KC.gt mo.find mo.typ ?_ ?_
   ·show(lookIn (N.meth k) od).map (·.isSome)=some false
    rw[h6]
    cases qq:mm (N.meth k) with
    | none=>rfl
    | some y=>obtain⟨i,_,z,_⟩:=h8.2 _ _ qq;exact absurd z (mo.notA i)
   ·refine Ze (wpAny_of_eq hpos ?_)
    refine vc O (fh mo.keep) hm hlm hl hA hsc (F.step R S1) R1 e2 fun vs t2 σ2 S2 R2 r2=>?_
    exact q fa (.ref a) vs t2 σ2 f1 (S1.trans S2) R2 ⟨_,_,rfl,VRel.step S2 (fun ξ z=>z.elim) (.ref r) r1,r2⟩
  ·exact za hmo
 | _=>exact za hmo
theorem zks (O:G.Ok N) (CO:lu G C d) (hcl:∀ c Ca,G.ca c=some Ca->ClsOk G Ca)
  (hme:∀ c k f Ca,G.P.meths c k=some f->G.ca c=some Ca->∃ a,G.fa f=some a/\MethOk G Ca (N.meth k) a)
  {k:Nat}{a:E}{x:Qe}{l:List E}{m:List Qe}{ap pos:Pos} (hx:j4 x=true) (hln:(ap.endLine == pos.line)=true) (h30:m.length < 30) (hm:z8 m=true) (hlm:l.length=m.length)
  (ha:z0 G C d sc Γ a x) (hl:vi G C d sc Γ l m):z0 G C d sc Γ (.meth a k l) (.Call (.Attribute x (N.meth k) ap) m [] pos):=by
 intro t st s env loc X st' A hA hsc F R e Q E q
 rw[g5] at e
 obtain⟨V,s1,e1,e⟩:=Res.bind_ok e
 cases hmo:jr G.P V k s1 with
 | none=>rw[hmo] at e;exact zb e
 | some f =>
  rw[hmo] at e
  obtain⟨Vs,s2,e2,e⟩:=Res.bind_ok e
  exact zfl O hcl hme hx hln h30 hm hlm ha hl hA hsc F R e1 hmo e2 fun fa v vs t2 σ2 f1 S2 R2 r2=>zf1 (Vs:=V::Vs) (CO f) hA.ac f1 (F.step R S2).sk R2 r2 e _ _ fun v t3 σ3 S3 R3 r3=>q v t3 σ3 (S2.trans S3) R3 r3
structure NewOk (G:Gd) (N:Names) (c:Nat) (Ca fi:Addr):Prop where
 keep:keepIn G.K (.ref Ca)=true
 name:G.mg (N.cls c)=some (.ref Ca)
 makes:makesIn G.K Ca=true
 init:findIn G.K (.ref Ca) "__init__"=some (some (.ref fi))
 fn:typeIn G.K (.ref fi)=some (.type "function")
theorem wt (h:Heap):h.get? (h.objs.size+1)=none:=by
 cases e:h.get? (h.objs.size+1) with
 | none=>rfl
 | some o=>exact absurd (Heap.lt_size e) (Nat.not_lt.mpr (Zw _))
theorem Rel.size_sys1 (O:G.Ok N) {t:Tie}{st:MS}{s:Shared} (R:Rel G t st s):s.heap.objs.size+1≠sysModules:=by
 obtain⟨mc,⟨o,es,ep,ho,_⟩,_⟩:=O.lim
 have h1:=Heap.lt_size (R.base _ _ ho)
 intro q
 have h2:s.heap.objs.size=0:=Nat.succ.inj (n:=0) q
 rw[h2] at h1
 exact absurd h1 (Nat.not_lt_zero _)
theorem Stk.under {A:Around}{t:Tie}{h:Heap}{id:String}{a:Args} (K:Stk A t h):Stk (A.under (.builtin id a)) t h:=⟨by unfold Around.under;dsimp only;rw[K.fr];rfl,K.ob⟩
set_option tactic.hygienic true in
theorem zqo (O:G.Ok N) (CO:lu G C d) (hne:∀ c k f,G.P.inits c=some (k,f)->∃ Ca fi,G.ca c=some Ca/\G.fa f=some fi/\NewOk G N c Ca fi)
  {c:Nat}{l:List E}{m:List Qe}{np pos:Pos} (hg:jp sc (N.cls c)=true) (hm:z8 m=true) (hlm:l.length=m.length) (hl:vi G C d sc Γ l m) :
  z0 G C d sc Γ (.new c l) (.Call (.Name (N.cls c) np) m [] pos):=by
 intro t st s env loc X st' A hA hsc F R e Q E q
 rw[zd4] at e
 obtain⟨Vs,s1,e1,e⟩:=Res.bind_ok e
 unfold ji at e
 split at e
 case h_2=>exact zb e
 rename_i k f hi
 obtain⟨Ca,fi,c1,c2,no⟩:=hne c k f hi
 obtain⟨X1,s2,e2,e⟩:=Res.bind_ok e
 split at e
 case h_2=>exact zb e
 cases e
 refine wpAny_Call_ofName (kb O F R hsc hg no.name ?_)
 refine vc O (fh no.keep) hm hlm hl hA hsc F R e1 fun vs t1 σ1 S1 R1 r1=>?_
 refine wpAny_call ?_
 have XK:=O.K.keeps R1.base
 have K1:=(F.step R S1).sk
 obtain⟨hh,g,dr,tk,os⟩:=σ1
 refine make_core (makes_of XK no.makes) (looks_findIn XK no.init) (fun self=>bind_fn XK self no.fn) (.inl rfl) ?_
 have keep:∀ b o,hh.get? b=some o->((hh.push emptyDict).push (instObj Ca hh.objs.size)).get? b=some o:=fun b o e=>Zn _ (Zn _ e)
 have fr1:hh.get? (hh.objs.size+1)=none:=wt _
 have fr0:hh.get? hh.objs.size=none:=qe _
 have hx:((hh.push emptyDict).push (instObj Ca hh.objs.size)).get? (hh.objs.size+1)=some (instObj Ca hh.objs.size):=by heap_get
 have hd0:((hh.push emptyDict).push (instObj Ca hh.objs.size)).get? hh.objs.size=some emptyDict:=by heap_get
 have hns:NsZ ((hh.push emptyDict).push (instObj Ca hh.objs.size)) hh.objs.size (fun ξ=>none) 0:=⟨_,#[],0,hd0,rfl,fun e he=>by simp at he,fun ξ=>rfl,Zs _⟩
 have S2:=Step.bind (k:=k) (d:=some hh.objs.size) (s':=⟨(hh.push emptyDict).push (instObj Ca hh.objs.size),g,dr,tk,os⟩) R1 keep rfl rfl fr1 (fun x z=>by cases z;exact fr0)
 have R2:=Rel.bind (k:=k) (d:=some hh.objs.size) (s':=⟨(hh.push emptyDict).push (instObj Ca hh.objs.size),g,dr,tk,os⟩) (o:=.inst c []) R1 keep rfl rfl fr1
  (fun x z=>by cases z;exact⟨fr0,(fun z=>absurd z (Z9 (Zy _))),by show(Heap.get? _ _).isSome=true;rw[hd0];rfl⟩) (by show(Heap.get? _ _).isSome=true;rw[hx];rfl) (R1.size_sys1 O) ⟨_,_,Ca,_,by simp[Tie.bind],by simp[Tie.bind],c1,hx,hns,⟨fun i v z=>(nomatch z),fun x y z=>(nomatch z)⟩⟩
 have ac:AC d (A.under (.builtin "type.__call__" ⟨.ref Ca::vs,[]⟩)):=⟨hA.hd,by have:=hA.dep;rw[depth_under_make];lia,by have:=hA.un;rw[units_under_make];lia⟩
 obtain⟨fi',z1,z2⟩:=CO f _ _ _ _ e2 _ ac
 rw[c2] at z1;cases z1
 refine z2 _ _ (.ref (hh.objs.size+1)::vs) (K1.step0 R1 S2).under R2 ⟨_,_,rfl,⟨_,rfl,by simp[Tie.bind]⟩,VRels.step S2 (fun ξ z=>z.elim) _ r1⟩ _ fun v t3 σ3 S3 R3 r3=>?_
 have:v=.none:=r3
 subst this
 exact⟨rfl,q _ t3 σ3 ((S1.trans S2).trans S3) R3 ⟨_,rfl,S3.le.ρ _ _ (by simp[Tie.bind])⟩⟩
end
end Internal
end
section
namespace Internal
open PySem PySem.W PyProof.Rows
section
variable {G:Gd}{N:Names}{C:Calls}{d:Dp}{sc:Sc}{Γ:Gam}{A:Around}{t:Tie}{st st':MS}{s:Shared}{env:Env}{loc:Loc}{X Y Z:V}{v w:Value}
theorem VRel.madeL (R:Rel G t st s) {s':Shared}{a:Addr}{l:List V}{vs:Array Value} (S:Step noX t t s s') (ha:s.heap.get? a=none) (ho:PL s'.heap a vs) (r:VRels t s.heap l vs.toList) (sz:l.length<=ze):VRel t s'.heap (.lst l) (.ref a) :=
 ⟨_,vs,rfl,ho,R.fresh ha,sz,VRels.step S (fun ξ q=>q.elim) l r⟩
theorem VRel.madeT (R:Rel G t st s) {s':Shared}{a:Addr}{l:List V}{vs:Array Value} (S:Step noX t t s s') (ha:s.heap.get? a=none) (ho:PT s'.heap a vs) (r:VRels t s.heap l vs.toList) (sz:l.length<=ze):VRel t s'.heap (.tup l) (.ref a) :=
 ⟨_,vs,rfl,ho,R.fresh ha,sz,VRels.step S (fun ξ q=>q.elim) l r⟩
theorem jd {h:Heap}{l:List V}{vs:Array Value} (r:VRels t h l vs.toList):vs.size=l.length:=by rw[<- r.length];simp
theorem gh {h h':Heap} (k:∀ b o,h.get? b=some o->h'.get? b=some o) {a:Addr} (e:h'.get? a=none):h.get? a=none:=by
 cases q:h.get? a with
 | none=>rfl
 | some o=>rw[k a o q] at e;cases e
theorem zk2 {n:Nat} (h:n<=ze):(n:Int) < 2 ^ 63:=by unfold ze at h;lia
theorem tf (R:Rel G t st s) {k:Bool}{l:List V}{T:PySem.Value->Prop} (hX:VRel t s.heap X v) (e:zr st X=some (k,l)) {Q:Value->Shared->Prop}{E':Value->Shared->Prop}
  (h:∀ h' (vs:Array Value),(∀ b o,s.heap.get? b=some o->h'.get? b=some o)->PL h' s.heap.objs.size vs->VRels t s.heap l vs.toList->l.length<=ze->Q (.ref s.heap.objs.size) {s with heap:=h'}) :
  wpAny G.M A (call (.type "list") [v]) Q E' s:=by
 obtain⟨a,vs,rfl,io,r,sz⟩:=qa R hX e
 have hz:vs.size<=sizeLine:=by rw[jd r];exact sz
 cases k with
 | true =>
  obtain⟨n,ho⟩:=io
  exact call_list_seq (hsz:=hz) a (.inl rfl) ho rfl rfl fun h' c' hk hD=>h h' vs hk ⟨c',hD⟩ r sz
 | false =>
  obtain⟨n,ho⟩:=io
  exact call_list_seq (hsz:=hz) a (.inr rfl) ho rfl rfl fun h' c' hk hD=>h h' vs hk ⟨c',hD⟩ r sz
noncomputable def nh:Prim->Bool
 | .sorted=>false
 | _=>true
noncomputable def fg:Prim->Value
 | .len=>.builtin "len" | .max2=>.builtin "max" | .int1=>.type "int" | .sorted=>.builtin "sorted" | .tuple1=>.type "tuple" | .list1=>.type "list" | .all1=>.builtin "all"
theorem zaa (R:Rel G t st s) {n:Int}{id:String} (h:∀ (Q:Value->Shared->Prop) (E:Value->Shared->Prop),Q (.int n (s.toks+1)) {s with toks:=s.toks+1+1}->wpAny G.M A (call (.builtin id) [v]) Q E s) :
  Sim G A t s (call (.builtin id) [v]) st (qo (.int n)):=fun Q E k=>h Q E (k _ t _ (Step.toks _ t s _) (R.toks _) ⟨_,rfl⟩)
theorem ztz (R:Rel G t st s) (r:VRel t s.heap X v) (e:(match zr st X with
  | some p=>Res.ok (V.int p.2.length) st
  | .none=>.stuck)=.ok Z st'):Sim G A t s (call (.builtin "len") [v]) st' (qo Z):=by
 obtain⟨⟨k,l⟩,hr,e⟩:=rj e
 obtain⟨rfl,rfl⟩:=jk e
 obtain⟨a,vs,rfl,io,rr,sz⟩:=qa R r hr
 have hf:=zk2 sz
 rw[<- jd rr] at hf
 show Sim G A t s (call (.builtin "len") [.ref a]) st' (qo (.int l.length))
 rw[<- jd rr]
 cases k with
 | true=>exact zaa R fun Q E q=>Calls.call_len_list (PL.isList (show PL s.heap a vs from io)) hf q
 | false=>exact zaa R fun Q E q=>PyProof.Rows.len_tuple (PT.isTup (show PT s.heap a vs from io)) hf q
theorem len_str {x:List Nat} (R:Rel G t st s) (r:VRel t s.heap (.str x) v) (e:zl8 (.str x) st=.ok Z st'):Sim G A t s (call (.builtin "len") [v]) st' (qo Z):=by
 obtain⟨hz,e⟩:=jl e
 obtain⟨rfl,rfl⟩:=jk e
 obtain⟨k,rfl⟩:=r
 exact zaa R fun Q E q=>PySem.P.len_str (Int.not_le.2 (zk2 hz)) q
theorem zj3 (R:Rel G t st s) (r:VRel t s.heap X v) (e:zl8 X st=.ok Z st'):Sim G A t s (call (.builtin "len") [v]) st' (qo Z):=by
 cases X with
 | str x=>exact len_str R r e
 | _=>exact ztz R r e
theorem zof (R:Rel G t st s) (r:VRel t s.heap X v) (e:zbe .int1 X st=.ok Z st'):Sim G A t s (call (.type "int") [v]) st' (qo Z):=by
 obtain⟨b,rfl,e⟩:=zk6 e
 obtain⟨rfl,rfl⟩:=jk e
 rw[show v=.bool b from r]
 exact fun Q E k=>call_int_bool (k _ t _ (Step.toks _ t s _) (R.toks _) ⟨_,rfl⟩)
theorem zej (R:Rel G t st s) (r:VRel t s.heap X v) (e:zbe .tuple1 X st=.ok Z st'):Sim G A t s (call (.type "tuple") [v]) st' (qo Z):=by
 obtain⟨⟨k,l⟩,hr,e⟩:=rj e
 obtain⟨rfl,rfl⟩:=jk e
 obtain⟨a,vs,rfl,io,rr,sz⟩:=qa R r hr
 cases k with
 | true =>
  intro Q E k
  refine call_tuple_list (PL.isList (show PL s.heap a vs from io)) (fun h' hk=>?_) (by rw[jd rr];exact sz)
  have hk':∀ b o,s.heap.get? b=some o->(h'.push {cls:=.type "tuple",data:=.seq vs}).get? b=some o:=fun b o e=>Zn _ (hk b o e)
  have S:Step noX t t s {s with heap:=h'.push {cls:=.type "tuple",data:=.seq vs}}:=Step.grow R hk' rfl rfl
  exact k _ t _ S (R.grow hk' rfl rfl) (VRel.madeT R S (gh hk (qe h')) ⟨_,Z5 _ rfl⟩ rr sz)
 | false =>
  rw[ax hr] at r
  exact fun Q E k=>call_tuple_same (PT.isTuple (show PT s.heap a vs from io)) (k _ t s (.refl _ _ _) R r)
theorem zi7 (R:Rel G t st s) (r:VRel t s.heap X v) (e:zbe .list1 X st=.ok Z st'):Sim G A t s (call (.type "list") [v]) st' (qo Z):=by
 obtain⟨⟨k,l⟩,hr,e⟩:=rj e
 obtain⟨rfl,rfl⟩:=jk e
 intro Q E q
 refine tf (T:=fun ξ=>True) R r hr fun h' vs hk hD rr sz=>?_
 have S:Step noX t t s {s with heap:=h'}:=Step.grow R hk rfl rfl
 exact q _ t _ S (R.grow hk rfl rfl) (VRel.madeL R S (qe _) hD rr sz)
theorem zc5 (hq:d.q=true) (p:Prim) (hp:nh p=true) (R:Rel G t st s) (hA:AOk d A) (r:VRel t s.heap X v) (e:zbe p X st=.ok Z st'):Sim G A t s (call (fg p) [v]) st' (qo Z):=by
 cases p with
 | len=>exact zj3 R r e
 | int1=>exact zof R r e
 | tuple1=>exact zej R r e
 | list1=>exact zi7 R r e
 | all1=>cases e
 | max2=>exact zb e
 | sorted=>exact z6 hp
theorem zkk {V1 V2:V} (hq:d.q=true) (R:Rel G t st s) (hA:AOk d A) (r1:VRel t s.heap V1 v) (r2:VRel t s.heap V2 w) (e:(match V1,V2 with
  | .int x,.int y=>Res.ok (V.int (if x < y then y else x)) st
  | _,_=>.stuck)=.ok Z st'):Sim G A t s (call (.builtin "max") [v,w]) st' (qo Z):=by
 cases V1 with
 | int x=>cases V2 with
  | int y =>
   obtain⟨rfl,rfl⟩:=jk e
   obtain⟨k1,rfl⟩:=r1
   obtain⟨k2,rfl⟩:=r2
   intro Q E q
   refine max_two_ints (hA.hd hq) fun h' tk hk=>?_
   refine q _ t _ (Step.grow R hk rfl rfl) (R.grow hk rfl rfl) ?_
   by_cases z:x < y
   ·rw[Zg (show y > x from z),Zg z];exact⟨_,rfl⟩
   ·rw[Zh (show ¬ y > x from z),Zh z];exact⟨_,rfl⟩
  | _=>exact zb e
 | _=>exact zb e
theorem ze6 (hq:d.q=true) (p:Prim) (hp:nh p=true) {Vs:List V}{vs:List Value} (R:Rel G t st s) (hA:AOk d A) (r:VRels t s.heap Vs vs) (e:prim p Vs st=.ok Z st'):Sim G A t s (call (fg p) vs) st' (qo Z):=by
 cases Vs with
 | nil=>exact zb e
 | cons V1 Vs=>cases Vs with
  | nil=>obtain⟨v,_,rfl,r1,rfl⟩:=r;exact zc5 hq p hp R hA r1 e
  | cons V2 Vs=>cases Vs with
   | nil =>
    obtain⟨v,_,rfl,r1,w,_,rfl,r2,rfl⟩:=r
    cases p with
    | max2=>exact zkk hq R hA r1 r2 e
    | _=>exact zb e
   | cons _ _=>exact zb e
theorem jm (O:G.Ok N) (F:FrOk G A t env Γ loc s) (R:Rel G t st s) {x:Qf}{pos:Pos}{Q E':Value->Shared->Prop} (hsc:env.scope.names=sc) (hg:jp sc x=true)
  (hx:x∈(["len","max","int","sorted","tuple","list","all","isinstance","range","dict","bool","str","ValueError"]:List Qf)) (hb:bootBuiltins x=some v) (h:Q v s):wpAny G.M A (eval (.Name x pos) env) Q E' s :=
 ze4 O F R hsc hg (O.none x hx) hb (by intro z;subst z;revert hx;decide) h
theorem ss (p:Prim) (hp:nh p=true):bootBuiltins (vh p)=some (fg p):=by
 cases p <;> first | exact absurd hp (by decide) | decide +kernel
theorem iu (p:Prim):vh p∈(["len","max","int","sorted","tuple","list","all","isinstance","range","dict","bool","str","ValueError"]:List Qf):=by cases p <;> decide
theorem cz (p:Prim):zb2 G (fg p):=by cases p <;> first | exact bh _ | exact rz _
theorem zmb (hq:d.q=true) (O:G.Ok N) {p:Prim} (hp:nh p=true) {l:List E}{m:List Qe}{np pos:Pos} (hg:jp sc (vh p)=true) (hm:z8 m=true) (hlm:l.length=m.length) (hl:vi G C d sc Γ l m) :
  z0 G C d sc Γ (.prim p l) (.Call (.Name (vh p) np) m [] pos):=by
 intro t st s env loc X st' A hA hsc F R e Q E k
 rw[iz] at e
 obtain⟨Vs,s1,e1,e⟩:=Res.bind_ok e
 refine wpAny_Call_ofName (jm O F R hsc hg (iu p) (ss p hp) ?_)
 refine vc O (cz p) hm hlm hl hA hsc F R e1 fun vs t1 σ1 S1 R1 r1=>?_
 exact ze6 hq p hp R1 hA r1 e _ _ fun v t2 σ2 S2 R2 r2=>k v t2 σ2 (S1.trans S2) R2 r2
set_option tactic.hygienic true in
theorem zik (O:G.Ok N) {kd:Nat}{a:E}{x:Qe}{np pos:Pos} (hg:jp sc "list"=true) (hx:isStarred x=false) (ha:z0 G C d sc Γ a x) :
  z0 G C d sc Γ (.listM kd a) (.Call (.Name "list" np) [x] [] pos):=by
 intro t st s env loc X st' A hA hsc F R e Q E k
 rw[zcy] at e
 obtain⟨V,s1,e1,e⟩:=Res.bind_ok e
 split at e
 ·rename_i kk l hr
  cases e
  refine wpAny_Call_ofName (jm O F R hsc hg (iu .list1) (ss .list1 rfl) ?_)
  have e1':evL G.P C [a] loc st=.ok [V] s1:=by simp[zaq,y7,e1,Res.bind]
  refine vc O (cz .list1) (l:=[a]) (m:=[x]) (by simp[z8,hx]) rfl (vq hx ha yi) hA hsc F R e1' fun vs t1 σ1 S1 R1 r1=>?_
  obtain⟨v,_,rfl,r1,rfl⟩:=r1
  refine tf (T:=fun ξ=>True) R1 r1 hr fun h' vs hk hD rr sz=>?_
  have S:=Step.bind (k:=kd) (d:=none) (s':={σ1 with heap:=h'}) R1 hk rfl rfl (qe _) (fun x e=>by exact za e)
  have rho:(t1.bind (kd,s1.cnt kd) σ1.heap.objs.size none).ρ (kd,s1.cnt kd)=some σ1.heap.objs.size:=by simp[Tie.bind]
  refine k _ _ _ (S1.trans S) (Rel.bind R1 hk rfl rfl (qe _) (fun x e=>by exact za e) ?_ (R1.size_sys O) ⟨_,vs,rho,hD,sz,VRels.step S (fun ξ q=>q.elim) _ rr⟩) ⟨_,rfl,rho⟩
  obtain⟨n,ho⟩:=hD
  show(Heap.get? h' _).isSome=true
  rw[ho];rfl
 ·exact zb e
end
end Internal
end
section
namespace Internal
open PySem PySem.W PyProof.Rows
section
variable {G:Gd}{N:Names}{C:Calls}{d:Dp}{sc:Sc}{Γ:Gam}{A:Around}{t:Tie}{st st':MS}{s:Shared}{env:Env}{loc:Loc}{X Y Z:V}{v w:Value}
theorem zer {p:Lbl×List V} (e:j7 X st=some p):X=.ref p.1/\st.heap p.1=some (.list p.2):=by
 cases X with
 | ref r =>
  have e:(match st.heap r with | some (.list l)=>some (r,l) | _=>none)=some p:=e
  cases h:st.heap r with
  | none=>rw[h] at e;exact za e
  | some o=>rw[h] at e;cases o with
   | list l=>cases e;exact⟨rfl,h⟩
   | _=>exact za e
 | _=>exact za e
theorem dq {p:Lbl×List (V×V)} (e:dictAt X st=some p):X=.ref p.1/\st.heap p.1=some (.dict p.2):=by
 cases X with
 | ref r =>
  have e:(match st.heap r with | some (.dict l)=>some (r,l) | _=>none)=some p:=e
  cases h:st.heap r with
  | none=>rw[h] at e;exact za e
  | some o=>rw[h] at e;cases o with
   | dict l=>cases e;exact⟨rfl,h⟩
   | _=>exact za e
 | _=>exact za e
theorem ve (R:Rel G t st s) {p:Lbl×List V} (hX:VRel t s.heap X v) (e:j7 X st=some p) :
  ∃ a vs n,v=.ref a/\t.ρ p.1=some a/\s.heap.get? a=some {cls:=.type "list",data:=.seq vs n}/\VRels t s.heap p.2 vs.toList/\p.2.length<=ze/\st.heap p.1=some (.list p.2):=by
 obtain⟨rfl,hr⟩:=zer e
 obtain⟨a,vs,h1,⟨n,h2⟩,h3,h4⟩:=R.objs p.1 _ hr
 obtain⟨a',h5,h6⟩:=hX
 cases h1.symm.trans h6
 exact⟨a,vs,n,h5,h1,h2,h4,h3,hr⟩
theorem u5 (R:Rel G t st s) {p:Lbl×List (V×V)} (hX:VRel t s.heap X v) (e:dictAt X st=some p) :
  ∃ a kvs,v=.ref a/\t.ρ p.1=some a/\s.heap.DictOf (strKind G.prog G.w) a kvs/\DRel t s.heap p.2 kvs/\st.heap p.1=some (.dict p.2):=by
 obtain⟨rfl,hr⟩:=dq e
 obtain⟨a,kvs,h1,h2,h3⟩:=R.objs p.1 _ hr
 obtain⟨a',h5,h6⟩:=hX
 cases h1.symm.trans h6
 exact⟨a,kvs,h5,h1,h2,h3,hr⟩
theorem zmr (R:Rel G t st s) {r:Lbl}{a:Addr}{l l':List V}{vs':Array Value}{h':Heap}{tk:Nat} (hr:st.heap r=some (.list l)) (ha:t.ρ r=some a) (hs:Heap.SameBut a s.heap h') (ho:PL h' a vs') (rr:VRels t s.heap l' vs'.toList) (sz:l'.length<=ze) :
  Step noX t t.tick s {s with heap:=h',toks:=tk}/\Rel G t.tick (st.put r (.list l')) {s with heap:=h',toks:=tk}:=by
 have hl:(h'.get? a).isSome=true:=by obtain⟨n,e⟩:=ho;rw[e];rfl
 have S:=Step.upd (t:=t) (s:=s) (tk:=tk) ⟨r,.inl ha⟩ hl hs
 exact⟨S,R.upd (l:=r) (.inl ha) hl hs (by rw[hr];exact fun q=>by cases q) ⟨a,vs',ha,ho,sz,VRels.step S (fun ξ z=>z.elim) _ rr⟩⟩
theorem lw (R:Rel G t st s) {r:Lbl}{a:Addr}{l l':List V}{vs:Array Value}{n:Nat}{tk:Nat}{f:Array Value->Array Value} (hr:st.heap r=some (.list l)) (ha:t.ρ r=some a) (ho:s.heap.get? a=some {cls:=.type "list",data:=.seq vs n})
  (rr:VRels t s.heap l' (f vs).toList) (sz:l'.length<=ze) :
  Step noX t t.tick s {s with heap:=s.heap.update a (Obj.mapSeq f),toks:=tk}/\Rel G t.tick (st.put r (.list l')) {s with heap:=s.heap.update a (Obj.mapSeq f),toks:=tk} :=
 zmr R hr ha (Heap.SameBut.update ..) ⟨_,IsL.update ho f⟩ rr sz
noncomputable def zbw:Bm->String
 | .append=>"list.append" | .extend=>"list.extend" | .pop=>"list.pop" | .insert=>"list.insert" | .count=>"list.count" | .get=>"dict.get" | .join=>"str.join" | .upper=>"str.upper"
noncomputable def zdh:Bm->String
 | .append=>"list" | .extend=>"list" | .pop=>"list" | .insert=>"list" | .count=>"list" | .get=>"dict" | .join=>"str" | .upper=>"str"
theorem zou:(m:Bm)->Slot (zdh m) (zeb m) (zbw m)
 | .append=>PySem.F.slot_list_append
 | .extend=>PySem.F.slot_list_extend
 | .pop=>PySem.F.slot_list_pop
 | .insert=>PySem.F.slot_list_insert
 | .count=>PySem.F.slot_list_count
 | .get=>PySem.F.slot_dict_get
 | .join=>PySem.F.slot_str_join
 | .upper=>PySem.F.slot_str_upper
theorem zpd:(m:Bm)->typeOf (.builtin (zbw m))=pure (.type "method_descriptor")
 | .append=>PySem.F.type_list_append
 | .extend=>PySem.F.type_list_extend
 | .pop=>PySem.F.type_list_pop
 | .insert=>PySem.F.type_list_insert
 | .count=>PySem.F.type_list_count
 | .get=>PySem.F.type_dict_get
 | .join=>PySem.F.type_str_join
 | .upper=>PySem.F.type_str_upper
theorem zla:(m:Bm)->PlainAttrs (zdh m)
 | .append=>PySem.F.plainAttrs_list
 | .extend=>PySem.F.plainAttrs_list
 | .pop=>PySem.F.plainAttrs_list
 | .insert=>PySem.F.plainAttrs_list
 | .count=>PySem.F.plainAttrs_list
 | .get=>PySem.F.plainAttrs_dict
 | .join=>PySem.F.plainAttrs_str
 | .upper=>PySem.F.plainAttrs_str
theorem zot {i:Int}{n j:Nat} (h:idx i n=some j) (hn:n<=ze):Builtin.List.listFitsIndex i=true:=by
 obtain⟨h1,h2⟩:=eu h hn
 delta Builtin.List.listFitsIndex
 simp only[Bool.and_eq_true,decide_eq_true_eq]
 lia
theorem to:∀ (l:List Qf) (acc:Array Nat),(l.foldl (fun acc p=>acc++(z7 []).cps++p.cps) acc).toList=acc.toList++(l.map (·.cps.toList)).flatten
 | [],acc=>by simp
 | y::l,acc=>by
  rw[List.foldl_cons,to l]
  simp[z7]
theorem zk3 (ys:List Qf):Txt.join (z7 []) ys=z7 (ys.map (·.cps.toList)).flatten:=by
 have h:(Txt.join (z7 []) ys).cps.toList=(ys.map (·.cps.toList)).flatten:=by
  cases ys with
  | nil=>rfl
  | cons y l =>
   show(l.foldl (fun acc p=>acc++(z7 []).cps++p.cps) y.cps).toList=_
   rw[to];simp
 rw[<- h]
theorem pb {h:Heap}:∀ {l:List V}{vs:List Value}{x:List Nat},wh l=some x->VRels t h l vs->∃ ys:List Qf,StrsAre vs ys/\(ys.map (·.cps.toList)).flatten=x/\(ys.map (·.length)).sum=x.length
 | [],_,_,e,r=>by cases r;cases e;exact⟨[],.nil,rfl,rfl⟩
 | .str y::l,_,_,e,⟨v,r,e0,⟨k,e9⟩,c⟩=>by
  subst e0;subst e9
  simp only[wh,Option.map_eq_some_iff] at e
  obtain⟨x',e1,rfl⟩:=e
  obtain⟨ys,h1,h2,h3⟩:=pb e1 c
  refine⟨z7 y::ys,.cons _ _ h1,?_,?_⟩
  ·rw[Zz,List.flatten_cons,h2]
  ·rw[Zz,List.sum_cons,h3,Zf];simp[z7,PySem.Str.length]
 | .none::_,_,_,e,_=>by exact za e
 | .int _::_,_,_,e,_=>by exact za e
 | .bool _::_,_,_,e,_=>by exact za e
 | .tup _::_,_,_,e,_=>by exact za e
 | .lst _::_,_,_,e,_=>by exact za e
 | .ref _::_,_,_,e,_=>by exact za e
 | .exc _::_,_,_,e,_=>by exact za e
theorem zid {W:V} (R:Rel G t st s) (r1:VRel t s.heap X v) (r2:VRel t s.heap W w) (e:bm1 .append X W st=.ok Z st'):Sim G A t s (call (.builtin "list.append") [v,w]) st' (qo Z):=by
 obtain⟨p,hp,e⟩:=zdq e
 obtain⟨hz,e⟩:=jl e
 refine Sim.ok e ?_
 obtain⟨a,vs,n,rfl,h1,h2,h3,h4,h5⟩:=ve R r1 hp
 intro Q E q
 refine call_meets PySem.F.slot_list_append ⟨_,h2,rfl⟩ PySem.F.entry_list_append (PySem.F.args_list_append_2 _ _) (list_append a vs n w (by rw[jd h3];exact h4)) ⟨h2,?_⟩
 have u:=lw (tk:=s.toks) (f:=fun xs=>xs.push w) (l':=p.2++[W]) R h5 h1 h2 (by rw[Array.toList_push];exact h3.append ⟨w,[],rfl,r2,rfl⟩) (by rw[Zf];exact hz)
 exact q _ t.tick _ u.1 u.2 rfl
theorem zqa {m n a b:Nat} (s1:m=a) (s2:n=b) (h:a+b<=ze):m+n<=sizeLine:=by subst s1 s2;exact h
theorem zjx {W:V} (R:Rel G t st s) (r1:VRel t s.heap X v) (r2:VRel t s.heap W w) (e:bm1 .extend X W st=.ok Z st'):Sim G A t s (call (.builtin "list.extend") [v,w]) st' (qo Z):=by
 obtain⟨p,hp,e⟩:=zdq e
 obtain⟨⟨k,l2⟩,hp2,e⟩:=rj e
 obtain⟨hz,e⟩:=jl e
 refine Sim.ok e ?_
 obtain⟨a,vs,n,rfl,h1,h2,h3,h4,h5⟩:=ve R r1 hp
 obtain⟨b,ws,rfl,io,rr,sz⟩:=qa R r2 hp2
 have hs:=zqa (jd h3) (jd rr) hz
 intro Q E q
 have u:=lw (tk:=s.toks) (f:=fun xs=>xs++ws) (l':=p.2++l2) R h5 h1 h2 (by rw[Array.toList_append];exact h3.append rr) (by rw[Zf];exact hz)
 have q1:=q _ t.tick _ u.1 u.2 rfl
 have h4:vs.size<=sizeLine:=by rw[jd h3];exact h4
 cases k with
 | true =>
  obtain⟨n2,io⟩:=io
  exact call_meets PySem.F.slot_list_extend ⟨_,h2,rfl⟩ PySem.F.entry_list_extend (PySem.F.args_list_extend_2 _ _) (AutoSeq1.list_extend_list_list_0 a vs n b ws n2 (extend_door hs) h4 (Z2 hs)) ⟨h2,io,q1⟩
 | false =>
  obtain⟨n2,io⟩:=io
  exact call_meets PySem.F.slot_list_extend ⟨_,h2,rfl⟩ PySem.F.entry_list_extend (PySem.F.args_list_extend_2 _ _) (AutoSeq1.list_extend_list_tuple_0 a vs n b ws n2 (extend_door hs) h4 (Z2 hs)) ⟨h2,io,q1⟩
theorem zar {vs:Array Value}{j:Nat} (h:j < vs.size):(vs.eraseIdxIfInBounds j).toList=vs.toList.eraseIdx j:=by
 delta Array.eraseIdxIfInBounds;rw[dif_pos h,Array.toList_eraseIdx]
theorem zsx {W:V} (R:Rel G t st s) (r1:VRel t s.heap X v) (r2:VRel t s.heap W w) (e:bm1 .pop X W st=.ok Z st'):Sim G A t s (call (.builtin "list.pop") [v,w]) st' (qo Z):=by
 obtain⟨p,hp,e⟩:=zdq e
 obtain⟨i,rfl,e⟩:=zfw e
 obtain⟨j,hj,e⟩:=zsw e
 obtain⟨y,hy,e⟩:=zua e
 refine Sim.ok e ?_
 obtain⟨a,vs,n,rfl,h1,h2,h3,h4,h5⟩:=ve R r1 hp
 obtain⟨k,rfl⟩:=r2
 obtain⟨y',e1,e2⟩:=VRels.get h3 hy
 rw[Array.getElem?_toList] at e1
 intro Q E q
 have u:=lw (tk:=s.toks) (f:=fun xs=>xs.eraseIdxIfInBounds j) (l':=p.2.eraseIdx j) R h5 h1 h2 (by rw[zar (Array.getElem?_eq_some_iff.1 e1).1];exact h3.eraseIdx j) (Zp (List.length_eraseIdx_le ..) h4)
 refine call_meets PySem.F.slot_list_pop ⟨_,h2,rfl⟩ PySem.F.entry_list_pop (PySem.F.args_list_pop_2 _ _) (PySem.MeetsSeq.list_pop_at a _ n i k j y' (zot hj h4) (by rw[jd h3];exact(v0 hj).1) e1 (by rw[jd h3];exact h4)) ⟨h2,?_⟩
 exact q _ t.tick _ u.1 u.2 (VRel.step u.1 (fun ξ z=>z.elim) _ e2)
theorem zo4 {W:V} (R:Rel G t st s) (r1:VRel t s.heap X v) (r2:VRel t s.heap W w) (e:bm1 .join X W st=.ok Z st'):Sim G A t s (call (.builtin "str.join") [v,w]) st' (qo Z):=by
 obtain⟨x0,rfl,e⟩:=zf0 e
 cases x0 with
 | cons=>exact zb e
 | nil =>
  obtain⟨l,rfl,e⟩:=zgq e
  obtain⟨x,hx,e⟩:=zsu e
  obtain⟨hz,e⟩:=jl e
  refine Sim.ok e ?_
  obtain⟨a,vs,rfl,io,_,sz,rr⟩:=r2
  obtain⟨k,rfl⟩:=r1
  obtain⟨ys,h1,h2,h3⟩:=pb hx rr
  intro Q E q
  refine join_list io.isList h1 (by rw[h3];exact hz) fun t' k=>?_
  exact q _ t _ (Step.toks _ t s _) (R.toks _) ⟨t',by show Value.str (Txt.join (z7 []) ys) t'=_;rw[zk3,h2]⟩
theorem zil {m:Bm}{W:V} (O:G.Ok N) (R:Rel G t st s) (hA:AOk d A) (r1:VRel t s.heap X v) (r2:VRel t s.heap W w) (e:bm1 m X W st=.ok Z st'):Sim G A t s (call (.builtin (zbw m)) [v,w]) st' (qo Z):=by
 cases m with
 | append=>exact zid R r1 r2 e
 | extend=>exact zjx R r1 r2 e
 | pop=>exact zsx R r1 r2 e
 | join=>exact zo4 R r1 r2 e
 | _=>exact zb e
noncomputable def zfx:Bm->Bool
 | _=>true
theorem zhh {m:Bm} (hm:zfx m=true) {W U:V}{u:Value} (O:G.Ok N) (R:Rel G t st s) (hA:AOk d A) (r1:VRel t s.heap X v) (r2:VRel t s.heap W w) (r3:VRel t s.heap U u) (e:bm2 m X W U st=.ok Z st'):Sim G A t s (call (.builtin (zbw m)) [v,w,u]) st' (qo Z):=by
 cases m with
 | _=>exact zb e
theorem ztw {x:List Nat} (h:∀ c∈x,97<=c/\c<=122):Txt.upper (z7 x)=z7 (x.map (·-32)):=by
 rw[upper_ascii fun c hc=>Z7 (h c hc).2 (by decide)]
 show(⟨x.toArray.map up1⟩:Qf)=⟨(x.map (·-32)).toArray⟩
 rw[List.map_toArray,List.map_congr_left (f:=up1) (g:=(·-32)) fun c hc=>Zg (h c hc)]
theorem zmq (R:Rel G t st s) (r1:VRel t s.heap X v) (e:bm0 .upper X st=.ok Z st'):Sim G A t s (call (.builtin "str.upper") [v]) st' (qo Z):=by
 obtain⟨x,rfl,e⟩:=zf0 e
 obtain⟨h,e⟩:=jl e
 obtain⟨h1,h2⟩:=Zj.1 h
 have h1:∀ c∈x,97<=c/\c<=122:=fun c hc=>by
  obtain⟨q1,q2⟩:=Zj.1 (Zv.1 h1 c hc)
  exact⟨Za q1,Za q2⟩
 refine Sim.ok e ?_
 obtain⟨k,rfl⟩:=r1
 intro Q E q
 refine PySem.SC.upper (fit_upper (Zp (show(z7 x).length<=1000 from Za h2) (by decide))) ?_
 rw[ztw h1]
 exact q _ t _ (Step.toks _ t s _) (R.toks _) ⟨_,rfl⟩
theorem zci {m:Bm} (hm:zfx m=true) {Vs:List V}{vs:List Value} (O:G.Ok N) (R:Rel G t st s) (hA:AOk d A) (r1:VRel t s.heap X v) (r2:VRels t s.heap Vs vs) (e:uv m X Vs st=.ok Z st'):Sim G A t s (call (.builtin (zbw m)) (v::vs)) st' (qo Z):=by
 cases Vs with
 | nil =>
  cases m with
  | upper=>cases r2;exact zmq R r1 e
  | _=>exact zb e
 | cons W Vs =>
  obtain⟨w,_,rfl,r2,r3⟩:=r2
  cases Vs with
  | nil=>cases r3;exact zil O R hA r1 r2 e
  | cons U Vs =>
   obtain⟨u,_,rfl,r3,r4⟩:=r3
   cases Vs with
   | nil=>cases r4;exact zhh hm O R hA r1 r2 r3 e
   | cons _ _=>exact zb e
noncomputable abbrev BmT (s:Shared) (v:Value) (n:String):Prop:=s.TypeIs v n/\∀ a,v=.ref a->∃ ob,s.heap.get? a=some ob/\ob.dict=none
theorem znb {a:Addr}{o:Obj}{n:String} (h:s.heap.get? a=some o) (h1:o.cls=.type n) (h2:o.dict=none):BmT s (.ref a) n:=⟨⟨o,h,h1⟩,fun a' z=>by cases z;exact⟨o,h,h2⟩⟩
theorem zm3 (R:Rel G t st s) (r1:VRel t s.heap X v) (e:(j7 X st).isSome=true):BmT s v "list":=by
 obtain⟨p,hp⟩:=Option.isSome_iff_exists.mp e
 obtain⟨a,vs,n,rfl,h1,h2,_⟩:=ve R r1 hp
 exact znb h2 rfl rfl
theorem zj1 (R:Rel G t st s) (r1:VRel t s.heap X v) (e:(dictAt X st).isSome=true):BmT s v "dict":=by
 obtain⟨p,hp⟩:=Option.isSome_iff_exists.mp e
 obtain⟨a,kvs,rfl,h1,h2,_⟩:=u5 R r1 hp
 exact⟨h2.typeIs,h2.mapOf.noDict⟩
theorem zgc (e:(match X with | .str _=>true | _=>false)=true) (r1:VRel t s.heap X v):BmT s v "str":=by
 cases X with
 | str x=>obtain⟨k,rfl⟩:=r1;exact⟨typeIs_str _ _ _,fun a z=>by cases z⟩
 | _=>exact z6 e
theorem zoz (e:(match X with | .lst _=>true | _=>false)=true) (r1:VRel t s.heap X v):BmT s v "list":=by
 cases X with
 | lst x=>obtain⟨a,vs,rfl,⟨n,ho⟩,_⟩:=r1;exact znb ho rfl rfl
 | _=>exact z6 e
theorem zin {m:Bm} (R:Rel G t st s) (r1:VRel t s.heap X v) (e:zdo m X st=true):BmT s v (zdh m):=by
 cases m with
 | count=>exact zoz e r1
 | get=>exact zj1 R r1 e
 | join=>exact zgc e r1
 | upper=>exact zgc e r1
 | _=>exact zm3 R r1 e
theorem ztx (O:G.Ok N) {m:Bm} (hmu:zfx m=true) {a:E}{x:Qe}{l:List E}{es:List Qe}{ap pos:Pos} (hx:j4 x=true) (hln:(ap.endLine == pos.line)=true) (h30:es.length < 30) (hm:z8 es=true) (hlm:l.length=es.length)
  (ha:z0 G C d sc Γ a x) (hl:vi G C d sc Γ l es):z0 G C d sc Γ (.bm m a l) (.Call (.Attribute x (zeb m) ap) es [] pos):=by
 intro t st s env loc X st' A hA hsc F R e Q E q
 rw[zr9] at e
 obtain⟨V,s1,e1,e⟩:=Res.bind_ok e
 obtain⟨hok,e⟩:=jl e
 ·obtain⟨Vs,s2,e2,e⟩:=Res.bind_ok e
  refine wpAny_Call_method (gc hx _ _) (tl hm h30) hln (zla m) (zou m) (zpd m) ?_
  refine ha t st s env loc _ _ A hA hsc F R e1 _ _ fun v t1 σ1 S1 R1 r1=>?_
  obtain⟨b1,b2⟩:=zin R1 r1 hok
  refine⟨b1,b2,?_⟩
  refine vc O (bh _) hm hlm hl hA hsc (F.step R S1) R1 e2 fun vs t2 σ2 S2 R2 r2=>?_
  exact zci hmu O R2 hA (VRel.step S2 (fun ξ z=>z.elim) _ r1) r2 e _ _ fun v t3 σ3 S3 R3 r3=>q v t3 σ3 ((S1.trans S2).trans S3) R3 r3
end
end Internal
end
section
namespace Internal
open PySem PySem.W PyProof.Rows
section
variable {prog:Program}{w:World}{A:Around}{E:Value->Shared->Prop}{s:Shared}
theorem pf (o:Option (Int×Tok)) {Q:Option Int->Shared->Prop} (h:Q (o.map (·.1)) s):wpAny (model prog w) A (Builtin.Slice.slicePartIndex (partValue o)) Q E s:=by
 cases o with
 | none=>exact slicePart_none h
 | some p=>exact slicePart_int h
theorem zhe (l u:Option Int) (n i j:Nat) (hl:l.elim 0 (clipAt n)=i) (hu:u.elim n (clipAt n)=j):Builtin.Slice.sliceAdjust l u 1 (n:Int)=((i:Int),(j:Int)):=by
 subst hl;subst hu
 have h1:¬ ((1:Int) < 0):=by decide
 have hc:∀ v:Int,((clipAt n v:Nat):Int)=if v < 0 then max (v+n) 0 else min v n:=fun v=>by
  rw[clipAt_cast]
  split <;> lia
 unfold Builtin.Slice.sliceAdjust
 simp only[h1,if_false]
 cases l <;> cases u <;> simp only[Option.elim,hc] <;> rfl
theorem zi3 (i j:Nat):Builtin.Slice.slicePlaces (i:Int) (j:Int) 1=j-i:=by
 unfold Builtin.Slice.slicePlaces
 have h1:(1:Int) > 0:=by decide
 simp only[h1,if_true,Int.ediv_one]
 split <;> lia
theorem zqz (xs:Array Value) (i j:Nat):((List.range (j-i)).filterMap fun (k:Nat)=>xs[((i:Int)+(k:Int)*1).toNat]?).toArray=((xs.toList.drop i).take (j-i)).toArray:=by
 have e:(fun (k:Nat)=>xs[((i:Int)+(k:Int)*1).toNat]?)=fun k=>xs[i+k]?:=by
  funext k
  have:((i:Int)+(k:Int)*1).toNat=i+k:=by lia
  rw[this]
 rw[e]
 have:=pick_run xs i (j-i)
 rw[List.filterMap_map] at this
 exact Qd List.toArray this
theorem ll {sl:Addr}{n i j:Nat}{o1 o2:Option (Int×Tok)}{Q:Int×Int×Nat->Shared->Prop} (hs:s.heap.IsSliceOf sl (partValue o1) (partValue o2) .none) (hl:(o1.map (·.1)).elim 0 (clipAt n)=i) (hu:(o2.map (·.1)).elim n (clipAt n)=j) (h:Q ((i:Int),1,j-i) s) :
  wpAny (model prog w) A (Builtin.Slice.sliceApplied (.ref sl) (pure (n:Int))) Q E s:=by
 obtain⟨os,hos,hcs,hds⟩:=id hs
 unfold Builtin.Slice.sliceApplied Builtin.Slice.sliceFields
 refine Ze (Ze (wpAny_field hos hds (x:=partValue o1) rfl (Ze (wpAny_field hos hds (x:=partValue o2) rfl (Ze (wpAny_field hos hds (x:=.none) rfl (Zr ?_)))))))
 refine Ze (slicePart_none ?_)
 show wpAny _ _ (if ((1:Int) == 0)=true then _ else _) _ _ s
 rw[Zh (by decide)]
 refine Ze (pf o1 (Ze (pf o2 (Ze (Zr ?_)))))
 show wpAny _ _ (match Builtin.Slice.sliceAdjust (o1.map (·.1)) (o2.map (·.1)) 1 (n:Int) with | (lo,hi)=>pure (lo,(1:Int),Builtin.Slice.slicePlaces lo hi 1)) _ _ s
 rw[zhe _ _ n i j hl hu]
 show wpAny _ _ (pure ((i:Int),(1:Int),Builtin.Slice.slicePlaces (i:Int) (j:Int) 1)) _ _ s
 rw[zi3]
 exact Zr h
theorem i5 {t sl:Addr}{items:Array Value}{o1 o2:Option (Int×Tok)}{i j:Nat}{Q:Value->Shared->Prop} (ht:IsTup s.heap t items) (hs:s.heap.IsSliceOf sl (partValue o1) (partValue o2) .none) (hl:(o1.map (·.1)).elim 0 (clipAt items.size)=i) (hu:(o2.map (·.1)).elim items.size (clipAt items.size)=j) (hw:j-i≠items.size) (hsz:items.size<=sizeLine)
  (h:Q (.ref s.heap.objs.size) {s with heap:=s.heap.push {cls:=.type "tuple",data:=.seq ((items.toList.drop i).take (j-i)).toArray}}):wpAny (model prog w) A (PySem.getItem (.ref t) (.ref sl)) Q E s:=by
 have hok:sizeOk (.seq ((items.toList.drop i).take (j-i)).toArray):=by
  show((items.toList.drop i).take (j-i)).toArray.size<=sizeLine
  rw[List.size_toArray,List.length_take,List.length_drop,Array.length_toList]
  lia
 obtain⟨os,hos,hcs,hds⟩:=id hs
 have hTs:s.TypeIs (.ref sl) "slice":=⟨os,hos,hcs⟩
 unfold PySem.getItem
 try with_reducible refine wpAny_holding ?_
 first | refine Ze (Zr ?_) | skip
 refine Ze (wpAny_sequenceKey ht.typeIs (by decide) ?_)
 refine Ze (wpAny_callSpecial?_slot (name:=Str.ofString "__getitem__") ht.typeIs slot_tuple_getitem
  (wpAny_call_entry slot_tuple_getitem ht.typeIs entry_tuple_getitem ?_ (args_tuple_getitem _ _)))
 show wpAny _ _ (Builtin.Tuple.tupleItemsOf (.ref t) >>= _) _ _ s
 refine Ze (tupleItemsOf_ ht ?_)
 refine Ze (wpAny_typeOf hTs ?_)
 rw[Zg (by decide)]
 refine Ze (ll hs hl hu ?_)
 have hno:¬ (((i:Int) == 0&&(1:Int) == 1&&(j-i) == items.size)=true):=by
  rw[beq_eq_false_iff_ne.2 hw,Bool.and_false];exact Z8
 show wpAny _ _ (if ((i:Int) == 0&&(1:Int) == 1&&(j-i) == items.size)=true then _ else _) _ _ s
 rw[Zh hno,zqz items i j]
 first
  | exact Ze (m:=Builtin.Tuple.tupleExact _) (wpAny_newObj_type (Zr ⟨_,rfl,Zr h⟩) hok)
  | exact Ze (m:=Builtin.Tuple.tupleExact _) (wpAny_newObj_type (Ze (Zr (Zr ⟨_,rfl,Zr h⟩))) hok)
  | exact Ze (Ze (m:=Builtin.Tuple.tupleExact _) (wpAny_newObj_type (Zr (Zr ⟨_,rfl,Zr h⟩)) hok))
  | exact Ze (Ze (m:=Builtin.Tuple.tupleExact _) (wpAny_newObj_type (Zr ⟨_,rfl,Zr h⟩) hok))
end
end Internal
end
section
namespace Internal
open PySem PySem.W PyProof.Rows
section
variable {G:Gd}{N:Names}{C:Calls}{d:Dp}{sc:Sc}{Γ:Gam}{A:Around}{t:Tie}{st st':MS}{s:Shared}{env:Env}{loc:Loc}{X Y Z:V}{v w:Value}
noncomputable abbrev gp (p:Option V):Tie->Shared->Value->Prop:=fun t s v=>match p with | none=>v=.none | some X=>VRel t s.heap X v
noncomputable def zc8 (G:Gd) (C:Calls) (d:Dp) (sc:Sc) (Γ:Gam) (e:Option E) (ast:Option Qe):Prop :=
 ∀ t st s env loc p st' A,AOk d A->env.scope.names=sc->FrOk G A t env Γ loc s->Rel G t st s->evO G.P C e loc st=.ok p st'->Sim G A t s (evalPart ast env) st' (gp p)
theorem zg8:zc8 G C d sc Γ none none:=by
 intro t st s env loc p st' A hA hsc F R e Q E k
 simp only[zc2,zb6] at e
 cases e
 exact Zr (k _ t s (.refl _ _ _) R rfl)
theorem zjm {e:E}{x:Qe} (h:z0 G C d sc Γ e x):zc8 G C d sc Γ (some e) (some x):=by
 intro t st s env loc p st' A hA hsc F R e Q E k
 simp only[zc2,zb6] at e
 obtain⟨v,s1,e1,e⟩:=Res.bind_ok e
 cases e
 exact h t st s env loc v _ A hA hsc F R e1 _ _ fun y t1 σ1 S1 R1 r1=>k y t1 σ1 S1 R1 r1
theorem zjy {D i:Nat}{X:V} (e:kc D (some X)=some i):X=.int i:=by
 cases X with
 | int z =>
  have e:(if 0<=z then some z.toNat else Option.none)=some i:=e
  by_cases h:0<=z
  ·rw[Zg h] at e;cases e;rw[Int.toNat_of_nonneg h]
  ·rw[Zh h] at e;exact za e
 | _=>exact za e
theorem y4 {D n:Nat}{p:Option V}{i:Nat} (e:kc D p=some i) (r:gp p t s v):∃ o:Option (Int×Tok),v=partValue o/\(o.map (·.1)).elim (min D n) (clipAt n)=min i n:=by
 cases p with
 | none=>cases e;exact⟨none,r,rfl⟩
 | some X =>
  cases zjy e
  obtain⟨k,rfl⟩:=r
  exact⟨some (i,k),rfl,clipAt_nat ..⟩
theorem tw (o:Option (Int×Tok)):IsPart (partValue o) (o.map (·.1)):=by
 cases o with
 | none=>exact .none
 | some p=>exact .int p.1 p.2
theorem g9 {α:Type} (l:List α) (i j n:Nat) (hn:n=l.length):(l.drop (min i n)).take (min j n-min i n)=(l.take j).drop i:=by
 rw[List.drop_take]
 subst hn
 rcases Nat.le_total i l.length with h | h
 ·rw[Nat.min_eq_left h]
  rcases Nat.le_total j l.length with h2 | h2
  ·rw[Nat.min_eq_left h2]
  ·rw[Nat.min_eq_right h2,List.take_of_length_le (by simp),List.take_of_length_le (by simp;lia)]
 ·rw[Nat.min_eq_right h,List.drop_of_length_le (Zs _),List.drop_of_length_le h];simp
set_option tactic.hygienic true in
theorem zhc (x:List Nat) (l u:Option Int) (i j:Nat) (hl:l.elim 0 (clipAt x.length)=min i x.length) (hu:u.elim x.length (clipAt x.length)=min j x.length):Txt.slice (z7 x) l u=z7 ((x.take j).drop i):=by
 have hlen:(z7 x).length=x.length:=by simp[z7,PySem.Str.length]
 have hidx:Builtin.Str.strSliceIndices l u 1 x.length=(List.range (min j x.length-min i x.length)).map (min i x.length+·):=by
  rw[<- sliceRange_one]
  unfold Builtin.Str.strSliceIndices
  simp only[show(1:Int) > 0 by decide,if_true]
  rw[<- hl,<- hu]
  cases l <;> cases u <;> simp[clipAt_cast]
 have hpick:=pick_run x.toArray (min i x.length) (min j x.length-min i x.length)
 unfold Txt.slice
 rw[hlen,hidx]
 split
 ·rename_i hw
  simp only[BEq.rfl,Bool.true_and,Zd,Zx,beq_iff_eq] at hw
  rw[<- g9 x i j _ rfl]
  have h1:min i x.length=0:=by lia
  rw[h1] at hw ⊢
  rw[hw];simp
 ·show PySem.Str.mk _=PySem.Str.mk _
  congr 1
  rw[<- g9 x i j _ rfl]
  show(List.filterMap (fun k=>x.toArray[k]?) _).toArray=_
  rw[hpick]
theorem i7 {x:Qf}{tk:Tok}{a:Addr}{l u:Option (Int×Tok)}{Q E:Value->Shared->Prop} (hs:s.heap.IsSlice a l u none) (hsz:x.length<=sizeLine)
  (h:∀ t' k,Q (.str (Txt.slice x (l.map (·.1)) (u.map (·.1))) t') {s with toks:=k}):wpAny G.M A (PySem.getItem (.str x tk) (.ref a)) Q E s :=
 wpAny_getItem_str_slice hs rfl (post_val_or_str ⟨Zp (Txt.slice_le x _ _) hsz,h⟩)
theorem znp {α:Type} (m:List α) (i j:Nat):((m.take j).drop i).length<=m.length:=by
 rw[List.length_drop,List.length_take];exact Zp (Nat.sub_le ..) (Nat.min_le_right ..)
theorem zcc {m:List V}{i j:Nat} (h:((m.take j).drop i).length < m.length):min j m.length-min i m.length≠m.length:=by
 rw[List.length_drop,List.length_take] at h
 omega
noncomputable abbrev uf (vl vu:Value):Obj:={cls:=.type "slice",data:=.fields #[vl,vu,.none]}
theorem zjf {B:V}{p q:Option V}{vl vu:Value}{x:Qe}{l u:Option Qe}{sp:Pos}{m:List V}{i j:Nat} (R:Rel G t st s) (r1:VRel t s.heap B v) (r2:gp p t s vl) (r3:gp q t s vu)
  (hm:zr st B=some (true,m)) (hi:kc 0 p=some i) (hj:kc m.length q=some j) {Q E:Value->Shared->Prop} (k:∀ v t' s',Step noX t t' s s'->Rel G t' st s'->VRel t' s'.heap (.lst ((m.take j).drop i)) v->Q v s') :
  wpAny G.M A (subscriptTail x (.Slice l u none sp) v (.ref s.heap.objs.size)) Q E {s with heap:=s.heap.push (uf vl vu)}:=by
 obtain⟨a,vs,rfl,io,rr,sz⟩:=qa R r1 hm
 have hsz:vs.size=m.length:=jd rr
 obtain⟨o1,rfl,p1⟩:=y4 (n:=m.length) hi r2
 obtain⟨o2,rfl,p2⟩:=y4 (n:=m.length) hj r3
 rw[Nat.zero_min] at p1
 rw[Nat.min_self] at p2
 have S4:=Step.push R (uf (partValue o1) (partValue o2))
 have R4:=R.push (uf (partValue o1) (partValue o2))
 have io4:=(PL.isList (show PL s.heap a vs from io)).push (uf (partValue o1) (partValue o2))
 refine tail_any io4.typeIs slot_list_getitem.lookup (wpAny_getItem_list_slice io4 (Heap.IsSliceOf.new ..) (tw o1) (tw o2) .none nofun ?_ (by rw[hsz];exact sz)) rfl
 have hpick:slicePick vs (o1.map (·.1)) (o2.map (·.1)) none=((vs.toList.take j).drop i).toArray:=by
  rw[slicePick_plain,hsz,p1,p2,g9 _ _ _ _ (hsz.symm.trans Array.length_toList.symm)]
 refine k _ t _ (S4.trans (Step.push R4 {cls:=.type "list",data:=.seq (slicePick vs (o1.map (·.1)) (o2.map (·.1)) none)})) (R4.push _) ?_
 rw[hpick]
 exact VRel.newL R4 (VRels.drop i (VRels.take j (VRels.step S4 (fun ξ z=>z.elim) _ rr))) (Zp (znp m i j) sz)
theorem zia {B:V}{p q:Option V}{vl vu:Value}{x:Qe}{l u:Option Qe}{sp:Pos}{m:List V}{i j:Nat} (R:Rel G t st s) (r1:VRel t s.heap B v) (r2:gp p t s vl) (r3:gp q t s vu)
  (hm:zr st B=some (false,m)) (hi:kc 0 p=some i) (hj:kc m.length q=some j) (hw:((m.take j).drop i).length < m.length) {Q E:Value->Shared->Prop} (k:∀ v t' s',Step noX t t' s s'->Rel G t' st s'->VRel t' s'.heap (.tup ((m.take j).drop i)) v->Q v s') :
  wpAny G.M A (subscriptTail x (.Slice l u none sp) v (.ref s.heap.objs.size)) Q E {s with heap:=s.heap.push (uf vl vu)}:=by
 obtain⟨a,vs,rfl,⟨n,io⟩,rr,sz⟩:=qa R r1 hm
 have hsz:vs.size=m.length:=jd rr
 obtain⟨o1,rfl,p1⟩:=y4 (n:=m.length) hi r2
 obtain⟨o2,rfl,p2⟩:=y4 (n:=m.length) hj r3
 rw[Nat.zero_min] at p1
 rw[Nat.min_self] at p2
 have S4:=Step.push R (uf (partValue o1) (partValue o2))
 have R4:=R.push (uf (partValue o1) (partValue o2))
 have io4:IsTup (s.heap.push (uf (partValue o1) (partValue o2))) a vs:=⟨_,Zn _ io,rfl,n,rfl⟩
 refine tail_any io4.typeIs slot_tuple_getitem.lookup (i5 (i:=min i m.length) (j:=min j m.length) io4 (Heap.IsSliceOf.new ..) (by rw[hsz];exact p1) (by rw[hsz];exact p2) (by rw[hsz];exact zcc hw) (by rw[hsz];exact sz) ?_) rfl
 rw[g9 vs.toList i j _ (hsz.symm.trans Array.length_toList.symm)]
 exact k _ t _ (S4.trans (Step.push R4 {cls:=.type "tuple",data:=.seq ((vs.toList.take j).drop i).toArray})) (R4.push _) (VRel.newT R4 (VRels.drop i (VRels.take j (VRels.step S4 (fun ξ z=>z.elim) _ rr))) (Zp (znp m i j) sz))
theorem zjh {y:List Nat}{p q:Option V}{vl vu:Value}{x:Qe}{l u:Option Qe}{sp:Pos}{i j:Nat} (R:Rel G t st s) (r1:VRel t s.heap (.str y) v) (r2:gp p t s vl) (r3:gp q t s vu)
  (hz:y.length<=ze) (hi:kc 0 p=some i) (hj:kc y.length q=some j) {Q E:Value->Shared->Prop} (k:∀ v t' s',Step noX t t' s s'->Rel G t' st s'->VRel t' s'.heap (.str ((y.take j).drop i)) v->Q v s') :
  wpAny G.M A (subscriptTail x (.Slice l u none sp) v (.ref s.heap.objs.size)) Q E {s with heap:=s.heap.push (uf vl vu)}:=by
 obtain⟨ky,rfl⟩:=r1
 obtain⟨o1,rfl,p1⟩:=y4 (n:=y.length) hi r2
 obtain⟨o2,rfl,p2⟩:=y4 (n:=y.length) hj r3
 rw[Nat.zero_min] at p1
 rw[Nat.min_self] at p2
 refine tail_any (typeIs_str _ _ _) PySem.F.slot_str_getitem.lookup (i7 (l:=o1) (u:=o2) ⟨_,Z5 _ rfl,rfl,rfl⟩ hz fun t' k'=>?_) rfl
 exact k _ t _ ((Step.push R _).trans (Step.toks _ _ _ k')) ((R.push _).toks k') ⟨t',by rw[zhc y _ _ i j p1 p2]⟩
theorem dl {o1 o2:Option Nat}{f:Nat->Nat->Res V}{Z:V} (e:(match o1,o2 with | some i,some j=>f i j | _,_=>.stuck)=.ok Z st'):∃ i j,o1=some i/\o2=some j/\f i j=.ok Z st':=by
 cases o1 with
 | none=>exact zb e
 | some i=>cases o2 with
  | none=>exact zb e
  | some j=>exact⟨i,j,rfl,rfl,e⟩
theorem zhy {B:V}{p q:Option V}{vl vu:Value}{x:Qe}{l u:Option Qe}{sp:Pos} (R:Rel G t st s) (r1:VRel t s.heap B v) (r2:gp p t s vl) (r3:gp q t s vu)
  (e:(match (motive:=_->Res V) zr st B with
  | some (true,l)=>match kc 0 p,kc l.length q with
   | some i,some j=>Res.ok (V.lst ((l.take j).drop i)) st
   | _,_=>.stuck
  | some (false,l)=>match kc 0 p,kc l.length q with
   | some i,some j=>if ((l.take j).drop i).length < l.length then Res.ok (V.tup ((l.take j).drop i)) st else .stuck
   | _,_=>.stuck
  | .none=>.stuck)=.ok Z st') {Q E:Value->Shared->Prop} (k:∀ v t' s',Step noX t t' s s'->Rel G t' st' s'->VRel t' s'.heap Z v->Q v s') :
  wpAny G.M A (subscriptTail x (.Slice l u none sp) v (.ref s.heap.objs.size)) Q E {s with heap:=s.heap.push (uf vl vu)}:=by
 cases hm:zr st B with
 | none=>rw[hm] at e;exact zb e
 | some m =>
  rw[hm] at e
  obtain⟨b,m⟩:=m
  cases b with
  | true =>
   obtain⟨i,j,hi,hj,e⟩:=dl e
   obtain⟨rfl,rfl⟩:=jk e
   exact zjf R r1 r2 r3 hm hi hj k
  | false =>
   obtain⟨i,j,hi,hj,e⟩:=dl e
   obtain⟨hw,e⟩:=jl e
   obtain⟨rfl,rfl⟩:=jk e
   exact zia R r1 r2 r3 hm hi hj hw k
theorem zjz {y:List Nat}{p q:Option V}{vl vu:Value}{x:Qe}{l u:Option Qe}{sp:Pos} (R:Rel G t st s) (r1:VRel t s.heap (.str y) v) (r2:gp p t s vl) (r3:gp q t s vu)
  (e:kf (.str y) p q st=.ok Z st') {Q E:Value->Shared->Prop} (k:∀ v t' s',Step noX t t' s s'->Rel G t' st' s'->VRel t' s'.heap Z v->Q v s') :
  wpAny G.M A (subscriptTail x (.Slice l u none sp) v (.ref s.heap.objs.size)) Q E {s with heap:=s.heap.push (uf vl vu)}:=by
 obtain⟨i,j,hi,hj,e⟩:=dl e
 obtain⟨hz,e⟩:=jl e
 obtain⟨rfl,rfl⟩:=jk e
 exact zjh R r1 r2 r3 hz hi hj k
theorem su {t':Tie}{s':Shared}{p:Option V} (S:Step noX t t' s s') (r:gp p t s v):gp p t' s' v:=by
 cases p with
 | none=>exact r
 | some X=>exact VRel.step S (fun ξ z=>z.elim) _ r
theorem zjw {a:E}{lo hi:Option E}{x:Qe}{l u:Option Qe}{sp pos:Pos} (ha:z0 G C d sc Γ a x) (hlo:zc8 G C d sc Γ lo l) (hhi:zc8 G C d sc Γ hi u):z0 G C d sc Γ (.slice a lo hi) (.Subscript x (.Slice l u none sp) pos):=by
 intro t st s env loc X st' A hA hsc F R e Q E k
 rw[zbh] at e
 obtain⟨B,s1,e1,e⟩:=Res.bind_ok e
 obtain⟨p,s2,e2,e⟩:=Res.bind_ok e
 obtain⟨q,s3,e3,e⟩:=Res.bind_ok e
 refine Subscript_ (ha t st s env loc _ _ A hA hsc F R e1 _ _ fun v t1 σ1 S1 R1 r1=>?_)
 have F1:=F.step R S1
 refine wpAny_Slice (hlo t1 s1 σ1 env loc p s2 A hA hsc F1 R1 e2 _ _ fun vl t2 σ2 S2 R2 r2=>?_)
 refine hhi t2 s2 σ2 env loc q s3 A hA hsc (F1.step R1 S2) R2 e3 _ _ fun vu t3 σ3 S3 R3 r3=>?_
 rw[evalPart_none]
 refine Zr ?_
 have r1':=VRel.step (S2.trans S3) (fun ξ z=>z.elim) _ r1
 have k':∀ v t' s',Step noX t3 t' σ3 s'->Rel G t' st' s'->VRel t' s'.heap X v->Q v s':=fun v t' s' S4=>k v t' s' (((S1.trans S2).trans S3).trans S4)
 cases B with
 | str y=>exact zjz R3 r1' (su S3 r2) r3 e k'
 | _=>exact zhy R3 r1' (su S3 r2) r3 e k'
end
end Internal
end
section
set_option maxRecDepth 100000
namespace Internal
open PySem PySem.W PyProof.Rows
section
variable {G:Gd}{N:Names}{C:Calls}{d:Dp}{sc:Sc}{Γ:Gam}{A:Around}{t:Tie}{st st':MS}{s:Shared}{env:Env}{loc:Loc}{X Y Z:V}{v w:Value}
noncomputable def wo:Tag->String
 | .none=>"NoneType" | .bool=>"bool" | .int=>"int" | .str=>"str" | .tuple=>"tuple" | .list=>"list" | .dict=>"dict"
noncomputable def yq:Kind->String
 | .int=>"int" | .bool=>"bool" | .str=>"str" | .list=>"list" | .tuple=>"tuple" | .valueError=>"ValueError" | .cls _=>""
noncomputable def xl:Kind->Bool
 | .int=>true | .bool=>true | .str=>true | .list=>true | .tuple=>true | _=>false
theorem zug (K:Frag) (g:Tag) (k:Kind) (hk:xl k=true):kitOne K (.type (wo g)) (.type (yq k))=yr g k:=by
 cases k with
 | valueError=>exact z6 hk
 | cls=>exact z6 hk
 | _=>cases g <;> kernel_rfl
theorem zgv (K:Frag) (g:Tag) (k:Kind) (hk:xl k=true) {b:Bool} (e:yr g k=some b):kitOne K (.type (wo g)) (.type (yq k))=some b:=(zug K g k hk).trans e
noncomputable abbrev KT (G:Gd) (s:Shared) (v:Value) (n:String):Prop:=∃ H,KitX G.K v (.type n) H/\H s.heap/\v≠.builtin "__main__.__loader__#opaque"
theorem wz {g g':Tag} (hv:v=w) (h:KT G s w (wo g')) (e:some g'=some g):KT G s v (wo g):=by cases e;cases hv;exact h
theorem zcj {a:Addr}{vs:Array Value} (h:PL s.heap a vs):KT G s (.ref a) "list":=h.elim fun ξ ho=>⟨_,kitx_list,⟨_,ho,rfl⟩,nofun⟩
theorem zq7 {a:Addr}{vs:Array Value} (h:PT s.heap a vs):KT G s (.ref a) "tuple":=h.elim fun ξ ho=>⟨_,kitx_tuple,⟨_,ho,rfl⟩,nofun⟩
theorem zqi (R:Rel G t st s) {g:Tag}{l:Lbl} (r:VRel t s.heap (.ref l) v) (e:bt st (.ref l)=some g):KT G s v (wo g):=by
 have e:(match st.heap l with | some (.list _)=>some Tag.list | some (.dict _)=>some Tag.dict | _=>none)=some g:=e
 obtain⟨a',hv,e2⟩:=r
 cases hl:st.heap l with
 | none=>rw[hl] at e;exact za e
 | some o =>
  rw[hl] at e
  cases o with
  | list m =>
   obtain⟨a,vs,h1,h2,_⟩:=R.objs l _ hl
   cases h1.symm.trans e2
   exact wz hv (zcj h2) e
  | dict m =>
   obtain⟨a,kvs,h1,h2,_⟩:=R.objs l _ hl
   cases h1.symm.trans e2
   obtain⟨o,h3,h4⟩:=h2.typeIs
   exact wz hv ⟨_,kitx_dict,⟨o,h3,h4⟩,nofun⟩ e
  | _=>exact za e
theorem zfk (R:Rel G t st s) {g:Tag} (r:VRel t s.heap X v) (e:bt st X=some g):∃ H,KitX G.K v (.type (wo g)) H/\H s.heap/\v≠.builtin "__main__.__loader__#opaque":=by
 cases X with
 | none=>exact wz r ⟨_,kitx_none,trivial,nofun⟩ e
 | bool b=>exact wz r ⟨_,kitx_bool,trivial,nofun⟩ e
 | int i=>exact r.elim fun ξ hv=>wz hv ⟨_,kitx_int,trivial,nofun⟩ e
 | str i=>exact r.elim fun ξ hv=>wz hv ⟨_,kitx_str,trivial,nofun⟩ e
 | tup l=>obtain⟨a,vs,hv,ho,_⟩:=r;exact wz hv (zq7 ho) e
 | lst l=>obtain⟨a,vs,hv,ho,_⟩:=r;exact wz hv (zcj ho) e
 | exc c=>exact za e
 | ref l=>exact zqi R r e
theorem zl1 {o:Option Tag}{f:Tag->Option Bool}{b:Bool} (e:(match o with | some g=>f g | .none=>Option.none)=some b):∃ g,o=some g/\f g=some b:=by
 cases o with
 | none=>exact za e
 | some g=>exact⟨g,rfl,e⟩
theorem gg {P:Prog}{k:Kind}{b:Bool} (hk:xl k=true) (e:u0 P st X k=some b):∃ g,bt st X=some g/\yr g k=some b:=by
 cases X with
 | exc d =>
  cases k with
  | valueError=>exact z6 hk
  | cls=>exact z6 hk
  | _=>exact za e
 | _=>exact zl1 e
theorem mx {P:Prog} (K:Frag):∀ {ks:List Kind}{b:Bool}{g:Tag},(∀ k∈ks,xl k=true)->bt st X=some g->kh P st X ks=some b->kitAny K (.type (wo g)) (ks.map fun k=>.type (yq k))=some b
 | [],_,_,_,_,e=>by cases e;rfl
 | k::ks,b,g,hu,hg,e=>by
  simp only[kh] at e
  simp only[Zz,kitAny]
  cases q:u0 P st X k with
  | none=>rw[q] at e;exact za e
  | some b' =>
   rw[q] at e
   obtain⟨g',h1,h2⟩:=gg (hu k (.head _)) q
   rw[hg] at h1;cases h1
   rw[zgv K g k (hu k (.head _)) h2]
   cases b' with
   | true=>cases e;rfl
   | false=>exact mx K (fun k hk=>hu k (.tail _ hk)) hg e
theorem zh0 (k:Kind) (hk:xl k=true):∃ x:Qf,cw k=some x/\bootBuiltins x=some (.type (yq k))/\x∈(["len","max","int","sorted","tuple","list","all","isinstance","range","dict","bool","str","ValueError"]:List Qf):=by
 cases k <;> first | exact(Z8 hk).elim | exact⟨_,rfl,by decide +kernel,by decide⟩
theorem u9 (O:G.Ok N) (F:FrOk G A t env Γ loc s) (R:Rel G t st s) (hsc:env.scope.names=sc) {k:Kind} (hk:xl k=true) {y:Qe} (hc:ph N sc k y=true) {Q E':Value->Shared->Prop} (h:Q (.type (yq k)) s):isStarred y=false/\wpAny G.M A (eval y env) Q E' s:=by
 obtain⟨x,h1,h2,h3⟩:=zh0 k hk
 cases y with
 | Name x' p =>
  obtain⟨hx,hg⟩:=Zj.1 (hc:(cw k == some x'&&jp sc x')=true)
  cases h1.symm.trans (eq_of_beq hx)
  exact⟨rfl,jm O F R hsc hg h3 h2 h⟩
 | _=>exact z6 hc
theorem d9 (O:G.Ok N) (hsc:env.scope.names=sc) (pos:Pos):∀ {ks:List Kind}{ys:List Qe}{Q:List Value->Shared->Prop}{E':Value->Shared->Prop},(∀ k∈ks,xl k=true)->ut N sc ks ys=true->∀ {t:Tie}{st:MS}{s:Shared},FrOk G A t env Γ loc s->Rel G t st s->
  Q (ks.map fun k=>.type (yq k)) s->wpAny G.M A (spliced (backTo pos (starEach ys env))) Q E' s
 | [],[],_,_,_,_,_,_,_,_,_,h=>Calls.spliced_nil h
 | [],_::_,_,_,_,e,_,_,_,_,_,_=>by exact z6 e
 | _::_,[],_,_,_,e,_,_,_,_,_,_=>by exact z6 e
 | k::ks,y::ys,Q,E',hu,e,t,st,s,F,R,h=>by
  have e:=Zj.1 (e:(ph N sc k y&&ut N sc ks ys)=true)
  have hs:=(u9 (A:=A) (Q:=fun ξ ξ=>True) (E':=fun ξ ξ=>True) O F R hsc (hu k (.head _)) e.1 trivial).1
  refine wpAny_items_cons (u9 O F R hsc (hu k (.head _)) e.1 ?_).2 (k9 hs ys env)
  exact d9 O hsc pos (fun k hk=>hu k (.tail _ hk)) e.2 F R h
theorem d8 {f:Value}{pos:Pos}{x y:Qe}{Q:Args->Shared->Prop}{E':Value->Shared->Prop} (hx:isStarred x=false) (hy:isStarred y=false)
  (h:wpAny G.M A (eval x env) (fun v s1=>wpAny G.M A (eval y env) (fun w s2=>Q ⟨[v,w],[]⟩ s2) E' s1) E' s):wpAny G.M A (evalArgs f true (backTo pos (starEach [x,y] env)) []) Q E' s:=by
 have q:wpAny G.M A (spliced (backTo pos (starEach [x,y] env))) (fun vs s'=>Q ⟨vs,[]⟩ s') E' s:=by
  refine wpAny_items_cons (wpAny_mono h (fun v s1 h1=>?_) fun ξ ξ e=>e) (k9 hx [y] env)
  refine wpAny_items_cons (wpAny_mono h1 (fun w s2 h2=>?_) fun ξ ξ e=>e) (k9 hy [] env)
  exact Calls.spliced_nil h2
 rw[k9 hx] at q ⊢
 exact Calls.evalArgs_plain q
set_option tactic.hygienic true in
theorem zbd (O:G.Ok N) {a:E}{x y:Qe}{k:Kind}{np pos:Pos} (hk:xl k=true) (hg:jp sc "isinstance"=true) (hx:isStarred x=false) (hc:ph N sc k y=true) (ha:z0 G C d sc Γ a x) :
  z0 G C d sc Γ (.isinst a [k]) (.Call (.Name "isinstance" np) [x,y] [] pos):=by
 intro t st s env loc X st' A hA hsc F R e Q E q
 rw[me] at e
 obtain⟨V,s1,e1,e⟩:=Res.bind_ok e
 unfold okB at e
 split at e
 ·rename_i b hb
  obtain⟨rfl,rfl⟩:X=.bool b/\st'=s1:=by cases e;exact⟨rfl,rfl⟩
  have hy:=(u9 (A:=A) (Q:=fun ξ ξ=>True) (E':=fun ξ ξ=>True) O F R hsc hk hc trivial).1
  have hkk:u0 G.P st' V k=some b:=by
   simp only[kh] at hb
   cases z:u0 G.P st' V k with
   | none=>rw[z] at hb;exact za hb
   | some b'=>rw[z] at hb;cases b' <;> exact hb
  obtain⟨g,g1,g2⟩:=gg hk hkk
  refine wpAny_Call_ofName (jm (v:=.builtin "isinstance") O F R hsc hg (by decide) (by decide +kernel) ?_)
  refine callWith_of (P:=G.K.In) (by rw[k8 pos env (m:=[x,y]) (by simp[z8,hx,hy])];rfl) (bh _) (d8 hx hy ?_)
  refine ha t st s env loc _ _ A hA hsc F R e1 _ _ fun v t1 σ1 S1 R1 r1=>?_
  refine(u9 O (F.step R S1) R1 hsc hk hc ?_).2
  have XK:=O.K.keeps R1.base
  refine⟨XK,?_⟩
  obtain⟨H,Z,hH,hne⟩:=zfk R1 r1 g1
  exact kia_one Z XK hH (zgv G.K g k hk g2) hne fun tk=>q _ t1 _ (S1.trans (Step.toks _ _ _ tk)) (R1.toks tk) rfl
 ·exact zb e
set_option tactic.hygienic true in
theorem zcl (O:G.Ok N) {a:E}{x:Qe}{ys:List Qe}{k k':Kind}{np pos tp:Pos}{cx:Nat} (hk:xl k=true) (hk':xl k'=true) (hg:jp sc "isinstance"=true) (hx:isStarred x=false) (hc:ut N sc [k,k'] ys=true) (ha:z0 G C d sc Γ a x) :
  z0 G C d sc Γ (.isinst a [k,k']) (.Call (.Name "isinstance" np) [x,.Tuple ys cx tp] [] pos):=by
 intro t st s env loc X st' A hA hsc F R e Q E q
 rw[me] at e
 obtain⟨V,s1,e1,e⟩:=Res.bind_ok e
 unfold okB at e
 split at e
 ·rename_i b hb
  obtain⟨rfl,rfl⟩:X=.bool b/\st'=s1:=by cases e;exact⟨rfl,rfl⟩
  have hu:∀ z∈[k,k'],xl z=true:=by intro z hz;simp at hz;rcases hz with rfl | rfl <;> assumption
  obtain⟨b0,hb0⟩:∃ b0,u0 G.P st' V k=some b0:=by
   simp only[kh] at hb
   cases z:u0 G.P st' V k with
   | none=>rw[z] at hb;exact za hb
   | some b'=>exact⟨b',rfl⟩
  obtain⟨g,g1,g2⟩:=gg hk hb0
  refine wpAny_Call_ofName (jm (v:=.builtin "isinstance") O F R hsc hg (by decide) (by decide +kernel) ?_)
  refine callWith_of (P:=G.K.In) (by rw[k8 pos env (m:=[x,.Tuple ys cx tp]) (by show(!isStarred x&&(!false&&true))=true;rw[hx];rfl)];rfl) (bh _) (d8 hx rfl ?_)
  refine ha t st s env loc _ _ A hA hsc F R e1 _ _ fun v t1 σ1 S1 R1 r1=>?_
  refine wpAny_Tuple (d9 O hsc _ hu hc (F.step R S1) R1 ⟨by rw[Zd,sizeLine_eq];exact Nat.le_of_ble_eq_true rfl,?_⟩)
  have R2:=R1.push {cls:=.type "tuple",data:=.seq ([k,k'].map fun k=>Value.type (yq k)).toArray}
  have S2:=Step.push R1 {cls:=.type "tuple",data:=.seq ([k,k'].map fun k=>Value.type (yq k)).toArray}
  have XK:=O.K.keeps R2.base
  refine⟨XK,?_⟩
  obtain⟨H,Z,hH,hne⟩:=zfk R2 (VRel.step S2 (fun ξ z=>z.elim) _ r1) g1
  exact kia_tup Z XK hH (Z5 _ rfl) (mx G.K hu g1 hb) hne fun tk=>q _ t1 _ ((S1.trans S2).trans (Step.toks _ _ _ tk)) (R2.toks tk) rfl
 ·exact zb e
end
end Internal
end
section
set_option maxRecDepth 100000
namespace Internal
open PySem PySem.W PyProof.Rows
section
variable {G:Gd}{N:Names}{C:Calls}{d:Dp}{sc:Sc}{Γ:Gam}{A:Around}{t:Tie}{st st':MS}{s:Shared}{env:Env}{loc:Loc}{X Y Z:V}{v w:Value}
theorem zba (k k':Qf) (u y:Value) (r:List (Qf×Value)) (h:k'≠k):stored ((k',u)::r) k y=(k',u)::stored r k y:=by
 unfold stored
 simp only[List.any_cons,h,decide_false,Bool.false_or,Zz,if_false]
 split <;> rfl
theorem zaw (k:Qf) (u y:Value) (r:List (Qf×Value)) (h:k ∉ r.map (·.1)):stored ((k,u)::r) k y=(k,y)::r:=by
 unfold stored
 simp only[List.any_cons,decide_true,Bool.true_or,if_true,Zz]
 congr 1
 conv=>rhs;rw[<- List.map_id r]
 refine List.map_congr_left fun p hp=>?_
 rw[Zh (fun z=>h (Z1.mpr ⟨p,hp,z⟩))];rfl
theorem zhd {a b:List Nat} (h:z7 a=z7 b):a=b:=by
 have:=Qd (fun z=>z.cps.toList) h
 simpa [z7] using this
theorem DRel.put {h:Heap}{x:List Nat}{y:Value}:∀ {dd:List (V×V)}{kvs:List (Qf×Value)},DRel t h dd kvs->(kvs.map (·.1)).Nodup->VRel t h Y y->DRel t h (lc (.str x) Y dd) (stored kvs (z7 x) y)
 | [],_,e,_,r=>by cases e;exact⟨x,y,[],rfl,rfl,r,rfl⟩
 | (k,u)::r,_,⟨z,y',rest,e1,e2,e3,e4⟩,nd,ry=>by
  subst e1;subst e2
  rw[Zz,List.nodup_cons] at nd
  by_cases q:z=x
  ·subst q
   rw[zaw _ _ _ _ nd.1]
   have hh:lc (.str z) Y ((V.str z,u)::r)=(V.str z,Y)::r:=Zg (Zb rfl)
   rw[hh]
   exact⟨z,y,rest,rfl,rfl,ry,e4⟩
  ·have q':z7 z≠z7 x:=fun e=>q (zhd e)
   rw[zba _ _ _ _ _ q']
   have hh:lc (.str x) Y ((V.str z,u)::r)=(V.str z,u)::lc (.str x) Y r:=Zh (by rw[show d7 (V.str z) (V.str x)=decide (z=x) from rfl,Zc q];exact Z8)
   rw[hh]
   exact⟨z,y',_,rfl,rfl,e3,DRel.put e4 nd.2 ry⟩
theorem DRel.length {h:Heap}:∀ {dd:List (V×V)}{kvs:List (Qf×Value)},DRel t h dd kvs->kvs.length=dd.length
 | [],_,e=>by cases e;rfl
 | (k,u)::r,_,⟨z,y',rest,e1,e2,e3,e4⟩=>by subst e2;simp[DRel.length e4]
theorem cc {l:Addr}{items:Array Value}{n:Nat}{k:Int}{tk:Tok}{u:Value}{Q:Unit->Shared->Prop}{E:Value->Shared->Prop} (ho:s.heap.get? l=some {cls:=.type "list",data:=.seq items n})
  (h0:0<=k) (hfit:k < 2 ^ 63) (hn:k < items.size) (hQ:Q () {s with heap:=s.heap.update l (Obj.mapSeq (·.setIfInBounds k.toNat u))}) :
  wpAny G.M A (PySem.setItem (.ref l) (.int k tk) u) Q E s:=by
 have hl:s.heap.IsList l items:=⟨_,ho,rfl,n,rfl⟩
 unfold PySem.setItem
 try with_reducible refine wpAny_holding ?_
 first | refine Ze (Zr ?_) | skip
 refine Ze (wpAny_sequenceKey hl.typeIs (by decide) ?_)
 refine Ze (wpAny_callSpecial?_slot (name:=Str.ofString "__setitem__") hl.typeIs slot_list_setitem
  (wpAny_call_entry slot_list_setitem hl.typeIs entry_list_setitem ?_ (args_list_setitem _ _ _)))
 show wpAny _ _ (Builtin.List.listSubscript? (.int k tk) >>= _) _ _ s
 refine Ze (wpAny_listSubscript_int (fitsIndex_of h0 hfit) ?_)
 clear hfit
 obtain⟨j,rfl⟩:=Int.eq_ofNat_of_zero_le h0
 have hj:j < items.size:=by lia
 have hx':items[j]?=some items[j]:=Array.getElem?_eq_getElem hj
 show wpAny _ _ ((seqItemAt l j >>= fun r=>pure (r.map (j,·))) >>= _) _ _ s
 refine Ze (Ze (wpAny_seqItemAt ho rfl (Zr ?_)))
 rw[hx']
 show wpAny _ _ (setSeqItemAt l j u >>= _) _ _ s
 refine Ze (wpAny_setSeqItemAt ho rfl ?_)
 first
  | exact Ze (Zr (Zr ⟨.none,rfl,Zr hQ⟩))
  | exact Zr ⟨.none,rfl,Zr hQ⟩
theorem zlt {p:Lbl×List V}{U:V}{u:Value}{r:Unit} (R:Rel G t st s) (hX:VRel t s.heap X v) (hY:VRel t s.heap Y w) (hU:VRel t s.heap U u) (hp:j7 X st=some p) (e:(match (generalizing:=false) Y with
  | .int i=>if 0<=i/\i < p.2.length then Res.ok () (st.put p.1 (.list (p.2.set i.toNat U))) else .stuck
  | _=>.stuck)=.ok r st'):Sim G A t s (PySem.setItem v w u) st' (fun ξ ξ ξ=>True):=by
 obtain⟨i,rfl,e⟩:=zfw e
 obtain⟨hi,e⟩:=jl e
 obtain⟨rfl,rfl⟩:=jk e
 obtain⟨a,vs,n,rfl,h1,h2,h3,h4,h5⟩:=ve R hX hp
 obtain⟨k,rfl⟩:=hY
 have hsz:=jd h3
 intro Q E q
 refine cc h2 hi.1 (Int.lt_trans hi.2 (zk2 h4)) (by rw[hsz];exact hi.2) ?_
 have u:=lw (tk:=s.toks) (f:=fun xs=>xs.setIfInBounds i.toNat u) (l':=p.2.set i.toNat U) R h5 h1 h2 (by rw[Array.toList_setIfInBounds];exact h3.set i.toNat hU) (by rw[List.length_set];exact h4)
 exact q _ t.tick _ u.1 u.2 trivial
theorem zb8 {h:Heap}{a:Addr}{kvs:List (Qf×Value)} (hd:h.DictOf (strKind G.prog G.w) a kvs):(h.get? a).isSome=true:=by
 obtain⟨o,es,ep,ho,_⟩:=hd;rw[ho];rfl
theorem zmi {U:V}{u:Value}{r:Unit} (R:Rel G t st s) (hX:VRel t s.heap X v) (hY:VRel t s.heap Y w) (hU:VRel t s.heap U u) (e:(match dictAt X st with
  | some p=>if Y.isKey/\p.2.length < ze then Res.ok () (st.put p.1 (.dict (lc Y U p.2))) else .stuck
  | .none=>.stuck)=.ok r st'):Sim G A t s (PySem.setItem v w u) st' (fun ξ ξ ξ=>True):=by
 obtain⟨p,hp,e⟩:=zun e
 obtain⟨hk,e⟩:=jl e
 obtain⟨rfl,rfl⟩:=jk e
 obtain⟨a,kvs,rfl,h1,h2,h3,h4⟩:=u5 R hX hp
 obtain⟨x,rfl⟩:=so hk.1
 obtain⟨k,rfl⟩:=hY
 intro Q E q
 have nd:(kvs.map (·.1)).Nodup:=let ⟨o,es,ep,a1,a2,a3,a4,a5,a6⟩:=h2;a6
 refine wpAny_setItem_pairs (strKind_is G.prog G.w (z7 x) k) h2 (fun h' hd hs=>?_) (by rw[h3.length];exact Nat.le_of_lt hk.2)
 have hl:=zb8 hd
 have S:=Step.upd (t:=t) (s:=s) (tk:=s.toks+1) ⟨p.1,.inl h1⟩ hl hs
 exact q _ t.tick _ S (R.upd (l:=p.1) (.inl h1) hl hs (by rw[h4];exact fun z=>za z.symm) ⟨a,_,h1,hd,DRel.step S (fun ξ z=>z.elim) (DRel.put h3 nd hU)⟩) trivial
theorem br {U:V}{u:Value}{r:Unit} (R:Rel G t st s) (hX:VRel t s.heap X v) (hY:VRel t s.heap Y w) (hU:VRel t s.heap U u) (e:setItem X Y U st=.ok r st'):Sim G A t s (PySem.setItem v w u) st' (fun ξ ξ ξ=>True):=by
 delta setItem at e
 cases hp:j7 X st with
 | some p=>rw[hp] at e;exact zlt R hX hY hU hp e
 | none=>rw[hp] at e;exact zmi R hX hY hU e
theorem zhw (O:G.Ok N) {kd:Nat}{pos:Pos}:z0 G C d sc Γ (.dictM kd [] []) (.Dict [] [] pos):=by
 intro t st s env loc X st' A hA hsc F R e Q E k
 simp only[zml,zaq,y7,Res.bind] at e
 rw[Zg ⟨rfl,by decide,List.nodup_nil⟩] at e
 obtain⟨rfl,rfl⟩:X=.ref (kd,st.cnt kd)/\st'=st.new kd (.dict []):=by cases e;exact⟨rfl,rfl⟩
 refine wpAny_Dict_empty ?_
 have hk:∀ b o,s.heap.get? b=some o->(s.heap.push ({cls:=.type "dict",data:=.dict #[]}:Obj)).get? b=some o:=fun ξ ξ e=>Zn _ e
 have S:=Step.bind (k:=kd) (d:=none) (s':={s with heap:=s.heap.push {cls:=.type "dict",data:=.dict #[]}}) R hk rfl rfl (qe _) (fun x e=>by exact za e)
 have rho:(t.bind (kd,st.cnt kd) s.heap.objs.size none).ρ (kd,st.cnt kd)=some s.heap.objs.size:=by simp[Tie.bind]
 refine k _ _ _ S (Rel.bind R hk rfl rfl (qe _) (fun x e=>by exact za e) ?_ (R.size_sys O) ⟨_,[],rho,?_,rfl⟩) ⟨_,rfl,rho⟩
 ·show((s.heap.push _).get? _).isSome=true;rw[Z5 _ rfl];rfl
 ·exact Heap.DictOf.new _
end
end Internal
end
section
set_option maxRecDepth 100000
namespace Internal
open PySem PySem.W PyProof.Rows
section
variable {G:Gd}{N:Names}{C:Calls}{d:Dp}{sc:Sc}{Γ:Gam}{A:Around}{t:Tie}{st st':MS}{s:Shared}{env:Env}{loc:Loc}{X Y Z:V}{v w:Value}
theorem Rel.hideGrow (R:Rel G t st s) {s':Shared}{P:Addr->Prop}{l₁:List Env} (np:∀ a,P a->s.heap.get? a=none) (hk:∀ b o,s.heap.get? b=some o->s'.heap.get? b=some o) (hl:∀ a,P a->(s'.heap.get? a).isSome=true) (hg:s'.gens=s.gens) (ho:s'.os=s.os) :
  Rel G (t.hideS P l₁) st s' where
 base b o e:=hk b o (R.base b o e)
 apart a q:=by
  rcases q with q | q | q
  ·exact R.apart a (.inl q)
  ·exact R.apart a (.inr q)
  ·cases z:G.h₀.get? a with
   | none=>rfl
   | some o=>have:=R.base a o z;rw[np a q] at this;exact za this
 live a q:=by
  have old:t.Avoid a->(s'.heap.get? a).isSome=true:=fun q=>by obtain⟨o,e⟩:=Option.isSome_iff_exists.mp (R.live a q);rw[hk a o e];rfl
  rcases q with q | q | q
  ·exact old (.inl q)
  ·exact old (.inr q)
  ·exact hl a q
 pv a q o:=by
  rcases q with q | q
  ·exact R.pv a q o
  ·have:=R.live a (.inl o);rw[np a q] at this;exact z6 this
 injρ:=R.injρ
 injδ:=R.injδ
 two:=R.two
 objs l o e:=by
  have S:Step noX (t.hideS P l₁) (t.hideS P l₁) s s':=⟨.refl _,fun a o e ξ ξ ξ=>hk a o e,fun a o e ξ ξ ξ=>⟨o.slots,hk a o e⟩,fun ξ o=>.inl o,fun a o e=>by rw[hk a o e];rfl,hg,ho⟩
  exact(ObjOk.map (t:=t) (t':=t.hideS P l₁) (fun ξ ξ e=>e) (fun ξ ξ e=>e) (Tie.hid np) (fun ξ ξ ξ e=>e) (R.objs l o e)).step S (fun ξ x=>x.elim) fun a o ξ e=>hk a o e
 cnt:=R.cnt
 sys:=R.sys
 wr:=R.wr
structure Forget (P L:Addr->Prop) (t₁ t₂:Tie) (s₁ s₂:Shared):Prop where
 ρ:t₂.ρ=t₁.ρ
 δ:t₂.δ=t₁.δ
 pv:∀ a,t₂.pv a->t₁.pv a/\¬ P a
 hP:∀ a,P a->t₁.pv a
 hL:∀ a,L a->t₁.pv a/\(s₂.heap.get? a).isSome=true
 keep:∀ b o,¬ P b->¬ L b->s₁.heap.get? b=some o->s₂.heap.get? b=some o
 gens:s₂.gens=s₁.gens
 os:s₂.os=s₁.os
 wr:t₂.wr=t₁.wr
theorem Forget.own {P L:Addr->Prop}{t₁ t₂:Tie}{s₁ s₂:Shared} (F:Forget P L t₁ t₂ s₁ s₂) {a:Addr}:t₂.Own a↔t₁.Own a:=by
 unfold Tie.Own;rw[F.ρ,F.δ]
theorem Forget.avoid {P L:Addr->Prop}{t₁ t₂:Tie}{s₁ s₂:Shared} (F:Forget P L t₁ t₂ s₁ s₂) {a:Addr} (h:¬ t₁.Avoid a):¬ t₂.Avoid a:=fun q=>h (q.imp F.own.mp fun z=>(F.pv a z).1)
theorem Forget.val {P L:Addr->Prop}{t₁ t₂:Tie}{s₁ s₂:Shared} (F:Forget P L t₁ t₂ s₁ s₂) (a:Addr) (o:Obj) (na:¬ t₁.Avoid a) (ho:s₁.heap.get? a=some o):s₂.heap.get? a=some o/\¬ t₂.Avoid a :=
 ⟨F.keep _ _ (fun q=>na (.inr (F.hP a q))) (fun q=>na (.inr (F.hL a q).1)) ho,F.avoid na⟩
theorem VRel.forget {P L:Addr->Prop}{t₁ t₂:Tie}{s₁ s₂:Shared} (F:Forget P L t₁ t₂ s₁ s₂) (x:V) {v:Value} (r:VRel t₁ s₁.heap x v):VRel t₂ s₂.heap x v:=VRel.map (fun ξ ξ e=>by rw[F.ρ];exact e) F.val x r
theorem VRels.forget {P L:Addr->Prop}{t₁ t₂:Tie}{s₁ s₂:Shared} (F:Forget P L t₁ t₂ s₁ s₂) (l:List V) {vs:List Value} (r:VRels t₁ s₁.heap l vs):VRels t₂ s₂.heap l vs:=VRels.map (fun ξ ξ e=>by rw[F.ρ];exact e) F.val l r
theorem Rel.forget {P L:Addr->Prop}{t₁ t₂:Tie}{s₁ s₂:Shared} (F:Forget P L t₁ t₂ s₁ s₂) (R:Rel G t₁ st s₁):Rel G t₂ st s₂:=by
 have nP:∀ {a},t₁.Own a->¬ P a:=fun {a} o q=>R.pv a (F.hP a q) o
 have nL:∀ {a},t₁.Own a->¬ L a:=fun {a} o q=>R.pv a (F.hL a q).1 o
 have up:∀ {a},t₂.Avoid a->t₁.Avoid a/\¬ P a:=fun {a} q=>q.elim (fun q=>⟨.inl (F.own.mp q),nP (F.own.mp q)⟩) fun q=>⟨.inr (F.pv a q).1,(F.pv a q).2⟩
 refine⟨fun b o e=>F.keep b o (fun q=>?_) (fun q=>?_) (R.base b o e),fun a q=>R.apart a (up q).1,fun a q=>?_,fun a q o=>R.pv a (F.pv a q).1 (F.own.mp o),?_,?_,?_,?_,?_,?_,F.wr.trans R.wr⟩
 ·rw[R.apart b (.inr (F.hP b q))] at e;exact za e
 ·rw[R.apart b (.inr (F.hL b q).1)] at e;exact za e
 ·by_cases ql:L a
  ·exact(F.hL a ql).2
  ·obtain⟨o,e⟩:=Option.isSome_iff_exists.mp (R.live a (up q).1)
   rw[F.keep a o (up q).2 ql e];rfl
 ·rw[F.ρ];exact R.injρ
 ·rw[F.δ];exact R.injδ
 ·rw[F.ρ,F.δ];exact R.two
 ·intro l o e
  exact ObjOk.map (fun ξ ξ e=>by rw[F.ρ];exact e) (fun ξ ξ e=>by rw[F.δ];exact e) F.val (fun a ob q e=>F.keep a ob (nP ⟨l,q⟩) (nL ⟨l,q⟩) e) (R.objs l o e)
 ·rw[F.ρ,F.δ];exact R.cnt
 ·rw[F.ρ];exact R.sys
theorem Step.unhideS {P X L:Addr->Prop}{t₁:Tie}{s₀ s₁ s₂:Shared}{l:List Env} (hl:∀ e,e∈l->e∈t.st\/∀ a,e.frame=some a->P a) (hl':∀ e,e∈t.st->e∈l) (hX:∀ a,X a->P a\/L a) (np:∀ a,P a->s.heap.get? a=none) (hk:∀ b o,s.heap.get? b=some o->s₀.heap.get? b=some o) (hg:s₀.gens=s.gens) (ho:s₀.os=s.os)
  (S:Step X (t.hideS P l) t₁ s₀ s₁) (F:Forget P L t₁ {t₁ with pv:=t.pv,st:=t.st} s₁ s₂):Step L t {t₁ with pv:=t.pv,st:=t.st} s s₂ where
 le:=⟨S.le.ρ,S.le.δ,rfl,S.le.wr,rfl⟩
 slots a o e n nl f:=by
  have nP:¬ P a:=fun q=>by rw[np a q] at e;exact za e
  obtain⟨sl,e1⟩:=S.slots a o (hk a o e) n (fun q=>(hX a q).elim nP nl) ⟨.inl f.1,let ⟨e,h1,h2⟩:=f.2;⟨e,hl' e h1,h2⟩⟩
  exact⟨sl,F.keep a _ nP nl e1⟩
 keepW a o e n nl nf:=by
  have nP:¬ P a:=fun q=>by rw[np a q] at e;exact za e
  exact F.keep a o nP nl (S.keepW a o (hk a o e) n (fun q=>(hX a q).elim nP nl) fun q=>let ⟨e,h1,h2⟩:=q.2;nf ⟨q.1.elim id fun q=>(nP q).elim,e,(hl e h1).resolve_right fun z=>nP (z a h2),h2⟩)
 new a o:=by
  rcases S.new a o with q | q
  ·exact .inl q
  ·right
   cases z:s.heap.get? a with
   | none=>rfl
   | some ob=>rw[hk a ob z] at q;cases q
 live a o e:=by
  have nP:¬ P a:=fun q=>by rw[np a q] at e;exact za e
  by_cases ql:L a
  ·exact(F.hL a ql).2
  ·obtain⟨o',e'⟩:=Option.isSome_iff_exists.mp (S.live a o (hk a o e))
   rw[F.keep a o' nP ql e'];rfl
 gens:=F.gens.trans (S.gens.trans hg)
 os:=F.os.trans (S.os.trans ho)
theorem Step.unhide {P X L:Addr->Prop}{t₁:Tie}{s₀ s₁ s₂:Shared} (hX:∀ a,X a->P a\/L a) (np:∀ a,P a->s.heap.get? a=none) (hk:∀ b o,s.heap.get? b=some o->s₀.heap.get? b=some o) (hg:s₀.gens=s.gens) (ho:s₀.os=s.os)
  (S:Step X (t.hide P) t₁ s₀ s₁) (F:Forget P L t₁ {t₁ with pv:=t.pv,st:=t.st} s₁ s₂):Step L t {t₁ with pv:=t.pv,st:=t.st} s s₂ :=
 Step.unhideS (l:=t.st) (fun ξ h=>.inl h) (fun ξ h=>h) hX np hk hg ho S F
theorem Step.priv {a:Addr}{h':Heap}{tk:Nat}{X:Addr->Prop} (hX:X a) (hl:(h'.get? a).isSome=true) (hs:Heap.SameBut a s.heap h'):Step X t t s {s with heap:=h',toks:=tk} :=
 ⟨.refl t,fun b o e ξ nx ξ=>(hs.2 b fun (q:b=a)=>nx (q▸hX)).trans e,fun b o e ξ nx ξ=>⟨o.slots,(hs.2 b fun (q:b=a)=>nx (q▸hX)).trans e⟩,fun ξ o=>.inl o,fun b o e=>by
  by_cases q:b=a
  ·subst q;exact hl
  ·show(h'.get? b).isSome=true;rw[hs.2 b q,e];rfl,rfl,rfl⟩
theorem Rel.priv (R:Rel G t st s) {a:Addr}{h':Heap}{tk:Nat} (hp:t.pv a) (hl:(h'.get? a).isSome=true) (hs:Heap.SameBut a s.heap h'):Rel G t st {s with heap:=h',toks:=tk}:=by
 have S:Step (·=a) t t s {s with heap:=h',toks:=tk}:=Step.priv rfl hl hs
 have hp':∀ b,b=a->t.pv b:=fun b z=>by rw[z];exact hp
 refine⟨fun b o e=>(hs.2 b fun (q:b=a)=>?_).trans (R.base b o e),R.apart,fun b q=>?_,R.pv,R.injρ,R.injδ,R.two,fun l o e=>(R.objs l o e).step S hp' fun b ob hb eb=>(hs.2 b fun (q:b=a)=>?_).trans eb,R.cnt,R.sys,R.wr⟩
 ·rw[q,R.apart a (.inr hp)] at e;exact za e
 ·by_cases z:b=a
  ·subst z;exact hl
  ·show(h'.get? b).isSome=true;rw[hs.2 b z];exact R.live b q
 ·subst q;exact R.pv b hp ⟨l,hb⟩
noncomputable def Tie.adopt (t:Tie) (l:Lbl) (D:Addr) (pv':Addr->Prop):Tie:=⟨fun x=>if x=l then some D else t.ρ x,fun x=>if x=l then none else t.δ x,pv',t.wr,t.st⟩
set_option tactic.hygienic true in
theorem Rel.adopt (R:Rel G t st s) {D:Addr}{k:Nat}{o:MObj}{pv':Addr->Prop} (pD:t.pv D) (hpv:∀ a,t.pv a↔pv' a\/a=D) (nD:¬ pv' D) (hsys:D≠sysModules)
  (hO:(∀ (X:V) (v:Value),VRel t s.heap X v->VRel (t.adopt (k,st.cnt k) D pv') s.heap X v)->ObjOk G (t.adopt (k,st.cnt k) D pv') s.heap (k,st.cnt k) o) :
  Rel G (t.adopt (k,st.cnt k) D pv') (st.new k o) s/\(∀ l a,t.ρ l=some a->(t.adopt (k,st.cnt k) D pv').ρ l=some a) /\
   (∀ a o,¬ t.Avoid a->s.heap.get? a=some o->s.heap.get? a=some o/\¬ Tie.Avoid (t.adopt (k,st.cnt k) D pv') a):=by
 obtain⟨c1,c2,c3⟩:=R.cnt k _ (Zs _)
 have hρ:∀ l a,t.ρ l=some a->(t.adopt (k,st.cnt k) D pv').ρ l=some a:=fun l a e=>by
  show(if l=(k,st.cnt k) then some D else t.ρ l)=some a
  rw[Zh (fun q=>by rw[q,c1] at e;exact za e)];exact e
 have hδ:∀ l a,t.δ l=some a->(t.adopt (k,st.cnt k) D pv').δ l=some a:=fun l a e=>by
  show(if l=(k,st.cnt k) then none else t.δ l)=some a
  rw[Zh (fun q=>by rw[q,c2] at e;exact za e)];exact e
 have nr:∀ {l:Lbl}{b:Addr},(t.adopt (k,st.cnt k) D pv').ρ l=some b->(l=(k,st.cnt k)/\b=D)\/(l≠(k,st.cnt k)/\t.ρ l=some b):=fun {l b} e=>by
  change (if l=(k,st.cnt k) then some D else t.ρ l)=some b at e
  split at e
  ·rename_i q;cases e;exact .inl ⟨q,rfl⟩
  ·rename_i q;exact .inr ⟨q,e⟩
 have nd:∀ {l:Lbl}{b:Addr},(t.adopt (k,st.cnt k) D pv').δ l=some b->t.δ l=some b:=fun {l b} e=>by
  change (if l=(k,st.cnt k) then none else t.δ l)=some b at e
  split at e
  ·exact za e
  ·exact e
 have nO:=R.pv D pD
 have up:∀ a,Tie.Avoid (t.adopt (k,st.cnt k) D pv') a->t.Avoid a:=by
  rintro a (⟨l,e | e⟩ | e)
  ·rcases nr e with ⟨_,rfl⟩ | ⟨_,e⟩
   ·exact .inr pD
   ·exact .inl ⟨l,.inl e⟩
  ·exact .inl ⟨l,.inr (nd e)⟩
  ·exact .inr ((hpv a).2 (.inl e))
 have kp:∀ a o,¬ t.Avoid a->s.heap.get? a=some o->s.heap.get? a=some o/\¬ Tie.Avoid (t.adopt (k,st.cnt k) D pv') a:=fun a o na e=>⟨e,fun q=>na (up a q)⟩
 refine⟨⟨R.base,fun a q=>R.apart a (up a q),fun a q=>R.live a (up a q),?_,?_,?_,?_,?_,?_,fun l e=>?_,R.wr⟩,hρ,kp⟩
 ·rintro a q ⟨l,e | e⟩
  ·rcases nr e with ⟨_,rfl⟩ | ⟨_,e⟩
   ·exact nD q
   ·exact R.pv a ((hpv a).2 (.inl q)) ⟨l,.inl e⟩
  ·exact R.pv a ((hpv a).2 (.inl q)) ⟨l,.inr (nd e)⟩
 ·intro l l' b e e'
  rcases nr e with ⟨q1,z1⟩ | ⟨_,e1⟩ <;> rcases nr e' with ⟨q,z⟩ | ⟨_,e2⟩
  ·exact q1.trans q.symm
  ·exact(nO ⟨l',.inl (z1▸e2)⟩).elim
  ·exact(nO ⟨l,.inl (z▸e1)⟩).elim
  ·exact R.injρ l l' b e1 e2
 ·exact fun l l' b e e'=>R.injδ l l' b (nd e) (nd e')
 ·intro l l' b e e'
  rcases nr e with ⟨_,z⟩ | ⟨_,e⟩
  ·exact nO ⟨l',.inr (z▸nd e')⟩
  ·exact R.two l l' b e (nd e')
 ·intro l o' e
  change (if l=(k,st.cnt k) then some o else st.heap l)=some o' at e
  split at e
  ·rename_i q;cases e;subst q
   exact hO fun X v r=>VRel.map hρ kp X r
  ·exact ObjOk.map (t:=t) (t':=t.adopt (k,st.cnt k) D pv') hρ hδ kp (fun ξ ξ ξ e=>e) (R.objs l o' e)
 ·intro k' i e
  change (if k'=k then st.cnt k+1 else st.cnt k')<=i at e
  have ne:(k',i)≠(k,st.cnt k):=fun q=>by cases q;rw[Zg rfl] at e;lia
  have le:st.cnt k'<=i:=by
   by_cases q:k'=k
   ·subst q;rw[Zg rfl] at e;lia
   ·rw[Zh q] at e;exact e
  obtain⟨d1,d2,d3⟩:=R.cnt k' i le
  exact⟨(Zh ne).trans d1,(Zh ne).trans d2,(Zh ne).trans d3⟩
 ·rcases nr e with ⟨_,z⟩ | ⟨_,z⟩
  ·exact hsys z.symm
  ·exact R.sys l z
theorem Step.own {X:Addr->Prop}{t':Tie}{s':Shared} (S:Step X t t' s s') {D:Addr}{l:Lbl} (hD:s.heap.get? D=none) (hl:t'.ρ l=none) (hl2:t'.δ l=none):Step X t (t'.adopt l D t'.pv) s s' where
 le:=⟨fun x a e=>by
   have e:=S.le.ρ x a e
   show(if x=l then some D else t'.ρ x)=some a
   rw[Zh (fun q=>by rw[q,hl] at e;exact za e)];exact e,fun x a e=>by
   have e:=S.le.δ x a e
   show(if x=l then none else t'.δ x)=some a
   rw[Zh (fun q=>by rw[q,hl2] at e;exact za e)];exact e,S.le.pv,S.le.wr,S.le.st⟩
 keepW:=S.keepW
 slots:=S.slots
 new a:=by
  rintro⟨x,e | e⟩
  ·change (if x=l then some D else t'.ρ x)=some a at e
   split at e
   ·cases e;exact .inr hD
   ·exact S.new a ⟨x,.inl e⟩
  ·change (if x=l then none else t'.δ x)=some a at e
   split at e
   ·exact za e
   ·exact S.new a ⟨x,.inr e⟩
 live:=S.live
 gens:=S.gens
 os:=S.os
end
end Internal
end
section
set_option maxRecDepth 100000
namespace Internal
open PySem PySem.W PyProof.Rows
section
variable {G:Gd}{N:Names}{C:Calls}{d:Dp}{sc:Sc}{Γ:Gam}{A:Around}{t:Tie}{st st':MS}{s:Shared}{env:Env}{loc:Loc}{X Y Z:V}{v w:Value}
noncomputable def ItQ (st₀:MS) (t:Tie) (s:Shared) (I:Addr) (src:V) (i:Nat):Prop :=
 ∃ (k:Bool) (l:List V) (a:Addr),zr st₀ src=some (k,l)/\VRel t s.heap src (.ref a)/\(if k=true then s.heap.IsListIter I a i else s.heap.IsTupleIter I a i)
noncomputable def ItD (G:Gd) (st₀:MS) (t:Tie) (s:Shared) (I:Addr) (src:V) (i:Nat):Prop :=
 ∃ (r:Lbl) (dd:List (V×V)) (a:Addr) (kvs:List (Qf×Value)) (ep:Nat),src=.ref r/\dictAt src st₀=some (r,dd)/\t.ρ r=some a/\(∀ j:Nat,∀ x,(dd.map (·.1))[j]?=some x->∃ y v,x=.str y/\kvs[j]?=some (z7 y,v))/\kvs.length=dd.length/\a≠I/\st₀.wr<=t.wr/\s.heap.IsKeyIter I a i kvs.length ep /\
  (t.wr=st₀.wr->s.heap.DictAt (strKind G.prog G.w) a kvs ep)
noncomputable def ItS (s:Shared) (I:Addr) (src:V) (i:Nat):Prop :=
 ∃ (x:List Nat) (tk:Tok),src=.str x/\s.heap.IsStrIter I "str_ascii_iterator" (z7 x) tk i
noncomputable def ItOk (G:Gd) (st₀:MS) (t:Tie) (s:Shared) (I:Addr) (range:Bool) (src:V) (i:Nat):Prop :=
 match range with
 | true=>∃ n:Int,src=.int n/\IsRangeIter s.heap I i ((n.toNat:Int)-i) 1
 | false=>ItQ st₀ t s I src i\/ItD G st₀ t s I src i\/ItS s I src i
noncomputable abbrev zap (I:Addr) (s s':Shared):Prop:=∀ o,s.heap.get? I=some o->s'.heap.get? I=some o
theorem ItQ.step {st₀:MS}{I:Addr}{src:V}{i:Nat}{X:Addr->Prop}{t':Tie}{s':Shared} (h:ItQ st₀ t s I src i) (S:Step X t t' s s') (xp:∀ a,X a->t.pv a) (hk:zap I s s'):ItQ st₀ t' s' I src i:=by
 obtain⟨k,l,a,e,r,h⟩:=h
 refine⟨k,l,a,e,VRel.step S xp _ r,?_⟩
 cases k with
 | true=>exact Exists.elim (show s.heap.IsListIter I a i from h) fun o h=>(⟨o,hk o h.1,h.2⟩:s'.heap.IsListIter I a i)
 | false=>exact Exists.elim (show s.heap.IsTupleIter I a i from h) fun o h=>(⟨o,hk o h.1,h.2⟩:s'.heap.IsTupleIter I a i)
theorem zwz {a b c:Nat} (h1:a<=b) (h2:b<=c) (q:c=a):c=b/\b=a:=by subst q;exact⟨Nat.le_antisymm h1 h2,Nat.le_antisymm h2 h1⟩
theorem ItD.step {st₀:MS}{I:Addr}{src:V}{i:Nat}{X:Addr->Prop}{t':Tie}{s':Shared} (h:ItD G st₀ t s I src i) (S:Step X t t' s s') (xp:∀ a,X a->t.pv a) (hp:∀ a,t.pv a->¬ t.Own a) (hk:zap I s s'):ItD G st₀ t' s' I src i:=by
 obtain⟨r,dd,a,kvs,ep,e1,e2,ea,e3,e4,e5,e6,⟨o,h1,h2⟩,e8⟩:=h
 refine⟨r,dd,a,kvs,ep,e1,e2,S.le.ρ _ _ ea,e3,e4,e5,Zp e6 S.le.wr,⟨o,hk o h1,h2⟩,fun q=>?_⟩
 have hw:=zwz e6 S.le.wr q
 obtain⟨od,es,q1,q2⟩:=e8 hw.2
 exact⟨od,es,S.keepW _ _ q1 (fun ξ=>hw.1) (fun hx=>hp a (xp a hx) ⟨r,.inl ea⟩) (fun f=>hp a f.1 ⟨r,.inl ea⟩),q2⟩
theorem ItS.step {I:Addr}{src:V}{i:Nat}{s':Shared} (h:ItS s I src i) (hk:zap I s s'):ItS s' I src i:=by
 obtain⟨x,tk,e1,o,h1,h2⟩:=h
 exact⟨x,tk,e1,o,hk o h1,h2⟩
theorem ItOk.step {st₀:MS}{I:Addr}{range:Bool}{src:V}{i:Nat}{X:Addr->Prop}{t':Tie}{s':Shared} (h:ItOk G st₀ t s I range src i) (S:Step X t t' s s') (xp:∀ a,X a->t.pv a) (hp:∀ a,t.pv a->¬ t.Own a) (pI:t.pv I) (hX:¬ X I) (nF:¬ t.Fr I):ItOk G st₀ t' s' I range src i:=by
 have hk:zap I s s':=fun o h=>S.keep _ _ h (hp I pI) hX nF
 cases range with
 | true =>
  obtain⟨n,e,h⟩:=h
  exact⟨n,e,hk _ h⟩
 | false=>exact h.imp (fun h=>h.step S xp hk) fun h=>h.imp (fun h=>h.step S xp hp hk) fun h=>h.step hk
theorem mw {st₀ st:MS}{src:V} (h:stays st₀ st false src=true):zr st src=zr st₀ src:=by
 cases src with
 | ref r =>
  have h:st₀.heap r=st.heap r:=Za (Zj.1 h).1
  show(match st.heap r with | some (.list l)=>some (true,l) | _=>none)=(match st₀.heap r with | some (.list l)=>some (true,l) | _=>none)
  rw[h]
 | _=>rfl
theorem d5 {st:MS}{src:V}{p:Bool×List V} (h:zr st src=some p):dictAt src st=none:=by
 cases src with
 | ref r =>
  show(match st.heap r with | some (.dict l)=>some (r,l) | _=>none)=none
  have h:(match st.heap r with | some (.list l)=>some (true,l) | _=>none)=some p:=h
  cases e:st.heap r with
  | none=>rfl
  | some o=>rw[e] at h;cases o <;> first | rfl | exact za h
 | _=>rfl
theorem DRel.keyAt {h:Heap}:∀ {dd:List (V×V)}{kvs:List (Qf×Value)},DRel t h dd kvs->∀ (j:Nat) (x:V),(dd.map (·.1))[j]?=some x->∃ y v,x=.str y/\kvs[j]?=some (z7 y,v)
 | [],_,_,j,x,e=>by exact za e
 | (k,u)::r,_,⟨z,y,rest,e1,e2,_,_⟩,0,x,e=>by subst e1 e2;cases e;exact⟨z,y,rfl,rfl⟩
 | (k,u)::r,_,⟨z,y,rest,e1,e2,_,e4⟩,j+1,x,e=>by subst e2;exact DRel.keyAt e4 j x e
theorem tx {st:MS}{src:V}{p:Bool×List V} (h:zr st src=some p):zz st false src=some p.2:=by
 cases src with
 | str=>exact za h
 | ref r =>
  show(match dictAt (.ref r) st with | some p=>some (p.2.map fun q:V×V=>q.1) | none=>(zr st (.ref r)).map fun q:Bool×List V=>q.2)=_
  rw[d5 h,h];rfl
 | _=>cases h <;> rfl
theorem s6 {st:MS}{r:Lbl}{p:Lbl×List (V×V)} (h:dictAt (.ref r) st=some p):zz st false (.ref r)=some (p.2.map (·.1)):=by
 show(match dictAt (.ref r) st with | some p=>some (p.2.map fun q:V×V=>q.1) | none=>(zr st (.ref r)).map fun q:Bool×List V=>q.2)=_
 rw[h]
theorem zc0 {st₀ st:MS}{r:Lbl}{p:Lbl×List (V×V)} (h:stays st₀ st false (.ref r)=true) (hd:dictAt (.ref r) st₀=some p):st₀.wr=st.wr:=by
 have h:((dictAt (.ref r) st₀).isNone||decide (st₀.wr=st.wr))=true:=(Zj.1 h).2
 rw[hd] at h
 exact Za h
theorem o6 {st:MS}{x:List Nat}{xs:List V} (h:zz st false (.str x)=some xs):xs=x.map fun c=>V.str [c]:=by
 have h:(if x.all (fun c=>decide (c < 128))=true then some (x.map fun c=>V.str [c]) else none)=some xs:=h
 split at h <;> cases h;rfl
set_option tactic.hygienic true in
theorem zi0 {st:MS}{x:List Nat}{xs:List V} (h:zz st false (.str x)=some xs):(z7 x).cps.all (· < 128)=true:=by
 have h:(if x.all (fun c=>decide (c < 128))=true then some (x.map fun c=>V.str [c]) else none)=some xs:=h
 split at h
 ·rename_i hh;rw[<- hh];simp[z7]
 ·exact za h
theorem zlj {st₀:MS}{I:Addr}{src:V}{i:Nat}{xs:List V}{x:V}{Q:Option Value->Shared->Prop}{E:Value->Shared->Prop} (R:Rel G t st s) (hI:t.pv I) (hx:zz st₀ false src=some xs) (hs:stays st₀ st false src=true) (h:ItQ st₀ t s I src i) (hi:xs[i]?=some x)
  (q:∀ v h' tk,Step (·=I) t t s {s with heap:=h',toks:=tk}->Rel G t st {s with heap:=h',toks:=tk}->VRel t h' x v->ItOk G st₀ t {s with heap:=h',toks:=tk} I false src (i+1)->Q (some v) {s with heap:=h',toks:=tk}) :
  wpAny G.M A (pyNext (.ref I)) Q E s:=by
 obtain⟨k,l,a,e,r,h⟩:=h
 rw[tx e] at hx
 have hx:l=xs:=Option.some.inj hx
 subst hx
 have e':zr st src=some (k,l):=by rw[mw hs,e]
 obtain⟨a',vs,ea,io,rr,sz⟩:=qa R r e'
 cases ea
 obtain⟨y,y1,y2⟩:=VRels.get rr hi
 rw[Array.getElem?_toList] at y1
 have xp:∀ b,b=I->t.pv b:=fun b z=>by rw[z];exact hI
 cases k with
 | true =>
  have h:s.heap.IsListIter I a i:=h
  have io:PL s.heap a vs:=io
  refine wpAny_pyNext_list_item h io.isList y1 fun h' hit hs'=>?_
  have hl:(h'.get? I).isSome=true:=by obtain⟨o,ho,_⟩:=hit;rw[ho];rfl
  have S:Step (·=I) t t s {s with heap:=h',toks:=s.toks}:=Step.priv rfl hl hs'
  exact q _ h' s.toks S (R.priv hI hl hs') (VRel.step S xp _ y2) (.inl ⟨true,l,a,e,VRel.step S xp _ r,hit⟩)
 | false =>
  have h:s.heap.IsTupleIter I a i:=h
  have io:PT s.heap a vs:=io
  refine wpAny_pyNext_tuple_item h io.isTuple y1 fun h' hit hs'=>?_
  have hl:(h'.get? I).isSome=true:=by obtain⟨o,ho,_⟩:=hit;rw[ho];rfl
  have S:Step (·=I) t t s {s with heap:=h',toks:=s.toks}:=Step.priv rfl hl hs'
  exact q _ h' s.toks S (R.priv hI hl hs') (VRel.step S xp _ y2) (.inl ⟨false,l,a,e,VRel.step S xp _ r,hit⟩)
theorem ziu {st₀:MS}{I:Addr}{src:V}{i:Nat}{xs:List V}{x:V}{Q:Option Value->Shared->Prop}{E:Value->Shared->Prop} (R:Rel G t st s) (hI:t.pv I) (hx:zz st₀ false src=some xs) (hs:stays st₀ st false src=true) (h:ItD G st₀ t s I src i) (hi:xs[i]?=some x)
  (q:∀ v h' tk,Step (·=I) t t s {s with heap:=h',toks:=tk}->Rel G t st {s with heap:=h',toks:=tk}->VRel t h' x v->ItOk G st₀ t {s with heap:=h',toks:=tk} I false src (i+1)->Q (some v) {s with heap:=h',toks:=tk}) :
  wpAny G.M A (pyNext (.ref I)) Q E s:=by
 obtain⟨r,dd,a,kvs,ep,rfl,e2,ea,e3,e4,e5,e6,e7,e8⟩:=h
 have hw:t.wr=st₀.wr:=R.wr.trans (zc0 hs e2).symm
 rw[s6 e2] at hx
 cases hx
 obtain⟨y,v,rfl,hy⟩:=e3 i x hi
 have hd:=e8 hw
 refine wpAny_pyNext_dict_item e7 hd hy fun key h' hk hit hs'=>?_
 have hl:(h'.get? I).isSome=true:=by obtain⟨o,ho,_⟩:=hit;rw[ho];rfl
 have S:Step (·=I) t t s {s with heap:=h',toks:=s.toks}:=Step.priv rfl hl hs'
 obtain⟨tk,rfl⟩:=Value.isStrOf_shape hk
 refine q _ h' s.toks S (R.priv hI hl hs') ⟨tk,rfl⟩ (.inr (.inl ⟨r,dd,a,kvs,ep,rfl,e2,ea,e3,e4,e5,e6,hit,fun ξ=>?_⟩))
 obtain⟨od,es,q1,q2⟩:=hd
 exact⟨od,es,(hs'.2 a e5).trans q1,q2⟩
theorem zmk {st₀:MS}{I:Addr}{src:V}{i:Nat}{xs:List V}{x:V}{Q:Option Value->Shared->Prop}{E:Value->Shared->Prop} (R:Rel G t st s) (hI:t.pv I) (hx:zz st₀ false src=some xs) (h:ItS s I src i) (hi:xs[i]?=some x)
  (q:∀ v h' tk,Step (·=I) t t s {s with heap:=h',toks:=tk}->Rel G t st {s with heap:=h',toks:=tk}->VRel t h' x v->ItOk G st₀ t {s with heap:=h',toks:=tk} I false src (i+1)->Q (some v) {s with heap:=h',toks:=tk}) :
  wpAny G.M A (pyNext (.ref I)) Q E s:=by
 obtain⟨y,tk,rfl,h⟩:=h
 rw[o6 hx,List.getElem?_map] at hi
 obtain⟨c,hc,rfl⟩:=Option.map_eq_some_iff.1 hi
 refine wpAny_pyNext_ascii_item h (by rw[<- hc];exact List.getElem?_toArray) fun h' hit hs'=>?_
 have hl:(h'.get? I).isSome=true:=by obtain⟨o,ho,_⟩:=hit;rw[ho];rfl
 exact q _ h' _ (Step.priv rfl hl hs') (R.priv hI hl hs') ⟨_,rfl⟩ (.inr (.inr ⟨y,tk,rfl,hit⟩))
theorem zf8 {st₀:MS}{I:Addr}{range:Bool}{src:V}{i:Nat}{xs:List V}{x:V}{Q:Option Value->Shared->Prop}{E:Value->Shared->Prop} (R:Rel G t st s) (hI:t.pv I) (hx:zz st₀ range src=some xs) (hs:stays st₀ st range src=true) (h:ItOk G st₀ t s I range src i) (hi:xs[i]?=some x)
  (q:∀ v h' tk,Step (·=I) t t s {s with heap:=h',toks:=tk}->Rel G t st {s with heap:=h',toks:=tk}->VRel t h' x v->ItOk G st₀ t {s with heap:=h',toks:=tk} I range src (i+1)->Q (some v) {s with heap:=h',toks:=tk}) :
  wpAny G.M A (pyNext (.ref I)) Q E s:=by
 cases range with
 | true =>
  obtain⟨n,rfl,h⟩:=h
  simp only[zz] at hx
  split at hx
  ·cases hx
   have hlt:i < n.toNat:=by
    rw[List.getElem?_map] at hi
    obtain⟨j,hj,_⟩:=Option.map_eq_some_iff.mp hi
    rw[List.getElem?_eq_some_iff] at hj
    simpa using hj.1
   have hxi:x=.int (i:Int):=by
    rw[List.getElem?_map,List.getElem?_range hlt] at hi
    cases hi;rfl
   subst hxi
   refine wpAny_pyNext_range_item h (by lia) fun h' hit hs'=>?_
   have hl:(h'.get? I).isSome=true:=by rw[hit];rfl
   refine q _ h' _ (Step.priv rfl hl hs') (R.priv hI hl hs') ⟨_,rfl⟩ ⟨n,rfl,?_⟩
   have e1:((i:Int)+1)=((i+1:Nat):Int):=by lia
   have e2:((n.toNat:Int)-i-1)=((n.toNat:Int)-((i+1:Nat):Int)):=by lia
   rw[<- e2,<- e1];exact hit
  ·exact za hx
 | false =>
  rcases h with h | h | h
  ·exact zlj R hI hx hs h hi q
  ·exact ziu R hI hx hs h hi q
  ·exact zmk R hI hx h hi q
theorem zki {st₀:MS}{I:Addr}{range:Bool}{src:V}{xs:List V}{Q:Option Value->Shared->Prop}{E:Value->Shared->Prop} (R:Rel G t st s) (hA:A.handled=none) (hx:zz st₀ range src=some xs) (hs:stays st₀ st range src=true) (h:ItOk G st₀ t s I range src xs.length)
  (q:∀ h' tk,Heap.ExtBut I s.heap h'->Q none {s with heap:=h',toks:=tk}):wpAny G.M A (pyNext (.ref I)) Q E s:=by
 cases range with
 | true =>
  obtain⟨n,rfl,h⟩:=h
  simp only[zz] at hx
  split at hx
  ·cases hx
   rw[Zd,Zx] at h
   exact wpAny_pyNext_range_end hA h (by lia) fun h'=>q h' s.toks
  ·exact za hx
 | false =>
  rcases h with ⟨k,l,a,e,r,h⟩ | ⟨r,dd,a,kvs,ep,rfl,e2,ea,e3,e4,e5,e6,e7,e8⟩ | ⟨x,tk,rfl,h⟩
  ·rw[tx e] at hx
   have hx:l=xs:=Option.some.inj hx
   subst hx
   have e':zr st src=some (k,l):=by rw[mw hs,e]
   obtain⟨a',vs,ea,io,rr,sz⟩:=qa R r e'
   cases ea
   have hn:vs[l.length]?=none:=by rw[Array.getElem?_eq_none];rw[jd rr];exact Zs _
   cases k with
   | true=>exact wpAny_pyNext_list_end hA (h:s.heap.IsListIter I a _) (show PL s.heap a vs from io).isList hn fun h'=>q h' s.toks
   | false=>exact wpAny_pyNext_tuple_end hA (h:s.heap.IsTupleIter I a _) (show PT s.heap a vs from io).isTuple hn fun h'=>q h' s.toks
  ·have hw:t.wr=st₀.wr:=R.wr.trans (zc0 hs e2).symm
   rw[s6 e2] at hx
   cases hx
   exact wpAny_pyNext_dict_end hA e7 (e8 hw) (by rw[Zd,<- e4];exact List.getElem?_eq_none (Zs _)) fun h'=>q h' s.toks
  ·exact wpAny_pyNext_ascii_end hA h (by rw[o6 hx,Zd];exact Array.getElem?_eq_none (by simp[z7])) fun h'=>q h' s.toks
theorem zry {st₀:MS}{I:Addr}{range:Bool}{src:V}{i:Nat}{Q:Value->Shared->Prop}{E:Value->Shared->Prop} (R:Rel G t st₀ s) (hA:A.handled=none) (h:ItOk G st₀ t s I range src i) (q:Q (.ref I) s):wpAny G.M A (pyIter (.ref I)) Q E s:=by
 cases range with
 | true =>
  obtain⟨n,rfl,h⟩:=h
  refine(Walks.range hA I 0 1 n.toNat).self i s Q E ?_ q
  have e1:(0:Int)+(i:Int)*1=i:=by lia
  rw[e1];exact h
 | false =>
  rcases h with ⟨k,l,a,e,r,h⟩ | ⟨r,dd,a,kvs,ep,rfl,e2,ea,e3,e4,e5,e6,e7,e8⟩ | ⟨x,tk,rfl,h⟩
  ·obtain⟨a',vs,ea,io,rr,sz⟩:=qa R r e
   cases ea
   cases k with
   | true =>
    have h:s.heap.IsListIter I a i:=h
    have io:PL s.heap a vs:=io
    have hne:a≠I:=fun z=>by
     obtain⟨o,h1,h2,_⟩:=h
     obtain⟨n,h3⟩:=io
     rw[z,h1] at h3;cases h3;exact absurd (show Value.type "list"=Value.type "list_iterator" from h2) (by decide)
    exact(Walks.list hA I a hne vs).self i s Q E ⟨h,io.isList⟩ q
   | false =>
    have h:s.heap.IsTupleIter I a i:=h
    have io:PT s.heap a vs:=io
    have hne:a≠I:=fun z=>by
     obtain⟨o,h1,h2,_⟩:=h
     obtain⟨n,h3⟩:=io
     rw[z,h1] at h3;cases h3;exact absurd (show Value.type "tuple"=Value.type "tuple_iterator" from h2) (by decide)
    exact(Walks.tuple hA I a hne vs).self i s Q E ⟨h,io.isTuple⟩ q
  ·exact wpAny_pyIter_keyiter e7 q
  ·exact wpAny_pyIter_striter_ascii h q
set_option genCtorIdx true in
inductive IterAst (sc:Sc):Bool->Qe->Qe->Prop
 | plain (j:Qe):IterAst sc false j j
 | range {rp rpos:Pos}{j:Qe} (hg:jp sc "range"=true) (hj:isStarred j=false):IterAst sc true (.Call (.Name "range" rp) [j] [] rpos) j
noncomputable def ItK (G:Gd) (t:Tie) (σ:Shared) (st:MS) (range:Bool) (src:V) (K:Value->Shared->Prop):Prop :=
 ∀ σ2 I,(∀ b o,σ.heap.get? b=some o->σ2.heap.get? b=some o)->σ.heap.get? I=none->(σ2.heap.get? I).isSome=true->σ2.gens=σ.gens->σ2.os=σ.os->
   (∀ (t':Tie) (s':Shared),(∀ a,VRel t σ.heap src (.ref a)->VRel t' s'.heap src (.ref a))->t'.wr=t.wr->(∀ b o,σ2.heap.get? b=some o->s'.heap.get? b=some o)->ItOk G st t' s' I range src 0)->K (.ref I) σ2
theorem ItK.push {range:Bool}{src:V}{K:Value->Shared->Prop} (h:ItK G t s st range src K) (o:Obj) (hf:o.isFreed=false)
  (hi:∀ (t':Tie) (s':Shared),(∀ a,VRel t s.heap src (.ref a)->VRel t' s'.heap src (.ref a))->t'.wr=t.wr->(∀ b o,s.heap.get? b=some o->s'.heap.get? b=some o)->s'.heap.get? s.heap.objs.size=some o->ItOk G st t' s' s.heap.objs.size range src 0) :
  K (.ref s.heap.objs.size) {s with heap:=s.heap.push o} :=
 h _ _ (fun b o e=>Zn _ e) (qe _) (by show(Heap.get? _ _).isSome=true;rw[Z5 _ hf];rfl) rfl rfl fun t' s' hv hw hs'=>hi t' s' hv hw (fun b o e=>hs' b o (Zn _ e)) (hs' _ _ (Z5 _ hf))
theorem zm1 {src:V}{k:Bool}{l:List V}{K E':Value->Shared->Prop} (R:Rel G t st s) (r1:VRel t s.heap src v) (hq:zr st src=some (k,l)) (h:ItK G t s st false src K):wpAny G.M A (pyIter v) K E' s:=by
 obtain⟨a,vs,rfl,io,rr,sz⟩:=qa R r1 hq
 cases k with
 | true=>exact wpAny_pyIter_list (PL.isList (show PL s.heap a vs from io)) (h.push _ rfl fun t' s' hv ξ ξ ho=>.inl ⟨true,l,a,hq,hv a r1,(⟨_,ho,rfl,rfl⟩:s'.heap.IsListIter _ a 0)⟩)
 | false=>exact wpAny_pyIter_tuple (PT.isTuple (show PT s.heap a vs from io)) (h.push _ rfl fun t' s' hv ξ ξ ho=>.inl ⟨false,l,a,hq,hv a r1,(⟨_,ho,rfl,rfl⟩:s'.heap.IsTupleIter _ a 0)⟩)
theorem zjl {p:Lbl×List (V×V)}{K E':Value->Shared->Prop} (R:Rel G t st s) (r1:VRel t s.heap X v) (hdd:dictAt X st=some p) (h:ItK G t s st false X K):wpAny G.M A (pyIter v) K E' s:=by
 obtain⟨a,kvs,rfl,h1,h2,h3,h4⟩:=u5 R r1 hdd
 obtain⟨ep,hd⟩:=h2.dictAt
 cases (dq hdd).1
 refine wpAny_pyIter_dict (beq_eq_false_iff_ne.2 fun z=>R.sys p.1 (z▸h1)) hd (h.push _ rfl fun t' s' hv hw hk ho=>.inr (.inl ⟨p.1,p.2,a,kvs,ep,rfl,hdd,?_,fun j x hj=>h3.keyAt j x hj,h3.length,Z9 hd.lt_size,?_,⟨_,ho,rfl,rfl⟩,fun ξ=>hd.keep hk⟩))
 ·obtain⟨a',q1,q2⟩:=hv a ⟨a,rfl,h1⟩
  cases q1;exact q2
 ·rw[hw];exact Nat.le_of_eq R.wr.symm
theorem zk4 {x:List Nat}{xs:List V}{K E':Value->Shared->Prop} (r1:VRel t s.heap (.str x) v) (hx:zz st false (.str x)=some xs) (h:ItK G t s st false (.str x) K):wpAny G.M A (pyIter v) K E' s:=by
 obtain⟨k,rfl⟩:=r1
 exact wpAny_pyIter_ascii (zi0 hx) (h.push _ rfl fun t' s' hv ξ ξ ho=>.inr (.inr ⟨x,k,rfl,_,ho,rfl,rfl⟩))
theorem znk {r:Lbl}{xs:List V} (hx:zz st false (.ref r)=some xs) (hq:zr st (.ref r)=none):∃ p,dictAt (.ref r) st=some p:=by
 cases hdd:dictAt (.ref r) st with
 | none =>
  have hx:(match dictAt (.ref r) st with | some p=>some (p.2.map fun q:V×V=>q.1) | none=>(zr st (.ref r)).map fun q:Bool×List V=>q.2)=some xs:=hx
  rw[hdd,hq] at hx;exact za hx
 | some p=>exact⟨p,rfl⟩
theorem zol {src:V}{xs:List V}{K E':Value->Shared->Prop} (R:Rel G t st s) (r1:VRel t s.heap src v) (hx:zz st false src=some xs) (h:ItK G t s st false src K):wpAny G.M A (pyIter v) K E' s:=by
 cases hq:zr st src with
 | some kl=>exact zm1 R r1 hq h
 | none =>
  cases src with
  | str x=>exact zk4 r1 hx h
  | ref r=>obtain⟨p,hdd⟩:=znk hx hq;exact zjl R r1 hdd h
  | tup=>exact za hq.symm
  | lst=>exact za hq.symm
  | _=>exact za hx
theorem zco {src:V}{xs:List V} (hx:zz st true src=some xs):∃ n:Int,src=.int n/\-(2 ^ 62:Int)<=n/\n < (2 ^ 62:Int):=by
 cases src with
 | int n =>
  have hx:(if -1000<=n/\n<=ze then some ((List.range n.toNat).map fun (i:Nat)=>V.int i) else none)=some xs:=hx
  by_cases h:-1000<=n/\n<=ze
  ·exact⟨n,rfl,Int.le_trans (by decide) h.1,Int.lt_of_le_of_lt h.2 (by decide)⟩
  ·rw[Zh h] at hx;exact za hx
 | _=>exact za hx
theorem zei (n:Int):Builtin.Range.rangeSize 0 n 1=(n.toNat:Int)-((0:Nat):Int):=by rw[rangeSize_one];split <;> omega
theorem zem {n:Int}{k:Tok}{K E':Value->Shared->Prop} (hlo:-(2 ^ 62:Int)<=n) (hhi:n < (2 ^ 62:Int)) (h:ItK G t s st true (.int n) K):wpAny G.M A (call (.type "range") [.int n k]) (fun xv s'=>wpAny G.M A (pyIter xv) K E' s') E' s:=by
 refine call_range_1 (wpAny_pyIter_range (IsRange.new ..) (small_one (by decide) (by decide) hlo hhi) ?_)
 refine h _ _ (fun b o e=>Zn _ (Zn _ e)) (by rw[Heap.size_push];exact wt _) (by show(Heap.get? _ _).isSome=true;rw[Z5 _ rfl];rfl) rfl rfl fun t' s' hv ξ hs'=>⟨n,rfl,hs' _ _ ?_⟩
 rw[zei]
 exact Z5 _ rfl
theorem zgh (O:G.Ok N) {range:Bool}{it:E}{iast j:Qe} (ha:IterAst sc range iast j) (hj:z0 G C d sc Γ it j) {src:V}{s1:MS}{xs:List V} (hA:AOk d A) (hsc:env.scope.names=sc) (F:FrOk G A t env Γ loc s) (R:Rel G t st s)
  (e1:ev G.P C it loc st=.ok src s1) (hx:zz s1 range src=some xs) {K:Value->Shared->Prop}{E':Value->Shared->Prop}
  (h:∀ t1 σ1,Step noX t t1 s σ1->Rel G t1 s1 σ1->ItK G t1 σ1 s1 range src K) :
  wpAny G.M A (eval iast env) (fun xv s'=>wpAny G.M A (pyIter xv) K E' s') E' s:=by
 cases ha with
 | plain j=>exact hj t st s env loc _ _ A hA hsc F R e1 _ _ fun v t1 σ1 S1 R1 r1=>zol R1 r1 hx (h t1 σ1 S1 R1)
 | @range rp rpos j hg hjs =>
  obtain⟨n,rfl,hlo,hhi⟩:=zco hx
  have e1':evL G.P C [it] loc st=.ok [.int n] s1:=by rw[y7,e1];rfl
  refine wpAny_Call_ofName (jm (v:=.type "range") O F R hsc hg (by decide) (by decide +kernel) ?_)
  refine vc O (rz _) (l:=[it]) (m:=[j]) (by show(!isStarred j&&true)=true;rw[hjs];rfl) rfl (vq hjs hj yi) hA hsc F R e1' fun vs t1 σ1 S1 R1 r1=>?_
  obtain⟨v,_,rfl,⟨k,rfl⟩,rfl⟩:=r1
  exact zem hlo hhi (h t1 σ1 S1 R1)
end
end Internal
end
section
set_option maxRecDepth 100000
namespace Internal
open PySem PySem.W PyProof.Rows
section
variable {G:Gd}{N:Names}{C:Calls}{d:Dp}{sc:Sc}{Γ:Gam}{A:Around}{t:Tie}{st st':MS}{s:Shared}{env:Env}{loc:Loc}{X Y Z:V}{v w:Value}
noncomputable def clo (env:Env):Sc->List (Qf×Addr)->List (Qf×Addr)
 | [],acc=>acc
 | x::r,acc=>clo env r (if x.2 == .free then (match env.cells.lookup x.1 with | some c=>(x.1,c)::acc | none=>acc) else acc)
theorem zni (env:Env):∀ (names:Sc) (acc:List (Qf×Addr)),(∀ x∈names,x.2=.free->(env.cells.lookup x.1).isSome=true)->
  (forIn names acc fun (x:Qf×NameKind) (cs:List (Qf×Addr))=>(if x.2 == .free then do let c <- cellOf env x.1;pure (ForInStep.yield ((x.1,c)::cs)) else pure (ForInStep.yield cs):Sem _))=pure (clo env names acc)
 | [],_,_=>rfl
 | x::r,acc,h=>by
  rw[List.forIn_cons]
  have ih:=fun acc=>zni env r acc fun y hy=>h y (.tail _ hy)
  by_cases q:(x.2 == .free)=true
  ·obtain⟨c,hc⟩:=Option.isSome_iff_exists.mp (h x (.head _) (by simpa using q))
   simp only[q,if_true,cellOf,hc,clo]
   exact ih _
  ·simp only[q,if_false,clo]
   exact ih _
theorem zeu {scope:Scope} (h:∀ x∈scope.names,x.2=.free->(env.cells.lookup x.1).isSome=true):closureFor scope env=pure (clo env scope.names []):=by
 have e:=zni env scope.names [] h
 exact(Qd (· >>= fun r=>pure r) e:_)
set_option tactic.hygienic true in
theorem zf9:∀ {names:Sc}{acc:List (Qf×Addr)}{n:Qf}{c:Addr},(n,c)∈clo env names acc->(n,c)∈acc\/((n,.free)∈names/\env.cells.lookup n=some c)
 | [],_,_,_,h=>.inl h
 | x::r,acc,n,c,h=>by
  simp only[clo] at h
  rcases zf9 h with h | h
  ·split at h
   ·rename_i q
    split at h
    ·rename_i c' hc
     rcases Zu.mp h with e | h
     ·cases e
      refine .inr ⟨?_,hc⟩
      have:x.2=.free:=by simpa using q
      rw[<- this];exact .head _
     ·exact .inl h
    ·exact .inl h
   ·exact .inl h
  ·exact .inr ⟨.tail _ h.1,h.2⟩
set_option tactic.hygienic true in
theorem za0:∀ {names:Sc}{acc:List (Qf×Addr)}{n:Qf},(∀ c,(n,c)∈acc->env.cells.lookup n=some c)->(n,.free)∈names\/acc.lookup n=env.cells.lookup n->(clo env names acc).lookup n=env.cells.lookup n
 | [],_,_,_,h=>h.resolve_left (fun z=>by cases z)
 | x::r,acc,n,ha,h=>by
  simp only[clo]
  have hacc':∀ c,(n,c)∈(if (x.2 == .free)=true then (match env.cells.lookup x.1 with | some c=>(x.1,c)::acc | none=>acc) else acc)->env.cells.lookup n=some c:=by
   intro c hc
   split at hc
   ·split at hc
    ·rename_i c' hc'
     rcases Zu.mp hc with e | hc
     ·cases e;exact hc'
     ·exact ha c hc
    ·exact ha c hc
   ·exact ha c hc
  refine za0 hacc' ?_
  by_cases q:(n,.free)∈r
  ·exact .inl q
  ·right
   by_cases z:x.1=n
   ·by_cases z2:x.2=.free
    ·rw[Zg (by simpa using z2),z]
     cases hc:env.cells.lookup n with
     | some c=>simp[List.lookup_cons]
     | none =>
      dsimp only
      cases hl:acc.lookup n with
      | none=>rfl
      | some c=>have:=ha c (mem_of_lookup hl);rw[hc] at this;exact za this
    ·rw[Zh (by simpa using z2)]
     refine h.resolve_left fun hm=>?_
     rcases Zu.mp hm with e | hm
     ·exact z2 (by rw[<- e])
     ·exact q hm
   ·have hl:acc.lookup n=env.cells.lookup n:=h.resolve_left fun hm=>by
     rcases Zu.mp hm with e | hm
     ·exact z (by rw[<- e])
     ·exact q hm
    have hb:(n == x.1)=false:=by simpa using fun e=>z e.symm
    split
    ·split
     ·rw[List.lookup_cons,hb];exact hl
     ·exact hl
    ·exact hl
end
end Internal
end
section
set_option maxRecDepth 100000
namespace Internal
open PySem PySem.W PyProof.Rows
section
variable {G:Gd}{N:Names}{C:Calls}{d:Dp}{sc:Sc}{Γ:Gam}{A:Around}{t:Tie}{st st':MS}{s:Shared}{env:Env}{loc:Loc}{X Y Z:V}{v w:Value}
theorem FrOk.stepX {X:Addr->Prop}{t':Tie}{s':Shared} (F:FrOk G A t env Γ loc s) (R:Rel G t st s) (S:Step X t t' s s') (xp:∀ a,X a->t.pv a) (hl:¬ X env.locals) (hc:∀ n c,env.cells.lookup n=some c->¬ X c) (nf:∀ a,X a->¬ t.Fr a):FrOk G A t' env Γ loc s' where
 sk:=F.sk.step R S fun a x f=>(nf a x f).elim
 fn:=F.fn
 gl:=F.gl
 bl:=F.bl
 pvl:=by rw[S.le.pv];exact F.pvl
 pvc n c h:=by rw[S.le.pv];exact F.pvc n c h
 apart:=F.apart
 ex:=by
  obtain⟨m,cm,⟨o,es,ep,ho,r⟩,hcc,hz,hs⟩:=F.ex
  obtain⟨sl,ho'⟩:=Step.pvk S R F.pvl hl ho
  refine⟨m,cm,⟨_,es,ep,ho',r⟩,fun n c e=>?_,hz,fun i x X e1 e2=>?_⟩
  ·obtain⟨oc,h1,h2⟩:=hcc n c e
   obtain⟨sl,h1'⟩:=Step.pvk S R (F.pvc n c e) (hc n c e) h1
   exact⟨_,h1',h2⟩
  ·obtain⟨v,hv,r⟩:=hs i x X e1 e2
   exact⟨v,VRel.step S xp X hv,r⟩
theorem FrOk.hideGrow {s':Shared}{P:Addr->Prop} (F:FrOk G A t env Γ loc s) (np:∀ a,P a->s.heap.get? a=none) (hk:∀ b o,s.heap.get? b=some o->s'.heap.get? b=some o) (hg:s'.gens=s.gens) (ho:s'.os=s.os):FrOk G A (t.hide P) env Γ loc s' where
 sk:=⟨F.sk.fr,fun e he=>let ⟨h1,L,o,h2,h3,h4,h5⟩:=F.sk.ob e he;⟨h1,L,o,h2,.inl h3,hk _ _ h4,h5⟩⟩
 fn:=F.fn
 gl:=F.gl
 bl:=F.bl
 pvl:=.inl F.pvl
 pvc n c h:=.inl (F.pvc n c h)
 apart:=F.apart
 ex:=by
  have S:Step noX (t.hide P) (t.hide P) s s':=⟨.refl _,fun a o e ξ ξ ξ=>hk a o e,fun a o e ξ ξ ξ=>⟨o.slots,hk a o e⟩,fun ξ o=>.inl o,fun a o e=>by rw[hk a o e];rfl,hg,ho⟩
  obtain⟨m,cm,hn,hcc,hz,hs⟩:=F.ex
  refine⟨m,cm,hn.keeps hk,fun n c e=>?_,hz,fun i x X e1 e2=>?_⟩
  ·obtain⟨oc,h1,h2⟩:=hcc n c e
   exact⟨oc,hk _ _ h1,h2⟩
  ·obtain⟨v,hv,r⟩:=hs i x X e1 e2
   exact⟨v,VRel.step S (fun ξ z=>z.elim) X (VRel.hide np X hv),r⟩
theorem sd {scope:Scope} (hf:env.scope.kind=.function) (hsc:env.scope.names=sc):(relabel scope env).names=qi sc scope.names:=by
 unfold relabel qi
 dsimp only
 refine List.map_congr_left fun x hx=>?_
 obtain⟨n,k⟩:=x
 simp only[hf,Env.kindOf,hsc,BEq.rfl,Bool.and_true]
theorem u6:∀ {names:Sc}{y:Qf},(∀ z∈names,z.2≠.cell)->(qi sc names).lookup y=some .cell->(y,.free)∈names/\sc.lookup y=some .cell
 | [],_,_,h=>by exact za h
 | x::r,y,hn,h=>by
  have ih:=@u6 r y (fun z hz=>hn z (.tail _ hz))
  obtain⟨n,k⟩:=x
  change List.lookup y ((if k == .free&&sc.lookup n == some .cell then (n,.cell) else (n,k))::qi sc r)=some .cell at h
  by_cases q:(k == .free&&sc.lookup n == some .cell)=true
  ·rw[Zg q,List.lookup_cons] at h
   simp only[Bool.and_eq_true,beq_iff_eq] at q
   cases z:y == n with
   | true =>
    have e:y=n:=by simpa using z
    subst e
    exact⟨by rw[<- q.1];exact .head _,q.2⟩
   | false=>rw[z] at h;exact⟨.tail _ (ih h).1,(ih h).2⟩
  ·rw[Zh q,List.lookup_cons] at h
   cases z:y == n with
   | true=>rw[z] at h;cases h;exact absurd rfl (hn _ (.head _))
   | false=>rw[z] at h;exact⟨.tail _ (ih h).1,(ih h).2⟩
structure CompOk (sc:Sc) (scope:Scope) (slot:Nat) (Γ:Gam) (x:Qf):Prop where
 fn:scope.kind=.function
 slot:slot < Γ.length
 x:scope.names.lookup x=some .local
 cell:∀ y∈scope.names,y.2≠.cell
 loc:∀ y∈scope.names,y.2=.local->scope.names.lookup y.1=some .local
 free:∀ y∈scope.names,y.2=.free->sc.lookup y.1=some .cell
theorem zb4 {scope:Scope}{slot:Nat}{x:Qf} (h:iy sc scope slot Γ x=true):CompOk sc scope slot Γ x:=by
 simp only[iy,Bool.and_eq_true,beq_iff_eq,decide_eq_true_eq,Zv] at h
 obtain⟨⟨⟨h1,h2⟩,h3⟩,h4⟩:=h
 refine⟨h1,h2,h3,fun y hy z=>?_,fun y hy z=>?_,fun y hy z=>?_⟩
 ·have:=h4 y hy;simp[z] at this
 ·have:=h4 y hy;simpa [z] using this
 ·have:=h4 y hy;simpa [z] using this
set_option tactic.hygienic true in
theorem FrOk.comp {scope:Scope}{slot:Nat}{x:Qf}{Ca:Addr}{m:Qf->Option Value} (F:FrOk G A t env Γ loc s) (hsc:env.scope.names=sc) (K:CompOk sc scope slot Γ x) (hC:t.pv Ca) (hn:s.heap.Ns Ca m) (hm:m x=some v) (hv:VRel t s.heap X v) :
  FrOk G A t (compEnvC scope (clo env scope.names []) Ca env) (j1 (qi sc scope.names) Γ slot x) (loc.set slot (some X)) s:=by
 have hsc':=sd (scope:=scope) F.fn hsc
 obtain⟨m0,cm,hn0,hcc,hz,hs⟩:=F.ex
 have lk:∀ n c,(clo env scope.names []).lookup n=some c->env.cells.lookup n=some c:=fun n c e=>(zf9 (mem_of_lookup e)).elim (fun z=>by cases z) fun z=>z.2
 refine⟨F.sk,K.fn,F.gl,F.bl,hC,fun n c h=>?_,fun n n' c h h'=>F.apart n n' c (lk n c h) (lk n' c h'),m,cm,hn,fun n c e=>hcc n c (lk n c e),fun y hy=>?_,fun i y Y e1 e2=>?_⟩
 ·exact F.pvc n c (lk n c h)
 ·change (relabel scope env).names.lookup y=some .cell at hy
  rw[hsc'] at hy
  obtain⟨h1,h2⟩:=u6 K.cell hy
  show((clo env scope.names []).lookup y).isSome=true
  rw[za0 (fun c z=>by cases z) (.inl h1)]
  exact hz y (by unfold Env.kindOf;rw[hsc];exact h2)
 ·unfold j1 at e1
  by_cases q:i=slot
  ·subst q
   rw[List.getElem?_set_self (by rw[Zd];exact K.slot)] at e1
   cases e1
   have e2':Y=X:=by
    by_cases hl2:i < loc.length
    ·rw[List.getElem?_set_self hl2] at e2;cases e2;rfl
    ·rw[List.getElem?_eq_none (by rw[List.length_set];lia)] at e2;exact za e2
   subst e2'
   exact⟨v,hv,.inl ⟨lookup_relabel_local K.x,hm⟩⟩
  ·rw[List.getElem?_set_ne (fun z=>q z.symm),List.getElem?_map] at e1
   rw[List.getElem?_set_ne (fun z=>q z.symm)] at e2
   obtain⟨o,ho,e3⟩:=Option.map_eq_some_iff.mp e1
   cases o with
   | none=>exact za e3
   | some n =>
    dsimp only at e3
    split at e3
    ·rename_i hcell
     obtain rfl:n=y:=by cases e3;rfl
     have hcell:(qi sc scope.names).lookup n=some .cell:=by simpa using hcell
     obtain⟨h1,h2⟩:=u6 K.cell hcell
     obtain⟨u,u1,u2⟩:=hs i n Y ho e2
     have hk:env.kindOf n=some .cell:=by unfold Env.kindOf;rw[hsc];exact h2
     refine⟨u,u1,.inr ⟨?_,?_⟩⟩
     ·show(relabel scope env).names.lookup n=some .cell
      rw[hsc'];exact hcell
     ·rcases u2 with ⟨z,_⟩ | ⟨_,z⟩
      ·rw[hk] at z;cases z
      ·exact z
    ·exact za e3
end
end Internal
end
section
set_option maxRecDepth 100000
namespace Internal
open PySem PySem.W PyProof.Rows
section
variable {G:Gd}{N:Names}{C:Calls}{d:Dp}{sc:Sc}{Γ:Gam}{A:Around}{t:Tie}{st st':MS}{s:Shared}{env:Env}{loc:Loc}{X Y Z:V}{v w:Value}
set_option genCtorIdx true in
inductive CondSim (G:Gd) (C:Calls) (d:Dp) (sc:Sc) (Γ:Gam):Option E->List Qe->Prop
 | none:CondSim G C d sc Γ none []
 | some {c:E}{ci:Qe}:bq G C d sc Γ c ci->CondSim G C d sc Γ (some c) [ci]
noncomputable def ix (P:Prog) (C:Calls) (cond:Option E) (loc:Loc) (st:MS):Res Bool :=
 match evC P C cond with
 | some c=>(c loc st).bind vw
 | none=>.ok true st
theorem zo9 {cond:Option E}{ifs:List Qe} (h:CondSim G C d sc Γ cond ifs) (hA:AOk d A) (hsc:env.scope.names=sc) (F:FrOk G A t env Γ loc s) (R:Rel G t st s) {b:Bool} (e:ix G.P C cond loc st=.ok b st') :
  Sim G A t s (forIn ifs true fun c r=>if r=true then do let ok <- isTrue c env (eval c env);pure (ForInStep.yield ok) else pure (ForInStep.yield r)) st' (fun ξ ξ b'=>b'=b):=by
 cases h with
 | none =>
  cases e
  exact fun Q E k=>Zr (k true t s (.refl _ _ _) R rfl)
 | @some c ci h =>
  simp only[ix,evC] at e
  obtain⟨v,s1,e1,e⟩:=Res.bind_ok e
  obtain⟨rfl,rfl⟩:=jx e
  intro Q E k
  rw[List.forIn_cons]
  simp only[if_true]
  refine Ze (Ze (h t st s env loc b _ A hA hsc F R e1 _ _ fun b' t1 σ1 S1 R1 r1=>?_))
  exact Zr (Zr (k b' t1 σ1 S1 R1 r1))
set_option genCtorIdx true in
inductive CEnd (G:Gd) (A:Around) (t:Tie) (σ:Shared) (st':MS) (vs:List V) (env:Env) (Γ:Gam) (loc:Loc) (Ca D:Addr) (se:Shared):Prop
 | mk (P:Addr->Prop) (τ:Tie) (s0 s1:Shared) (ys:Array Value) (m:Qf->Option Value)
  (np:∀ a,P a->σ.heap.get? a=none) (pC:P Ca) (pD:P D) (DC:D≠Ca) (hk:∀ b o,σ.heap.get? b=some o->s0.heap.get? b=some o) (hg:s0.gens=σ.gens) (ho:s0.os=σ.os) (S:Step P (t.hide P) τ s0 s1) (R:Rel G τ st' s1) (F:FrOk G A τ env Γ loc s1)
  (hD:PL s1.heap D ys) (hv:VRels τ s1.heap vs ys.toList) (hz:vs.length<=ze) (hn:se.heap.Ns Ca m) (hx:∀ b o,(P b->b=Ca\/b=D)->s1.heap.get? b=some o->se.heap.get? b=some o) (hg1:se.gens=s1.gens) (ho1:se.os=s1.os):CEnd G A t σ st' vs env Γ loc Ca D se
set_option tactic.hygienic true in
theorem lf {st₀:MS}{range:Bool}{src:V}{slot:Nat}{cnd:Option (Loc->MS->Res V)}{el:Loc->MS->Res V}{l:Loc}{acc vs:List V}{s s':MS} (e:compLoop st₀ range src slot cnd el l acc [] s=.ok vs s'):stays st₀ s range src=true/\acc=vs/\s=s':=by
 simp only[gy] at e
 split at e
 ·rename_i h
  cases e;exact⟨h,rfl,rfl⟩
 ·exact zb e
set_option tactic.hygienic true in
theorem py {st₀:MS}{range:Bool}{src x:V}{xs:List V}{slot:Nat}{P:Prog}{C:Calls}{cond:Option E}{el:Loc->MS->Res V}{l:Loc}{acc vs:List V}{s s':MS} (e:compLoop st₀ range src slot (evC P C cond) el l acc (x::xs) s=.ok vs s') :
  stays st₀ s range src=true/\∃ b s2,ix P C cond (l.set slot (some x)) s=.ok b s2 /\
   (b=false/\compLoop st₀ range src slot (evC P C cond) el l acc xs s2=.ok vs s'\/b=true/\∃ y s4,el (l.set slot (some x)) s2=.ok y s4/\acc.length+1<=ze/\compLoop st₀ range src slot (evC P C cond) el l (acc++[y]) xs s4=.ok vs s'):=by
 simp only[bw] at e
 split at e
 case isFalse=>exact zb e
 rename_i h
 obtain⟨b,s2,e2,e⟩:=Res.bind_ok e
 refine⟨h,b,s2,e2,?_⟩
 cases b with
 | false =>
  simp only[Bool.false_eq_true,if_false] at e
  exact .inl ⟨rfl,e⟩
 | true =>
  simp only[if_true] at e
  obtain⟨y,s4,e4,e⟩:=Res.bind_ok e
  split at e
  case isFalse=>exact zb e
  rename_i hlen
  exact .inr ⟨rfl,y,s4,e4,hlen,e⟩
set_option genCtorIdx true in
inductive CInv (G:Gd) (A:Around) (C:Calls) (t:Tie) (env:Env) (Γ:Gam) (loc:Loc) (P:Addr->Prop) (Ca D I:Addr) (s0:Shared) (st₀:MS) (range:Bool) (src:V) (xs:List V) (slot:Nat) (cond:Option E) (el:E) (vs:List V) (st':MS):Nat->Shared->Prop
 | mk (τ:Tie) (σ1:Shared) (sti:MS) (ys:Array Value) (m:Qf->Option Value) (done rest acc:List V) (hxs:xs=done++rest) (S:Step P (t.hide P) τ s0 σ1) (R:Rel G τ sti σ1) (F:FrOk G A τ env Γ loc σ1) (hn:σ1.heap.Ns Ca m) (hD:PL σ1.heap D ys)
   (hacc:VRels τ σ1.heap acc ys.toList) (hsz:acc.length<=ze) (hI:ItOk G st₀ τ σ1 I range src done.length) (e:compLoop st₀ range src slot (evC G.P C cond) (ev G.P C el) loc acc rest sti=.ok vs st'):CInv G A C t env Γ loc P Ca D I s0 st₀ range src xs slot cond el vs st' rest.length σ1
theorem zrv {h:Heap}{a:Addr}{m:Qf->Option Value} (q:h.Ns a m):(h.get? a).isSome=true:=by obtain⟨o,_,_,q,_⟩:=q;rw[q];rfl
theorem zpv {h:Heap}{a:Addr}{ys:Array Value} (q:PL h a ys):(h.get? a).isSome=true:=by obtain⟨k,q⟩:=q;rw[q];rfl
theorem ff {h h':Heap}{a:Addr}{m:Qf->Option Value} (q:h.Ns a m) (k:∀ o,h.get? a=some o->h'.get? a=some o):h'.Ns a m:=by obtain⟨o,es,ep,q1,q2⟩:=q;exact⟨o,es,ep,k o q1,q2⟩
theorem ly {h h':Heap}{a:Addr}{ys:Array Value} (q:PL h a ys) (k:∀ o,h.get? a=some o->h'.get? a=some o):PL h' a ys:=by obtain⟨z,q⟩:=q;exact⟨z,k _ q⟩
theorem zje {range:Bool}{src:V}{xs vs:List V}{st₀:MS}{slot:Nat}{cond:Option E}{el:E}{elt:Qe}{ifs:List Qe}{scope:Scope}{x:Qf}{px:Pos}{P:Addr->Prop}{Ca D I:Addr}{σ s0:Shared}{RN J:Shared->Prop}{EE:Value->Shared->Prop}{τ:Tie}{σ1:Shared}{sti:MS}{ys:Array Value}{m:Qf->Option Value}{done rest acc:List V}
  (hq:d.q=true) (hA:AOk d A) (hsc:env.scope.names=sc) (K:CompOk sc scope slot Γ x)
  (hcond:CondSim G C d (qi sc scope.names) (j1 (qi sc scope.names) Γ slot x) cond ifs) (hel:z0 G C d (qi sc scope.names) (j1 (qi sc scope.names) Γ slot x) el elt)
  (nF0:∀ a,P a->¬ (t.hide P).Fr a) (np:∀ a,P a->σ.heap.get? a=none) (pC:P Ca) (pD:P D) (pI:P I) (pO:∀ a,P a->a=Ca\/a=D\/a=I) (DC:D≠Ca) (DI:D≠I) (CI:Ca≠I) (hk0:∀ b o,σ.heap.get? b=some o->s0.heap.get? b=some o) (hg0:s0.gens=σ.gens) (ho0:s0.os=σ.os)
  (hsc':(compEnvC scope (clo env scope.names []) Ca env).scope.names=qi sc scope.names) (fl:¬ P env.locals) (fc:∀ n c,env.cells.lookup n=some c->¬ P c)
  (hx:zz st₀ range src=some xs) (hxs:xs=done++rest) (S:Step P (t.hide P) τ s0 σ1) (R:Rel G τ sti σ1) (F:FrOk G A τ env Γ loc σ1) (hn:σ1.heap.Ns Ca m) (hD:PL σ1.heap D ys)
  (hacc:VRels τ σ1.heap acc ys.toList) (hsz:acc.length<=ze) (hI:ItOk G st₀ τ σ1 I range src done.length) (e:compLoop st₀ range src slot (evC G.P C cond) (ev G.P C el) loc acc rest sti=.ok vs st')
  (hRN:∀ se,CEnd G A t σ st' vs env Γ loc Ca D se->RN se) (hJ:∀ m s,m < rest.length->CInv G A C t env Γ loc P Ca D I s0 st₀ range src xs slot cond el vs st' m s->J s) :
  wpAny G.M A (pyNext (.ref I)) (fun r s₁=>match r with
   | none=>RN s₁
   | some v=>wpAny G.M A (assign (.Name x px) (compEnvC scope (clo env scope.names []) Ca env) v) (fun ξ s₂ =>
     wpAny G.M A (forIn ifs true fun c r=>if r=true then do let ok <- isTrue c (compEnvC scope (clo env scope.names []) Ca env) (eval c (compEnvC scope (clo env scope.names []) Ca env));pure (ForInStep.yield ok) else pure (ForInStep.yield r)) (fun ok s₃ =>
      if ok=true then wpAny G.M A (eval elt (compEnvC scope (clo env scope.names []) Ca env)) (fun x s₄=>wpAny G.M A (call (.builtin "list.append") [.ref D,x]) (fun ξ s₅=>J s₅) EE s₄) EE s₃
      else J s₃) EE s₂) EE s₁) EE σ1:=by
 have hpv:∀ a,P a->τ.pv a:=fun a q=>by rw[S.le.pv];exact .inr q
 have nF:∀ a,P a->¬ τ.Fr a:=fun a q f=>nF0 a q (S.le.fr f)
 cases rest with
 | nil =>
  obtain⟨hst,e1,e2⟩:=lf e
  have hI':ItOk G st₀ τ σ1 I range src xs.length:=by rw[hxs,Z0];exact hI
  refine zki R (hA.hd hq) hx hst hI' fun h' tk hext=>?_
  refine hRN _ ⟨P,τ,s0,σ1,ys,m,np,pC,pD,DC,hk0,hg0,ho0,S,e2▸R,F,hD,e1▸hacc,e1▸hsz,?_,?_,rfl,rfl⟩
  ·exact ff hn fun o q=>hext _ _ CI q
  ·exact fun b o hb eb=>hext b o (fun z=>(hb (z▸pI)).elim (fun y=>CI (y.symm.trans z)) fun y=>DI (y.symm.trans z)) eb
 | cons x0 rest =>
  refine byQ fun Q' k'=>?_
  obtain⟨hst,b,s2,e2,e⟩:=py e
  refine k' ?_
  have hi:xs[done.length]?=some x0:=by rw[hxs,List.getElem?_append_right (Zs _),Nat.sub_self];rfl
  refine zf8 R (hpv I pI) hx hst hI hi fun v h1 tk1 SA RA rv hIA=>?_
  -- the frame stands
  have FA:FrOk G A τ env Γ loc {σ1 with heap:=h1,toks:=tk1}:=F.stepX R SA (fun a z=>by rw[z];exact hpv _ pI) (fun z=>fl (by rw[z];exact pI)) (fun n c hc z=>fc n c hc (by rw[z];exact pI)) fun a z=>by rw[z];exact nF _ pI
  have hnA:Heap.Ns h1 Ca m:=ff hn fun o q=>SA.keep _ _ q (R.pv _ (hpv _ pC)) CI (nF _ pC)
  have hDA:PL h1 D ys:=ly hD fun o q=>SA.keep _ _ q (R.pv _ (hpv _ pD)) DI (nF _ pD)
  have haccA:=VRels.step SA (fun a z=>by rw[z];exact hpv _ pI) _ hacc
  refine wpAny_assign_Name (wpAny_storeName_local (lookup_relabel_local K.x) (s:={σ1 with heap:=h1,toks:=tk1}) hnA (fun h2 hn2 hs2=>?_) (by simp[compEnvC,relabel,K.fn]))
  change Heap.Ns h2 Ca _ at hn2
  change Heap.SameBut Ca h1 h2 at hs2
  have hl2:(h2.get? Ca).isSome=true:=zrv hn2
  have SB:Step (·=Ca) τ τ {σ1 with heap:=h1,toks:=tk1} {σ1 with heap:=h2,toks:=tk1+1}:=Step.priv rfl hl2 hs2
  have RB:Rel G τ sti {σ1 with heap:=h2,toks:=tk1+1}:=RA.priv (hpv _ pC) hl2 hs2
  have xB:∀ a,a=Ca->τ.pv a:=fun a z=>by rw[z];exact hpv _ pC
  have FB:FrOk G A τ env Γ loc {σ1 with heap:=h2,toks:=tk1+1}:=FA.stepX RA SB xB (fun z=>fl (by rw[z];exact pC)) (fun n c hc z=>fc n c hc (by rw[z];exact pC)) fun a z=>by rw[z];exact nF _ pC
  have hDB:PL h2 D ys:=ly hDA fun o q=>SB.keep _ _ q (RA.pv _ (hpv _ pD)) DC (nF _ pD)
  have haccB:=VRels.step SB xB _ haccA
  have rvB:VRel τ h2 x0 v:=VRel.step SB xB _ rv
  have hIB:=hIA.step SB xB RA.pv (hpv _ pI) (fun z=>CI z.symm) (nF _ pI)
  have FC:=FB.comp (x:=x) (X:=x0) hsc K (hpv _ pC) hn2 (by simp) rvB
  have SAB:Step P (t.hide P) τ s0 {σ1 with heap:=h2,toks:=tk1+1}:=(S.trans (SA.mono fun a z=>by rw[z];exact pI)).trans (SB.mono fun a z=>by rw[z];exact pC)
  refine zo9 hcond hA hsc' FC RB e2 _ _ fun b' τ3 σ3 S3 R3 r3=>?_
  have hpv3:∀ a,P a->τ3.pv a:=fun a q=>by rw[S3.le.pv];exact hpv a q
  have F3:=FB.step RB S3
  have nF3:∀ a,P a->¬ τ3.Fr a:=fun a q f=>nF a q (S3.le.fr f)
  have hn3:=ff (h':=σ3.heap) hn2 fun o q=>S3.keep _ _ q (RB.pv _ (hpv _ pC)) (fun z=>z) (nF _ pC)
  have hD3:PL σ3.heap D ys:=ly hDB fun o q=>S3.keep _ _ q (RB.pv _ (hpv _ pD)) (fun z=>z) (nF _ pD)
  have hacc3:=VRels.step S3 (fun ξ z=>z.elim) _ haccB
  have hI3:=hIB.step S3 (fun ξ z=>z.elim) RB.pv (hpv _ pI) (fun z=>z) (nF _ pI)
  have S03:=SAB.trans (S3.mono fun a z=>z.elim)
  have hxs':xs=(done++[x0])++rest:=by rw[hxs];simp
  rcases e with ⟨z,e⟩ | ⟨z,y,s4,e4,hlen,e⟩
  ·rw[Zh (by rw[r3,z];exact Z8)]
   exact hJ _ _ (Zy _) ⟨τ3,_,s2,ys,_,done++[x0],rest,acc,hxs',S03,R3,F3,hn3,hD3,hacc3,hsz,by rw[Zf];exact hI3,e⟩
  ·rw[Zg (r3.trans z)]
   have FC3:=FC.step RB S3
   refine hel τ3 s2 σ3 _ (loc.set slot (some x0)) y s4 A hA hsc' FC3 R3 e4 _ _ fun u τ4 σ4 S4 R4 r4=>?_
   have hpv4:∀ a,P a->τ4.pv a:=fun a q=>by rw[S4.le.pv];exact hpv3 a q
   have F4:=F3.step R3 S4
   have nF4:∀ a,P a->¬ τ4.Fr a:=fun a q f=>nF3 a q (S4.le.fr f)
   have hD4:PL σ4.heap D ys:=ly hD3 fun o q=>S4.keep _ _ q (R3.pv _ (hpv3 _ pD)) (fun z=>z) (nF3 _ pD)
   have hacc4:=VRels.step S4 (fun ξ z=>z.elim) _ hacc3
   have hI4:=hI3.step S4 (fun ξ z=>z.elim) R3.pv (hpv3 _ pI) (fun z=>z) (nF3 _ pI)
   refine wpAny_list_append_plain (hsz:=by rw[jd hacc4];exact hsz) hD4 fun h5 hl5 hs5=>?_
   have hl:(h5.get? D).isSome=true:=zpv hl5
   have S5:Step (·=D) τ4 τ4 σ4 {σ4 with heap:=h5,toks:=σ4.toks}:=Step.priv rfl hl hs5
   have xD:∀ a,a=D->τ4.pv a:=fun a z=>by rw[z];exact hpv4 _ pD
   have R5:Rel G τ4 s4 {σ4 with heap:=h5,toks:=σ4.toks}:=R4.priv (hpv4 _ pD) hl hs5
   have F5:=F4.stepX R4 S5 xD (fun z=>fl (by rw[z];exact pD)) (fun n c hc z=>fc n c hc (by rw[z];exact pD)) fun a z=>by rw[z];exact nF4 _ pD
   have hn5:=ff (h':=h5) hn3 fun o q=>S5.keep _ _ (S4.keep _ _ q (R3.pv _ (hpv3 _ pC)) (fun z=>z) (nF3 _ pC)) (R4.pv _ (hpv4 _ pC)) (fun z=>DC z.symm) (nF4 _ pC)
   refine hJ _ _ (Zy _) ⟨τ4,_,s4,ys.push u,_,done++[x0],rest,acc++[y],hxs',(S03.trans (S4.mono fun a z=>z.elim)).trans (S5.mono fun a z=>by rw[z];exact pD),R5,F5,hn5,hl5,?_,by rw[Zf];exact hlen,?_,e⟩
   ·rw[Array.toList_push]
    exact(VRels.step S5 xD _ hacc4).append ⟨u,[],rfl,VRel.step S5 xD _ r4,rfl⟩
   ·have:=hI4.step S5 xD R4.pv (hpv4 _ pI) (fun z=>DI z.symm) (nF4 _ pI)
    rw[Zf];exact this
theorem zjv {range:Bool}{src:V}{xs vs:List V}{st₀:MS}{slot:Nat}{cond:Option E}{el:E}{elt iter:Qe}{ifs:List Qe}{scope:Scope}{x:Qf}{px pos:Pos}{P:Addr->Prop}{Ca D I:Addr}{σ s0:Shared}{m0:Qf->Option Value}{RR:Result->Shared->Prop}
  (hq:d.q=true) (hA:AOk d A) (hsc:env.scope.names=sc) (K:CompOk sc scope slot Γ x)
  (hcond:CondSim G C d (qi sc scope.names) (j1 (qi sc scope.names) Γ slot x) cond ifs) (hel:z0 G C d (qi sc scope.names) (j1 (qi sc scope.names) Γ slot x) el elt)
  (nF0:∀ a,P a->¬ (t.hide P).Fr a) (np:∀ a,P a->σ.heap.get? a=none) (pC:P Ca) (pD:P D) (pI:P I) (pO:∀ a,P a->a=Ca\/a=D\/a=I) (DC:D≠Ca) (DI:D≠I) (CI:Ca≠I) (hk0:∀ b o,σ.heap.get? b=some o->s0.heap.get? b=some o) (hg0:s0.gens=σ.gens) (ho0:s0.os=σ.os)
  (F0:FrOk G A (t.hide P) env Γ loc s0) (fl:¬ P env.locals) (fc:∀ n c,env.cells.lookup n=some c->¬ P c) (R0:Rel G (t.hide P) st₀ s0) (hn0:s0.heap.Ns Ca m0) (hD0:PL s0.heap D #[]) (hI0:ItOk G st₀ (t.hide P) s0 I range src 0)
  (hx:zz st₀ range src=some xs) (e:compLoop st₀ range src slot (evC G.P C cond) (ev G.P C el) loc [] xs st₀=.ok vs st')
  (hRR:∀ se,CEnd G A t σ st' vs env Γ loc Ca D se->RR (.ok .next) se) :
  codeAny G.M A (.compLoop (.ListComp elt [⟨.Name x px,iter,ifs,0⟩] scope pos) 0 (.ref I) (.ref D) (compEnvC scope (clo env scope.names []) Ca env)) RR s0:=by
 have hsc':(compEnvC scope (clo env scope.names []) Ca env).scope.names=qi sc scope.names:=sd F0.fn hsc
 refine codeAny_compLoop_tests (CInv G A C t env Γ loc P Ca D I s0 st₀ range src xs slot cond el vs st') (fun n σ1 h=>?_) xs.length ⟨t.hide P,s0,st₀,#[],m0,[],xs,[],rfl,.refl _ _ _,R0,F0,hn0,hD0,rfl,Nat.zero_le _,hI0,e⟩
 cases h with
 | mk τ σ1 sti ys m done rest acc hxs S R F hn hD hacc hsz hI e =>
  exact zje hq hA hsc K hcond hel nF0 np pC pD pI pO DC DI CI hk0 hg0 ho0 hsc' fl fc hx hxs S R F hn hD hacc hsz hI e (fun se=>hRR se) fun m s hm h=>⟨m,hm,h⟩
end
end Internal
end
section
set_option maxRecDepth 100000
namespace Internal
open PySem PySem.W PyProof.Rows
noncomputable def uy (x:Qe):Bool:=!Nat.beq x.ctorIdx 7
theorem m5 {e:Qe} (h:uy e=true) (env:Env) (x:Value):foldedSetIterable e env x=pure x:=by
 cases e <;> first | rfl | exact z6 h
section
variable {G:Gd}{N:Names}{C:Calls}{d:Dp}{sc:Sc}{Γ:Gam}{A:Around}{t:Tie}{st st':MS}{s:Shared}{env:Env}{loc:Loc}{X Y Z:V}{v w:Value}
theorem zum (O:G.Ok N) {t:Tie}{st:MS}{σ1 σ2:Shared} (R:Rel G t st σ1) (hk:∀ b o,σ1.heap.get? b=some o->σ2.heap.get? b=some o):σ2.heap.objs.size≠sysModules:=by
 obtain⟨mc,⟨o,es,ep,ho,_⟩,_⟩:=O.lim
 have:=Heap.lt_size (hk _ _ (R.base _ _ ho))
 intro q
 rw[q] at this
 exact absurd this (by decide)
theorem zp7 (hq:d.q=true) (O:G.Ok N) {range:Bool}{src:V}{xs vs:List V}{s1:MS}{slot:Nat}{it:E}{cond:Option E}{el:E}{elt iast j:Qe}{ifs:List Qe}{scope:Scope}{x:Qf}{px pos pos':Pos}{use:Option (Value->Sem Unit)}{Q E':Value->Shared->Prop}
  (hA:AOk d A) (hsc:env.scope.names=sc) (K:CompOk sc scope slot Γ x) (hset:uy iast=true) (ha:IterAst sc range iast j) (hj:z0 G C d sc Γ it j)
  (hcond:CondSim G C d (qi sc scope.names) (j1 (qi sc scope.names) Γ slot x) cond ifs) (hel:z0 G C d (qi sc scope.names) (j1 (qi sc scope.names) Γ slot x) el elt)
  (F:FrOk G A t env Γ loc s) (R:Rel G t st s) (e1:ev G.P C it loc st=.ok src s1) (hx:zz s1 range src=some xs) (e:compLoop s1 range src slot (evC G.P C cond) (ev G.P C el) loc [] xs s1=.ok vs st')
  (hend:∀ t1 σ1 Ca D se,Step noX t t1 s σ1->Rel G t1 s1 σ1->D≠sysModules->CEnd G A t1 σ1 st' vs env Γ loc Ca D se->compPost G.M A E' use Q (.ref D) Ca (.ok .next) se) :
  wpAny G.M A (comprehension (.ListComp elt [⟨.Name x px,iast,ifs,0⟩] scope pos) scope env pos' (newList []) false (eval iast env) use) Q E' s:=by
 have hfree:∀ y∈scope.names,y.2=.free->(env.cells.lookup y.1).isSome=true:=fun y hy z=>by
  obtain⟨_,_,_,_,hz,_⟩:=F.ex
  exact hz y.1 (by unfold Env.kindOf;rw[hsc];exact K.free y hy z)
 refine wpAny_comprehension_free (g:=⟨.Name x px,iast,ifs,0⟩) (gs:=[]) rfl (m5 hset env) (zeu hfree) K.fn K.loc ?_
 refine zgh O ha hj hA hsc F R e1 hx fun t1 σ1 S1 R1 σ2 I hk hI hIl hg ho hit=>?_
 refine wpAny_newObj_type (wpAny_newFunctionEnv K.cell (by intro y hy;simp at hy) (fun h₁ hns1 hsb1=>?_) K.fn)
 dsimp only at hns1 hsb1 ⊢
 generalize hH2:σ2.heap.push {cls:=.type "list",dict:=none,data:=.seq ([]:List Value).toArray}=H2 at hns1 hsb1 ⊢
 have hC:H2.objs.size=σ2.heap.objs.size+1:=by rw[<- hH2,Heap.size_push]
 have DC:σ2.heap.objs.size≠H2.objs.size:=by rw[hC];exact Z9 (Zy _)
 obtain⟨oI,hoI⟩:=Option.isSome_iff_exists.mp hIl
 have ltI:=Heap.lt_size hoI
 have DI:σ2.heap.objs.size≠I:=fun z=>Nat.lt_irrefl _ (z▸ltI)
 have CI:H2.objs.size≠I:=fun z=>by rw[hC] at z;exact absurd ltI (by rw[<- z];exact Nat.not_lt.mpr (Zw _))
 have old:∀ b o,σ2.heap.get? b=some o->h₁.get? b=some o:=fun b o e=>hsb1.extBut b o (fun z=>by
  have:=Heap.lt_size e;rw[z,hC] at this;exact absurd this (Nat.not_lt.mpr (Zw _))) (Zn _ (hH2▸Zn _ e))
 have hacc:PL h₁ σ2.heap.objs.size #[]:=⟨_,hsb1.extBut _ _ DC (Zn _ (hH2▸Z5 _ rfl))⟩
 let P:Addr->Prop:=fun a=>a=H2.objs.size\/a=σ2.heap.objs.size\/a=I
 have np:∀ a,P a->σ1.heap.get? a=none:=by
  rintro a (z | z | z)
  ·rw[z,hC];exact gh hk (wt _)
  ·rw[z];exact gh hk (qe _)
  ·rw[z];exact hI
 have hk0:∀ b o,σ1.heap.get? b=some o->h₁.get? b=some o:=fun b o e=>old b o (hk b o e)
 have hlP:∀ a,P a->(h₁.get? a).isSome=true:=by
  rintro a (z | z | z)
  ·rw[z];obtain⟨o,_,_,q,_⟩:=hns1;rw[q];rfl
  ·rw[z];obtain⟨k,q⟩:=hacc;rw[q];rfl
  ·rw[z,old _ _ hoI];rfl
 have F1:=F.step R S1
 have notP:∀ a,t1.pv a->¬ P a:=fun a q z=>by
  have:=R1.live a (.inr q)
  rw[np a z] at this;exact z6 this
 have F0:FrOk G A (t1.hide P) env Γ loc {σ2 with heap:=h₁,toks:=σ2.toks+([]:List (Qf×Value)).length}:=F1.hideGrow np hk0 hg ho
 have R0:Rel G (t1.hide P) s1 {σ2 with heap:=h₁,toks:=σ2.toks+([]:List (Qf×Value)).length}:=R1.hideGrow np hk0 hlP hg ho
 have SG:Step noX (t1.hide P) (t1.hide P) σ1 {σ2 with heap:=h₁,toks:=σ2.toks+([]:List (Qf×Value)).length}:=⟨.refl _,fun a o e ξ ξ ξ=>hk0 a o e,fun a o e ξ ξ ξ=>⟨o.slots,hk0 a o e⟩,fun ξ o=>.inl o,fun a o e=>by show(h₁.get? a).isSome=true;rw[hk0 a o e];rfl,hg,ho⟩
 have I0:ItOk G s1 (t1.hide P) {σ2 with heap:=h₁,toks:=σ2.toks+([]:List (Qf×Value)).length} I range src 0:=hit _ _ (fun a r=>VRel.step SG (fun ξ z=>z.elim) _ (VRel.hide np _ r)) rfl fun b o e=>old b o e
 have loop:codeAny G.M A (.compLoop (.ListComp elt [⟨.Name x px,iast,ifs,0⟩] scope pos) 0 (.ref I) (.ref σ2.heap.objs.size) (compEnvC scope (clo env scope.names []) H2.objs.size env))
   (compPost G.M A E' use Q (.ref σ2.heap.objs.size) H2.objs.size) {σ2 with heap:=h₁,toks:=σ2.toks+([]:List (Qf×Value)).length} :=
  zjv (P:=P) (t:=t1) (σ:=σ1) hq hA hsc K hcond hel (fun a q=>F1.sk.fresh (np a q)) np (.inl rfl) (.inr (.inl rfl)) (.inr (.inr rfl)) (fun a z=>z) DC DI CI hk0 hg ho F0 (notP _ F1.pvl) (fun n c hc=>notP _ (F1.pvc n c hc)) R0 hns1 hacc I0 hx e fun se ce=>hend t1 σ1 _ _ se S1 R1 (zum O R1 hk) ce
 exact codeAny_compStart_list loop (zry R0 (hA.hd hq) I0 loop)
noncomputable def zvl (M:Option Nat) (st:MS) (vs:List V):V:=match M with | none=>.lst vs | some k=>.ref (k,st.cnt k)
noncomputable def stM (M:Option Nat) (st:MS) (vs:List V):MS:=match M with | none=>st | some k=>st.new k (.list vs)
theorem VRels.all {t t':Tie}{h h':Heap} (k:∀ (X:V) (v:Value),VRel t h X v->VRel t' h' X v):∀ {l:List V}{vs:List Value},VRels t h l vs->VRels t' h' l vs
 | [],_,e=>e
 | x::_,_,⟨v,r,e,a,b⟩=>⟨v,r,e,k x v a,VRels.all k b⟩
section
variable {P L:Addr->Prop}{τ:Tie}{σ s0 s1 se:Shared}{D:Addr} (R₁:Rel G t st σ) (np:∀ a,P a->σ.heap.get? a=none) (pD:P D) (hk0:∀ b o,σ.heap.get? b=some o->s0.heap.get? b=some o) (hg0:s0.gens=σ.gens) (ho0:s0.os=σ.os)
  (S:Step P (t.hide P) τ s0 s1) (R:Rel G τ st' s1) (hL:∀ a,L a->t.pv a/\(se.heap.get? a).isSome=true)
  (hext:∀ b o,(P b->b=D)->¬ L b->s1.heap.get? b=some o->se.heap.get? b=some o) (hg:se.gens=s1.gens) (ho:se.os=s1.os)
include R₁ np pD hk0 hg0 ho0 S R hL hext hg ho
theorem zqs (hsys:D≠sysModules) {k:Nat}{o:MObj} (hO:∀ t2,(∀ (X:V) (v:Value),VRel τ s1.heap X v->VRel t2 se.heap X v)->t2.ρ (k,st'.cnt k)=some D->ObjOk G t2 se.heap (k,st'.cnt k) o) :
  ∃ t2,Step L t t2 σ se/\Rel G t2 (st'.new k o) se/\VRel t2 se.heap (.ref (k,st'.cnt k)) (.ref D)/\t2.pv=t.pv/\∀ (X:V) (v:Value),VRel τ s1.heap X v->VRel t2 se.heap X v:=by
 have hpv:τ.pv=(t.hide P).pv:=S.le.pv
 have nP:∀ a,t.pv a->¬ P a:=fun a q z=>by
  have:=R₁.live a (.inr q)
  rw[np a z] at this;exact z6 this
 have pτ:∀ a,t.pv a->τ.pv a:=fun a q=>by rw[hpv];exact .inl q
 have Fg:Forget P L τ {τ with pv:=t.pv,st:=t.st} s1 se :=
  ⟨rfl,rfl,fun a q=>⟨pτ a q,nP a q⟩,fun a q=>by rw[hpv];exact .inr q,fun a q=>⟨pτ a (hL a q).1,(hL a q).2⟩,fun b o nb nl e=>hext b o (fun q=>(nb q).elim) nl e,hg,ho,rfl⟩
 have S2:=Step.unhide (X:=P) (fun a q=>.inl q) np hk0 hg0 ho0 S Fg
 have Fg':Forget (fun a=>P a/\a≠D) L τ {τ with pv:=fun a=>t.pv a\/a=D,st:=t.st} s1 se :=
  ⟨rfl,rfl,fun a q=>q.elim (fun q=>⟨pτ a q,fun z=>nP a q z.1⟩) (fun q=>⟨by rw[hpv,q];exact .inr pD,fun z=>z.2 q⟩),fun a q=>by rw[hpv];exact .inr q.1,fun a q=>⟨pτ a (hL a q).1,(hL a q).2⟩,
   fun b o nb nl e=>hext b o (fun q=>Classical.byContradiction fun z=>nb ⟨q,z⟩) nl e,hg,ho,rfl⟩
 obtain⟨c1,c2,-⟩:=R.cnt k _ (Zs _)
 have A:=(R.forget Fg').adopt (k:=k) (o:=o) (pv':=t.pv) (.inr rfl) (fun a=>Iff.rfl) (fun q=>nP D q pD) hsys fun up=>hO _ (fun X v r=>up X v (VRel.forget Fg' X r)) (Zg rfl)
 exact⟨_,S2.own (l:=(k,st'.cnt k)) (np D pD) c1 c2,A.1,⟨D,rfl,Zg rfl⟩,rfl,fun X v r=>VRel.map A.2.1 A.2.2 X (VRel.forget Fg' X r)⟩
theorem zkw (hsys:D≠sysModules) {ys:Array Value}{vs:List V} (hD:PL s1.heap D ys) (hacc:VRels τ s1.heap vs ys.toList) (hsz:vs.length<=ze) (M:Option Nat) :
  ∃ t2,Step L t t2 σ se/\Rel G t2 (stM M st' vs) se/\VRel t2 se.heap (zvl M st' vs) (.ref D)/\t2.pv=t.pv/\∀ (X:V) (v:Value),VRel τ s1.heap X v->VRel t2 se.heap X v:=by
 have hpv:τ.pv=(t.hide P).pv:=S.le.pv
 have nP:∀ a,t.pv a->¬ P a:=fun a q z=>by
  have:=R₁.live a (.inr q)
  rw[np a z] at this;exact z6 this
 have hD':PL se.heap D ys:=let ⟨k,q⟩:=hD;⟨k,hext D _ (fun ξ=>rfl) (fun q=>nP D (hL D q).1 pD) q⟩
 cases M with
 | none =>
  have pτ:∀ a,t.pv a->τ.pv a:=fun a q=>by rw[hpv];exact .inl q
  have Fg:Forget P L τ {τ with pv:=t.pv,st:=t.st} s1 se :=
   ⟨rfl,rfl,fun a q=>⟨pτ a q,nP a q⟩,fun a q=>by rw[hpv];exact .inr q,fun a q=>⟨pτ a (hL a q).1,(hL a q).2⟩,fun b o nb nl e=>hext b o (fun q=>(nb q).elim) nl e,hg,ho,rfl⟩
  refine⟨_,Step.unhide (X:=P) (fun a q=>.inl q) np hk0 hg0 ho0 S Fg,R.forget Fg,⟨D,ys,rfl,hD',?_,hsz,VRels.forget Fg _ hacc⟩,rfl,fun X v r=>VRel.forget Fg X r⟩
  rintro(q | q)
  ·exact R.pv D (by rw[hpv];exact .inr pD) q
  ·exact nP D q pD
 | some k=>exact zqs R₁ np pD hk0 hg0 ho0 S R hL hext hg ho hsys fun t2 up hr=>⟨D,ys,hr,hD',hsz,VRels.all up hacc⟩
end
set_option tactic.hygienic true in
theorem zlh (hq:d.q=true) (O:G.Ok N) {M:Option Nat}{range:Bool}{slot:Nat}{it:E}{cond:Option E}{el:E}{elt iast j:Qe}{ifs:List Qe}{scope:Scope}{x:Qf}{px pos:Pos}
  (K:CompOk sc scope slot Γ x) (hset:uy iast=true) (ha:IterAst sc range iast j) (hj:z0 G C d sc Γ it j)
  (hcond:CondSim G C d (qi sc scope.names) (j1 (qi sc scope.names) Γ slot x) cond ifs) (hel:z0 G C d (qi sc scope.names) (j1 (qi sc scope.names) Γ slot x) el elt) :
  z0 G C d sc Γ (.comp M slot range it cond el) (.ListComp elt [⟨.Name x px,iast,ifs,0⟩] scope pos):=by
 intro t st s env loc X st' A hA hsc F R e Q E k
 rw[zah] at e
 obtain⟨src,s1,e1,e⟩:=Res.bind_ok e
 split at e
 ·rename_i xs hx
  obtain⟨vs,s2,e2,e⟩:=Res.bind_ok e
  obtain⟨rfl,rfl⟩:X=zvl M s2 vs/\st'=stM M s2 vs:=by cases M <;> (cases e;exact⟨rfl,rfl⟩)
  rw[eval_ListComp]
  refine zp7 (use:=none) hq O hA hsc K hset ha hj hcond hel F R e1 hx e2 fun t1 σ1 Ca D se S1 R1 hsys ce=>?_
  obtain⟨P,τ,s0,s1',ys,m,np,pC,pD,DC,hk0,hg0,ho0,S,Rr,Fr,hD,hacc,hsz,hn,hext,hg,ho⟩:=ce
  refine⟨m,hn,fun h' hs=>?_⟩
  obtain⟨t2,S2,R2,r2,-,-⟩:=zkw (L:=noX) (se:={se with heap:=h'}) R1 np pD hk0 hg0 ho0 S Rr (fun a z=>z.elim) (fun b o hb ξ e=>(hs.2 b fun (z:b=Ca)=>DC (z▸hb (z▸pC)).symm).trans (hext b o (fun q=>.inr (hb q)) e)) hg ho hsys hD hacc hsz M
  exact k _ t2 _ (S1.trans S2) R2 r2
 ·exact zb e
end
end Internal
end
section
set_option maxRecDepth 100000
namespace Internal
open PySem PySem.W PyProof.Rows
noncomputable def own (env:Env):Addr->Prop:=fun a=>a=env.locals\/∃ n,env.cells.lookup n=some a
noncomputable def jb (Γ:Gam):Prop:=∀ (i j:Nat) (y:Qf),Γ[i]?=some (some y)->Γ[j]?=some (some y)->i=j
section
variable {G:Gd}{N:Names}{C:Calls}{d:Dp}{sc:Sc}{Γ:Gam}{A:Around}{t:Tie}{st st':MS}{s:Shared}{env:Env}{loc:Loc}{X Y Z:V}{v w:Value}
theorem FrOk.ownPv (F:FrOk G A t env Γ loc s):∀ a,own env a->t.pv a:=by
 rintro a (rfl | ⟨n,h⟩)
 ·exact F.pvl
 ·exact F.pvc n a h
theorem FrOk.noClass (F:FrOk G A t env Γ loc s):(env.scope.kind == .class||(env.scope.kind == .module&&env.locals != env.globals))=false:=by rw[F.fn];rfl
theorem zaf {h:Heap}{a c:Addr}{m:Qf->Option Value}{o:Option Value} (hn:h.Ns a m) (hc:h.IsCell c o):c≠a:=fun z=>by
 obtain⟨ob,es,ep,h1,h2,_⟩:=hn
 obtain⟨oc,h3,h4⟩:=hc
 rw[z,h1] at h3
 cases h3
 rw[h2] at h4
 cases h4
theorem zqu {h:Heap}{a:Addr}{m:Qf->Option Value} (hn:h.Ns a m):(h.get? a).isSome=true:=by obtain⟨o,_,_,z,_⟩:=hn;rw[z];rfl
theorem zg9 {h:Heap}{c:Addr}{o:Option Value} (hc:h.IsCell c o):(h.get? c).isSome=true:=by obtain⟨o,z,_⟩:=hc;rw[z];rfl
theorem zj8 {h:Heap}{a:Addr}{m:Qf->Option Value}{o:Obj} (hn:h.Ns a m) (e:h.get? a=some o) (vs:Array Value):o.data≠.fields vs:=fun z=>by
 obtain⟨ob,es,ep,h1,h2,_⟩:=hn
 cases h1.symm.trans e
 cases h2.symm.trans z
theorem zd1 {h:Heap}{c:Addr}{u:Option Value}{o:Obj} (hc:h.IsCell c u) (e:h.get? c=some o) (vs:Array Value):o.data≠.fields vs:=fun z=>by
 obtain⟨ob,h1,h2⟩:=hc
 cases h1.symm.trans e
 cases h2.symm.trans z
theorem zrs {h h':Heap}{a:Addr}{m:Qf->Option Value} (hk:∀ o,h.get? a=some o->h'.get? a=some o) (hn:h.Ns a m):h'.Ns a m:=by
 obtain⟨o,es,ep,h1,h2⟩:=hn
 exact⟨o,es,ep,hk o h1,h2⟩
theorem sf {h h':Heap}{a:Addr}{u:Option Value} (hk:∀ o,h.get? a=some o->h'.get? a=some o) (hn:h.IsCell a u):h'.IsCell a u:=by
 obtain⟨o,h1,h2⟩:=hn
 exact⟨o,hk o h1,h2⟩
theorem ztj {loc:Loc}{i:Nat} (e:(loc.set i (some X))[i]?=some (some Y)):Y=X:=by
 by_cases h:i < loc.length
 ·rw[List.getElem?_set_self h] at e;cases e;rfl
 ·rw[List.getElem?_eq_none (by rw[List.length_set];exact Nat.le_of_not_lt h)] at e;exact za e
theorem zay {At At':Qf->Value->Prop}{h h':Heap}{t':Tie} (gi:jb Γ) {i:Nat}{y:Qf} (hi:Γ[i]?=some (some y)) (hs:∀ (j:Nat) (x:Qf) (Y:V),Γ[j]?=some (some x)->loc[j]?=some (some Y)->∃ u,VRel t h Y u/\At x u) (r:VRel t' h' X v) (hy:At' y v)
  (ho:∀ x u,x≠y->At x u->At' x u) (up:∀ Y u,VRel t h Y u->VRel t' h' Y u) (j:Nat) (x:Qf) (Y:V) (e1:Γ[j]?=some (some x)) (e2:(loc.set i (some X))[j]?=some (some Y)):∃ u,VRel t' h' Y u/\At' x u:=by
 by_cases z:j=i
 ·subst z
  cases hi.symm.trans e1
  cases ztj e2
  exact⟨v,r,hy⟩
 ·rw[List.getElem?_set_ne (fun e=>z e.symm)] at e2
  obtain⟨u,u1,u2⟩:=hs j x Y e1 e2
  exact⟨u,up _ _ u1,ho x u (fun e=>z (gi j i y (e▸e1) hi)) u2⟩
theorem za9 (F:FrOk G A t env Γ loc s) (R:Rel G t st s) (gi:jb Γ) {i:Nat}{y:Qf} (hi:Γ[i]?=some (some y)) (hk:env.kindOf y=some .local) (r:VRel t s.heap X v) {Q:Unit->Shared->Prop}{E':Value->Shared->Prop}
  (q:∀ s',Step (own env) t t s s'->Rel G t st s'->FrOk G A t env Γ (loc.set i (some X)) s'->Q () s'):wpAny G.M A (storeName env y v) Q E' s:=by
 obtain⟨m,cm,hn,hcc,hz,hs⟩:=F.ex
 refine wpAny_storeName_local hk hn (fun h' hn' hs'=>?_) F.noClass
 have hl:=zqu hn'
 have S:Step (own env) t t s {s with heap:=h',toks:=s.toks+1}:=Step.priv (.inl rfl) hl hs'
 have sk:Stk A t h':=F.sk.step R (Step.priv (X:=(·=env.locals)) (tk:=s.toks+1) rfl hl hs') fun a x ξ o e=>by subst x;exact zj8 hn' e
 exact q _ S (R.priv F.pvl hl hs') ⟨sk,F.fn,F.gl,F.bl,F.pvl,F.pvc,F.apart,_,cm,hn',fun n c e=>sf (fun o h=>(hs'.2 c (zaf hn (hcc n c e))).trans h) (hcc n c e),hz,
  zay (At':=fun x u=>(env.kindOf x=some .local/\(if x=y then some v else m x)=some u)\/(env.kindOf x=some .cell/\cm x=some u)) gi hi hs (VRel.step S F.ownPv _ r) (.inl ⟨hk,Zg rfl⟩) (fun x u hne p=>p.imp (fun p=>⟨p.1,(Zh hne).trans p.2⟩) id) fun Y u=>VRel.step S F.ownPv Y⟩
theorem zee (F:FrOk G A t env Γ loc s) (R:Rel G t st s) (gi:jb Γ) {i:Nat}{y:Qf} (hi:Γ[i]?=some (some y)) (hk:env.kindOf y=some .cell) (r:VRel t s.heap X v) {Q:Unit->Shared->Prop}{E':Value->Shared->Prop}
  (q:∀ s',Step (own env) t t s s'->Rel G t st s'->FrOk G A t env Γ (loc.set i (some X)) s'->Q () s'):wpAny G.M A (storeName env y v) Q E' s:=by
 obtain⟨m,cm,hn,hcc,hz,hs⟩:=F.ex
 obtain⟨c,hcl⟩:=Option.isSome_iff_exists.mp (hz y hk)
 have hc:=hcc y c hcl
 have hne:=zaf hn hc
 refine wpAny_storeName_cell F.fn hk hcl hc fun h' hc' hs'=>?_
 have hl:=zg9 hc'
 have S:Step (own env) t t s {s with heap:=h',toks:=s.toks}:=Step.priv (.inr ⟨y,hcl⟩) hl hs'
 have sk:Stk A t h':=F.sk.step R (Step.priv (X:=(·=c)) (tk:=s.toks) rfl hl hs') fun a x ξ o e=>by subst x;exact zd1 hc' e
 refine q _ S (R.priv (F.pvc y c hcl) hl hs') ⟨sk,F.fn,F.gl,F.bl,F.pvl,F.pvc,F.apart,m,fun n=>if n=y then some v else cm n,zrs (fun o h=>(hs'.2 _ hne.symm).trans h) hn,fun n c' e=>?_,hz,
  zay (At':=fun x u=>(env.kindOf x=some .local/\m x=some u)\/(env.kindOf x=some .cell/\(if x=y then some v else cm x)=some u)) gi hi hs (VRel.step S F.ownPv _ r) (.inr ⟨hk,Zg rfl⟩) (fun x u hne p=>p.imp id fun p=>⟨p.1,(Zh hne).trans p.2⟩) fun Y u=>VRel.step S F.ownPv Y⟩
 by_cases z:n=y
 ·subst z
  cases hcl.symm.trans e
  show Heap.IsCell h' c (if n=n then some v else cm n)
  rw[Zg rfl];exact hc'
 ·show Heap.IsCell h' c' (if n=y then some v else cm n)
  rw[Zh z]
  exact sf (fun o h=>(hs'.2 c' fun q=>z (F.apart n y c (q▸e) hcl)).trans h) (hcc n c' e)
theorem fx (F:FrOk G A t env Γ loc s) (R:Rel G t st s) (gi:jb Γ) {i:Nat}{y:Qf} (hi:Γ[i]?=some (some y)) (hk:env.kindOf y=some .local\/env.kindOf y=some .cell) (r:VRel t s.heap X v) {Q:Unit->Shared->Prop}{E':Value->Shared->Prop}
  (q:∀ s',Step (own env) t t s s'->Rel G t st s'->FrOk G A t env Γ (loc.set i (some X)) s'->Q () s'):wpAny G.M A (storeName env y v) Q E' s :=
 hk.elim (fun hk=>za9 F R gi hi hk r q) fun hk=>zee F R gi hi hk r q
noncomputable def TopA (A:Around) (env:Env):Prop:=∃ outer,A.frames=some (env::outer)/\env.frame=some env.locals
noncomputable def bu (t:Tie) (h:Heap):Fl->Flow->Prop
 | .next,f=>f=.next
 | .ret X,f=>∃ v,f=.ret v/\VRel t h X v
noncomputable def SimF (G:Gd) (A:Around) (env:Env) (Γ:Gam) (t:Tie) (s:Shared) (tree:Sem Flow) (st':MS) (fl:Fl) (loc':Loc):Prop :=
 ∀ (Q:Flow->Shared->Prop) (E:Value->Shared->Prop),(∀ f t' s',Step (own env) t t' s s'->Rel G t' st' s'->FrOk G A t' env Γ loc' s'->bu t' s'.heap fl f->Q f s')->wpAny G.M A tree Q E s
noncomputable def vz (G:Gd) (C:Calls) (d:Dp) (sc:Sc) (Γ:Gam) (n:Nat) (x:S) (ast:Stmt):Prop :=
 ∀ t st s env loc fl loc' st' A,AOk d A->TopA A env->env.scope.names=sc->FrOk G A t env Γ loc s->Rel G t st s->ex G.P C n x loc st=.ok (fl,loc') st'->SimF G A env Γ t s (exec ast env) st' fl loc'
noncomputable def b8 (G:Gd) (C:Calls) (d:Dp) (sc:Sc) (Γ:Gam) (n:Nat) (l:List S) (m:List Stmt):Prop :=
 ∀ t st s env loc fl loc' st' A,AOk d A->TopA A env->env.scope.names=sc->FrOk G A t env Γ loc s->Rel G t st s->exs G.P C n l loc st=.ok (fl,loc') st'->SimF G A env Γ t s (execs m env) st' fl loc'
variable {n:Nat}
theorem SimF.ofE {A:Around}{tree:Sem Flow}{fl:Fl}{loc':Loc}{t1:Tie}{s1:Shared} (S:Step noX t t1 s s1) (h:SimF G A env Γ t1 s1 tree st' fl loc') {Q:Flow->Shared->Prop}{E':Value->Shared->Prop}
  (k:∀ f t' s',Step (own env) t t' s s'->Rel G t' st' s'->FrOk G A t' env Γ loc' s'->bu t' s'.heap fl f->Q f s'):wpAny G.M A tree Q E' s1 :=
 h Q E' fun f t' s' S' R' F' r=>k f t' s' ((S.mono fun ξ z=>z.elim).trans S') R' F' r
theorem zbm:b8 G C d sc Γ n [] []:=by
 intro t st s env loc fl loc' st' A hA hT hsc F R e Q E k
 simp only[zgb,qg] at e
 cases e
 exact wpAny_execs_nil (k _ t s (.refl _ _ _) R F rfl)
theorem p8 {x:S}{l:List S}{ast:Stmt}{m:List Stmt} (h1:vz G C d sc Γ n x ast) (h2:b8 G C d sc Γ n l m):b8 G C d sc Γ n (x::l) (ast::m):=by
 intro t st s env loc fl loc' st' A hA hT hsc F R e Q E k
 simp only[zgb,qg] at e
 obtain⟨⟨f1,l1⟩,s1,e1,e⟩:=Res.bind_ok e
 refine wpAny_execs_cons (h1 t st s env loc f1 l1 s1 A hA hT hsc F R e1 _ _ fun f t1 σ1 S1 R1 F1 r1=>?_)
 cases f1 with
 | next =>
  have r1:f=.next:=r1
  subst r1
  exact h2 t1 s1 σ1 env l1 fl loc' st' A hA hT hsc F1 R1 e _ _ fun f t2 σ2 S2 R2 F2 r2=>k f t2 σ2 (S1.trans S2) R2 F2 r2
 | ret X =>
  obtain⟨v,rfl,r⟩:=r1
  cases e
  exact k _ t1 σ1 S1 R1 F1 ⟨v,rfl,r⟩
noncomputable def jf (x:Qe):Bool:=!(Nat.beq x.ctorIdx 8||Nat.beq x.ctorIdx 9||Nat.beq x.ctorIdx 10)
theorem yb {e:Qe} (h:jf e=true) (tg:Option Qe) (ln:Nat) (env:Env):swapsWith e tg ln env=pure false:=by
 cases e <;> first | rfl | exact z6 h
theorem sj {a:E}{x:Qe}{pos:Pos} (hx:jf x=true) (ha:z0 G C d sc Γ a x):vz G C d sc Γ n (.expr a) (.Expr x pos):=by
 intro t st s env loc fl loc' st' A hA hT hsc F R e Q E k
 rw[lq] at e
 obtain⟨V,s1,e1,e⟩:=Res.bnd_ok e
 cases e
 refine wpAny_Expr_any (ha t st s env loc _ _ A hA hsc F R e1 _ _ fun v t1 σ1 S1 R1 r1=>?_) (by unfold interactive;rw[F.fn];rfl) (yb hx _ _ _)
 exact k _ t1 σ1 (S1.mono fun ξ z=>z.elim) R1 (F.step R S1) rfl
theorem zix {pos:Pos}:vz G C d sc Γ n (.ret none) (.Return none pos):=by
 intro t st s env loc fl loc' st' A hA hT hsc F R e Q E k
 rw[p5] at e
 cases e
 exact wpAny_Return_none (k _ t s (.refl _ _ _) R F ⟨_,rfl,rfl⟩)
theorem de {a:E}{x:Qe}{pos:Pos} (ha:z0 G C d sc Γ a x):vz G C d sc Γ n (.ret (some a)) (.Return (some x) pos):=by
 intro t st s env loc fl loc' st' A hA hT hsc F R e Q E k
 rw[p5] at e
 obtain⟨V,s1,e1,e⟩:=Res.bnd_ok e
 cases e
 refine wpAny_Return_some (ha t st s env loc _ _ A hA hsc F R e1 _ _ fun v t1 σ1 S1 R1 r1=>?_)
 exact k _ t1 σ1 (S1.mono fun ξ z=>z.elim) R1 (F.step R S1) ⟨v,rfl,r1⟩
noncomputable def vt (sc:Sc) (y:Qf):Bool:=sc.lookup y == some .local||sc.lookup y == some .cell
theorem mr (hsc:env.scope.names=sc) {y:Qf} (h:vt sc y=true):env.kindOf y=some .local\/env.kindOf y=some .cell:=by
 unfold Env.kindOf;rw[hsc]
 simpa [vt] using h
theorem uh (gi:jb Γ) {i:Nat}{y:Qf}{a:E}{x:Qe}{yp pos:Pos} (hi:Γ[i]?=some (some y)) (hk:vt sc y=true) (hx:jf x=true) (ha:z0 G C d sc Γ a x):vz G C d sc Γ n (.assign i a) (.Assign [.Name y yp] x pos):=by
 intro t st s env loc fl loc' st' A hA hT hsc F R e Q E k
 rw[bk] at e
 obtain⟨V,s1,e1,e⟩:=Res.bnd_ok e
 split at e
 case isFalse=>exact zb e
 cases e
 refine wpAny_Assign_Name (ha t st s env loc _ _ A hA hsc F R e1 _ _ fun v t1 σ1 S1 R1 r1=>?_) (yb hx _ _ _)
 exact fx (F.step R S1) R1 gi hi (mr hsc hk) r1 fun σ2 S2 R2 F2=>k _ t1 σ2 ((S1.mono fun ξ z=>z.elim).trans S2) R2 F2 rfl
theorem zdn (e o:Qe) (a:Qf) (p:Pos) (ln:Nat) (env:Env):swapsWith e (some (.Attribute o a p)) ln env=pure false:=by cases e <;> rfl
theorem er (O:G.Ok N) (hcl:∀ c Ca,G.ca c=some Ca->ClsOk G Ca) {i:Nat}{a b:E}{x y:Qe}{ap pos:Pos} (hi:i < 13) (ha:z0 G C d sc Γ a x) (hb:z0 G C d sc Γ b y):vz G C d sc Γ n (.setattr a i b) (.Assign [.Attribute x (G.an i) ap] y pos):=by
 intro t st s env loc fl loc' st' A hA hT hsc F R e Q E k
 rw[b7] at e
 obtain⟨V,s1,e1,e⟩:=Res.bnd_ok e
 obtain⟨U,s2,e2,e⟩:=Res.bnd_ok e
 obtain⟨u,s3,e3,e⟩:=Res.bnd_ok e
 cases e
 refine plainObj_wpAny_Assign_Attribute (hb t st s env loc _ _ A hA hsc F R e1 _ _ fun v t1 σ1 S1 R1 r1=>?_) (zdn _ _ _ _ _ _)
 refine ha t1 s1 σ1 env loc _ _ A hA hsc (F.step R S1) R1 e2 _ _ fun w t2 σ2 S2 R2 r2=>?_
 refine ox O hcl hi R2 r2 (VRel.step S2 (fun ξ z=>z.elim) _ r1) e3 _ _ fun ξ t3 σ3 S3 R3 ξ=>?_
 exact k _ t3 σ3 ((((S1.trans S2).trans S3)).mono fun ξ z=>z.elim) R3 (((F.step R S1).step R1 S2).step R2 S3) rfl
theorem i4 {a b c:E}{x y z:Qe}{ap pos:Pos} (hz:jf z=true) (ha:z0 G C d sc Γ a x) (hb:z0 G C d sc Γ b y) (hc:z0 G C d sc Γ c z):vz G C d sc Γ n (.setitem a b c) (.Assign [.Subscript x y ap] z pos):=by
 intro t st s env loc fl loc' st' A hA hT hsc F R e Q E k
 rw[b4] at e
 obtain⟨V,s1,e1,e⟩:=Res.bnd_ok e
 obtain⟨U,s2,e2,e⟩:=Res.bnd_ok e
 obtain⟨W,s3,e3,e⟩:=Res.bnd_ok e
 obtain⟨u,s4,e4,e⟩:=Res.bnd_ok e
 cases e
 refine wpAny_Assign_Subscript (hc t st s env loc _ _ A hA hsc F R e1 _ _ fun v t1 σ1 S1 R1 r1=>?_) (yb hz _ _ _)
 have F1:=F.step R S1
 refine ha t1 s1 σ1 env loc _ _ A hA hsc F1 R1 e2 _ _ fun w t2 σ2 S2 R2 r2=>?_
 have F2:=F1.step R1 S2
 refine hb t2 s2 σ2 env loc _ _ A hA hsc F2 R2 e3 _ _ fun i t3 σ3 S3 R3 r3=>?_
 have F3:=F2.step R2 S3
 refine br R3 (VRel.step S3 (fun ξ z=>z.elim) _ r2) r3 (VRel.step (S2.trans S3) (fun ξ z=>z.elim) _ r1) e4 _ _ fun ξ t4 σ4 S4 R4 ξ=>?_
 exact k _ t4 σ4 ((((S1.trans S2).trans S3).trans S4).mono fun ξ z=>z.elim) R4 (F3.step R3 S4) rfl
theorem zm4 {c:E}{b1 b2:List S}{x:Qe}{m1 m2:List Stmt}{pos:Pos} (hc:bq G C d sc Γ c x) (h1:b8 G C d sc Γ n b1 m1) (h2:b8 G C d sc Γ n b2 m2):vz G C d sc Γ n (.ite c b1 b2) (.If x m1 m2 pos):=by
 intro t st s env loc fl loc' st' A hA hT hsc F R e Q E k
 rw[u7] at e
 obtain⟨V,s1,e1,e⟩:=Res.bnd_ok e
 obtain⟨b,s2,e2,e⟩:=Res.bnd_ok e
 obtain⟨rfl,rfl⟩:=jx e2
 refine wpAny_If (hc t st s env loc b _ A hA hsc F R e1 _ _ fun b' t1 σ1 S1 R1 r1=>?_)
 subst r1
 cases b' with
 | true =>
  simp only[if_true] at e ⊢
  exact SimF.ofE S1 (h1 t1 _ σ1 env loc fl loc' st' A hA hT hsc (F.step R S1) R1 e) k
 | false =>
  simp only[Bool.false_eq_true,if_false] at e ⊢
  exact SimF.ofE S1 (h2 t1 _ σ1 env loc fl loc' st' A hA hT hsc (F.step R S1) R1 e) k
end
end Internal
end
section
set_option maxRecDepth 100000
namespace Internal
open PySem PySem.W PyProof.Rows
section
variable {G:Gd}{N:Names}{C:Calls}{d:Dp}{sc:Sc}{Γ:Gam}{A:Around}{t:Tie}{st st':MS}{s:Shared}{env:Env}{loc:Loc}{X Y Z:V}{v w:Value}{n:Nat}
set_option genCtorIdx true in
inductive TgtOk (G:Gd) (C:Calls) (d:Dp) (sc:Sc) (Γ:Gam):T->Qe->Prop
 | loc {i:Nat}{y:Qf}{p:Pos} (hi:Γ[i]?=some (some y)) (hk:vt sc y=true):TgtOk G C d sc Γ (.loc i) (.Name y p)
 | item {a b:E}{x y:Qe}{p:Pos} (ha:z0 G C d sc Γ a x) (hb:z0 G C d sc Γ b y):TgtOk G C d sc Γ (.item a b) (.Subscript x y p)
set_option genCtorIdx true in
inductive TgtsOk (G:Gd) (C:Calls) (d:Dp) (sc:Sc) (Γ:Gam):List T->List Qe->Prop
 | nil:TgtsOk G C d sc Γ [] []
 | cons {tg:T}{l:List T}{x:Qe}{m:List Qe}:TgtOk G C d sc Γ tg x->TgtsOk G C d sc Γ l m->TgtsOk G C d sc Γ (tg::l) (x::m)
set_option genCtorIdx true in
inductive ForTgt (G:Gd) (C:Calls) (d:Dp) (sc:Sc) (Γ:Gam):T ⊕ List T->Qe->Prop
 | one {tg:T}{x:Qe}:TgtOk G C d sc Γ tg x->ForTgt G C d sc Γ (.inl tg) x
 | many {ts:List T}{xs:List Qe}{k:Nat}{p:Pos}:TgtsOk G C d sc Γ ts xs->ForTgt G C d sc Γ (.inr ts) (.Tuple xs k p)
theorem ze3 {o i:Qe}{pos':Pos}{v:Value}{Q:Unit->Shared->Prop}{E':Value->Shared->Prop}
  (h:wpAny G.M A (eval o env) (fun ov s₂=>wpAny G.M A (eval i env) (fun iv s₃=>wpAny G.M A (PySem.setItem ov iv v) Q E' s₃) E' s₂) E' s):wpAny G.M A (assign (.Subscript o i pos') env v) Q E' s:=fun Δ p hΔ=>by
 obtain⟨rl,e⟩:∃ rl:Value->Value->List Value,assign (.Subscript o i pos') env v=(do
   let ov <- holding [v] (eval o env)
   let iv <- holding [v,ov] (eval i env)
   standAt pos'
   holding [v,ov,iv] (PySem.setItem ov iv v)
   release (rl ov iv) []):=⟨_,PySem.assign_Subscript o i pos' v⟩
 simp only[e,Sem.wp_bind',Sem.wp_holding,Sem.wp_cmd_standAt,Sem.wp_release]
 exact Sem.wp_mono _ Δ _ (fun ov p₂ s₂ h₂=>Sem.wp_mono _ Δ _ (fun iv ξ s₃ h₃=>h₃ Δ _ hΔ) (fun ξ ξ ξ h'=>h') _ _ (h₂ Δ p₂ hΔ)) (fun ξ ξ ξ h'=>h') _ _ (h Δ _ hΔ)
noncomputable def zs6 (G:Gd) (A:Around) (env:Env) (Γ:Gam) (t:Tie) (s:Shared) (tree:Sem Unit) (st':MS) (loc':Loc):Prop :=
 ∀ {Q:Unit->Shared->Prop}{E':Value->Shared->Prop},(∀ t' s',Step (own env) t t' s s'->Rel G t' st' s'->FrOk G A t' env Γ loc' s'->Q () s')->wpAny G.M A tree Q E' s
theorem zn4 (gi:jb Γ) (hA:AOk d A) {tg:T}{x:Qe} (h:TgtOk G C d sc Γ tg x) (hsc:env.scope.names=sc) (F:FrOk G A t env Γ loc s) (R:Rel G t st s) (r:VRel t s.heap X v) {loc':Loc} (e:zh8 G.P C tg X loc st=.ok loc' st'):zs6 G A env Γ t s (assign x env v) st' loc':=by
 intro Q E' q
 cases h with
 | loc hi hk =>
  simp only[zh8] at e
  split at e
  case isFalse=>exact zb e
  cases e
  exact wpAny_assign_Name (fx F R gi hi (mr hsc hk) r (q t))
 | item ha hb =>
  obtain⟨U,s2,e2,e⟩:=Res.bind_ok e
  obtain⟨W,s3,e3,e⟩:=Res.bind_ok e
  obtain⟨u,s4,e4,e⟩:=Res.bind_ok e
  cases e
  refine ze3 (ha t st s env loc _ _ A hA hsc F R e2 _ _ fun w t2 σ2 S2 R2 r2=>?_)
  have F2:=F.step R S2
  refine hb t2 s2 σ2 env loc _ _ A hA hsc F2 R2 e3 _ _ fun i t3 σ3 S3 R3 r3=>?_
  refine br R3 (VRel.step S3 (fun ξ z=>z.elim) _ r2) r3 (VRel.step (S2.trans S3) (fun ξ z=>z.elim) _ r) e4 _ _ fun ξ t4 σ4 S4 R4 ξ=>?_
  exact q t4 σ4 (((S2.trans S3).trans S4).mono fun ξ z=>z.elim) R4 ((F2.step R2 S3).step R3 S4)
theorem zjp {ts:List T}{xs:List Qe} (h:TgtsOk G C d sc Γ ts xs) (env:Env):(assignEach xs env).map (·.2)=xs.map (fun x=>assign x env)/\(assignEach xs env).findIdx? (·.1)=none/\(assignEach xs env).length=ts.length:=by
 induction h with
 | nil=>exact⟨rfl,rfl,rfl⟩
 | @cons tg l x m h1 h2 ih =>
  have e:assignEach (x::m) env=(false,assign x env)::assignEach m env:=by cases h1 <;> rfl
  rw[e]
  exact⟨by rw[Zz,ih.1];rfl,by rw[List.findIdx?_cons,ih.2.1];rfl,by rw[Z4,ih.2.2];rfl⟩
theorem zow (gi:jb Γ) (hA:AOk d A) (hsc:env.scope.names=sc) {ts:List T}{xs:List Qe} (h:TgtsOk G C d sc Γ ts xs):∀ {Xs:List V}{vs:List Value}{loc loc':Loc}{t:Tie}{st:MS}{s:Shared},FrOk G A t env Γ loc s->Rel G t st s->VRels t s.heap Xs vs->ug G.P C ts Xs loc st=.ok loc' st'->
  zs6 G A env Γ t s (assignInOrder (xs.map fun x=>assign x env) vs) st' loc':=by
 induction h with
 | nil =>
  intro Xs vs loc loc' t st s F R r e Q E' q
  cases Xs with
  | nil=>cases e;cases r;exact assignInOrder_nil (q t s (.refl _ _ _) R F)
  | cons a l=>exact zb e
 | cons h1 h2 ih =>
  intro Xs vs loc loc' t st s F R r e Q E' q
  cases Xs with
  | nil=>exact zb e
  | cons a l =>
   obtain⟨v,r',rfl,ra,rl⟩:=r
   obtain⟨l1,s1,e1,e⟩:=Res.bind_ok (show(zh8 _ _ _ a loc st).bind (fun l' s=>ug _ _ _ l l' s)=_ from e)
   refine assignInOrder_cons (zn4 gi hA h1 hsc F R ra e1 fun t1 σ1 S1 R1 F1=>?_)
   exact ih F1 R1 (VRels.step S1 F.ownPv _ rl) e fun t2 σ2 S2 R2 F2=>q t2 σ2 (S1.trans S2) R2 F2
theorem pt {P:Prog}:∀ {ts:List T}{Xs:List V}{loc loc':Loc}{st st':MS},ug P C ts Xs loc st=.ok loc' st'->ts.length=Xs.length
 | [],[],_,_,_,_,_=>rfl
 | [],_::_,_,_,_,_,e=>zb e
 | _::_,[],_,_,_,_,e=>zb e
 | a::l,b::m,loc,_,st,_,e=>by
  obtain⟨_,_,_,e⟩:=Res.bind_ok (show(zh8 P C a b loc st).bind (fun l' s=>ug P C l m l' s)=_ from e)
  exact Qd (·+1) (pt e)
theorem bp {elts:List Qe}{x1:Nat}{pos:Pos}{t:Addr}{items:Array Value}{Q:Unit->Shared->Prop}{E:Value->Shared->Prop} (hh:A.handled=none) (ht:s.heap.IsList t items)
  (hn:(assignEach elts env).length=items.size) (hstar:(assignEach elts env).findIdx? (·.1)=none)
  (h:∀ h',Heap.ExtBut s.heap.objs.size s.heap h'->wpAny G.M A (assignInOrder ((assignEach elts env).map (·.2)) items.toList) Q E {s with heap:=h'}) :
  wpAny G.M A (assign (.Tuple elts x1 pos) env (.ref t)) Q E s:=by
 rw[arm_assign_Tuple]
 refine Ze (wpAny_standAt ?_)
 unfold unpack
 rw[hn,hstar]
 exact Ze (wpAny_holding (kun_itemsOf hh ht h))
theorem mj (hq:d.q=true) (gi:jb Γ) (hA:AOk d A) (hsc:env.scope.names=sc) {ts:List T}{xs:List Qe}{k:Nat}{p:Pos} (h:TgtsOk G C d sc Γ ts xs) (F:FrOk G A t env Γ loc s) (R:Rel G t st s) (r:VRel t s.heap X v) {loc':Loc} (e:pi G.P C ts X loc st=.ok loc' st'):zs6 G A env Γ t s (assign (.Tuple xs k p) env v) st' loc':=by
 intro Q E' q
 obtain⟨h1,h2,h3⟩:=zjp h env
 have go:∀ {Xs:List V}{vs:Array Value}{h':Heap},VRels t s.heap Xs vs.toList->ug G.P C ts Xs loc st=.ok loc' st'->Heap.ExtBut s.heap.objs.size s.heap h'->wpAny G.M A (assignInOrder ((assignEach xs env).map (·.2)) vs.toList) Q E' {s with heap:=h'}:=fun {Xs vs h'} rr e hext=>by
  rw[h1]
  have hk:∀ b o,s.heap.get? b=some o->h'.get? b=some o:=fun b o e=>hext b o (fun z=>by rw[z,qe] at e;exact za e) e
  have S0:Step noX t t s {s with heap:=h'}:=Step.grow R hk rfl rfl
  exact zow gi hA hsc h (F.step R S0) (R.grow hk rfl rfl) (VRels.step S0 (fun ξ z=>z.elim) _ rr) e fun t2 σ2 S2 R2 F2=>q t2 σ2 ((S0.mono fun ξ z=>z.elim).trans S2) R2 F2
 cases X with
 | tup Xs =>
  obtain⟨a,vs,rfl,io,na,sz,rr⟩:=r
  exact wpAny_assign_Tuple (hA.hd hq) io.isTuple (by rw[h3,pt (show ug G.P C ts Xs loc st=_ from e),jd rr]) h2 fun h' hext=>go rr e hext
 | lst Xs =>
  obtain⟨a,vs,rfl,io,na,sz,rr⟩:=r
  exact bp (hA.hd hq) io.isList (by rw[h3,pt (show ug G.P C ts Xs loc st=_ from e),jd rr]) h2 fun h' hext=>go rr e hext
 | _=>exact zb e
noncomputable def f7:Qe->Bool
 | .Call ..=>true
 | .Name ..=>true
 | .Subscript ..=>true
 | _=>false
theorem di {e:Qe} (h:f7 e=true) (xs:List Qe) (k:Nat) (p:Pos) (ln:Nat) (env:Env):swapsWithSole [.Tuple xs k p] e ln env=pure false/\swappedStores [.Tuple xs k p] e env=pure none:=by
 cases e <;> first | exact⟨rfl,rfl⟩ | exact z6 h
theorem zbz (hq:d.q=true) (gi:jb Γ) {ts:List T}{a:E}{xs:List Qe}{x:Qe}{k:Nat}{tp pos:Pos} (h:TgtsOk G C d sc Γ ts xs) (hx:f7 x=true) (ha:z0 G C d sc Γ a x):vz G C d sc Γ n (.unpack ts a) (.Assign [.Tuple xs k tp] x pos):=by
 intro t st s env loc fl loc' st' A hA hT hsc F R e Q E k
 rw[o7] at e
 obtain⟨V,s1,e1,e⟩:=Res.bnd_ok e
 obtain⟨l2,s2,e2,e⟩:=Res.bnd_ok e
 cases e
 refine Assign_Tuple (ha t st s env loc _ _ A hA hsc F R e1 _ _ fun v t1 σ1 S1 R1 r1=>?_) (di hx _ _ _ _ _).1 (di hx _ _ _ 0 _).2
 exact mj hq gi hA hsc h (F.step R S1) R1 r1 e2 fun t2 σ2 S2 R2 F2=>k _ t2 σ2 ((S1.mono fun ξ z=>z.elim).trans S2) R2 F2 rfl
theorem Stk.back {t₁:Tie}{h h' h₁:Heap}{pv:Addr->Prop} (K:Stk A t h) (K1:Stk A t₁ h₁) (hs:t.st=t₁.st) (hp:pv=t₁.pv) {l:List Env} (hl:l=t₁.st) (hx:∀ L o,t₁.pv L->h.get? L=some o->h'.get? L=some o):Stk A {t with pv:=pv,st:=l} h' :=
 ⟨by rw[K.fr,hs,hl],fun e he=>by
  have he:e∈t₁.st:=hl▸he
  obtain⟨h1,L,o,h2,h3,h4,h5⟩:=K.ob e (hs▸he)
  obtain⟨-,L',o',g2,g3,-⟩:=K1.ob e he
  rw[h2] at g2;cases g2
  exact⟨h1,L,o,h2,hp▸g3,hx L o g3 h4,h5⟩⟩
theorem FrOk.forget {P L:Addr->Prop}{t₁ t₂:Tie}{s₁ s₂:Shared} (Fg:Forget P L t₁ t₂ s₁ s₂) (F:FrOk G A t₁ env Γ loc s₁) (hp:∀ a,own env a->t₂.pv a) (ho:∀ a o,own env a->s₁.heap.get? a=some o->s₂.heap.get? a=some o) (sk:Stk A t₂ s₂.heap):FrOk G A t₂ env Γ loc s₂:=by
 obtain⟨m,cm,⟨o,es,ep,hl,r⟩,hcc,hz,hs⟩:=F.ex
 refine⟨sk,F.fn,F.gl,F.bl,hp _ (.inl rfl),fun n c h=>hp _ (.inr ⟨n,h⟩),F.apart,m,cm,⟨o,es,ep,ho _ _ (.inl rfl) hl,r⟩,fun n c e=>?_,hz,fun i x X e1 e2=>?_⟩
 ·obtain⟨oc,h1,h2⟩:=hcc n c e
  exact⟨oc,ho _ _ (.inr ⟨n,e⟩) h1,h2⟩
 ·obtain⟨v,hv,r⟩:=hs i x X e1 e2
  exact⟨v,VRel.forget Fg X hv,r⟩
theorem ao {elts:List Qe}{k:Nat}{pos:Pos}{I l T:Addr}{i:Nat}{Q:Unit->Shared->Prop}{E:Value->Shared->Prop} (hit:s.heap.IsTupleIter I l i) (hQ:Q () s) :
  wpAny G.M A (letOwnedTupleGo (.Tuple elts k pos) (.ref I) (.ref T)) Q E s:=by
 obtain⟨o,ho,hc,hd⟩:=hit
 unfold letOwnedTupleGo
 refine Ze (wpAny_load ho ?_)
 rw[hc,hd]
 exact Zr hQ
theorem zrr (hq:d.q=true) (gi:jb Γ) (hA:AOk d A) {ts:T ⊕ List T}{tast:Qe} (ht:ForTgt G C d sc Γ ts tast) (hsc:env.scope.names=sc) {s1:MS}{range:Bool}{src:V} (hfo:mt ts range src s1=true) {I:Addr}{i:Nat} (FA:FrOk G A t env Γ loc s) (RA:Rel G t st s) (rv:VRel t s.heap X v)
  (hIA:ItOk G s1 t s I range src i) {loc':Loc} (e2:wu G.P C ts X loc st=.ok loc' st') {Q':Unit->Shared->Prop}{E':Value->Shared->Prop} (q:∀ t' s',Step (own env) t t' s s'->Rel G t' st' s'->FrOk G A t' env Γ loc' s'->Q' () s') :
  wpAny G.M A (letOwnedTupleGo tast (.ref I) v) (fun ξ s'=>wpAny G.M A (assign tast env v) Q' E' s') E' s:=by
 cases ht with
 | one h =>
  have hl:letOwnedTupleGo tast (.ref I) v=pure ():=by cases h <;> rfl
  rw[hl]
  exact Zr (zn4 gi hA h hsc FA RA rv e2 q)
 | many h =>
  obtain⟨hr,hfs⟩:=Zj.1 (hfo:(!range&&(zr s1 src).isSome)=true)
  cases range with
  | true=>exact z6 hr
  | false =>
  cases X with
  | tup Xs =>
   obtain⟨a',vs,rfl,io⟩:=id rv
   rcases hIA with ⟨kk,l,a,es,r,hli⟩ | ⟨r,dd,a,kvs,ep,rfl,es,_⟩ | ⟨x,St,rfl,_⟩
   ·cases kk with
    | true=>exact wpAny_letOwnedTupleGo_listiter (show Heap.IsListIter _ I a _ from hli) (mj hq gi hA hsc h FA RA rv e2 q)
    | false=>exact ao (show Heap.IsTupleIter _ I a _ from hli) (mj hq gi hA hsc h FA RA rv e2 q)
   ·cases hz:zr s1 (.ref r) with
    | none=>rw[hz] at hfs;exact z6 hfs
    | some p=>rw[d5 hz] at es;exact za es
   ·exact z6 hfs
  | _=>exact zb e2
theorem zfn {a b:Fl}{l m:Loc}{s t:MS} (e:Res.ok (a,l) s=Res.ok (b,m) t):a=b/\l=m/\s=t:=by cases e;exact⟨rfl,rfl,rfl⟩
theorem cf {st₀:MS}{range:Bool}{src:V}{tg:V->Loc->MS->Res Loc}{bd:Loc->MS->Res (Fl×Loc)}{l l':Loc}{s s':MS}{fl:Fl} (e:qt st₀ range src tg bd [] l s=.ok (fl,l') s'):stays st₀ s range src=true/\.next=fl/\l=l'/\s=s':=by
 rw[vj] at e
 obtain⟨h,e⟩:=jl e
 exact⟨h,zfn e⟩
theorem li {st₀:MS}{range:Bool}{src x:V}{xs:List V}{tg:V->Loc->MS->Res Loc}{bd:Loc->MS->Res (Fl×Loc)}{l l':Loc}{s s':MS}{fl:Fl} (e:qt st₀ range src tg bd (x::xs) l s=.ok (fl,l') s') :
  stays st₀ s range src=true/\∃ l2 s2 f3 l3 s3,tg x l s=.ok l2 s2/\bd l2 s2=.ok (f3,l3) s3/\(match f3 with | .next=>qt st₀ range src tg bd xs l3 s3 | .ret v=>.ok (.ret v,l3) s3)=.ok (fl,l') s':=by
 rw[xe] at e
 obtain⟨h,e⟩:=jl e
 obtain⟨l2,s2,e2,e⟩:=Res.bnd_ok e
 obtain⟨⟨f3,l3⟩,s3,e3,e⟩:=Res.bind_ok e
 exact⟨h,l2,s2,f3,l3,s3,e2,e3,e⟩
set_option genCtorIdx true in
inductive FInv (G:Gd) (A:Around) (C:Calls) (t:Tie) (env:Env) (Γ:Gam) (I:Addr) (s0:Shared) (s1:MS) (range:Bool) (src:V) (xs:List V) (ts:T ⊕ List T) (n:Nat) (body:List S) (fl:Fl) (loc':Loc) (st':MS):Nat->Shared->Prop
 | mk (τ:Tie) (σ:Shared) (sti:MS) (locI:Loc) (done rest:List V) (hxs:xs=done++rest) (S:Step (fun a=>a=I\/own env a) t τ s0 σ) (R:Rel G τ sti σ) (F:FrOk G A τ env Γ locI σ) (hI:ItOk G s1 τ σ I range src done.length)
   (e:qt s1 range src (wu G.P C ts) (exs G.P C n body) rest locI sti=.ok (fl,loc') st'):FInv G A C t env Γ I s0 s1 range src xs ts n body fl loc' st' rest.length σ
theorem zli (hq:d.q=true) (gi:jb Γ) {ts:T ⊕ List T}{range:Bool}{body:List S}{tast:Qe}{m:List Stmt} (ht:ForTgt G C d sc Γ ts tast) (hb:b8 G C d sc Γ n body m) (hA:AOk d A) (hT:TopA A env) (hsc:env.scope.names=sc)
  {I:Addr}{s0 σ:Shared}{s1 sti st':MS}{src:V}{xs done rest:List V}{τ:Tie}{locI loc':Loc}{fl:Fl}{RR:Flow->Shared->Prop}{J:Shared->Prop}{EE:Value->Shared->Prop}
  (hfo:mt ts range src s1=true) (hx:zz s1 range src=some xs) (nI:¬ own env I) (hpI:t.pv I) (nF0:¬ t.Fr I)
  (hxs:xs=done++rest) (S:Step (fun a=>a=I\/own env a) t τ s0 σ) (Rr:Rel G τ sti σ) (Fr:FrOk G A τ env Γ locI σ) (hIt:ItOk G s1 τ σ I range src done.length) (e:qt s1 range src (wu G.P C ts) (exs G.P C n body) rest locI sti=.ok (fl,loc') st')
  (fin:∀ {τ:Tie}{σ5 se:Shared}{f:Flow},Step (fun a=>a=I\/own env a) t τ s0 σ5->Rel G τ st' σ5->FrOk G A τ env Γ loc' σ5->(∀ b o,b≠I->σ5.heap.get? b=some o->se.heap.get? b=some o)->se.gens=σ5.gens->se.os=σ5.os->bu τ σ5.heap fl f->RR f se)
  (hJ:∀ m s,m < rest.length->FInv G A C t env Γ I s0 s1 range src xs ts n body fl loc' st' m s->J s) :
  wpAny G.M A (pyNext (.ref I)) (fun r s₁=>match r with
   | none=>wpAny G.M A (execs [] env) (fun f s₃=>RR f s₃) EE s₁
   | some v=>wpAny G.M A (letOwnedTupleGo tast (.ref I) v) (fun ξ s₁' =>
     wpAny G.M A (assign tast env v) (fun ξ s₂=>wpAny G.M A (execs m env) (fun f s₃=>match f with
      | .next | .cont=>J s₃
      | .brk=>RR .next s₃
      | .ret v=>RR (.ret v) s₃) EE s₂) EE s₁') EE s₁) EE σ:=by
 have pI:τ.pv I:=by rw[S.le.pv];exact hpI
 have nF:¬ τ.Fr I:=fun f=>nF0 (S.le.fr f)
 cases rest with
 | nil =>
  obtain⟨hst,e1,e2,e3⟩:=cf e
  have hIt':ItOk G s1 τ σ I range src xs.length:=by rw[hxs,Z0];exact hIt
  refine zki Rr (hA.hd hq) hx hst hIt' fun h' tk hext=>?_
  exact wpAny_execs_nil (fin S (e3▸Rr) (e2▸Fr) (fun b o nb e=>hext b o nb e) rfl rfl (show bu τ σ.heap fl .next from e1▸rfl))
 | cons x0 rest =>
  refine byQ fun Q' k'=>?_
  obtain⟨hst,l2,s2,f3,l3,s3,e2,e3,e⟩:=li e
  refine k' ?_
  have hi:xs[done.length]?=some x0:=by rw[hxs,List.getElem?_append_right (Zs _),Nat.sub_self];rfl
  refine zf8 Rr pI hx hst hIt hi fun v h1 tk1 SA RA rv hIA=>?_
  have xA:∀ a,a=I->τ.pv a:=fun a z=>by rw[z];exact pI
  have FA:FrOk G A τ env Γ locI {σ with heap:=h1,toks:=tk1}:=Fr.stepX Rr SA xA (fun z=>nI (.inl z.symm)) (fun nm c hc z=>nI (.inr ⟨nm,by rw[<- z];exact hc⟩)) fun a z=>by rw[z];exact nF
  have SA':Step (fun a=>a=I\/own env a) τ τ σ {σ with heap:=h1,toks:=tk1}:=SA.mono fun a z=>.inl z
  refine zrr hq gi hA ht hsc hfo FA RA rv hIA e2 fun τ4 σ4 S4 R4 F4=>?_
  have S4':Step (fun a=>a=I\/own env a) τ τ4 {σ with heap:=h1,toks:=tk1} σ4:=S4.mono fun a z=>.inr z
  have hI4:=hIA.step S4 FA.ownPv RA.pv pI nI nF
  have nF4:¬ τ4.Fr I:=fun f=>nF (S4.le.fr f)
  have pI:τ4.pv I:=by rw[S4.le.pv];exact pI
  refine hb τ4 s2 σ4 env l2 f3 l3 s3 A hA hT hsc F4 R4 e3 _ _ fun f t5 σ5 S5 R5 F5 r5=>?_
  have S5':Step (fun a=>a=I\/own env a) τ4 t5 σ4 σ5:=S5.mono fun a z=>.inr z
  have S05:=((S.trans SA').trans S4').trans S5'
  cases f3 with
  | next =>
   have r5:f=.next:=r5
   subst r5
   refine hJ _ _ (Zy _) ⟨t5,_,s3,l3,done++[x0],rest,by rw[hxs,Z3];rfl,S05,R5,F5,?_,e⟩
   rw[Zf]
   exact hI4.step S5 F4.ownPv R4.pv pI nI nF4
  | ret V3 =>
   obtain⟨u,rfl,ru⟩:=r5
   obtain⟨q1,q2,q3⟩:=zfn e
   exact fin S05 (q3▸R5) (q2▸F5) (fun ξ ξ ξ e=>e) rfl rfl (show bu t5 σ5.heap fl (.ret u) from q1▸⟨u,rfl,ru⟩)
theorem zpx {I:Addr}{t1:Tie}{σ1 s0 s:Shared}{Q:Flow->Shared->Prop}{loc':Loc}{fl:Fl} (np:∀ a,a=I->σ1.heap.get? a=none) (hk:∀ b o,σ1.heap.get? b=some o->s0.heap.get? b=some o) (hg:s0.gens=σ1.gens) (ho:s0.os=σ1.os) (S1:Step noX t t1 s σ1) (F1:FrOk G A t1 env Γ loc σ1) (nP:∀ a,t1.pv a->¬ a=I) (nI:¬ own env I)
  (k:∀ f t' s',Step (own env) t t' s s'->Rel G t' st' s'->FrOk G A t' env Γ loc' s'->bu t' s'.heap fl f->Q f s')
  {τ:Tie}{σ5 se:Shared}{f:Flow} (S:Step (fun a=>a=I\/own env a) (t1.hide fun a=>a=I) τ s0 σ5) (R5:Rel G τ st' σ5) (F5:FrOk G A τ env Γ loc' σ5) (hext:∀ b o,b≠I->σ5.heap.get? b=some o->se.heap.get? b=some o) (hg5:se.gens=σ5.gens) (ho5:se.os=σ5.os) (rf:bu τ σ5.heap fl f):Q f se:=by
 have hpv:τ.pv=(t1.hide fun a=>a=I).pv:=S.le.pv
 have Fg:Forget (fun a=>a=I) (own env) τ {τ with pv:=t1.pv,st:=t1.st} σ5 se :=
  ⟨rfl,rfl,fun a q=>⟨by rw[hpv];exact .inl q,nP a q⟩,fun a q=>by rw[hpv];exact .inr q,fun a q=>⟨F5.ownPv a q,by
   obtain⟨o,e⟩:=Option.isSome_iff_exists.mp (R5.live a (.inr (F5.ownPv a q)))
   rw[hext a o (fun z=>nI (z▸q)) e];rfl⟩,fun b o nb ξ e=>hext b o nb e,hg5,ho5,rfl⟩
 have S':=Step.unhide (t:=t1) (L:=own env) (fun a q=>q) np hk hg ho S Fg
 refine k f _ se ((S1.mono fun ξ z=>z.elim).trans S') (R5.forget Fg) (F5.forget Fg (fun a q=>F1.ownPv a q) (fun a o q e=>hext a o (fun z=>nI (z▸q)) e) (F5.sk.back F1.sk S.le.st rfl rfl fun L o q e=>hext L o (fun z=>nP L q z) e)) ?_
 cases fl with
 | next=>exact rf
 | ret X=>obtain⟨v,q1,q2⟩:=rf;exact⟨v,q1,VRel.forget Fg _ q2⟩
theorem zl3 (hq:d.q=true) (O:G.Ok N) (gi:jb Γ) {ts:T ⊕ List T}{range:Bool}{it:E}{body:List S}{tast iast j:Qe}{m:List Stmt}{pos:Pos} (ht:ForTgt G C d sc Γ ts tast) (hset:uy iast=true) (hia:IterAst sc range iast j) (hj:z0 G C d sc Γ it j) (hb:b8 G C d sc Γ n body m) :
  vz G C d sc Γ n (.for_ ts range it body) (.For tast iast m [] pos):=by
 intro t st s env loc fl loc' st' A hA hT hsc F R e Q E k
 rw[zc6] at e
 obtain⟨src,s1,e1,e⟩:=Res.bnd_ok e
 obtain⟨xs,hx,e⟩:=zgw e
 obtain⟨hfo,e⟩:=jl e
 refine wpAny_For (zgh O hia hj hA hsc F R e1 hx fun t1 σ1 S1 R1 s0 I hk hI hIl hg ho hit=>?_) (m5 hset env)
 let P:Addr->Prop:=fun a=>a=I
 have np:∀ a,P a->σ1.heap.get? a=none:=fun a z=>by rw[show a=I from z];exact hI
 have F1:=F.step R S1
 have R0:Rel G (t1.hide P) s1 s0:=R1.hideGrow np hk (fun a z=>by rw[show a=I from z];exact hIl) hg ho
 have F0:FrOk G A (t1.hide P) env Γ loc s0:=F1.hideGrow np hk hg ho
 have SG:Step noX (t1.hide P) (t1.hide P) σ1 s0:=⟨.refl _,fun a o e ξ ξ ξ=>hk a o e,fun a o e ξ ξ ξ=>⟨o.slots,hk a o e⟩,fun ξ o=>.inl o,fun a o e=>by rw[hk a o e];rfl,hg,ho⟩
 have I0:ItOk G s1 (t1.hide P) s0 I range src 0:=hit _ _ (fun a r=>VRel.step SG (fun ξ z=>z.elim) _ (VRel.hide np _ r)) rfl fun b o e=>e
 have nP:∀ a,t1.pv a->¬ P a:=fun a q z=>by
  have:=R1.live a (.inr q)
  rw[np a z] at this;exact z6 this
 have nI:¬ own env I:=fun q=>nP I (F1.ownPv I q) rfl
 have nF0:¬ (t1.hide P).Fr I:=F1.sk.fresh hI
 refine codeAny_forLoop_any (FInv G A C (t1.hide P) env Γ I s0 s1 range src xs ts n body fl loc' st') (fun nn σ h=>?_) xs.length ⟨t1.hide P,s0,s1,loc,[],xs,rfl,.refl _ _ _,R0,F0,I0,e⟩
 cases h with
 | mk τ σ sti locI done rest hxs S Rr Fr hIt e=>exact zli (t:=t1.hide P) hq gi ht hb hA hT hsc hfo hx nI (.inr rfl) nF0 hxs S Rr Fr hIt e (zpx np hk hg ho S1 F1 nP nI k) fun m s hm h=>⟨m,hm,h⟩
theorem zle {test:Loc->MS->Res V}{bd:Loc->MS->Res (Fl×Loc)}{k:Nat}{l l':Loc}{s s':MS}{fl:Fl} (e:ka test bd (k+1) l s=.ok (fl,l') s') :
  ∃ b s1,test l s=.ok (.bool b) s1/\(if b then ∃ f3 l3 s3,bd l s1=.ok (f3,l3) s3/\(match f3 with | .next=>ka test bd k l3 s3 | .ret v=>.ok (.ret v,l3) s3)=.ok (fl,l') s' else .next=fl/\l=l'/\s1=s'):=by
 obtain⟨V1,s1,e1,ea⟩:=Res.bnd_ok e
 obtain⟨b,s2,e2,eb⟩:=Res.bnd_ok ea
 obtain⟨rfl,rfl⟩:=jx e2
 refine⟨b,s2,e1,?_⟩
 cases b with
 | true =>
  obtain⟨⟨f3,l3⟩,s3,e3,e⟩:=Res.bind_ok eb
  exact⟨f3,l3,s3,e3,e⟩
 | false=>exact zfn eb
set_option genCtorIdx true in
inductive WhI (G:Gd) (A:Around) (C:Calls) (t:Tie) (env:Env) (Γ:Gam) (s:Shared) (c:E) (n:Nat) (body:List S) (fl:Fl) (loc':Loc) (st':MS) (k:Nat) (σ:Shared):Prop
 | mk (τ:Tie) (sti:MS) (locI:Loc) (S:Step (own env) t τ s σ) (R:Rel G τ sti σ) (F:FrOk G A τ env Γ locI σ) (e:ka (ev G.P C c) (exs G.P C n body) k locI sti=.ok (fl,loc') st')
theorem ze9 {c:E}{body:List S}{x:Qe}{m:List Stmt} (hc:bq G C d sc Γ c x) (hb:b8 G C d sc Γ n body m) (hA:AOk d A) (hT:TopA A env) (hsc:env.scope.names=sc) {fl:Fl}{loc' locI:Loc}{σ:Shared}{τ:Tie}{sti:MS}{k:Nat}{RR:Flow->Shared->Prop}{J:Shared->Prop}{EE:Value->Shared->Prop}
  (S:Step (own env) t τ s σ) (Rr:Rel G τ sti σ) (Fr:FrOk G A τ env Γ locI σ) (e:ka (ev G.P C c) (exs G.P C n body) k locI sti=.ok (fl,loc') st')
  (fin:∀ {f t' s'},Step (own env) t t' s s'->Rel G t' st' s'->FrOk G A t' env Γ loc' s'->bu t' s'.heap fl f->RR f s') (hJ:∀ j s',j < k->WhI G A C t env Γ s c n body fl loc' st' j s'->J s') :
  wpAny G.M A (isTrue x env (eval x env)) (fun b s₂ =>
   if b then wpAny G.M A (execs m env) (fun f s₃=>match f with
     | .next | .cont=>J s₃
     | .brk=>RR .next s₃
     | .ret v=>RR (.ret v) s₃) EE s₂
   else wpAny G.M A (execs [] env) (fun f s₃=>RR f s₃) EE s₂) EE σ:=by
 cases k with
 | zero=>exact zb e
 | succ k =>
  obtain⟨b,s1,e1,e⟩:=zle e
  refine hc τ sti σ env locI b _ A hA hsc Fr Rr e1 _ _ fun b' t1 σ1 S1 R1 r1=>?_
  subst r1
  have S1':=S.trans (S1.mono fun ξ z=>z.elim)
  have F1:=Fr.step Rr S1
  cases b' with
  | true =>
   obtain⟨f3,l3,s3,e3,e⟩:=e
   refine hb t1 _ σ1 env locI f3 l3 s3 A hA hT hsc F1 R1 e3 _ _ fun f t5 σ5 S5 R5 F5 r5=>?_
   cases f3 with
   | next =>
    have r5:f=.next:=r5
    subst r5
    exact hJ k σ5 (Zy _) ⟨t5,s3,l3,S1'.trans S5,R5,F5,e⟩
   | ret V3 =>
    obtain⟨u,rfl,ru⟩:=r5
    obtain⟨q1,q2,q3⟩:=zfn e
    exact fin (S1'.trans S5) (q3▸R5) (q2▸F5) (show bu t5 σ5.heap fl (.ret u) from q1▸⟨u,rfl,ru⟩)
  | false =>
   obtain⟨q1,q2,q3⟩:=e
   exact wpAny_execs_nil (fin S1' (q3▸R1) (q2▸F1) (show bu t1 σ1.heap fl .next from q1▸rfl))
theorem zel {c:E}{body:List S}{x:Qe}{m:List Stmt}{pos:Pos} (hc:bq G C d sc Γ c x) (hb:b8 G C d sc Γ n body m):vz G C d sc Γ n (.while_ c body) (.While x m [] pos):=by
 intro t st s env loc fl loc' st' A hA hT hsc F R e Q E k
 rw[zbo] at e
 refine wpAny_While (codeAny_whileLoop (WhI G A C t env Γ s c n body fl loc' st') (fun j σ h=>?_) n ⟨t,st,loc,.refl _ _ _,R,F,e⟩)
 cases h with
 | mk τ sti locI S Rr Fr e=>exact ze9 hc hb hA hT hsc S Rr Fr e (fun S R F r=>k _ _ _ S R F r) fun j s' hj h=>⟨j,hj,h⟩
end
end Internal
end
section
set_option maxRecDepth 100000
namespace Internal
open PySem PySem.W PyProof.Rows
section
variable {G:Gd}{N:Names}{C:Calls}{d:Dp}{sc:Sc}{Γ:Gam}{A:Around}{t:Tie}{st st':MS}{s:Shared}{env:Env}{loc:Loc}{X Y Z:V}{v w:Value}{n:Nat}
end
end Internal
end
section
set_option maxRecDepth 100000
namespace Internal
open PySem PySem.W PyProof.Rows
noncomputable def oh (fn:Fn):Gam:=fn.names.map fun x=>if x == Str.empty then none else some x
section
variable {G:Gd}{N:Names}{C:Calls}{d:Dp}{sc:Sc}{Γ:Gam}{A:Around}{t:Tie}{st st':MS}{s:Shared}{env:Env}{loc:Loc}{X Y Z:V}{v w:Value}{n:Nat}
theorem fv (k:Qf->Option NameKind):∀ (b:List (Qf×Value)) (m:Qf->Option Value) (x:Qf),x ∉ b.map (·.1)->bindL k b m x=m x
 | [],_,_,_=>rfl
 | (y,v)::r,m,x,h=>by
  simp only[Zz,Zu,not_or] at h
  rw[bindL,fv k r _ x h.2]
  split
  ·exact Zh h.1
  ·rfl
theorem f9 (k:Qf->Option NameKind):∀ (b:List (Qf×Value)) (m:Qf->Option Value) (x:Qf),x ∉ b.map (·.1)->bindC k b m x=m x
 | [],_,_,_=>rfl
 | (y,v)::r,m,x,h=>by
  simp only[Zz,Zu,not_or] at h
  rw[bindC,f9 k r _ x h.2]
  split
  ·rfl
  ·exact Zh h.1
theorem zbk (k:Qf->Option NameKind):∀ (b:List (Qf×Value)) (m:Qf->Option Value) (x:Qf) (v:Value),(b.map (·.1)).Nodup->(x,v)∈b->k x=some .local->bindL k b m x=some v
 | (y,u)::r,m,x,v,nd,h,hk=>by
  rw[Zz,List.nodup_cons] at nd
  rcases Zu.mp h with e | h
  ·cases e
   rw[bindL,fv k r _ _ nd.1,Zg hk];exact Zg rfl
  ·rw[bindL];exact zbk k r _ x v nd.2 h hk
theorem zcx (k:Qf->Option NameKind):∀ (b:List (Qf×Value)) (m:Qf->Option Value) (x:Qf) (v:Value),(b.map (·.1)).Nodup->(x,v)∈b->k x≠some .local->bindC k b m x=some v
 | (y,u)::r,m,x,v,nd,h,hk=>by
  rw[Zz,List.nodup_cons] at nd
  rcases Zu.mp h with e | h
  ·cases e
   rw[bindC,f9 k r _ _ nd.1,Zh hk];exact Zg rfl
  ·rw[bindC];exact zcx k r _ x v nd.2 h hk
set_option tactic.hygienic true in
theorem kg:∀ (names:Sc) (k:Nat) (acc:List (Qf×Addr)) (x:Qf),names.lookup x=some .cell\/(acc.lookup x).isSome=true->((cellsFrom k names acc).lookup x).isSome=true
 | [],_,_,_,h=>h.resolve_left (fun z=>by exact za z)
 | (y,kd)::r,k,acc,x,h=>by
  rw[cellsFrom]
  split
  ·refine kg r _ _ x ?_
   cases q:x == y with
   | true=>right;rw[List.lookup_cons,q];rfl
   | false =>
    rw[List.lookup_cons,q] at h
    rw[List.lookup_cons,q];exact h
  ·rename_i hkd
   refine kg r _ _ x ?_
   cases q:x == y with
   | true =>
    rw[List.lookup_cons,q] at h
    refine .inr (h.resolve_left fun z=>hkd ?_)
    have:kd=.cell:=by simpa using z
    rw[this];rfl
   | false=>rw[List.lookup_cons,q] at h;exact h
structure FnHd (G:Gd) (fn:Fn) (a:Addr) (fd:FuncData) (body:List Stmt):Prop where
 ex:∃ o:Obj,G.K.lookup a=some o/\o.data=.func fd/\codeIn G.K fd.code fd.qualname=true/\fd.body=.stmts body/\fd.closure=[]/\fd.globals=mainGlobals/\fd.builtins=builtinsNs /\
  fd.scope.kind=.function/\fd.scope.isCoroutine=false/\fd.scope.isGenerator=false /\
  (∀ vals:List Value,vals.length=fn.np->bindArgs fd ⟨vals,[]⟩=pure ((fn.names.take fn.np).zip vals))/\fn.np<=fn.names.length/\(∀ x∈fn.names.take fn.np,vt fd.scope.names x=true/\x≠Str.empty)/\(fn.names.take fn.np).Nodup
structure FnRec (G:Gd) (q:Bool) (PX:Calls->Nat->Prop) (fn:Fn) (a:Addr):Prop where
 ex:∃ (fd:FuncData) (body:List Stmt),FnHd G fn a fd body/\∀ (C:Calls) (n:Nat),PX C n->b8 G C ⟨n,q⟩ fd.scope.names (oh fn) n fn.body body
theorem lj {cs:List (Qf×Addr)} (h:cs.Pairwise fun x y=>x.2≠y.2) {n n':Qf}{c:Addr} (h1:cs.lookup n=some c) (h2:cs.lookup n'=some c):n=n':=by
 induction cs with
 | nil=>exact za h1
 | cons x r ih =>
  rw[List.pairwise_cons] at h
  rw[List.lookup_cons] at h1 h2
  cases q1:n == x.1 <;> cases q2:n' == x.1 <;> rw[q1] at h1 <;> rw[q2] at h2
  ·exact ih h.2 h1 h2
  ·cases h2;exact absurd rfl (h.1 (n,x.2) (PySem.mem_of_lookup (n:=n) h1))
  ·cases h1;exact absurd rfl (h.1 (n',x.2) (PySem.mem_of_lookup (n:=n') h2))
  ·rw[beq_iff_eq] at q1 q2;rw[q1,q2]
set_option backward.match.sparseCases true in
theorem zbt (O:G.Ok N) {fn:Fn}{a:Addr}{q:Bool}{fd:FuncData}{body:List Stmt} (hfn:FnHd G fn a fd body) (hA:AC ⟨n+1,q⟩ A) {Vs:List V}{vals:List Value} (K:Stk A t s.heap) (R:Rel G t st s) (r:VRels t s.heap Vs vals) (hnp:Vs.length=fn.np)
  {B:Result->Shared->Prop}
  (k:∀ (env:Env) (s₁:Shared),env.scope.names=fd.scope.names->env.frame=some env.locals->(∀ b,own env b->s.heap.get? b=none)->(∀ b o,s.heap.get? b=some o->s₁.heap.get? b=some o)->s₁.gens=s.gens->s₁.os=s.os->AOk ⟨n,q⟩ (A.deeper env)->
   FrOk G (A.deeper env) (t.hideS (own env) (env::t.st)) env (oh fn) (Vs.map some++List.replicate (fn.names.length-fn.np) none) s₁->Rel G (t.hideS (own env) (env::t.st)) st s₁->
   wpAny G.M (A.deeper env) (execs body env) (fun f s'=>B (.ok (.ret (match f with | .ret v=>v | _=>.none))) s') (fun e s'=>wpAny G.M (A.deeper env) (leaving env e) (fun ξ s''=>B (.error e) s'') (fun e' s''=>B (.error e') s'') s') s₁) :
  codeAny G.M A (.call (.ref a) ⟨vals,[]⟩) B s:=by
 obtain⟨o,h1,h2,h3,h4,h5,h6,h7,h8,h9,h10,h11,h12,h13,h14⟩:=hfn.ex
 have XK:=O.K.keeps R.base
 have hlv:vals.length=fn.np:=by rw[r.length];exact hnp
 have hbn:((fn.names.take fn.np).zip vals).map (·.1)=fn.names.take fn.np:=by
  rw[List.map_fst_zip];rw[List.length_take,hlv];exact Nat.min_le_left _ _
 have hkx:∀ x∈(fn.names.take fn.np).zip vals,x.1∈fn.names.take fn.np:=fun x hx=>(List.of_mem_zip (a:=x.1) (b:=x.2) hx).1
 refine codeAny_call_cells (body:=body) (binds:=(fn.names.take fn.np).zip vals) (by have:=hA.dep;lia) (XK _ _ h1) h2 (O.lim.keeps R.base) (codeRec_of XK h3) h4 (h11 vals hlv) h5 (fun x hx=>?_) (fun s₁ x=>?_) h9 h10 h8
 ·have hk:=(h13 x.1 (hkx x hx)).1
  simp only[vt,Bool.or_eq_true,beq_iff_eq] at hk
  rcases hk with hk | hk
  ·exact .inl hk
  ·exact .inr ⟨hk,kg _ _ _ _ (.inl hk)⟩
 ·let env:=callEnvC fd s.heap.objs.size a
  have hcells:env.cells=cellsFrom (s.heap.objs.size+1) fd.scope.names []:=rfl
  have hloc:env.locals=s.heap.objs.size:=rfl
  obtain⟨h',tk,hs,hk'⟩:=x.done
  let P:Addr->Prop:=own env
  have np:∀ b,P b->s.heap.get? b=none:=by
   rintro b (rfl | ⟨nm,q⟩)
   ·exact qe _
   ·have hlt:=x.above nm b (PySem.mem_of_lookup q)
    cases z:s.heap.get? b with
    | none=>rfl
    | some ob=>exact absurd (Heap.lt_size z) (Nat.not_lt.mpr (Nat.le_of_lt hlt))
  have hk0:∀ b o,s.heap.get? b=some o->s₁.heap.get? b=some o:=x.toInCall.keep
  have hg:s₁.gens=s.gens:=by rw[hs]
  have ho:s₁.os=s.os:=by rw[hs]
  have hlP:∀ b,P b->(s₁.heap.get? b).isSome=true:=by
   rintro b (rfl | ⟨nm,q⟩)
   ·obtain⟨ob,_,_,z,_⟩:=x.toInCall.ns;rw[z];rfl
   ·obtain⟨ob,z,_⟩:=x.cell nm b q;rw[z];rfl
  have R0:Rel G (t.hideS P (env::t.st)) st s₁:=R.hideGrow np hk0 hlP hg ho
  have SG:Step noX (t.hideS P (env::t.st)) (t.hideS P (env::t.st)) s s₁:=⟨.refl _,fun a o e ξ ξ ξ=>hk0 a o e,fun a o e ξ ξ ξ=>⟨o.slots,hk0 a o e⟩,fun ξ o=>.inl o,fun a o e=>by rw[hk0 a o e];rfl,hg,ho⟩
  have hkind:∀ y,env.kindOf y=fd.scope.names.lookup y:=fun ξ=>rfl
  have K0:Stk (A.deeper env) (t.hideS P (env::t.st)) s₁.heap:=by
   refine⟨Around.frames_deeper K.fr,fun e he=>?_⟩
   rcases Zu.1 he with rfl | he
   ·obtain⟨ob,es,ep,z1,z2,_⟩:=x.toInCall.ns
    exact⟨by show fd.scope.kind≠_;rw[h8];decide,_,ob,rfl,.inr (.inl rfl),z1,fun vs z=>by rw[z2] at z;cases z⟩
   ·obtain⟨q1,L,o,q2,q3,q4,q5⟩:=K.ob e he
    exact⟨q1,L,o,q2,.inl q3,hk0 _ _ q4,q5⟩
  have F0:FrOk G (A.deeper env) (t.hideS P (env::t.st)) env (oh fn) (Vs.map some++List.replicate (fn.names.length-fn.np) none) s₁:=by
   refine⟨K0,h8,h6,h7,.inr (.inl rfl),fun nm c q=>.inr (.inr ⟨nm,q⟩),fun nm nm' c q q'=>lj x.apart q q',_,_,x.toInCall.ns,x.cell,fun y hy=>kg _ _ _ _ (.inl hy),fun i y Y e1 e2=>?_⟩
   have hi:i < Vs.length:=by
    by_cases q:i < Vs.length
    ·exact q
    ·rw[List.getElem?_append_right (by rw[Zd];lia)] at e2
     rw[List.getElem?_replicate] at e2
     split at e2 <;> cases e2
   rw[List.getElem?_append_left (by rw[Zd];exact hi),List.getElem?_map] at e2
   obtain⟨Y',e3,e4⟩:=Option.map_eq_some_iff.mp e2
   cases e4
   obtain⟨u,u1,u2⟩:=VRels.get r e3
   simp only[oh,List.getElem?_map,Option.map_eq_some_iff] at e1
   obtain⟨y',e5,e6⟩:=e1
   have hy:y'=y:=by split at e6 <;> cases e6;rfl
   subst hy
   have e7:(fn.names.take fn.np)[i]?=some y':=by rw[List.getElem?_take,Zg (by lia)];exact e5
   have hm:(y',u)∈(fn.names.take fn.np).zip vals:=by
    refine List.mem_iff_getElem?.mpr ⟨i,?_⟩
    rw[List.getElem?_zip_eq_some];exact⟨e7,u1⟩
   have hko:=(h13 y' (List.mem_iff_getElem?.mpr ⟨i,e7⟩)).1
   simp only[vt,Bool.or_eq_true,beq_iff_eq] at hko
   refine⟨u,VRel.step SG (fun ξ z=>z.elim) _ (VRel.hide np _ u2),?_⟩
   rcases hko with hko | hko
   ·exact .inl ⟨hko,zbk _ _ _ _ _ (by rw[hbn];exact h14) hm hko⟩
   ·exact .inr ⟨hko,zcx _ _ _ _ _ (by rw[hbn];exact h14) hm (by rw[hkind,hko];decide)⟩
  have hA':AOk ⟨n,q⟩ (A.deeper env):=⟨hA.hd,by have h:A.depth+2*(n+1)+5<=recursionLimit:=hA.dep;show(A.deeper env).depth+2*n+6<=_;rw[depth_deeper];lia,by have h:A.units+20*(n+1)+105<=cLine:=hA.un;show(A.deeper env).units+20*n+110<=_;rw[units_deeper];lia⟩
  exact k env s₁ rfl rfl np hk0 hg ho hA' F0 R0
theorem zj2 (O:G.Ok N) {fn:Fn}{a:Addr}{q:Bool}{PX:Calls->Nat->Prop} (hfn:FnRec G q PX fn a) (px:PX C n) (hA:AC ⟨n+1,q⟩ A) {Vs:List V}{vals:List Value} (K:Stk A t s.heap) (R:Rel G t st s) (r:VRels t s.heap Vs vals) (hnp:Vs.length=fn.np)
  {p:Fl×Loc} (e:exs G.P C n fn.body (Vs.map some++List.replicate (fn.names.length-fn.np) none) st=.ok p st') {B:Result->Shared->Prop}
  (k:∀ v t' s',Step noX t t' s s'->Rel G t' st' s'->VRel t' s'.heap (match p.1 with | .ret v=>v | .next=>.none) v->B (.ok (.ret v)) s') :
  codeAny G.M A (.call (.ref a) ⟨vals,[]⟩) B s:=by
 obtain⟨fd,body,hd,h15⟩:=hfn.ex
 refine zbt O hd hA K R r hnp fun env s₁ hs hf np hk0 hg ho hA' F0 R0=>?_
 refine h15 C n px (t.hideS (own env) (env::t.st)) st s₁ env _ p.1 p.2 st' (A.deeper env) hA' ⟨_,Around.frames_deeper K.fr,hf⟩ hs F0 R0 e _ _ fun f t' s' S' R' F' rf=>?_
 have hpv:t'.pv=(t.hideS (own env) (env::t.st)).pv:=S'.le.pv
 have nP:∀ b,t.pv b->¬ own env b:=fun b q z=>by
  have:=R.live b (.inr q)
  rw[np b z] at this;exact z6 this
 have Fg:Forget (own env) noX t' {t' with pv:=t.pv,st:=t.st} s' s' :=
  ⟨rfl,rfl,fun b q=>⟨by rw[hpv];exact .inl q,nP b q⟩,fun b q=>by rw[hpv];exact .inr q,fun b z=>z.elim,fun ξ ξ ξ ξ e=>e,rfl,rfl,rfl⟩
 have S'':=Step.unhideS (t:=t) (L:=noX) (l:=env::t.st) (fun e he=>(Zu.1 he).elim (fun z=>.inr fun b q=>by rw[z,hf] at q;cases q;exact .inl rfl) .inl) (fun e he=>Zk _ he) (fun b q=>.inl q) np hk0 hg ho S' Fg
 cases hp:p.1 with
 | next =>
  rw[hp] at rf
  have rf:f=.next:=rf
  subst rf
  exact k _ _ _ S'' (R'.forget Fg) (by rw[hp];rfl)
 | ret X =>
  rw[hp] at rf
  obtain⟨u,rfl,ru⟩:=rf
  exact k _ _ _ S'' (R'.forget Fg) (by rw[hp];exact VRel.forget Fg _ ru)
end
end Internal
end
section
set_option maxRecDepth 100000
namespace Internal
open PySem PySem.W PyProof.Rows
section
variable {G:Gd}{N:Names}{C:Calls}{d:Dp}{sc:Sc}{Γ:Gam}{A:Around}{t:Tie}{st st':MS}{s:Shared}{env:Env}{loc:Loc}{X Y Z:V}{v w:Value}
theorem zhu (O:G.Ok N) {kd:Nat}{a:E}{x:Qe}{np pos:Pos} (hg:jp sc "dict"=true) (hx:isStarred x=false) (ha:z0 G C d sc Γ a x) :
  z0 G C d sc Γ (.dictC kd a) (.Call (.Name "dict" np) [x] [] pos):=by
 intro t st s env loc X st' A hA hsc F R e Q E k
 rw[zbf] at e
 obtain⟨V,s1,e1,e⟩:=Res.bind_ok e
 cases V with
 | ref r =>
  have e:(match s1.heap r with | some (.dict d)=>if d.length<=1000 then Res.ok (V.ref (kd,s1.cnt kd)) (s1.new kd (.dict d)) else .stuck | _=>.stuck)=.ok X st':=e
  cases hr:s1.heap r with
  | none=>rw[hr] at e;exact zb e
  | some o =>
   rw[hr] at e
   cases o with
   | dict dd =>
    obtain⟨hz,rfl,rfl⟩:=zsp e
    refine wpAny_Call_ofName (jm (v:=.type "dict") O F R hsc hg (by decide) (by decide +kernel) ?_)
    have e1':evL G.P C [a] loc st=.ok [.ref r] s1:=by simp[zaq,y7,e1,Res.bind]
    refine vc O (rz _) (l:=[a]) (m:=[x]) (by simp[z8,hx]) rfl (vq hx ha yi) hA hsc F R e1' fun vs t1 σ1 S1 R1 r1=>?_
    obtain⟨v,_,rfl,⟨b,rfl,hb⟩,rfl⟩:=r1
    obtain⟨b',kvs,h1,h2,h3⟩:=R1.objs r _ hr
    obtain rfl:b'=b:=by rw[hb] at h1;cases h1;rfl
    refine kt_call_dict (knd:=strKind G.prog G.w) (beq_eq_false_iff_ne.2 fun z=>R1.sys r (z▸h1)) h2 ?_ fun h' hd hs=>?_
    ·rw[h3.length];exact Zp hz (by decide)
    have hk:∀ c o,σ1.heap.get? c=some o->h'.get? c=some o:=fun c o e=>(hs.2 c (fun (z:c=_)=>by rw[z,qe] at e;exact za e)).trans (Zn _ e)
    have S:=Step.bind (k:=kd) (d:=none) (s':={σ1 with heap:=h'}) R1 hk rfl rfl (qe _) (fun x e=>by exact za e)
    have rho:(t1.bind (kd,s1.cnt kd) σ1.heap.objs.size none).ρ (kd,s1.cnt kd)=some σ1.heap.objs.size:=Zg rfl
    refine k _ _ _ (S1.trans S) (Rel.bind R1 hk rfl rfl (qe _) (fun x e=>by exact za e) ?_ (R1.size_sys O) ⟨_,kvs,rho,hd,DRel.step S (fun ξ q=>q.elim) h3⟩) ⟨_,rfl,rho⟩
    obtain⟨o,es,ep,ho,_⟩:=hd
    show(Heap.get? h' _).isSome=true
    rw[ho];rfl
   | _=>exact zb e
 | _=>exact zb e
end
end Internal
end
section
set_option maxRecDepth 100000
namespace Internal
open PySem PySem.W PyProof.Rows
noncomputable def ng (n:Nat) (ans:Nat->Nat->Bool) (want:List Nat):KasT (Array Nat)->Bool
 | .ret a=>a.toList == want
 | .ask i j k=>decide (i < n)&&(decide (j < n)&&(decide (i≠j)&&ng n ans want (k (ans i j))))
theorem zkq {n:Nat}{ans:Nat->Nat->Bool}{want:List Nat}{cmp:Nat->Nat->(Bool->Shared->Prop)->Shared->Prop}{s:Shared}{Q:Array Nat->Shared->Prop} (hc:∀ i j,i < n->j < n->i≠j->∀ C:Bool->Shared->Prop,C (ans i j) s->cmp i j C s) (hQ:∀ a:Array Nat,a.toList=want->Q a s) :
  ∀ t:KasT (Array Nat),ng n ans want t=true->t.kasWp cmp Q s
 | .ret a,h=>hQ a (eq_of_beq (h:(a.toList == want)=true))
 | .ask i j k,h=>by
  obtain⟨h1,h⟩:=Zj.1 (h:(decide (i < n)&&(decide (j < n)&&(decide (i≠j)&&ng n ans want (k (ans i j)))))=true)
  obtain⟨h2,h⟩:=Zj.1 h
  obtain⟨h3,h⟩:=Zj.1 h
  exact hc i j (Za h1) (Za h2) (Za h3) _ (zkq hc hQ (k (ans i j)) h)
noncomputable def tbl (m pos i j:Nat):Bool:=if i < m then (if j < m then decide (i < j) else decide (i < pos)) else decide (pos<=j)
theorem zt2:∀ m:Fin 5,∀ pos:Fin (m.1+2),ng (m.1+2) (tbl (m.1+1) pos.1) (y3 (m.1+1) pos.1) (kas_sort (m.1+2))=true:=by decide +kernel
section
variable {prog:Program}{w:World}{A:Around}{E:Value->Shared->Prop}{s:Shared}
set_option backward.match.sparseCases true in
theorem zp4 {a:Addr}{vs out:List Value}{n:Nat}{P:PySem.Fin->Shared->Prop} (ho:s.heap.get? a=some (seqObj "list" vs.toArray n)) (h64:vs.length < 64) (hlen:out.length=vs.length) (h1:vs.length < 2->out=vs)
  (h2:2<=vs.length->∀ s':Shared,(∀ b o,b≠a->s.heap.get? b=some o->s'.heap.get? b=some o)->wpAny (model prog w) A (keyKind' vs.toArray) (fun κ s2=>(kas_sort vs.length).kasWp (kas_ask prog w A κ vs) (fun p s3=>s3=s'/\(p.toList.map fun i=>vs.getD i Value.none)=out) s2) E s')
  (k:∀ h' c,(∀ b o,b≠a->s.heap.get? b=some o->h'.get? b=some o)->h'.get? a=some (seqObj "list" out.toArray c)->P (.done (.ret .none)) {s with heap:=h'}) :
  wpAny (model prog w) A (Builtin.«list.sort» ⟨[.ref a],[]⟩) P E s:=by
 have ha:a < s.heap.objs.size:=Heap.lt_size ho
 obtain⟨e1,ho1⟩:∃ e1,(s.heap.update a (Obj.mapSeq fun ξ=>(#[]:Array Value))).get? a=some (seqObj "list" #[] e1):=⟨_,get?_update_seq ho fun ξ=>#[]⟩
 rw[list_sort_plain]
 refine Ze (listItems_at ho rfl ?_)
 refine Ze (listUpdate_at ho rfl ?_ (by rw[List.size_toArray,sizeLine_eq];lia) (Nat.zero_le _))
 refine Ze (seqEpoch_at ho1 rfl ?_)
 refine Ze (wpAny_newTuple ?_ (by show vs.length<=_;rw[sizeLine_eq];lia))
 refine Ze (wpAny_newList ?_ (Nat.zero_le _))
 refine wpAny_holding ?_
 have kp:∀ b o,(s.heap.update a (Obj.mapSeq fun ξ=>(#[]:Array Value))).get? b=some o->(((s.heap.update a (Obj.mapSeq fun ξ=>(#[]:Array Value))).push (seqObj "tuple" vs.toArray 0)).push (seqObj "list" #[] 0)).get? b=some o:=fun b o e=>Zn _ (Zn _ e)
 have old:∀ b o,b≠a->s.heap.get? b=some o->(((s.heap.update a (Obj.mapSeq fun ξ=>(#[]:Array Value))).push (seqObj "tuple" vs.toArray 0)).push (seqObj "list" #[] 0)).get? b=some o:=fun b o nb e=>kp b o ((Heap.SameBut.update s.heap a _).2 b nb |>.trans e)
 have ho6:=kp a _ ho1
 show wpAny (model prog w) A _ P E {s with heap:=((s.heap.update a (Obj.mapSeq fun ξ=>(#[]:Array Value))).push (seqObj "tuple" vs.toArray 0)).push (seqObj "list" #[] 0)}
 generalize ((s.heap.update a (Obj.mapSeq fun ξ=>(#[]:Array Value))).push (seqObj "tuple" vs.toArray 0)).push (seqObj "list" #[] 0)=H at old ho6
 dsimp only
 have hend:∀ {st:SortSt},(arrOf st).map (·.2)=out.toArray->failedOf st=none->wpAny (model prog w) A (do
   let touched:=(<- seqEpoch a) != e1
   Builtin.List.listUpdate (.ref a) fun ξ=>(arrOf st).map (·.2)
   if let some e:=failedOf st then rule "list.sort.comparison-raised";throw e
   if touched then rule "list.sort.modified";raiseError "ValueError" "list modified during sort"
   ret .none) P E {s with heap:=H}:=by
  intro st hs hf
  refine Ze (seqEpoch_at ho6 rfl ?_)
  obtain⟨c,hc⟩:∃ c,(H.update a (Obj.mapSeq fun ξ=>out.toArray)).get? a=some (seqObj "list" out.toArray c):=⟨_,get?_update_seq ho6 fun ξ=>out.toArray⟩
  rw[hs,hf]
  refine Ze (listUpdate_at ho6 rfl ?_ (Nat.zero_le _) (by rw[List.size_toArray,hlen,sizeLine_eq];lia))
  simp only[bne_self_eq_false,Bool.false_eq_true,if_false]
  exact Zr (k _ c (fun b o nb e=>((Heap.SameBut.update H a _).2 b nb).trans (old b o nb e)) hc)
 by_cases hn:vs.toArray.size < 2
 ·rw[Zg hn,Zg hn]
  refine Ze (Zr ?_)
  rw[StateT.run_pure]
  refine Ze (Zr (hend ?_ rfl))
  show((vs.toArray.zip vs.toArray).map (·.2))=out.toArray
  rw[h1 (by rw[List.size_toArray] at hn;exact hn)]
  apply Array.toList_inj.mp
  simp only[Array.toList_map,Array.toList_zip]
  exact List.map_snd_zip (Zs _)
 ·rw[Zh hn,Zh hn]
  rw[List.size_toArray] at hn
  refine Ze (wpAny_mono (h2 (by lia) {s with heap:=H} old) (fun κ s0 hk=>?_) fun ξ ξ x=>x)
  refine Ze (wpAny_mono (kat_run (Q:=fun st' s'=>s'={s with heap:=H}/\(arrOf st').map (·.2)=out.toArray/\failedOf st'=none) rfl (by lia) h64 (fun p' st' s' a1 a2 a3 a4=>⟨a4.1,by rw[kat_snds rfl a2,a4.2],a3⟩) hk) ?_ fun ξ ξ e=>e)
  rintro⟨⟨⟩,st'⟩ s' ⟨rfl,hs,hf⟩
  exact hend hs hf
theorem tr {l:Addr}{vs out:List Value}{Q:Value->Shared->Prop} (hl:s.heap.IsList l vs.toArray) (h64:vs.length < 64) (hlen:out.length=vs.length) (h1:vs.length < 2->out=vs)
  (h2:2<=vs.length->∀ (A':Around) (s':Shared) (E':Value->Shared->Prop),(∀ b o,s.heap.get? b=some o->s'.heap.get? b=some o)->wpAny (model prog w) A' (keyKind' vs.toArray) (fun κ s2=>(kas_sort vs.length).kasWp (kas_ask prog w A' κ vs) (fun p s3=>s3=s'/\(p.toList.map fun i=>vs.getD i Value.none)=out) s2) E' s')
  (k:∀ h' c,(∀ b o,s.heap.get? b=some o->h'.get? b=some o)->h'.get? (s.heap.objs.size+1)=some (seqObj "list" out.toArray c)->Q (.ref (s.heap.objs.size+1)) {s with heap:=h'}) :
  wpAny (model prog w) A (call (.builtin "sorted") [.ref l]) Q E s:=by
 refine Calls.call_function_entry kind_sorted plain_sorted entry_sorted (args_sorted1 _) ?_
 unfold Builtin.«sorted»
 refine Ze (m:=checkCount "sorted" 1 1 _) (Zr ?_)
 refine Ze (collect_list hl ?_ (by rw[sizeLine_eq];lia))
 refine Ze (wpAny_newList ?_ (by rw[sizeLine_eq];lia))
 have hsz:((s.heap.push (seqObj "list" #[] 0)).update s.heap.objs.size (Obj.mapSeq (·++vs.toArray))).objs.size=s.heap.objs.size+1:=by
  rw[Heap.size_update,size_push']
 have hoL:(((s.heap.push (seqObj "list" #[] 0)).update s.heap.objs.size (Obj.mapSeq (·++vs.toArray))).push (seqObj "list" vs.toArray 0)).get? (s.heap.objs.size+1)=some (seqObj "list" vs.toArray 0):=by
  rw[<- hsz];exact Z5 _ rfl
 have keep:∀ b o,s.heap.get? b=some o->(((s.heap.push (seqObj "list" #[] 0)).update s.heap.objs.size (Obj.mapSeq (·++vs.toArray))).push (seqObj "list" vs.toArray 0)).get? b=some o:=fun b o q=>by
  have hlt:b < s.heap.objs.size:=Heap.lt_size q
  rw[Heap.get?_push_ne _ _ _ (by rw[hsz];exact Z9 (Nat.lt_succ_of_lt hlt)),Heap.get?_update_ne _ _ _ _ (Z9 hlt),Heap.get?_push_ne _ _ _ (Z9 hlt)]
  exact q
 show wpAny _ _ _ _ _ {s with heap:=((s.heap.push (seqObj "list" #[] 0)).update s.heap.objs.size (Obj.mapSeq (·++vs.toArray))).push (seqObj "list" vs.toArray 0)}
 rw[hsz]
 have up:∀ (h':Heap),(∀ b o,b≠s.heap.objs.size+1->(((s.heap.push (seqObj "list" #[] 0)).update s.heap.objs.size (Obj.mapSeq (·++vs.toArray))).push (seqObj "list" vs.toArray 0)).get? b=some o->h'.get? b=some o)->∀ b o,s.heap.get? b=some o->h'.get? b=some o:=fun h' q b o e=>q b o (Z9 (Nat.lt_succ_of_lt (Heap.lt_size e))) (keep b o e)
 refine Ze (wpAny_holding (wpAny_call_entry slot_list_sort ⟨_,hoL,rfl⟩ entry_list_sort ?_ (args_list_sort _)))
 refine zp4 (s:={s with heap:=((s.heap.push (seqObj "list" #[] 0)).update s.heap.objs.size (Obj.mapSeq (·++vs.toArray))).push (seqObj "list" vs.toArray 0)}) hoL h64 hlen h1 (fun hn s' q=>h2 hn _ s' _ (up s'.heap q)) fun h' c q ho=>?_
 exact⟨_,rfl,Zr ⟨_,rfl,k h' c (up h' q) ho⟩⟩
end
theorem yz:∀ {ks:List Int},rising ks=true->∀ i j:Nat,i < j->∀ a b,ks[i]?=some a->ks[j]?=some b->a < b
 | [],_,i,j,_,a,b,e,_=>by exact za e
 | [_],_,i,j,hij,a,b,_,e=>by
  cases j with
  | zero=>lia
  | succ j=>exact za e
 | x::y::r,h,i,j,hij,a,b,e1,e2=>by
  obtain⟨h1,h2⟩:=Zj.1 (h:(decide (x < y)&&rising (y::r))=true)
  have h1:x < y:=Za h1
  cases j with
  | zero=>lia
  | succ j =>
   cases i with
   | succ i=>exact yz h2 i j (by lia) a b e1 e2
   | zero =>
    cases e1
    cases j with
    | zero=>cases e2;exact h1
    | succ j=>exact Int.lt_trans h1 (yz h2 0 (j+1) (by lia) y b rfl e2)
set_option tactic.hygienic true in
theorem zes (x:Int):∀ {ks:List Int},rising ks=true->x ∉ ks->xu x ks<=ks.length/\∀ (i:Nat) (a:Int),ks[i]?=some a->(i < xu x ks->a < x)/\(xu x ks<=i->x < a)
 | [],_,_=>⟨Zs _,fun i a e=>by cases e⟩
 | k::r,h,hx=>by
  have hr:rising r=true:=by
   cases r with
   | nil=>rfl
   | cons y r=>exact(Zj.1 (h:(decide (k < y)&&rising (y::r))=true)).2
  obtain⟨h1,h2⟩:=zes x hr fun q=>hx (Zk _ q)
  rw[xu]
  split
  ·rename_i hlt
   refine⟨Nat.zero_le _,fun i a e=>⟨fun q=>absurd q (Nat.not_lt_zero _),fun ξ=>?_⟩⟩
   cases i with
   | zero=>cases e;exact hlt
   | succ i=>exact Int.lt_trans hlt (yz h 0 (i+1) (by lia) k a rfl e)
  ·rename_i hlt
   have hne:k≠x:=fun q=>hx (q▸Zm ..)
   refine⟨Nat.succ_le_succ h1,fun i a e=>?_⟩
   cases i with
   | zero=>cases e;exact⟨fun ξ=>by lia,fun q=>by lia⟩
   | succ i=>exact⟨fun q=>(h2 i a e).1 (by lia),fun q=>(h2 i a e).2 (by lia)⟩
theorem zdx {ks:List Int}{x:Int} (hr:rising ks=true) (hx:x ∉ ks) {i j:Nat} (hij:i≠j) {a b:Int} (ha:(ks++[x])[i]?=some a) (hb:(ks++[x])[j]?=some b):decide (a < b)=tbl ks.length (xu x ks) i j:=by
 obtain⟨hp,hpos⟩:=zes x hr hx
 have last:∀ {i:Nat}{a:Int},¬ i < ks.length->(ks++[x])[i]?=some a->i=ks.length/\a=x:=fun {i a} hn e=>by
  rw[List.getElem?_append_right (by lia)] at e
  have:i-ks.length=0:=by
   cases hz:i-ks.length with
   | zero=>rfl
   | succ m=>rw[hz] at e;exact za e
  rw[this] at e;cases e;exact⟨by lia,rfl⟩
 unfold tbl
 by_cases hi:i < ks.length
 ·rw[Zg hi]
  rw[List.getElem?_append_left hi] at ha
  by_cases hj:j < ks.length
  ·rw[Zg hj]
   rw[List.getElem?_append_left hj] at hb
   by_cases h:i < j
   ·rw[Zb h,Zb (yz hr i j h a b ha hb)]
   ·have:=yz hr j i (by lia) b a hb ha
    rw[Zc h,Zc (by lia)]
  ·obtain⟨_,rfl⟩:=last hj hb
   rw[Zh hj]
   by_cases h:i < xu b ks
   ·rw[Zb h,Zb ((hpos i a ha).1 h)]
   ·have:=(hpos i a ha).2 (by lia)
    rw[Zc h,Zc (by lia)]
 ·obtain⟨hi2,rfl⟩:=last hi ha
  rw[Zh hi]
  have hj:j < ks.length:=by
   have:j < (ks++[a]).length:=by
    rw[List.getElem?_eq_some_iff] at hb;exact hb.1
   rw[Zf] at this
   have:j < ks.length+1:=this
   lia
  rw[List.getElem?_append_left hj] at hb
  by_cases h:xu a ks<=j
  ·rw[Zb h,Zb ((hpos j b hb).2 h)]
  ·have:=(hpos j b hb).1 (by lia)
   rw[Zc h,Zc (by lia)]
section
variable {G:Gd}{N:Names}{C:Calls}{d:Dp}{sc:Sc}{Γ:Gam}{A:Around}{t:Tie}{st st':MS}{s:Shared}{env:Env}{loc:Loc}{X Y Z:V}{v w:Value}
theorem zbb {x:V}{l:List V}{ks:List Int} (e:(x::l).mapM qy=some ks):∃ k ks',qy x=some k/\l.mapM qy=some ks'/\ks=k::ks':=by
 rw[List.mapM_cons] at e
 cases hx:qy x with
 | none=>rw[hx] at e;exact za e
 | some k =>
  rw[hx] at e
  cases hm:l.mapM qy with
  | none=>rw[hm] at e;exact za e
  | some ks'=>rw[hm] at e;cases e;exact⟨k,ks',rfl,rfl,rfl⟩
theorem za4:∀ {l:List V}{ks:List Int},l.mapM qy=some ks->l.length=ks.length
 | [],_,e=>by cases e;rfl
 | _::_,_,e=>by obtain⟨k,ks',_,h,rfl⟩:=zbb e;exact Qd Nat.succ (za4 h)
theorem zjs {x:V}{k:Int} (e:qy x=some k):∃ m,x=.tup (.int k::m):=by
 cases x with
 | tup m=>cases m with
  | nil=>exact za e
  | cons y m=>cases y with
   | int k'=>cases e;exact⟨m,rfl⟩
   | _=>exact za e
 | _=>exact za e
theorem zed {h:Heap}{k:Int}{m:List V} (a:VRel t h (.tup (.int k::m)) v):∃ tk ad us n,v=.ref ad/\h.get? ad=some {cls:=.type "tuple",data:=.seq us n}/\us[0]?=some (.int k tk):=by
 obtain⟨ad,us,hv,⟨n,ho⟩,_,_,u,us',hus,⟨tk,hu⟩,_⟩:=a
 exact⟨tk,ad,us,n,hv,ho,by rw[<- Array.getElem?_toList,hus,hu];rfl⟩
theorem m3 {h:Heap}:∀ {l:List V}{vs:List Value}{ks:List Int},l.mapM qy=some ks->VRels t h l vs->∃ fs,KatTups h vs fs/\fs.length=ks.length/\∀ (i:Nat) (k:Int),ks[i]?=some k->∃ tk,fs[i]?=some (.int k tk)
 | [],_,ks,e,r=>by cases e;cases r;exact⟨[],trivial,rfl,fun i k e=>za e⟩
 | x::l,_,ks,e,⟨v,r,e0,a,b⟩=>by
  obtain⟨k,ks',hx,hm,rfl⟩:=zbb e
  obtain⟨fs,h1,h2,h3⟩:=m3 hm b
  obtain⟨m,rfl⟩:=zjs hx
  obtain⟨tk,ad,us,n,hv,ho,h0⟩:=zed a
  rw[e0]
  refine⟨.int k tk::fs,⟨⟨ad,_,us,n,hv,ho,rfl,rfl,h0⟩,h1⟩,Qd Nat.succ h2,fun i k' e=>?_⟩
  cases i with
  | zero=>cases e;exact⟨tk,rfl⟩
  | succ i=>exact h3 i k' e
theorem zai {h:Heap}:∀ {vs fs:List Value},KatTups h vs fs->∀ (i:Nat) (f:Value),fs[i]?=some f->∃ a o xs n,vs[i]?=some (.ref a)/\h.get? a=some o/\o.data=.seq xs n/\xs[0]?=some f
 | [],[],_,i,f,e=>za e
 | [],_::_,k,_,_,_=>False.elim k
 | _::_,[],k,_,_,_=>False.elim k
 | v::vs,g::fs,k,i,f,e=>by
  cases i with
  | zero =>
   obtain⟨⟨a,o,xs,n,hv,h1,h2,h3,h4⟩,_⟩:=k
   cases e
   exact⟨a,o,xs,n,Qd some hv,h1,h3,h4⟩
  | succ i=>exact zai k.2 i f e
theorem u8 {h h':Heap} (k:∀ b o,h.get? b=some o->h'.get? b=some o):∀ {vs fs:List Value},KatTups h vs fs->KatTups h' vs fs
 | [],[],_=>trivial
 | v::vs,g::fs,⟨⟨a,o,xs,n,e,h1,r⟩,q⟩=>⟨⟨a,o,xs,n,e,k a o h1,r⟩,u8 k q⟩
theorem VRels.getD {h:Heap}:∀ {l:List V}{vs:List Value} (i:Nat),i < l.length->VRels t h l vs->VRel t h (l.getD i .none) (vs.getD i .none)
 | [],_,i,hi,_=>absurd hi (Nat.not_lt_zero _)
 | x::l,_,0,_,⟨v,r,rfl,a,b⟩=>a
 | x::l,_,i+1,hi,⟨v,r,rfl,a,b⟩=>VRels.getD i (Nat.lt_of_succ_lt_succ hi) b
theorem VRels.pick {h:Heap}{l:List V}{vs:List Value} (r:VRels t h l vs):∀ p:List Nat,(∀ i∈p,i < l.length)->VRels t h (p.map fun i=>l.getD i .none) (p.map fun i=>vs.getD i .none)
 | [],_=>rfl
 | i::p,hp=>⟨_,_,rfl,VRels.getD i (hp i (Zm ..)) r,VRels.pick r p fun j hj=>hp j (Zk _ hj)⟩
theorem ztk {α:Type}{c:Bool}{a b:α} (h:(if c=true then some a else none)=some b):c=true/\a=b:=by
 cases c with
 | true=>cases h;exact⟨rfl,rfl⟩
 | false=>exact za h
theorem zo7 {m pos i j:Nat} (hi:i<=m) (hj:j<=m) (hij:i≠j):tbl m pos i j=true\/tbl m pos j i=true:=by
 unfold tbl
 by_cases h1:i < m
 ·by_cases h2:j < m
  ·rw[Zg h1,Zg h2,Zg h2,Zg h1]
   rcases Nat.lt_or_gt_of_ne hij with h | h
   ·exact .inl (Zb h)
   ·exact .inr (Zb h)
  ·rw[Zg h1,Zh h2,Zh h2]
   rcases Nat.lt_or_ge i pos with h | h
   ·exact .inl (Zb h)
   ·exact .inr (Zb h)
 ·have h2:j < m:=by lia
  rw[Zh h1,Zg h2,Zh h1]
  rcases Nat.lt_or_ge j pos with h | h
  ·exact .inr (Zb h)
  ·exact .inl (Zb h)
theorem lh {l m:List V} (e:ju l=some m):(l=[]/\m=[])\/∃ ks x,l.mapM qy=some (ks++[x])/\rising ks=true/\x ∉ ks/\l.length=ks.length+1/\ks.length<=5/\m=(y3 ks.length (xu x ks)).map fun i=>l.getD i .none:=by
 cases hr:l.reverse with
 | nil =>
  have hl:l=[]:=by rw[<- List.reverse_reverse l,hr];rfl
  rw[ju,hr] at e
  cases e;exact .inl ⟨hl,rfl⟩
 | cons y r =>
  have hl:l=r.reverse++[y]:=by rw[<- List.reverse_reverse l,hr,List.reverse_cons]
  rw[ju,hr] at e
  have e:(match qy y,(r.reverse).mapM qy with
   | some x,some ks=>if (rising ks&&!ks.contains x&&decide (l.length<=6))=true then some ((y3 ks.length (xu x ks)).map fun i=>l.getD i .none) else none
   | _,_=>none)=some m:=e
  cases h1:qy y with
  | none=>rw[h1] at e;exact za e
  | some x =>
   cases h2:(r.reverse).mapM qy with
   | none=>rw[h1,h2] at e;exact za e
   | some ks =>
    rw[h1,h2] at e
    have e:(if (rising ks&&!ks.contains x&&decide (l.length<=6))=true then some ((y3 ks.length (xu x ks)).map fun i=>l.getD i .none) else none)=some m:=e
    obtain⟨hc,e⟩:=ztk e
    obtain⟨hc,q3⟩:=Zj.1 hc
    obtain⟨q1,q2⟩:=Zj.1 hc
    have hn:l.length=ks.length+1:=by rw[hl,Zf,za4 h2];rfl
    refine .inr ⟨ks,x,?_,q1,fun q=>?_,hn,by have:=Za q3;lia,e.symm⟩
    ·rw[hl,List.mapM_append,h2,List.mapM_cons,h1];rfl
    ·rw[List.contains_iff_mem.2 q] at q2;exact z6 q2
theorem zr3 {m pos:Nat} (h:pos<=m):(y3 m pos).length=m+1/\∀ i∈y3 m pos,i < m+1:=by
 refine⟨by rw[y3,Zf,Z4,Zd,Zx,Zx];lia,fun i hi=>?_⟩
 rcases Zt.1 hi with hi | hi
 ·have:=List.mem_range.1 hi;lia
 ·rcases Zu.1 hi with hi | hi
  ·lia
  ·obtain⟨j,hj,rfl⟩:=Z1.1 hi
   have:=List.mem_range.1 hj;lia
theorem zud:∀ {n pos:Nat},1<=n->n<=5->pos<=n->ng (n+1) (tbl n pos) (y3 n pos) (kas_sort (n+1))=true
 | 0,_,h,_,_=>absurd h (Nat.not_succ_le_zero 0)
 | m+1,pos,_,h5,hp=>zt2 ⟨m,h5⟩ ⟨pos,Nat.lt_succ_of_le hp⟩
theorem zrm {ks:List Int}{x:Int} (hr:rising ks=true) (hx:x ∉ ks) {i j:Nat} (hi:i < (ks++[x]).length) (hj:j < (ks++[x]).length) (hij:i≠j):((ks++[x])[i] == (ks++[x])[j])=false:=by
 rw[beq_eq_false_iff_ne]
 intro z
 have h1:=zdx hr hx hij (Zl hi) (Zl hj)
 have h2:=zdx hr hx (Ne.symm hij) (Zl hj) (Zl hi)
 rw[z,Zc (Int.lt_irrefl _)] at h1 h2
 rw[Zf] at hi hj
 rcases zo7 (m:=ks.length) (pos:=xu x ks) (Nat.le_of_lt_succ hi) (Nat.le_of_lt_succ hj) hij with h | h
 ·rw[h] at h1;exact z6 h1
 ·rw[h] at h2;exact z6 h2
theorem zjn {xs ys:Array Value}{a b:Value} (h1:xs[0]?=some a) (h2:ys[0]?=some b):∃ r,xs.toList.zip ys.toList=(a,b)::r:=by
 rw[<- Array.getElem?_toList] at h1 h2
 cases hxs:xs.toList with
 | nil=>rw[hxs] at h1;exact za h1
 | cons a r=>cases hys:ys.toList with
  | nil=>rw[hys] at h2;exact za h2
  | cons b r'=>rw[hxs] at h1;rw[hys] at h2;cases h1;cases h2;exact⟨_,rfl⟩
theorem zoe {vs:List Value} (h:vs.length=1):[vs.getD 0 .none]=vs:=by
 obtain⟨y,rfl⟩:=List.length_eq_one_iff.1 h;rfl
theorem zc3 {m:List V}{out:List Value}{Q:Value->Shared->Prop} (R:Rel G t st s) (q:∀ v t' s',Step noX t t' s s'->Rel G t' st s'->qo (.lst m) t' s' v->Q v s') (ro:VRels t s.heap m out) (hm:m.length<=ze)
  (h':Heap) (c:Nat) (hk:∀ b o,s.heap.get? b=some o->h'.get? b=some o) (ho:h'.get? (s.heap.objs.size+1)=some (seqObj "list" out.toArray c)):Q (.ref (s.heap.objs.size+1)) {s with heap:=h'}:=by
 have S:Step noX t t s {s with heap:=h'}:=Step.grow R hk rfl rfl
 exact q _ t _ S (R.grow hk rfl rfl) ⟨_,out.toArray,rfl,⟨c,ho⟩,R.fresh (wt _),hm,VRels.step S (fun ξ z=>z.elim) _ ro⟩
theorem i6 (R:Rel G t st s) {l m:List V} (r:VRel t s.heap (.lst l) v) (e:ju l=some m):Sim G A t s (call (.builtin "sorted") [v]) st (qo (.lst m)):=by
 obtain⟨a,vs,rfl,io,na,sz,rr⟩:=r
 have hvl:vs.toList.length=l.length:=rr.length
 have hlst:s.heap.IsList a vs.toList.toArray:=by rw[Array.toArray_toList];exact io.isList
 intro Q E q
 rcases lh e with ⟨rfl,rfl⟩ | ⟨ks,x,hm,hr,hx,hln,h5,rfl⟩
 ·have h0:vs.toList=[]:=List.length_eq_zero_iff.1 hvl
  exact tr (out:=[]) hlst (by rw[h0];decide) (by rw[h0]) (fun ξ=>h0.symm) (fun h=>by rw[h0] at h;exact absurd h (by decide)) (zc3 R q rfl (Nat.zero_le _))
 ·obtain⟨hp,-⟩:=zes x hr hx
  obtain⟨w1,w2⟩:=zr3 hp
  obtain⟨fs,k1,k2,k3⟩:=m3 hm rr
  have hk0:(ks++[x]).length=ks.length+1:=Zf
  have hvn:vs.toList.length=ks.length+1:=hvl.trans hln
  have h6:ks.length+1<=6:=Nat.succ_le_succ h5
  refine tr (out:=(y3 ks.length (xu x ks)).map fun i=>vs.toList.getD i .none) hlst (by rw[hvn];exact Z7 h6 (by decide)) (by rw[Zd,w1,hvn]) (fun h=>?_) (fun h2 A' s' E' hk=>?_) (zc3 R q (VRels.pick rr _ fun i hi=>by rw[hln];exact w2 i hi) (by rw[Zd,w1];exact Zp h6 (by decide)))
  ·rw[hvn] at h
   cases List.length_eq_zero_iff.1 (Nat.lt_one_iff.1 (Nat.lt_of_succ_lt_succ h))
   exact zoe hvn
  ·refine kat_kind (T:=.type "int") (u8 hk k1) (by rw[k2,hk0];exact Nat.succ_pos _) (fun f hf=>?_) rfl ?_
   ·obtain⟨i,hi,rfl⟩:=List.mem_iff_getElem.1 hf
    rw[k2] at hi
    obtain⟨tk,q1⟩:=k3 i _ (Zl hi)
    rw[Zl (by rw[k2];exact hi)] at q1
    rw[Option.some.inj q1]
    exact Looks.of_pure rfl
   ·rw[hvn] at h2 ⊢
    refine zkq (n:=ks.length+1) (fun i j hi hj hij C hC=>?_) (fun a ha=>⟨rfl,by rw[ha]⟩) _ (zud (Nat.le_of_succ_le_succ h2) h5 hp)
    rw[<- hk0] at hi hj
    obtain⟨ti,f1⟩:=k3 i _ (Zl hi)
    obtain⟨tj,f2⟩:=k3 j _ (Zl hj)
    obtain⟨ai,oi,xs,ni,g1,g2,g3,g4⟩:=zai (u8 hk k1) i _ f1
    obtain⟨aj,oj,ys,nj,h1,h2,h3,h4⟩:=zai (u8 hk k1) j _ f2
    unfold kas_ask
    rw[List.getD_eq_getElem?_getD,List.getD_eq_getElem?_getD,g1,h1]
    obtain⟨rest,hz⟩:=zjn g4 h4
    refine kat_lt g2 g3 h2 h3 ?_
    rw[hz]
    refine kat_cons (wpAny_eqBool_int ?_)
    rw[zrm hr hx hi hj hij]
    exact kat_no (oneLt_int (by rw[zdx hr hx hij (Zl hi) (Zl hj)];exact hC))
theorem zh9 (hq:d.q=true) (O:G.Ok N) {p:Prim}{l:List E}{m:List Qe}{np pos:Pos} (hg:jp sc (vh p)=true) (hm:z8 m=true) (hlm:l.length=m.length) (hl:vi G C d sc Γ l m) :
  z0 G C d sc Γ (.prim p l) (.Call (.Name (vh p) np) m [] pos):=by
 cases hp:nh p with
 | true=>exact zmb hq O hp hg hm hlm hl
 | false =>
  obtain rfl:p=.sorted:=by cases p <;> first | rfl | exact zgd hp
  intro t st s env loc X st' A hA hsc F R e Q E k
  rw[iz] at e
  obtain⟨Vs,s1,e1,e⟩:=Res.bind_ok e
  refine wpAny_Call_ofName (jm (v:=.builtin "sorted") O F R hsc hg (iu .sorted) (by decide +kernel) ?_)
  refine vc O (bh _) hm hlm hl hA hsc F R e1 fun vs t1 σ1 S1 R1 r1=>?_
  cases Vs with
  | nil=>exact zb e
  | cons V Vs=>cases Vs with
   | nil =>
    obtain⟨v,_,rfl,r1,rfl⟩:=r1
    obtain⟨l,rfl,e⟩:=zgq e
    obtain⟨m,hs,e⟩:=zgw e
    obtain⟨rfl,rfl⟩:=jk e
    exact i6 R1 r1 hs _ _ fun v t2 σ2 S2 R2 r2=>k v t2 σ2 (S1.trans S2) R2 r2
   | cons W Vs=>cases Vs <;> exact zb e
end
end Internal
end
section
namespace Internal
end Internal
end
section
namespace Internal
open PySem PySem.W PyProof.Rows
section
variable {G:Gd}{N:Names}{C:Calls}{d:Dp}{sc:Sc}{Γ:Gam}{A:Around}{t t':Tie}{st st':MS}{s:Shared}{env:Env}{loc:Loc}{X Y Z:V}{v w:Value}{n:Nat}{h:Heap}
theorem Stk.framesL (K:Stk A t h) {base:Heap} (hb:∀ L,t.Fr L->base.get? L=none):∀ l:List Env,(∀ e,e∈l->e∈t.st)->h.FunFrames base l
 | [],_=>trivial
 | e::r,hs=>by
  obtain⟨h1,L,o,h2,h3,h4,h5⟩:=K.ob e (hs e (.head _))
  exact⟨h1,⟨L,o,h2,hb L ⟨h3,e,hs e (.head _),h2⟩,h4,h5⟩,K.framesL hb r fun e he=>hs e (.tail _ he)⟩
theorem Stk.nf (K:Stk A t h) {a:Addr}{o:Obj} (f:t.Fr a) (e:h.get? a=some o):∀ vs,o.data≠.fields vs:=by
 obtain⟨-,e',h1,h2⟩:=f
 obtain⟨-,L,o',h3,-,h4,h5⟩:=K.ob e' h1
 rw[h3] at h2;cases h2
 rw[e] at h4;cases h4
 exact h5
structure Fly (t:Tie) (l:List Env) (c:Nat) (e:Addr) (s₁:Shared) (h:Heap):Prop where
 ex:∃ B a0,(∀ a o,s₁.heap.get? a=some o->¬ t.Fr a->B.get? a=some o)/\Heap.FlyingW B l e (.ref c) a0 h
 up:s₁.heap.UpToSlots h
 new:s₁.heap.get? e=none
theorem Fly.keep {l:List Env}{c:Nat}{e:Addr}{s₁:Shared} (F:Fly t l c e s₁ h) {a:Addr}{o:Obj} (q:s₁.heap.get? a=some o) (nf:¬ t.Fr a):h.get? a=some o:=by
 obtain⟨B,a0,h1,h2⟩:=F.ex
 exact h2.1 a o (h1 a o q nf)
theorem bx (K:Stk A t s.heap) (hk:∀ a o,s.heap.get? a=some o->¬ t.Fr a->h.get? a=some o) (hu:s.heap.UpToSlots h):Step noX t t s {s with heap:=h} where
 le:=.refl t
 keepW a o e _ _ nf:=hk a o e nf
 slots a o e _ _ f:=hu a o e (K.nf f e)
 new _ o:=.inl o
 live a o e:=by
  show(h.get? a).isSome=true
  by_cases f:t.Fr a
  ·obtain⟨sl,q⟩:=hu a o e (K.nf f e);rw[q];rfl
  ·rw[hk a o e f];rfl
 gens:=rfl
 os:=rfl
theorem Rel.slots (R:Rel G t st s) (K:Stk A t s.heap) (hk:∀ a o,s.heap.get? a=some o->¬ t.Fr a->h.get? a=some o) (hu:s.heap.UpToSlots h):Rel G t st {s with heap:=h} where
 base b o e:=hk b o (R.base b o e) fun f=>by have:=R.apart b (.inr f.1);rw[e] at this;cases this
 apart:=R.apart
 live a q:=by obtain⟨o,e⟩:=Option.isSome_iff_exists.mp (R.live a q);exact(bx K hk hu).live a o e
 pv:=R.pv
 injρ:=R.injρ
 injδ:=R.injδ
 two:=R.two
 objs l o e:=(R.objs l o e).step (bx K hk hu) (fun ξ x=>x.elim) fun a o q e=>hk a o e fun f=>R.pv a f.1 ⟨l,q⟩
 cnt:=R.cnt
 sys:=R.sys
 wr:=R.wr
structure HeldS (t:Tie) (l:List Env) (c:Nat) (e L:Addr) (s₁:Shared) (h:Heap):Prop where
 ex:∃ B a0,(∀ a o,s₁.heap.get? a=some o->¬ t.Fr a->B.get? a=some o)/\Heap.HeldW B l e (.ref c) a0 L h
 up:s₁.heap.UpToSlots h
 new:s₁.heap.get? e=none
theorem zgp {e:Addr}{c:Nat}{h':Heap}{args:List Value} (K:Stk A t s.heap) (hx:Heap.MadeExcOf s.heap h' e (.ref c) args) :
  ∃ B:Heap,(∀ a o,s.heap.get? a=some o->¬ t.Fr a->B.get? a=some o)/\h'.FunFrames B t.st/\B.StaysIn h'/\B.get? e=none:=by
 have inF:∀ {a},t.Fr a->a∈t.st.filterMap (·.frame):=fun f=>let ⟨e,h1,h2⟩:=f.2;List.mem_filterMap.2 ⟨e,h1,h2⟩
 have K':Stk A t h':=⟨K.fr,fun e he=>let ⟨h1,L,o,h2,h3,h4,h5⟩:=K.ob e he;⟨h1,L,o,h2,h3,hx.keeps _ _ h4,h5⟩⟩
 refine⟨hideAll s.heap (t.st.filterMap (·.frame)),fun a o q nf=>?_,K'.framesL (fun L f=>hideAll_none _ (inF f)) _ fun ξ z=>z,fun b o z=>hx.keeps b o (of_hideAll _ z),?_⟩
 ·refine hideAll_get _ q fun hm=>nf ?_
  obtain⟨e',h1,h2⟩:=List.mem_filterMap.1 hm
  obtain⟨-,L',o',h3,h4,-⟩:=K.ob e' h1
  rw[h3] at h2;cases h2
  exact⟨h4,e',h1,h3⟩
 ·cases z:(hideAll s.heap (t.st.filterMap (·.frame))).get? e with
  | none=>rfl
  | some o=>have:=of_hideAll _ z;rw[hx.new] at this;exact za this
theorem ziq {outer:List Env}{L e:Addr}{c:Nat}{h':Heap}{args:List Value}{Q:Unit->Shared->Prop}{E:Value->Shared->Prop} (K:Stk A t s.heap) (hst:t.st=env::outer) (hL:env.frame=some L) (hx:Heap.MadeExcOf s.heap h' e (.ref c) args)
  (q:∀ h'',Fly t outer c e s h''->Q () {s with heap:=h''}):wpAny G.M A (leaving env (.ref e)) Q E {s with heap:=h'}:=by
 obtain⟨tp,he,-,-⟩:=hx.there
 obtain⟨B,cov,hfr,hkb,hen⟩:=zgp K hx
 rw[hst] at hfr
 refine wpAny_leaving_firstW (base:=B) (outer:=outer) (by rw[K.fr,hst]) hfr hL he hkb hen rfl rfl rfl fun h'' hl=>?_
 obtain⟨k1,⟨_,_,k2⟩,k3,k4⟩:=hl
 exact q h'' ⟨⟨_,_,cov,k1,hen,k2,k3⟩,fun a o z nz=>k4 a o (hx.keeps a o z) nz,hx.new⟩
theorem zlm {outer:List Env}{L e:Addr}{c:Nat}{h':Heap}{args:List Value}{Q:Unit->Shared->Prop}{E:Value->Shared->Prop} (K:Stk A t s.heap) (hst:t.st=env::outer) (hL:env.frame=some L) (hx:Heap.MadeExcOf s.heap h' e (.ref c) args)
  (q:∀ h'',HeldS t (env::outer) c e L s h''->Q () {s with heap:=h''}):wpAny G.M A (noteFrame (.ref e) env) Q E {s with heap:=h'}:=by
 obtain⟨tp,he,-,-⟩:=hx.there
 obtain⟨B,cov,hfr,hkb,hen⟩:=zgp K hx
 rw[hst] at hfr
 unfold noteFrame
 simp only[hL]
 refine Ze (wpAny_field (i:=1) (x:=.none) he rfl rfl ?_)
 rw[Zh (by decide)]
 refine wpAny_entryW (base:=B) (a0:=.ref tp) (by rw[K.fr,hst]) hfr hL he hkb hen rfl (show 1 < 6 from by decide) rfl fun h'' hn=>?_
 obtain⟨k1,k2,k3,k4⟩:=hn
 exact q h'' ⟨⟨B,_,cov,k1,hen,k2,k3⟩,fun a o z nz=>k4 a o (hx.keeps a o z) nz,hx.new⟩
theorem zby {base:Heap}{l:List Env}{e L:Addr}{cls a0:Value}{Q:Unit->Shared->Prop}{E:Value->Shared->Prop} (R:Heap.HeldW base l e cls a0 L s.heap)
  (q:∀ h',Heap.HeldW base l e cls a0 L h'->s.heap.UpToSlots h'->Q () {s with heap:=h'}):wpAny G.M A (setFlight (.ref e) (some L)) Q E s:=by
 obtain⟨hkb,hen,hl,oe,vs,T,oT,ts,he,hc,hd,h1,hnT,hTe,hT,hdT,h3⟩:=R
 have hz:3 < ts.size:=(Array.getElem?_eq_some_iff.mp h3).1
 have ot:∀ b,b≠T->(s.heap.update T (Obj.mapFields (·.setIfInBounds 3 (rawInt L)))).get? b=s.heap.get? b:=fun b hb=>Heap.get?_update_other _ _ (Ne.symm hb)
 have nt:∀ b o,s.heap.get? b=some o->(∀ vs,o.data≠.fields vs)->b≠T:=fun b o hb hf z=>by
  rw[z,hT] at hb;cases hb;exact hf ts hdT
 unfold setFlight
 refine Ze (wpAny_field he hd h1 ?_)
 rw[Zg (show(Value.ref T != Value.none)=true from by simp)]
 refine wpAny_setField hT hdT hz (q _ ⟨fun b o hb=>(ot b fun z=>by rw[z,hnT] at hb;cases hb).trans (hkb b o hb),hen,hl.of_keeps fun b o hb hf=>⟨o,(ot b (nt b o hb hf)).trans hb,rfl⟩,oe,vs,T,_,_,(ot e (Ne.symm hTe)).trans he,hc,hd,h1,hnT,hTe,Heap.get?_update_self _ hT (Obj.isFreed_of_fields (Obj.data_mapFields hdT _)),Obj.data_mapFields hdT _,?_⟩ fun b o hb hf=>⟨o.slots,(ot b (nt b o hb hf)).trans hb⟩)
 simp[hz]
set_option genCtorIdx true in
inductive Air (A:Around) (tc:Tie) (env:Env) (c:Nat) (e:Addr) (s:Shared) (h:Heap):Prop
 | made (args:List Value) (K:Stk A tc s.heap) (hx:Heap.MadeExcOf s.heap h e (.ref c) args)
 | fly (l:List Env) (hl:A.frames=some l) (fl:Fly tc l c e s h)
 | held (l:List Env) (L:Addr) (hl:A.frames=some l) (hL:env.frame=some L) (hh:HeldS tc l c e L s h)
theorem Air.leave {tc:Tie}{c:Nat}{e L:Addr}{outer:List Env}{Q:Unit->Shared->Prop}{E:Value->Shared->Prop} (a:Air A tc env c e s h) (hfr:A.frames=some (env::outer)) (hf:env.frame=some L)
  (q:∀ h'',Fly tc outer c e s h''->Q () {s with heap:=h''}):wpAny G.M A (leaving env (.ref e)) Q E {s with heap:=h}:=by
 cases a with
 | made args K hx=>exact ziq K (Option.some.inj (K.fr.symm.trans hfr)) hf hx q
 | fly l hl fl =>
  cases hl.symm.trans hfr
  obtain⟨B,a0,cov,hfl⟩:=fl.ex
  exact wpAny_leaves_onW hfr hf hfl fun h' f' up=>q h' ⟨⟨B,a0,cov,f'⟩,fl.up.trans up,fl.new⟩
 | held l L' hl hL hh =>
  cases hl.symm.trans hfr
  cases hL.symm.trans hf
  obtain⟨B,a0,cov,hw⟩:=hh.ex
  unfold leaving
  refine Ze (wpAny_noteFrame_againW hf hw.2.2.2 (wpAny_landsW hw fun h' hfl up=>?_))
  obtain⟨k1,k2,⟨_,_,k3⟩,k4⟩:=hfl
  exact q h' ⟨⟨B,a0,cov,k1,k2,k3,k4⟩,hh.up.trans up,hh.new⟩
theorem Air.note {tc:Tie}{c:Nat}{e L:Addr}{outer:List Env}{Q:Unit->Shared->Prop}{E:Value->Shared->Prop} (a:Air A tc env c e s h) (hfr:A.frames=some (env::outer)) (hf:env.frame=some L)
  (q:∀ h'',HeldS tc (env::outer) c e L s h''->Q () {s with heap:=h''}):wpAny G.M A (noteFrame (.ref e) env) Q E {s with heap:=h}:=by
 cases a with
 | made args K hx=>exact zlm K (Option.some.inj (K.fr.symm.trans hfr)) hf hx q
 | fly l hl fl =>
  cases hl.symm.trans hfr
  obtain⟨B,a0,cov,hfl⟩:=fl.ex
  exact wpAny_looks_onW hfr hf hfl fun h' f' up=>q h' ⟨⟨B,a0,cov,f'⟩,fl.up.trans up,fl.new⟩
 | held l L' hl hL hh =>
  cases hl.symm.trans hfr
  cases hL.symm.trans hf
  obtain⟨B,a0,cov,hw⟩:=hh.ex
  exact wpAny_noteFrame_againW hf hw.2.2.2 (q h hh)
theorem Air.back {tc:Tie}{c:Nat}{e L:Addr}{outer:List Env}{E:Value->Shared->Prop} (a:Air A tc env c e s h) (hfr:A.frames=some (env::outer)) (hf:env.frame=some L)
  (q:∀ h'',Air A tc env c e s h''->E (.ref e) {s with heap:=h''}):notedBy G.M A env (fun x s'=>cameBackBy G.M A env E x s') (.ref e) {s with heap:=h}:=by
 refine a.note hfr hf fun h2 hh=>?_
 obtain⟨B,a0,cov,hw⟩:=hh.ex
 obtain⟨_,_,_,oe,vs,T,_,_,he,_,hd,h1,_⟩:=id hw
 refine Ze (wpAny_field he hd h1 ?_)
 rw[Zh (show ¬ ((Value.ref T == Value.none)=true) from by simp),hf]
 exact zby hw fun h3 hw3 up=>q h3 (.held _ L hfr hf ⟨⟨B,a0,cov,hw3⟩,hh.up.trans up,hh.new⟩)
structure Land (G:Gd) (X:Addr->Prop) (t:Tie) (s:Shared) (st':MS) (tc:Tie) (s2:Shared):Prop where
 go:∀ h:Heap,(∀ a o,s2.heap.get? a=some o->¬ tc.Fr a->h.get? a=some o)->s2.heap.UpToSlots h->
  ∃ t2:Tie,Step X t t2 s {s2 with heap:=h}/\Rel G t2 st' {s2 with heap:=h}/\∀ a,t2.Avoid a->(s2.heap.get? a).isSome=true
theorem Land.pre {X:Addr->Prop}{t1 tc:Tie}{σ1 s2:Shared} (S:Step X t t1 s σ1) (L:Land G X t1 σ1 st' tc s2):Land G X t s st' tc s2 :=
 ⟨fun h c u=>let ⟨t2,a,b,q⟩:=L.go h c u;⟨t2,S.trans a,b,q⟩⟩
theorem Land.mono {X Y:Addr->Prop}{tc:Tie}{s2:Shared} (L:Land G X t s st' tc s2) (h:∀ a,X a->Y a):Land G Y t s st' tc s2 :=
 ⟨fun h' c u=>let ⟨t2,a,b,q⟩:=L.go h' c u;⟨t2,a.mono h,b,q⟩⟩
structure Ends (G:Gd) (A:Around) (env:Env) (t:Tie) (s:Shared) (st':MS) (c:Nat) (e:Addr) (σ:Shared):Prop where
 ex:∃ tc s2 h,σ={s2 with heap:=h}/\Land G (own env) t s st' tc s2/\Air A tc env c e s2 h
theorem Ends.pre {t1:Tie}{σ1 σ:Shared}{c:Nat}{e:Addr} (S:Step (own env) t t1 s σ1) (k:Ends G A env t1 σ1 st' c e σ):Ends G A env t s st' c e σ :=
 let ⟨tc,s2,h,e,L,q⟩:=k.ex;⟨tc,s2,h,e,L.pre S,q⟩
theorem Ends.made {s₁:Shared}{h':Heap}{c:Nat}{e:Addr}{args:List Value} (S:Step (own env) t t' s s₁) (R:Rel G t' st' s₁) (K:Stk A t' s₁.heap) (hx:Heap.MadeExcOf s₁.heap h' e (.ref c) args):Ends G A env t s st' c e {s₁ with heap:=h'} :=
 ⟨t',s₁,h',rfl,⟨fun h cov up=>⟨t',S.trans ((bx K cov up).mono fun ξ z=>z.elim),R.slots K cov up,fun a q=>R.live a q⟩⟩,.made args K hx⟩
theorem Ends.fly {tc:Tie}{sx:Shared}{hh:Heap}{c:Nat}{e:Addr} (K:Stk A t s.heap) (L:Land G noX t s st' tc sx) (fl:Fly tc t.st c e sx hh):Ends G A env t s st' c e {sx with heap:=hh} :=
 ⟨tc,sx,hh,rfl,L.mono fun ξ z=>z.elim,.fly _ K.fr fl⟩
noncomputable def zsh (G:Gd) (A:Around) (env:Env) (t:Tie) (s:Shared) (tree:Sem Flow) (st':MS) (c:Nat):Prop :=
 ∀ (Q:Flow->Shared->Prop) (E:Value->Shared->Prop),(∀ e σ,Ends G A env t s st' c e σ->E (.ref e) σ)->wpAny G.M A tree Q E s
noncomputable def gq (G:Gd) (C:Calls) (d:Dp) (sc:Sc) (Γ:Gam) (q:E) (x:Qe):Prop :=
 ∀ t st s env loc c st' A,AOk d A->env.scope.names=sc->FrOk G A t env Γ loc s->Rel G t st s->evQ G.P C q loc st=.exc c st'->∀ (Q:Value->Shared->Prop) (E:Value->Shared->Prop),
  (∀ e tc sx h,Land G noX t s st' tc sx->Fly tc t.st c e sx h->E (.ref e) {sx with heap:=h})->wpAny G.M A (eval x env) Q E s
noncomputable def gm (G:Gd) (C:Calls) (d:Dp) (sc:Sc) (Γ:Gam) (n:Nat) (x:S) (ast:Stmt):Prop :=
 ∀ t st s env loc c st' A,AOk d A->TopA A env->env.scope.names=sc->FrOk G A t env Γ loc s->Rel G t st s->ex G.P C n x loc st=.exc c st'->zsh G A env t s (exec ast env) st' c
noncomputable def n9 (G:Gd) (C:Calls) (d:Dp) (sc:Sc) (Γ:Gam) (n:Nat) (l:List S) (m:List Stmt):Prop :=
 ∀ t st s env loc c st' A,AOk d A->TopA A env->env.scope.names=sc->FrOk G A t env Γ loc s->Rel G t st s->exs G.P C n l loc st=.exc c st'->zsh G A env t s (execs m env) st' c
theorem zjg {m:List Stmt}:n9 G C d sc Γ n [] m:=by
 intro t st s env loc c st' A hA hT hsc F R e
 cases e
theorem zdu {x:S}{l:List S}{ast:Stmt}{m:List Stmt} (h0:vz G C d sc Γ n x ast) (h1:gm G C d sc Γ n x ast) (h2:n9 G C d sc Γ n l m):n9 G C d sc Γ n (x::l) (ast::m):=by
 intro t st s env loc c st' A hA hT hsc F R e Q E k
 rw[qg] at e
 rcases Res.bind_exc e with e1 | ⟨⟨f1,l1⟩,s1,e1,e⟩
 ·exact wpAny_execs_cons (h1 t st s env loc c st' A hA hT hsc F R e1 _ _ k)
 ·refine wpAny_execs_cons (h0 t st s env loc f1 l1 s1 A hA hT hsc F R e1 _ _ fun f t1 σ1 S1 R1 F1 r1=>?_)
  cases f1 with
  | next =>
   have r1:f=.next:=r1
   subst r1
   exact h2 t1 s1 σ1 env l1 c st' A hA hT hsc F1 R1 e _ _ fun e σ en=>k e σ (en.pre S1)
  | ret X=>cases e
theorem zoc {c:E}{b1 b2:List S}{x:Qe}{m1 m2:List Stmt}{pos:Pos} (hc:bq G C d sc Γ c x) (h1:n9 G C d sc Γ n b1 m1) (h2:n9 G C d sc Γ n b2 m2):gm G C d sc Γ n (.ite c b1 b2) (.If x m1 m2 pos):=by
 intro t st s env loc k st' A hA hT hsc F R e Q E q
 rw[u7] at e
 obtain⟨V,s1,e1,e⟩:=Res.bnd_exc e
 obtain⟨b,s2,e2,e⟩:=Res.bnd_exc e
 obtain⟨rfl,rfl⟩:=jx e2
 refine wpAny_If (hc t st s env loc b _ A hA hsc F R e1 _ _ fun b' t1 σ1 S1 R1 r1=>?_)
 subst r1
 have S1':Step (own env) t t1 s σ1:=S1.mono fun ξ z=>z.elim
 cases b' with
 | true =>
  simp only[if_true] at e ⊢
  exact h1 t1 _ σ1 env loc k st' A hA hT hsc (F.step R S1) R1 e _ _ fun e σ en=>q e σ (en.pre S1')
 | false =>
  simp only[Bool.false_eq_true,if_false] at e ⊢
  exact h2 t1 _ σ1 env loc k st' A hA hT hsc (F.step R S1) R1 e _ _ fun e σ en=>q e σ (en.pre S1')
theorem zho {a:E}{x:Stmt}:gm G C d sc Γ n (.expr a) x:=by
 intro t st s env loc c st' A hA hT hsc F R e
 rw[lq] at e
 obtain⟨V,s1,e1,e⟩:=Res.bnd_exc e
 cases e
theorem zbs {i:Nat}{a:E}{x:Stmt}:gm G C d sc Γ n (.assign i a) x:=by
 intro t st s env loc c st' A hA hT hsc F R e
 rw[bk] at e
 obtain⟨V,s1,e1,e⟩:=Res.bnd_exc e
 by_cases q:i < loc.length
 ·rw[Zg q] at e;cases e
 ·rw[Zh q] at e;cases e
theorem zag {a b e':E}{x:Stmt}:gm G C d sc Γ n (.setitem a b e') x:=by
 intro t st s env loc c st' A hA hT hsc F R e
 rw[b4] at e
 obtain⟨V,s1,e1,e⟩:=Res.bnd_exc e
 obtain⟨V,s1,e1,e⟩:=Res.bnd_exc e
 obtain⟨V,s1,e1,e⟩:=Res.bnd_exc e
 obtain⟨V,s1,e1,e⟩:=Res.bnd_exc e
 cases e
theorem et {a e':E}{i:Nat}{x:Stmt}:gm G C d sc Γ n (.setattr a i e') x:=by
 intro t st s env loc c st' A hA hT hsc F R e
 rw[b7] at e
 obtain⟨V,s1,e1,e⟩:=Res.bnd_exc e
 obtain⟨V,s1,e1,e⟩:=Res.bnd_exc e
 obtain⟨V,s1,e1,e⟩:=Res.bnd_exc e
 cases e
theorem zkm {a:Option E}{x:Stmt}:gm G C d sc Γ n (.ret a) x:=by
 intro t st s env loc c st' A hA hT hsc F R e
 rw[p5] at e
 cases a with
 | none=>cases e
 | some a =>
  obtain⟨V,s1,e1,e⟩:=Res.bnd_exc e
  cases e
set_option genCtorIdx true in
inductive OneRet:List S->Prop
 | mk (c:E) (o:Option E):OneRet [.ite c [.ret o] []]
theorem zic {P:Prog}{o:Option E}{l:Loc}{s s':MS}{c:Nat} (e:ex P C n (.ret o) l s=.exc c s'):False:=by
 rw[p5] at e
 cases o with
 | none=>cases e
 | some a=>obtain⟨V,s1,e1,e⟩:=Res.bnd_exc e;cases e
theorem zi6 {P:Prog}{b:List S} (h:OneRet b) {l:Loc}{s s':MS}{c:Nat} (e:exs P C n b l s=.exc c s'):False:=by
 cases h with
 | mk c0 o =>
  rw[qg,u7] at e
  rcases Res.bind_exc e with e | ⟨⟨f1,l1⟩,s1,-,e⟩
  ·obtain⟨V,s1,-,e⟩:=Res.bnd_exc e
   obtain⟨b,s2,-,e⟩:=Res.bnd_exc e
   cases b with
   | false=>cases e
   | true =>
    rcases Res.bind_exc e with e | ⟨⟨f1,l1⟩,s1,-,e⟩
    ·exact zic e
    ·cases f1 <;> cases e
  ·cases f1 <;> cases e
theorem sg {st₀:MS}{range:Bool}{src:V}{tg:V->Loc->MS->Res Loc}{bd:Loc->MS->Res (Fl×Loc)}{c:Nat}{s':MS} (hb:∀ {l s},bd l s=.exc c s'->False):∀ (xs:List V) {l:Loc}{s:MS},qt st₀ range src tg bd xs l s=.exc c s'->False
 | [],l,s,e=>by
  rw[vj] at e
  split at e <;> cases e
 | x::xs,l,s,e=>by
  rw[xe] at e
  split at e
  ·obtain⟨l2,s2,-,e⟩:=Res.bnd_exc e
   rcases Res.bind_exc e with e | ⟨⟨f1,l1⟩,s1,-,e⟩
   ·exact hb e
   ·cases f1 with
    | next=>exact sg hb xs e
    | ret v=>cases e
  ·cases e
theorem zhv {ts:T ⊕ List T}{range:Bool}{it:E}{body:List S}{x:Stmt} (h:OneRet body):gm G C d sc Γ n (.for_ ts range it body) x:=by
 intro t st s env loc c st' A hA hT hsc F R e
 rw[zc6] at e
 obtain⟨V,s1,-,e⟩:=Res.bnd_exc e
 exfalso
 cases hi:zz s1 range V with
 | none=>rw[hi] at e;cases e
 | some xs =>
  rw[hi] at e
  have e:(if mt ts range V s1 then qt s1 range V (wu G.P C ts) (exs G.P C n body) xs loc s1 else .stuck)=.exc c st':=e
  by_cases hf:mt ts range V s1=true
  ·rw[Zg hf] at e;exact sg (fun e=>zi6 h e) xs e
  ·rw[Zh hf] at e;cases e
noncomputable def vbm:List Value:=[.type "ValueError",.type "Exception",.type "BaseException",.type "object"]
noncomputable abbrev zpl (G:Gd) (x:Qf) (c:Nat):Prop:=OwnCls x c vbm "ValueError.__new__" G.mg G.h₀
theorem zd7 (hq:d.q=true) (O:G.Ok N) {c:Nat}{x:Qf}{np cpos pos kpos:Pos}{ms:List Nat}{kk:Nat} (W:zpl G x c) (hg:jp sc x=true) :
  gm G C d sc Γ n (.raise c) (.Raise (some (.Call (.Name x np) [.Constant (.str (z7 ms)) kk kpos] [] cpos)) none pos):=by
 intro t st s env loc c' st' A hA hT hsc F R e Q E k
 rw[zoj] at e
 cases e
 obtain⟨bm,Nn,nm,qn,bs,hdct,sn,sub,ab,col,dd,k0,k1,k2,k3,k5,mN,hC,hN,hni,T⟩:=W.obj
 refine wpAny_Raise_call_subT (nm:=nm) (q:=qn) (C:=c) (N:=Nn) (bs:=bs) (bm:=bm) (hdct:=hdct) (sn:=sn) (sub:=sub) (ab:=ab) (col:=col) (dd:=dd) (k0:=k0) (k1:=k1) (k2:=k2) (k3:=k3) (k5:=k5) PySem.F.excBase_ValueError (T.hasType PySem.F.excBase_ValueError.hasBase) (hA.hd hq) rfl hni ?_
 refine kb O F R hsc hg W.bound ⟨rfl,?_⟩
 refine zg0 (C:=C) (l:=[.str ms]) rfl rfl (vq rfl zfq yi) hA hsc F R rfl fun vs t1 σ1 S1 R1 r1=>?_
 refine⟨rfl,?_,R1.base _ _ hC,hN.keeps R1.base,T.keeps R1.base,fun h' e hm=>k e _ (.made (S1.mono fun ξ z=>z.elim) R1 (F.step R S1).sk hm)⟩
 rw[r1.length];show 1<=_;decide
noncomputable def zex (G:Gd) (C:Calls) (d:Dp) (xf:Nat->Bool):Prop :=
 ∀ f vs st c st',xf f=true->C f vs st=.exc c st'->∀ A,AC d A->∃ a,G.fa f=some a/\∀ t s args,Stk A t s.heap->Rel G t st s->VRels t s.heap vs args->∀ (B:Result->Shared->Prop),
  (∀ e tc s2 h,Land G noX t s st' tc s2->Fly tc t.st c e s2 h->B (.error (.ref e)) {s2 with heap:=h})->codeAny G.M A (.call (.ref a) ⟨args,[]⟩) B s
noncomputable def ft (G:Gd) (C:Calls) (n:Nat) (qf:Nat->Bool):Prop:=∀ f,qf f=true->md G C ⟨n,false⟩ f
structure CallsA (G:Gd) (xf qf:Nat->Bool) (C:Calls) (n:Nat):Prop where
 ok:lu G C ⟨n,true⟩
 x:zex G C ⟨n,true⟩ xf
 q:ft G C n qf
structure FnX (G:Gd) (xf qf:Nat->Bool) (fn:Fn) (a:Addr):Prop where
 ex:∃ (fd:FuncData) (body:List Stmt),FnHd G fn a fd body/\∀ (C:Calls) (n:Nat),CallsA G xf qf C n->n9 G C ⟨n,true⟩ fd.scope.names (oh fn) n fn.body body
theorem zp1 (O:G.Ok N) {fn:Fn}{a:Addr}{xf qf:Nat->Bool} (hfn:FnX G xf qf fn a) (CA:CallsA G xf qf C n) (hA:AC ⟨n+1,true⟩ A) {Vs:List V}{vals:List Value} (K:Stk A t s.heap) (R:Rel G t st s) (r:VRels t s.heap Vs vals) (hnp:Vs.length=fn.np)
  {c:Nat} (e:exs G.P C n fn.body (Vs.map some++List.replicate (fn.names.length-fn.np) none) st=.exc c st') {B:Result->Shared->Prop}
  (k:∀ e tc s2 h,Land G noX t s st' tc s2->Fly tc t.st c e s2 h->B (.error (.ref e)) {s2 with heap:=h}) :
  codeAny G.M A (.call (.ref a) ⟨vals,[]⟩) B s:=by
 obtain⟨fd,body,hd,h15⟩:=hfn.ex
 refine zbt O hd hA K R r hnp fun env s₁ hs hf np hk0 hg ho hA' F0 R0=>?_
 refine h15 C n CA (t.hideS (own env) (env::t.st)) st s₁ env _ c st' (A.deeper env) hA' ⟨_,Around.frames_deeper K.fr,hf⟩ hs F0 R0 e _ _ fun e' σ en=>?_
 obtain⟨tc,s2,h2,rfl,Ld,lv⟩:=en.ex
 refine lv.leave (Around.frames_deeper K.fr) hf fun h'' fl=>k e' tc s2 h'' ⟨fun h3 cov up=>?_⟩ fl
 obtain⟨t',S',R',av⟩:=Ld.go h3 cov up
 have hpv:t'.pv=(t.hideS (own env) (env::t.st)).pv:=S'.le.pv
 have nP:∀ b,t.pv b->¬ own env b:=fun b q z=>by
  have:=R.live b (.inr q)
  rw[np b z] at this;exact z6 this
 have Fg:Forget (own env) noX t' {t' with pv:=t.pv,st:=t.st} {s2 with heap:=h3} {s2 with heap:=h3} :=
  ⟨rfl,rfl,fun b q=>⟨by rw[hpv];exact .inl q,nP b q⟩,fun b q=>by rw[hpv];exact .inr q,fun b z=>z.elim,fun ξ ξ ξ ξ e=>e,rfl,rfl,rfl⟩
 have S'':=Step.unhideS (t:=t) (L:=noX) (l:=env::t.st) (fun e he=>(Zu.1 he).elim (fun z=>.inr fun b q=>by rw[z,hf] at q;cases q;exact .inl rfl) .inl) (fun e he=>Zk _ he) (fun b q=>.inl q) np hk0 hg ho S' Fg
 refine⟨_,S'',R'.forget Fg,fun a q=>av a ?_⟩
 rcases q with q | q
 ·exact .inl q
 ·exact .inr (by rw[hpv];exact .inl q)
set_option tactic.hygienic true in
theorem zpf {P:Prog}{f:Nat}{vs:List V}{X:V} (e:run P (n+1) f vs st=.ok X st'):∃ fn p,P.fns f=some fn/\vs.length=fn.np/\exs P (run P n) n fn.body (vs.map some++List.replicate (fn.names.length-fn.np) none) st=.ok p st'/\X=(match p.1 with | .ret v=>v | .next=>.none):=by
 simp only[run] at e
 split at e
 case h_2=>exact zb e
 rename_i fn hf
 split at e
 case isFalse=>exact zb e
 rename_i hnp
 obtain⟨p,s1,e1,e⟩:=Res.bind_ok e
 cases e
 exact⟨fn,p,hf,hnp,e1,rfl⟩
set_option tactic.hygienic true in
theorem zma {P:Prog}{f c:Nat}{vs:List V} (e:run P (n+1) f vs st=.exc c st'):∃ fn,P.fns f=some fn/\vs.length=fn.np/\exs P (run P n) n fn.body (vs.map some++List.replicate (fn.names.length-fn.np) none) st=.exc c st':=by
 simp only[run] at e
 split at e
 case h_2=>cases e
 rename_i fn hf
 split at e
 case isFalse=>cases e
 rename_i hnp
 rcases Res.bind_exc e with e1 | ⟨p,s1,e1,e⟩
 ·exact⟨fn,hf,hnp,e1⟩
 ·cases e
theorem zb3 (O:G.Ok N) {q:Bool}{PX:Calls->Nat->Prop}{f:Nat} (hfn:∀ fn,G.P.fns f=some fn->∃ a,G.fa f=some a/\FnRec G q PX fn a) (px:PX (run G.P n) n):md G (run G.P (n+1)) ⟨n+1,q⟩ f:=by
 intro vs st X st' e A hA
 obtain⟨fn,p,hf,hnp,e1,h1⟩:=zpf e
 obtain⟨a,ha,rec⟩:=hfn fn hf
 exact⟨a,ha,fun t s args K R r B k=>zj2 O rec px hA K R r hnp e1 fun v t' s' S' R' rv=>k v t' s' S' R' (by rw[h1];exact rv)⟩
theorem dw (O:G.Ok N) {xf qf:Nat->Bool} (hfn:∀ f fn,G.P.fns f=some fn->∃ a,G.fa f=some a/\FnRec G true (CallsA G xf qf) fn a) (hx:∀ f fn,xf f=true->G.P.fns f=some fn->∃ a,G.fa f=some a/\FnX G xf qf fn a)
  (hq:∀ f fn,qf f=true->G.P.fns f=some fn->∃ a,G.fa f=some a/\FnRec G false (fun C n=>ft G C n qf) fn a):∀ n,CallsA G xf qf (run G.P n) n
 | 0=>⟨fun f vs st X st' e=>(by exact zb e),fun f vs st c st' ξ e=>(by cases e),fun f ξ vs st X st' e=>(by exact zb e)⟩
 | n+1=>by
  have ih:=dw O hfn hx hq n
  refine⟨fun f=>zb3 O (hfn f) ih,fun f vs st c st' xq e A hA=>?_,fun f qq=>zb3 O (fun fn=>hq f fn qq) ih.q⟩
  obtain⟨fn,hf,hnp,e1⟩:=zma e
  obtain⟨a,ha,rec⟩:=hx f fn xq hf
  exact⟨a,ha,fun t s args K R r B k=>zp1 O rec ih hA K R r hnp e1 k⟩
theorem FrOk.mark {x:Option Value} (F:FrOk G A t env Γ loc s):FrOk G (A.mark x) t env Γ loc s:=⟨⟨F.sk.fr,F.sk.ob⟩,F.fn,F.gl,F.bl,F.pvl,F.pvc,F.apart,F.ex⟩
theorem AOk.mark {x:Option Value} (h:AOk d A):AOk ⟨d.n,false⟩ (A.mark x):=⟨nofun,h.dep,h.un⟩
theorem TopA.mark {x:Option Value} (h:TopA A env):TopA (A.mark x) env:=h
theorem zhk {x:Option Value}{nm:Qf}{pos:Pos} (F:FrOk G (A.mark x) t env Γ loc s) (R:Rel G t st s) (hl:env.kindOf nm=some .local) {Q:Unit->Shared->Prop}{E:Value->Shared->Prop}
  (q:∀ s',Step (own env) t t s s'->Rel G t st s'->FrOk G A t env Γ [] s'->Q () s'):wpAny G.M A (do bindName env nm .none;unbindBehindTheSuite env nm pos) Q E s:=by
 obtain⟨m,cm,hn,hcc,hz,hs⟩:=F.ex
 refine wpAny_nameGoes hl hn F.noClass fun h' m' hn' hs'=>?_
 have hlv:(h'.get? env.locals).isSome=true:=by obtain⟨o,_,_,z,_⟩:=hn';rw[z];rfl
 have sk:Stk A t h':=Stk.step (A:=A) ⟨F.sk.fr,F.sk.ob⟩ R (Step.priv (X:=(·=env.locals)) (tk:=s.toks+1) rfl hlv hs') fun a x ξ o e vs z=>by
  subst x
  obtain⟨ob,es,ep,h1,h2,_⟩:=hn'
  rw[show h'.get? env.locals=some o from e] at h1;cases h1
  rw[h2] at z;cases z
 refine q _ (Step.priv (.inl rfl) hlv hs') (R.priv F.pvl hlv hs') ⟨sk,F.fn,F.gl,F.bl,F.pvl,F.pvc,F.apart,m',cm,hn',fun n c e=>?_,hz,fun i y Y ξ e2=>by cases e2⟩
 have hc:=hcc n c e
 have hne:=zaf hn hc
 obtain⟨oc,h3,h4⟩:=hc
 exact⟨oc,(hs'.2 c hne).trans h3,h4⟩
section
variable {xf:Nat->Bool} (O:G.Ok N) (CX:zex G C d xf) {l:List E}{m:List Qe}{cp:Pos} (hm:z8 m=true) (hlm:l.length=m.length) (hl:vi G C d sc Γ l m)
include O CX hm hlm hl
theorem zdt (hfn:∀ f a,G.fa f=some a->FnOk G N f a) {f:Nat}{np:Pos} (hxq:xf f=true) (hne:N.fn f≠Str.empty) (hg:jp sc (N.fn f)=true):gq G C d sc Γ (.call f l) (.Call (.Name (N.fn f) np) m [] cp):=by
 intro t st s env loc c st' A hA hsc F R e Q E k
 rw[du] at e
 obtain⟨Vs,s2,e2,e⟩:=Res.bnd_exc e
 obtain⟨a,h1,h2⟩:=CX f Vs s2 c st' hxq e A hA.ac
 have fo:=hfn f a h1
 refine wpAny_Call_ofName (kb O F R hsc hg (fo.name.resolve_left hne) ?_)
 refine vc O (fh fo.keep) hm hlm hl hA hsc F R e2 fun vs t1 σ1 S1 R1 r1=>?_
 exact wpAny_call (h2 t1 σ1 vs (F.step R S1).sk R1 r1 _ fun ee tc sx hh ld fly=>k ee tc sx hh (ld.pre S1) (S1.le.st▸fly))
theorem zfg (hcl:∀ c Ca,G.ca c=some Ca->ClsOk G Ca)
  (hme:∀ c k f Ca,G.P.meths c k=some f->G.ca c=some Ca->∃ a,G.fa f=some a/\MethOk G Ca (N.meth k) a)
  {k:Nat}{a:E}{x:Qe}{ap:Pos} (hx:j4 x=true) (hln:(ap.endLine == cp.line)=true) (h30:m.length < 30) (ha:z0 G C d sc Γ a x) (hxf:∀ c f,G.P.meths c k=some f->xf f=true) :
  gq G C d sc Γ (.meth a k l) (.Call (.Attribute x (N.meth k) ap) m [] cp):=by
 intro t st s env loc c st' A hA hsc F R e Q E kk
 rw[pe] at e
 obtain⟨U,s1,e1,e⟩:=Res.bnd_exc e
 cases hmo:jr G.P U k s1 with
 | none=>rw[hmo] at e;cases e
 | some f =>
  rw[hmo] at e
  obtain⟨Vs,s2,e2,e⟩:=Res.bnd_exc e
  have hxq:xf f=true:=by
   cases U with
   | ref r =>
    have z:(match s1.heap r with | some (.inst c _)=>G.P.meths c k | _=>none)=some f:=hmo
    split at z
    ·exact hxf _ _ z
    ·exact za z
   | _=>exact za hmo
  obtain⟨fa',h1,h2⟩:=CX f (U::Vs) s2 c st' hxq e A hA.ac
  refine zfl O hcl hme hx hln h30 hm hlm ha hl hA hsc F R e1 hmo e2 fun fa v vs t2 σ2 f1 S2 R2 r2=>?_
  rw[f1] at h1;cases h1
  exact wpAny_call (h2 t2 σ2 _ (F.step R S2).sk R2 r2 _ fun ee tc sx hh ld fly=>kk ee tc sx hh (ld.pre S2) (S2.le.st▸fly))
end
theorem ey {P:Prog}{q:E}{s':MS}{X:V} (e:evQ P C q loc st=.ok X s'):ev P C q loc st=.ok X s':=by
 cases q with
 | call f es =>
  obtain⟨vs,s1,e1,e⟩:=Res.bnd_ok e
  rw[lr,e1];exact e
 | meth a m es =>
  rw[pe] at e
  obtain⟨x,s1,e1,e⟩:=Res.bnd_ok e
  rw[g5,e1]
  show(match jr P x m s1 with | some f=>_ | none=>_)=_
  cases hf:jr P x m s1 with
  | none=>rw[hf] at e;exact zb e
  | some f =>
   rw[hf] at e
   obtain⟨vs,s2,e2,e⟩:=Res.bnd_ok e
   show Res.bind (evL P C es loc s1) _=_
   rw[e2];exact e
 | new c es =>
  obtain⟨vs,s1,e1,e⟩:=Res.bnd_ok e
  rw[zd4,e1];exact e
 | _=>exact zb e
theorem zc9 {q:E}{x:Qe}{ep:Pos} (h:vz G C d sc Γ n (.expr q) (.Expr x ep)):vz G C d sc Γ n (.exprX q) (.Expr x ep):=by
 intro t st s env loc fl loc' st' A hA hT hsc F R e
 rw[um] at e
 obtain⟨V,s1,e1,e⟩:=Res.bind_ok e
 refine h t st s env loc fl loc' st' A hA hT hsc F R ?_
 rw[lq,ey e1];exact e
theorem zdv {q:E}{x:Qe}{ep:Pos} (hnc:jf x=true) (h:gq G C d sc Γ q x):gm G C d sc Γ n (.exprX q) (.Expr x ep):=by
 intro t st s env loc c st' A hA hT hsc F R e Q E k
 rw[um] at e
 rcases Res.bind_exc e with e1 | ⟨V,s1,-,e⟩
 ·exact wpAny_Expr_any (h t st s env loc c st' A hA hsc F R e1 _ _ fun e tc sx hh ld fly=>k e _ (.fly F.sk ld fly)) (by unfold interactive;rw[F.fn];rfl) (yb hnc _ _ _)
 ·cases e
theorem zh4 {q:E}{x:Qe}{pos:Pos} (h:vz G C d sc Γ n (.ret (some q)) (.Return (some x) pos)):vz G C d sc Γ n (.retX q) (.Return (some x) pos):=by
 intro t st s env loc fl loc' st' A hA hT hsc F R e
 rw[zat] at e
 obtain⟨V,s1,e1,e⟩:=Res.bind_ok e
 refine h t st s env loc fl loc' st' A hA hT hsc F R ?_
 rw[p5]
 show(ev G.P C q loc st).bnd _=_
 rw[ey e1];exact e
theorem zir {q:E}{x:Qe}{pos:Pos} (h:gq G C d sc Γ q x):gm G C d sc Γ n (.retX q) (.Return (some x) pos):=by
 intro t st s env loc c st' A hA hT hsc F R e Q E k
 rw[zat] at e
 rcases Res.bind_exc e with e1 | ⟨V,s1,-,e⟩
 ·exact wpAny_Return_some (h t st s env loc c st' A hA hsc F R e1 _ _ fun e tc sx hh ld fly=>k e _ (.fly F.sk ld fly))
 ·cases e
theorem zao {i:Nat}{q:E}{y:Qf}{x:Qe}{yp pos:Pos} (h:vz G C d sc Γ n (.assign i q) (.Assign [.Name y yp] x pos)):vz G C d sc Γ n (.assignX i q) (.Assign [.Name y yp] x pos):=by
 intro t st s env loc fl loc' st' A hA hT hsc F R e
 rw[yj] at e
 obtain⟨V,s1,e1,e⟩:=Res.bind_ok e
 refine h t st s env loc fl loc' st' A hA hT hsc F R ?_
 rw[bk,ey e1];exact e
theorem ri {i:Nat}{q:E}{y:Qf}{x:Qe}{yp pos:Pos} (hx:jf x=true) (h:gq G C d sc Γ q x):gm G C d sc Γ n (.assignX i q) (.Assign [.Name y yp] x pos):=by
 intro t st s env loc c st' A hA hT hsc F R e Q E k
 rw[yj] at e
 rcases Res.bind_exc e with e1 | ⟨V,s1,-,e⟩
 ·exact wpAny_Assign_Name (h t st s env loc c st' A hA hsc F R e1 _ _ fun e tc sx hh ld fly=>k e _ (.fly F.sk ld fly)) (yb hx _ _ _)
 ·split at e <;> cases e
set_option genCtorIdx true in
inductive HandN (sc:Sc) (Γ:Gam):Option Nat->Option Qf->Prop
 | named {i:Nat}{nm:Qf} (hi:Γ[i]?=some (some nm)) (hkl:sc.lookup nm=some .local):HandN sc Γ (some i) (some nm)
 | bare:HandN sc Γ none none
theorem FrOk.unmark {x:Option Value} (F:FrOk G (A.mark x) t env Γ loc s):FrOk G A t env Γ [] s:=by
 obtain⟨m,cm,hn,hcc,hz,hs⟩:=F.ex
 exact⟨⟨F.sk.fr,F.sk.ob⟩,F.fn,F.gl,F.bl,F.pvl,F.pvc,F.apart,m,cm,hn,hcc,hz,fun i y Y ξ e2=>by cases e2⟩
theorem zdw {P:Prog}{k:Loc->MS->Res (Fl×Loc)}{c c':Nat}{i:Option Nat}{l l':Loc}{s3:MS}{fl:Fl} (e:zau P k c i l (.exc c' s3)=.ok (fl,l') st') :
  (P.excBase c').contains c'=true/\(P.excBase c').contains c=true/\∃ X l4,k (zr1 i c' l) s3=.ok (.ret X,l4) st'/\fl=.ret X/\l'=[]:=by
 have e:(if ((P.excBase c').contains c'&&(P.excBase c').contains c)=true then (k (zr1 i c' l) s3).bnd fun p s=>(match p.1 with | .ret v=>Res.ok (Fl.ret v,[]) s | .next=>.stuck) else .stuck)=.ok (fl,l') st':=e
 by_cases hcc:((P.excBase c').contains c'&&(P.excBase c').contains c)=true
 ·rw[Zg hcc] at e
  obtain⟨q1,q2⟩:=Zj.1 hcc
  obtain⟨⟨f4,l4⟩,s4,e4,e⟩:=Res.bnd_ok e
  cases f4 with
  | next=>exact zb e
  | ret X=>cases e;exact⟨q1,q2,X,l4,e4,rfl,rfl⟩
 ·rw[Zh hcc] at e;exact zb e
theorem zha (O:G.Ok N) (gi:jb Γ) {q:E}{x:Qe}{ep:Pos} (hnc:jf x=true) (he:z0 G C d sc Γ q x) (hx:gq G C d sc Γ q x)
  {c:Nat}{i:Option Nat}{hn:Qf}{nm:Option Qf}{hp hpos tpos:Pos}{b:List S}{b0:Stmt}{suite:List Stmt}{hs:List ExceptHandler} (W:zpl G hn c) (hgh:jp sc hn=true)
  (hk:∀ c',(G.P.excBase c').contains c'=true->(G.P.excBase c').contains c=true->exmOne G.K (.ref c') (.ref c)=some true)
  (hh:HandN sc Γ i nm) (hb:b8 G C ⟨d.n,false⟩ sc Γ n b (b0::suite)) :
  vz G C d sc Γ n (.tryX q c i b) (.Try [.Expr x ep] (.ExceptHandler (some (.Name hn hp)) nm (b0::suite) hpos::hs) [] [] tpos):=by
 intro t st s env loc fl loc' st' A hA hT hsc F R e Q E kk
 rw[ip] at e
 have hin:interactive env=false:=by unfold interactive;rw[F.fn];rfl
 cases hC:evQ G.P C q loc st with
 | stuck=>rw[hC] at e;exact zb e
 | ok X s3 =>
  rw[hC] at e
  cases e
  exact wpAny_Try_except (wpAny_execs_cons (wpAny_Expr_any (he t st s env loc X _ A hA hsc F R (ey hC) _ _ fun v t3 σ3 S3 R3 r3=>wpAny_execs_nil (wpAny_execs_nil (kk _ t3 σ3 (S3.mono fun ξ z=>z.elim) R3 (F.step R S3) rfl))) hin (yb hnc _ _ _)))
 | exc c' s3 =>
  rw[hC] at e
  obtain⟨q1,q2,X,l4,e4,rfl,rfl⟩:=zdw e
  refine wpAny_Try_except (wpAny_execs_cons (wpAny_Expr_any (hx t st s env loc c' s3 A hA hsc F R hC _ _ fun ee tc sx hh' ld fly=>?_) hin (yb hnc _ _ _)))
  obtain⟨outer,hfr,hfrm⟩:=id hT
  have hst:t.st=env::outer:=Option.some.inj (F.sk.fr.symm.trans hfr)
  obtain⟨B,a0,cov,hfl⟩:=fly.ex
  rw[hst] at hfl
  show wpAny _ A (noteFrame (.ref ee) env) _ _ _
  refine wpAny_looks_onW hfr hfrm hfl fun h4 held up4=>?_
  refine wpAny_landsW held fun h5 fl5 up5=>?_
  have up5':=(fly.up.trans up4).trans up5
  obtain⟨t5,S5,R5,av5⟩:=ld.go h5 (fun a o q nf=>fl5.1 a o (cov a o q nf)) up5'
  have F5:=F.step R S5
  refine wpAny_handleBy_cons (codeAny_handlers_test (kb O F5.mark R5 hsc hgh W.bound ?_)) (by intro q;cases q)
  obtain⟨ob,hob,hobc⟩:=fl5.there
  have LT:Looks G.M h5 (typeOf (.ref ee)) (.ref c'):=hobc▸(Looks.ld hob).andThen .now
  refine(exm_one (M:=G.M) (h:=h5) (O.K.keeps R5.base) LT (hk c' q1 q2)).here ?_
  cases hh with
  | named hi hkl =>
   refine codeAny_handlers_suite_as (lands_againW fl5 fun h6 fl6 up6=>?_)
   obtain⟨t6,S6,R6,av6⟩:=ld.go h6 (fun a o q nf=>fl6.1 a o (cov a o q nf)) (up5'.trans up6)
   have F6:=F.step R S6
   obtain⟨ob6,hob6,hobc6⟩:=fl6.there
   have rx:VRel t6 h6 (.exc c') (.ref ee):=⟨ee,ob6,rfl,hob6,hobc6,fun z=>by
    have:=av6 ee z
    rw[fly.new] at this;cases this⟩
   refine fx F6.mark R6 gi hi (.inl (by unfold Env.kindOf;rw[hsc];exact hkl)) rx fun s7 S7 R7 F7=>?_
   refine hb t6 s3 s7 env _ (.ret X) l4 _ _ hA.mark hT.mark hsc F7 R7 e4 _ _ fun f8 t8 s8 S8 R8 F8 r8=>?_
   obtain⟨u,rfl,ru⟩:=r8
   refine zhk F8 R8 (by unfold Env.kindOf;rw[hsc];exact hkl) fun s9 S9 R9 F9=>?_
   exact kk _ t8 s9 (((S6.mono fun ξ z=>z.elim).trans S7).trans (S8.trans S9)) R9 F9 ⟨u,rfl,VRel.step S9 F8.ownPv _ ru⟩
  | bare =>
   refine codeAny_handlers_suite (lands_againW fl5 fun h6 fl6 up6=>?_)
   obtain⟨t6,S6,R6,av6⟩:=ld.go h6 (fun a o q nf=>fl6.1 a o (cov a o q nf)) (up5'.trans up6)
   have F6:=F.step R S6
   refine hb t6 s3 _ env _ (.ret X) l4 _ _ hA.mark hT.mark hsc F6.mark R6 e4 _ _ fun f8 t8 s8 S8 R8 F8 r8=>?_
   obtain⟨u,rfl,ru⟩:=r8
   exact kk _ t8 s8 ((S6.mono fun ξ z=>z.elim).trans S8) R8 F8.unmark ⟨u,rfl,ru⟩
end
end Internal
end
section
namespace Internal
open PySem PySem.W PyProof.Rows PySem.Spec PySem.Calls Builtin Builtin.ObjectAttr Builtin.Getset_descriptor
section
variable {G:Gd}{N:Names}{C:Calls}{d:Dp}{sc:Sc}{Γ:Gam}{A:Around}{t t':Tie}{st st':MS}{s:Shared}{env:Env}{loc:Loc}{X Y Z:V}{v w:Value}{n:Nat}{h:Heap}
noncomputable def zi9 (K:Frag) (c:Nat):Bool:=decide (findIn K (.ref c) "__getattribute__"=some (some (.builtin "BaseException.__getattribute__")))&&decide (findIn K (.ref c) "__getattr__"=some none)&&decide (mroIn K c (.type "BaseException")=some true)&&decide (findIn K (.ref c) "__class__"=some (some (.builtin "object.__class__")))&&decide (specialIn K (.builtin "object.__class__") "__get__"=some (some (.builtin "getset_descriptor.__get__"))) &&
 decide (takesIn K (.builtin "object.__class__")=some true)&&decide (mroIn K c (.type "object")=some true)&&(clsIn K c).isSome
theorem zdy {K:Frag}{M:Model} (X:K.In h) {x c:Addr}{nm:Qf}{a g:Value} (h1:findIn K (.ref c) nm=some (some a)) (h2:specialIn K a "__get__"=some (some g)) (h3:takesIn K a=some true):Looks M h (find (.ref x) (.ref c) nm) (.bind g a) :=
 (looks_findIn X h1).andThen ((show Looks M h (getOf (some a)) (some g) from looks_specialIn X h2).andThen ((show Looks M h (dataDescriptor? (some a) (some g)) (some (g,a)) from (looks_takesIn X h3).andThen .now).andThen (Looks.tag .now)))
noncomputable def OfCls (e c:Addr) (h:Heap):Prop:=∃ o,h.get? e=some o/\o.cls=.ref c
theorem OfCls.ty {M:Model}{e c:Addr} (p:OfCls e c h):Looks M h (typeOf (.ref e)) (.ref c):=let ⟨_,h1,h2⟩:=p;h2▸(Looks.ld h1).andThen .now
theorem zpw {prog:Program}{w:World}{K:Frag}{x c:Addr}{R:Result->Shared->Prop}{tp:Value} (X:K.In s.heap) (p:OfCls x c s.heap) (hm:mroIn K c (.type "object")=some true) (q:R (.ok (.ret (.ref c))) s) :
  codeAny (model prog w) A (.call (.builtin "getset_descriptor.__get__") ⟨[.builtin "object.__class__",.ref x,tp],[]⟩) R s:=by
 obtain⟨hh,g,dr,tk,os⟩:=s
 have L0:=p.ty (M:=model prog w)
 have L1:=looks_mroIn (M:=model prog w) X hm
 refine codeAny_call_builtin KF.slot_gs.plain KF.entry_gs (KF.slot_gs.check _ _ _ _ _ _ _ _ KF.type_class (KF.args_gs _ _ _) ?_)
 unfold Builtin.«getset_descriptor.__get__» descrGet
 rw[dga_obj]
 refine Ze (Zr ?_)
 unfold descrGetter descrCheckInstance descrNameAndClass isInstance
 simp only[KF.owner_class]
 repeat lk
 refine⟨Code.quiet_builtin _ (by decide +kernel),codeAny_builtin KF.entry_class ?_⟩
 unfold Builtin.«object.__class__» shownTypeOf
 repeat lk
 exact q
theorem zja {M:Model}{K:Frag}{x c:Addr}{nm:Value}{Q:Unit->Shared->Prop}{E:Value->Shared->Prop} (X:K.In s.heap) (p:OfCls x c s.heap) (hm:mroIn K c (.type "BaseException")=some true) (q:Q () s) :
  wpAny M A (checkBuiltinCall "BaseException.__getattribute__" ⟨[.ref x,nm],[]⟩) Q E s:=by
 obtain⟨hh,g,dr,tk,os⟩:=s
 have L:Looks M hh (isInstance (.ref x) (.type "BaseException")) true:=p.ty.andThen (looks_mroIn X hm)
 have hk:builtinKind "BaseException.__getattribute__"=some .slot:=by decide +kernel
 have hsplit:splitId "BaseException.__getattribute__"=some ("BaseException","__getattribute__"):=by decide +kernel
 have ha:=F.args_bexc_ga (.ref x) nm
 simp only[checkBuiltinCall,hk,hsplit]
 refine Ze (L.at ?_)
 repeat (first | exact q | wp_step)
set_option tactic.hygienic true in
theorem zn5 {K:Frag}{x c:Addr} (hc:zi9 K c=true):KitX K (.ref x) (.ref c) (OfCls x c):=by
 obtain⟨hc,h6⟩:=Zj.1 hc
 obtain⟨hc,h5⟩:=Zj.1 hc
 obtain⟨hc,h4⟩:=Zj.1 hc
 obtain⟨hc,h3⟩:=Zj.1 hc
 obtain⟨hc,h2⟩:=Zj.1 hc
 obtain⟨hc,h0⟩:=Zj.1 hc
 obtain⟨g1,g2⟩:=Zj.1 hc
 obtain⟨cd,h6⟩:=Option.isSome_iff_exists.mp h6
 refine⟨fun ξ ξ ξ p=>p.ty,fun M h X ξ=>?_,fun h tp dd its n sl X htp=>?_,fun {prog w A E Q s} X p k=>?_⟩
 ·unfold clsIn at h6
  split at h6
  ·rename_i ho
   intro A' Q' E' s' k q
   unfold isType loadHead
   exact Ze (wpAny_loadPart (k _ _ (X _ _ ho)) (Zr q))
  ·exact za h6
 ·refine Bool.eq_false_iff.mpr fun q=>?_
  have e:c=tp:=Value.ref.inj (beq_iff_eq.mp q)
  subst e
  unfold clsIn at h6
  split at h6
  ·rename_i ho
   have z:=(X _ _ ho).symm.trans htp
   cases z
  ·exact za h6
 ·obtain⟨hh,g,dr,tk,os⟩:=s
  have L0:=p.ty (M:=model prog w)
  have L1:=looks_findIn (M:=model prog w) X (Za g1)
  have L2:Looks (model prog w) hh (hookBefore (.ref c)) none:=looks_findIn (M:=model prog w) X (Za g2)
  have L3:=zdy (M:=model prog w) (x:=x) X (Za h2) (Za h3) (Za h4)
  have hx2:(Value.builtin "BaseException.__getattribute__" == Value.builtin "object.__getattribute__")=false:=by decide +kernel
  unfold getAttr? getAttrBy? getAttrBy
  refine Ze (wpAny_mkText (Ze (wpAny_attempt (wpAny_holding (Ze (L0.at (Ze (L1.at ?_))))))))
  show wpAny _ _ (if (onTheHeap (Value.ref c)&&Value.builtin "BaseException.__getattribute__" == Value.builtin "object.__getattribute__")=true then _ else _) _ _ _
  rw[hx2,Bool.and_false,Zh Z8]
  refine Ze (L2.at (Ze (wpAny_attempt (wpAny_holding ?_))))
  show wpAny _ _ (boundAndCalled _ _ _) _ _ _
  refine Ze (wpAny_of_eq (F.attr_ValueError.ga.bind (.ref x)) ?_)
  refine wpAny_call (codeAny_call_builtin F.attr_ValueError.ga.plain F.entry_bexc_ga (zja (s:=⟨hh,g,dr,_,os⟩) X p (Za h0) ?_))
  unfold Builtin.«object.__getattribute__»
  refine Ze (Zr (Ze (Zr (Ze (L0.at (Ze (L3.at ?_)))))))
  show wpAny _ _ (holding [Value.builtin "object.__class__"] (call (.builtin "getset_descriptor.__get__") [.builtin "object.__class__",.ref x,.ref c]) >>= ret) _ _ _
  refine Ze (wpAny_holding (wpAny_call (zpw (s:=⟨hh,g,dr,_,os⟩) X p (Za h5) ?_)))
  exact Zr (handed_on rfl (Zr k))
noncomputable def m9 (k:Nat):Value:=if k=0 then .type "ValueError" else .ref k
theorem zpa (O:G.Ok N) {a:E}{x:Qe}{k:Nat}{y:Qf}{np yp pos:Pos} (hg:jp sc "isinstance"=true) (hx:isStarred x=false) (hgy:jp sc y=true) (hy:(k=0/\y="ValueError")\/(k≠0/\G.mg y=some (.ref k)))
  (hk:∀ c,(G.P.excBase c).contains c=true->zi9 G.K c=true/\kitOne G.K (.ref c) (m9 k)=some ((G.P.excBase c).contains k)) (ha:z0 G C d sc Γ a x) :
  z0 G C d sc Γ (.isX a k) (.Call (.Name "isinstance" np) [x,.Name y yp] [] pos):=by
 intro t st s env loc X st' A hA hsc F R e Q E q
 rw[zly] at e
 obtain⟨U,s1,e1,e⟩:=Res.bind_ok e
 cases U with
 | exc c =>
  have e:(if (G.P.excBase c).contains c=true then Res.ok (V.bool ((G.P.excBase c).contains k)) s1 else .stuck)=.ok X st':=e
  by_cases hc:(G.P.excBase c).contains c=true
  ·rw[Zg hc] at e
   cases e
   obtain⟨c1,c2⟩:=hk c hc
   refine wpAny_Call_ofName (jm (v:=.builtin "isinstance") O F R hsc hg (by decide) (by decide +kernel) ?_)
   refine callWith_of (P:=G.K.In) (by rw[k8 pos env (m:=[x,.Name y yp]) (by have hyy:isStarred (PySem.Expr.Name y yp)=false:=rfl;simp[z8,hx,hyy])];rfl) (bh _) (d8 hx rfl ?_)
   refine ha t st s env loc _ _ A hA hsc F R e1 _ _ fun v t1 σ1 S1 R1 r1=>?_
   have XK:=O.K.keeps R1.base
   obtain⟨ee,oo,rfl,ho,hcl,-⟩:=r1
   have fin:wpAny G.M A (call (.builtin "isinstance") [.ref ee,m9 k]) Q E σ1:=kia_one (zn5 c1) XK ⟨oo,ho,hcl⟩ c2 nofun fun tk=>q _ t1 _ (S1.trans (Step.toks _ _ _ tk)) (R1.toks tk) rfl
   have F1:=F.step R S1
   rcases hy with ⟨rfl,rfl⟩ | ⟨hk0,hm⟩
   ·exact jm (v:=.type "ValueError") O F1 R1 hsc hgy (by decide) (by decide +kernel) ⟨XK,fin⟩
   ·refine kb O F1 R1 hsc hgy hm ⟨XK,?_⟩
    rw[m9,Zh hk0] at fin
    exact fin
  ·rw[Zh hc] at e;exact zb e
 | _=>exact zb e
end
end Internal
end
section
namespace Internal
open PySem PySem.W PyProof.Rows
set_option genCtorIdx true in
inductive Ck (p:Prop):Type where
 | yes (h:p)
 | no
noncomputable def Ck.bind {p q:Prop} (a:Ck p) (k:p->Ck q):Ck q:=Ck.rec (motive:=fun ξ=>Ck q) k .no a
noncomputable def Ck.isYes {p:Prop} (a:Ck p):Bool:=Ck.rec (fun ξ=>true) false a
theorem Ck.get {p:Prop}{a:Ck p} (h:a.isYes=true):p:=by
 cases a with
 | yes g=>exact g
 | no=>exact z6 h
theorem gf {a b:Bool} (h:(a&&b)=true):a=true/\b=true:=by cases a <;> cases b <;> first | exact⟨rfl,rfl⟩ | exact z6 h
class No (α:Type) where
 no:α
noncomputable instance {p:Prop}:No (Ck p):=⟨.no⟩
noncomputable def wb {α:Type} [No α] (b:Bool) (k:b=true->α):α:=Bool.rec (motive:=fun b=>(b=true->α)->α) (fun ξ=>No.no) (fun k=>k rfl) b k
noncomputable def wk {p:Prop}{α:Type} [No α] (a:Ck p) (k:p->α):α:=Ck.rec (motive:=fun ξ=>α) k No.no a
@[elab_as_elim] noncomputable def wq {α:Type} [BEq α] [LawfulBEq α] {P:α->Type} [∀ x,No (P x)] (a b:α) (k:P a):P b:=wb (a == b) fun h=>eq_of_beq h▸k
section
variable {P:Qe->Type} [∀ x,No (P x)]
@[elab_as_elim] noncomputable def yv (x:Qe) (f:∀ y p,P (.Name y p)):P x:=wb (Nat.beq x.ctorIdx 23) fun h=>PySem.Expr.Name.elim x (Zo h) f
@[elab_as_elim] noncomputable def zlz (x:Qe) (f:∀ y k p,P (.Constant y k p)):P x:=wb (Nat.beq x.ctorIdx 19) fun h=>PySem.Expr.Constant.elim x (Zo h) f
@[elab_as_elim] noncomputable def wUn (x:Qe) (f:∀ o a p,P (.UnaryOp o a p)):P x:=wb (Nat.beq x.ctorIdx 3) fun h=>PySem.Expr.UnaryOp.elim x (Zo h) f
@[elab_as_elim] noncomputable def zsa (x:Qe) (f:∀ o a p,P (.BoolOp o a p)):P x:=wb (Nat.beq x.ctorIdx 0) fun h=>PySem.Expr.BoolOp.elim x (Zo h) f
@[elab_as_elim] noncomputable def z0z (x:Qe) (f:∀ a o b p,P (.BinOp a o b p)):P x:=wb (Nat.beq x.ctorIdx 2) fun h=>PySem.Expr.BinOp.elim x (Zo h) f
@[elab_as_elim] noncomputable def zui (x:Qe) (f:∀ a o b p,P (.Compare a o b p)):P x:=wb (Nat.beq x.ctorIdx 15) fun h=>PySem.Expr.Compare.elim x (Zo h) f
@[elab_as_elim] noncomputable def zp8 (x:Qe) (f:∀ a o p,P (.Tuple a o p)):P x:=wb (Nat.beq x.ctorIdx 25) fun h=>PySem.Expr.Tuple.elim x (Zo h) f
@[elab_as_elim] noncomputable def zr5 (x:Qe) (f:∀ a p,P (.List a p)):P x:=wb (Nat.beq x.ctorIdx 24) fun h=>PySem.Expr.List.elim x (Zo h) f
@[elab_as_elim] noncomputable def zx5 (x:Qe) (f:∀ a b p,P (.Dict a b p)):P x:=wb (Nat.beq x.ctorIdx 6) fun h=>PySem.Expr.Dict.elim x (Zo h) f
@[elab_as_elim] noncomputable def zqv (x:Qe) (f:∀ a b p,P (.Subscript a b p)):P x:=wb (Nat.beq x.ctorIdx 21) fun h=>PySem.Expr.Subscript.elim x (Zo h) f
@[elab_as_elim] noncomputable def zt0 (x:Qe) (f:∀ a b c p,P (.Slice a b c p)):P x:=wb (Nat.beq x.ctorIdx 26) fun h=>PySem.Expr.Slice.elim x (Zo h) f
@[elab_as_elim] noncomputable def zn9 (x:Qe) (f:∀ a b p,P (.Attribute a b p)):P x:=wb (Nat.beq x.ctorIdx 20) fun h=>PySem.Expr.Attribute.elim x (Zo h) f
@[elab_as_elim] noncomputable def zkr (x:Qe) (f:∀ a b c p,P (.Call a b c p)):P x:=wb (Nat.beq x.ctorIdx 16) fun h=>PySem.Expr.Call.elim x (Zo h) f
@[elab_as_elim] noncomputable def zwk (x:Qe) (f:∀ a b c p,P (.ListComp a b c p)):P x:=wb (Nat.beq x.ctorIdx 8) fun h=>PySem.Expr.ListComp.elim x (Zo h) f
end
section
variable {α:Type}{P:List α->Type} [∀ x,No (P x)]
@[elab_as_elim] noncomputable def w0 (l:List α) (f:P []):P l:=List.rec (motive:=fun l=>P l) f (fun ξ ξ ξ=>No.no) l
@[elab_as_elim] noncomputable def wc (l:List α) (f:∀ a r,P (a::r)):P l:=List.rec (motive:=fun l=>P l) No.no (fun a r ξ=>f a r) l
@[elab_as_elim] noncomputable def w1 (l:List α) (f:∀ a,P [a]):P l:=wc l fun a r=>w0 (P:=fun r=>P (a::r)) r (f a)
@[elab_as_elim] noncomputable def w2 (l:List α) (f:∀ a b,P [a,b]):P l:=wc l fun a r=>w1 (P:=fun r=>P (a::r)) r (f a)
variable {Q:Option α->Type} [∀ x,No (Q x)]
@[elab_as_elim] noncomputable def wn (l:Option α) (f:Q none):Q l:=Option.rec (motive:=fun l=>Q l) f (fun ξ=>No.no) l
@[elab_as_elim] noncomputable def ws (l:Option α) (f:∀ a,Q (some a)):Q l:=Option.rec (motive:=fun l=>Q l) No.no f l
end
section
variable {P:Qe->Type} [∀ x,No (P x)]
@[elab_as_elim] noncomputable def wa (x:Qe) (n:Qf) (f:∀ np l p,P (.Call (.Name n np) l [] p)):P x :=
 zkr x fun a l k p=>yv (P:=fun a=>P (.Call a l k p)) a fun y np=>wq (P:=fun y=>P (.Call (.Name y np) l k p)) n y (w0 (P:=fun k=>P (.Call (.Name n np) l k p)) k (f np l p))
@[elab_as_elim] noncomputable def zdd (x:Qe) (n:Qf) (f:∀ a ap l p,j4 a=true->(ap.endLine == p.line)=true->l.length < 30->P (.Call (.Attribute a n ap) l [] p)):P x :=
 zkr x fun b l k p=>zn9 (P:=fun b=>P (.Call b l k p)) b fun a y ap=>wq (P:=fun y=>P (.Call (.Attribute a y ap) l k p)) n y (w0 (P:=fun k=>P (.Call (.Attribute a n ap) l k p)) k
  (wb (j4 a) fun h1=>wb (ap.endLine == p.line) fun h2=>wb (decide (l.length < 30)) fun h3=>f a ap l p h1 h2 (Za h3)))
@[elab_as_elim] noncomputable def wK (v:Const) (x:Qe) (f:∀ k p,P (.Constant v k p)):P x:=zlz x fun c k p=>wb (decide (v=c)) fun h=>Za h▸f k p
end
end Internal
end
section
namespace Internal
open PySem PySem.W PyProof.Rows
structure Hyp (G:Gd) (N:Names) (C:Calls) (d:Dp):Prop where
 O:G.Ok N
 CO:d.q=true->lu G C d
 hcl:∀ c Ca,G.ca c=some Ca->ClsOk G Ca
 hfn:∀ f a,G.fa f=some a->FnOk G N f a
 hme:∀ c k f Ca,G.P.meths c k=some f->G.ca c=some Ca->∃ a,G.fa f=some a/\MethOk G Ca (N.meth k) a
 hne:∀ c k f,G.P.inits c=some (k,f)->∃ Ca fi,G.ca c=some Ca/\G.fa f=some fi/\NewOk G N c Ca fi
 xw:∀ y c,N.xs.contains (y,c)=true->c≠0/\zpl G y c
 xk:∀ c k,(G.P.excBase c).contains c=true->(G.P.excBase c).contains k=true->kitOne G.K (.ref c) (m9 k)=some true/\(k≠0->exmOne G.K (.ref c) (.ref k)=some true)
 xm:∀ k c f,N.xm k=true->G.P.meths c k=some f->N.xf f=true
 xn:∀ c k f,N.xm (1000+c)=true->G.P.inits c=some (k,f)->N.xf f=true
 xi:∀ c k,(G.P.excBase c).contains c=true->(k=0\/∃ y,N.xs.contains (y,k)=true)->zi9 G.K c=true/\kitOne G.K (.ref c) (m9 k)=some ((G.P.excBase c).contains k)
 CX:d.q=true->zex G C d N.xf
 CQ:ft G C d.n N.qf
theorem Hyp.quiet {G:Gd}{N:Names}{C:Calls}{d:Dp} (H:Hyp G N C d):Hyp G N C ⟨d.n,false⟩:=⟨H.O,nofun,H.hcl,H.hfn,H.hme,H.hne,H.xw,H.xk,H.xm,H.xn,H.xi,nofun,H.CQ⟩
section
variable {G:Gd}{N:Names}{C:Calls}{d:Dp}{sc:Sc}{Γ:Gam}{x:Qe}
def SimET (G:Gd) (C:Calls) (d:Dp) (sc:Sc) (Γ:Gam) (e:E) (x:Qe):Prop:=isStarred x=false/\j5 x=true/\z0 G C d sc Γ e x/\bq G C d sc Γ e x
def SimLs (G:Gd) (C:Calls) (d:Dp) (sc:Sc) (Γ:Gam) (l:List E) (m:List Qe):Prop:=SimL G C d sc Γ l m/\vi G C d sc Γ l m/\z8 m=true/\l.length=m.length
theorem js {e:E} (h1:isStarred x=false) (h2:j5 x=true) (h3:o5 x=true) (h:z0 G C d sc Γ e x):SimET G C d sc Γ e x:=⟨h1,h2,h,zec h3 h⟩
theorem SimET.e {e:E} (h:SimET G C d sc Γ e x):z0 G C d sc Γ e x:=h.2.2.1
theorem SimET.t {e:E} (h:SimET G C d sc Γ e x):bq G C d sc Γ e x:=h.2.2.2
theorem zq4 {e:E}{l:List E}{m:List Qe} (h1:SimET G C d sc Γ e x) (h2:SimLs G C d sc Γ l m):SimLs G C d sc Γ (e::l) (x::m) :=
 ⟨.cons h1.e h1.t h2.1,vq h1.1 h1.e h2.2.1,by rw[show z8 (x::m)=(!isStarred x&&z8 m) from rfl,h1.1];exact h2.2.2.1,Qd Nat.succ h2.2.2.2⟩
def ItOk' (G:Gd) (C:Calls) (d:Dp) (sc:Sc) (Γ:Gam) (range:Bool) (it:E) (i:Qe):Prop:=∃ j,IterAst sc range i j/\z0 G C d sc Γ it j
noncomputable def zv6 (range:Bool) {it:E} (i:Qe) (f:(x:Qe)->Ck (SimET G C d sc Γ it x)):Ck (ItOk' G C d sc Γ range it i) :=
 match range with
 | false=>(f i).bind fun h=>.yes ⟨i,.plain i,h.e⟩
 | true=>wa i "range" fun np l p=>wb (jp sc "range") fun hg=>w1 l fun j=>(f j).bind fun h=>.yes ⟨j,.range hg h.1,h.e⟩
structure CompAst (G:Gd) (C:Calls) (d:Dp) (sc:Sc) (Γ:Gam) (slot:Nat) (range:Bool) (it:E) (cond:Option E) (elt:E) (e i:Qe) (y:Qf) (ifs:List Qe) (scope:Scope):Prop where
 ok:iy sc scope slot Γ y=true
 ns:uy i=true
 it:ItOk' G C d sc Γ range it i
 co:CondSim G C d (qi sc scope.names) (j1 (qi sc scope.names) Γ slot y) cond ifs
 el:z0 G C d (qi sc scope.names) (j1 (qi sc scope.names) Γ slot y) elt e
@[elab_as_elim] noncomputable def zub {P:Qe->Type} [∀ x,No (P x)] {slot:Nat}{range:Bool}{it:E}{cond:Option E}{elt:E} (x:Qe) (fi:∀ x,Ck (SimET G C d sc Γ it x)) (fc:∀ sc Γ m,Ck (CondSim G C d sc Γ cond m)) (fe:∀ sc Γ x,Ck (SimET G C d sc Γ elt x))
  (k:∀ e i y px ifs scope pos,CompAst G C d sc Γ slot range it cond elt e i y ifs scope->P (.ListComp e [⟨.Name y px,i,ifs,0⟩] scope pos)):P x :=
 zwk x fun e gs scope pos=>w1 gs fun g=>match g with
  | ⟨t,i,ifs,a⟩=>yv t fun y px=>wq (P:=fun a=>P (.ListComp e [⟨.Name y px,i,ifs,a⟩] scope pos)) 0 a
   (wb (iy sc scope slot Γ y) fun h1=>wb (uy i) fun h2=>wk (zv6 range i fi) fun h3=>wk (fc (qi sc scope.names) (j1 (qi sc scope.names) Γ slot y) ifs) fun h4=>wk (fe (qi sc scope.names) (j1 (qi sc scope.names) Γ slot y) e) fun h5=>k e i y px ifs scope pos ⟨h1,h2,h3,h4,h5.e⟩)
theorem zrt (hq:d.q=true) (H:Hyp G N C d) {M:Option Nat}{slot:Nat}{range:Bool}{it:E}{cond:Option E}{elt:E}{e i:Qe}{y:Qf}{px pos:Pos}{ifs:List Qe}{scope:Scope} (K:CompAst G C d sc Γ slot range it cond elt e i y ifs scope) :
  SimET G C d sc Γ (.comp M slot range it cond elt) (.ListComp e [⟨.Name y px,i,ifs,0⟩] scope pos):=by
 obtain⟨j,h1,h2⟩:=K.it
 exact js rfl rfl rfl (zlh hq H.O (zb4 K.ok) K.ns h1 h2 K.co K.el)
theorem zsq (H:Hyp G N C d) {a:E}{k:Nat}{y:Qe}{yn:Qf}{np yp p:Pos} (h2:jp sc "isinstance"=true) (h3:jp sc yn=true) (h4:((decide (k=0)&&yn == ("ValueError":Qf))||N.xs.contains (yn,k))=true) (g:SimET G C d sc Γ a y) :
  SimET G C d sc Γ (.isX a k) (.Call (.Name "isinstance" np) [y,.Name yn yp] [] p):=by
 have h4:=Bool.or_eq_true_iff.1 h4
 refine js rfl rfl rfl (zpa H.O h2 g.1 h3 (h4.imp (fun h=>?_) fun h=>?_) (fun c c1=>H.xi c k c1 (h4.imp (fun h=>Za (gf h).1) fun h=>⟨yn,h⟩)) g.e)
 ·obtain⟨q1,q2⟩:=gf h
  exact⟨Za q1,eq_of_beq q2⟩
 ·exact⟨(H.xw yn k h).1,(H.xw yn k h).2.bound⟩
noncomputable def zt4 (H:Hyp G N C d) (f:Nat):Ck (md G C d f) :=
 match d,H with
 | ⟨_,true⟩,H=>.yes (H.CO rfl f)
 | ⟨_,false⟩,H=>wb (N.qf f) fun h=>.yes (H.CQ f h)
theorem zri (H:Hyp G N C d) {a:E}{i:Nat}{p:Pos} (h2:decide (i < 13)=true) (h3:j4 x=true) (g:SimET G C d sc Γ a x):SimET G C d sc Γ (.attr a i) (.Attribute x (N.attr i) p):=by
 rw[show N.attr i=G.an i from congrFun H.O.attr i]
 exact js rfl rfl rfl (zn1 H.O H.hcl (Za h2) h3 g.e)
theorem te {n:Qf} (h:(!(n == Str.empty))=true):n≠Str.empty:=by
 intro e;subst e;exact z6 h
noncomputable def z08 {a:E} (H:Hyp G N C d) (sc:Sc) (Γ:Gam) (ks:List Kind) (np:Pos) (y z:Qe) (p:Pos) (g:SimET G C d sc Γ a y) (hg:jp sc "isinstance"=true):Ck (SimET G C d sc Γ (.isinst a ks) (.Call (.Name "isinstance" np) [y,z] [] p)) :=
 wc ks fun k r=>wb (xl k) fun h1=>match r with
  | []=>wb (ph N sc k z) fun h2=>.yes (js rfl rfl rfl (zbd H.O h1 hg g.1 h2 g.e))
  | k'::r=>w0 r (wb (xl k') fun h2=>zp8 z fun zs cx tp=>wb (ut N sc [k,k'] zs) fun h3=>.yes (js rfl rfl rfl (zcl H.O h1 h2 hg g.1 h3 g.e)))
noncomputable def z1f (H:Hyp G N C d) {i:Nat} (sc:Sc) (Γ:Gam) (x:Qe) :Ck (SimET G C d sc Γ (.loc i) x) :=
 yv x fun y p=>wb (Γ[i]? == some (some y)) fun h1=>wb (!(y == ("__debug__":Qf))) fun h2=>.yes (js rfl rfl rfl (zrh (eq_of_beq h1) (Bool.not_eq_true' _▸h2)))
noncomputable def zym (H:Hyp G N C d) {g:Qf}{i:Int} (sc:Sc) (Γ:Gam) (x:Qe) :Ck (SimET G C d sc Γ (.gint g i) x) :=
 yv x fun y p=>wq g y (wb (jp sc g) fun h2=>wb (N.gi.contains (g,i)) fun h3=>.yes (js rfl rfl rfl (zme H.O h2 h3)))
noncomputable def zyh (H:Hyp G N C d) {g:Qf}{i:List Nat} (sc:Sc) (Γ:Gam) (x:Qe) :Ck (SimET G C d sc Γ (.gstr g i) x) :=
 yv x fun y p=>wq g y (wb (jp sc g) fun h2=>wb (N.gs.contains (g,i)) fun h3=>.yes (js rfl rfl rfl (zm7 H.O h2 h3)))
noncomputable def z0q (H:Hyp G N C d) {a:E} (sc:Sc) (Γ:Gam) (x:Qe) (ra:∀ y,Ck (SimET G C d sc Γ a y)):Ck (SimET G C d sc Γ (.neg a) x) :=
 wUn x fun o y p=>wq .USub o ((ra y).bind fun g=>.yes (js rfl rfl rfl (zrf g.e)))
noncomputable def z02 (H:Hyp G N C d) {a:E} (sc:Sc) (Γ:Gam) (x:Qe) (ra:∀ y,Ck (SimET G C d sc Γ a y)):Ck (SimET G C d sc Γ (.not a) x) :=
 wUn x fun o y p=>wq .Not o ((ra y).bind fun g=>.yes ⟨rfl,rfl,zrq g.e,zlw g.t⟩)
noncomputable def z0x (H:Hyp G N C d) {l:List E} (sc:Sc) (Γ:Gam) (x:Qe) (rl:∀ m,Ck (SimLs G C d sc Γ l m)):Ck (SimET G C d sc Γ (.and l) x) :=
 zsa x fun o m p=>wq .And o ((rl m).bind fun g=>.yes ⟨rfl,rfl,zn7 g.1,ziv g.1⟩)
noncomputable def kOr (H:Hyp G N C d) {l:List E} (sc:Sc) (Γ:Gam) (x:Qe) (rl:∀ m,Ck (SimLs G C d sc Γ l m)):Ck (SimET G C d sc Γ (.or l) x) :=
 zsa x fun o m p=>wq .Or o ((rl m).bind fun g=>.yes ⟨rfl,rfl,zq1 g.1,zmt g.1⟩)
noncomputable def z1d (H:Hyp G N C d) {o:Bop}{a:E}{b:E} (sc:Sc) (Γ:Gam) (x:Qe) (ra:∀ y,Ck (SimET G C d sc Γ a y)) (rb:∀ y,Ck (SimET G C d sc Γ b y)):Ck (SimET G C d sc Γ (.bin o a b) x) :=
 z0z x fun y q z p=>wq (zs9 o) q ((ra y).bind fun g1=>(rb z).bind fun g2=>.yes (js rfl rfl rfl (zqd H.O g1.e g2.e)))
noncomputable def z1g (H:Hyp G N C d) {a:E}{o:Cop}{b:E} (sc:Sc) (Γ:Gam) (x:Qe) (ra:∀ y,Ck (SimET G C d sc Γ a y)) (rb:∀ y,Ck (SimET G C d sc Γ b y)):Ck (SimET G C d sc Γ (.cmp a o b) x) :=
 zui x fun y qs zs p=>w1 qs fun q=>w1 zs fun z=>wq (ja o) q ((ra y).bind fun g1=>(rb z).bind fun g2=>wb (!behindInMarks (ja o) z) fun h=>.yes ⟨rfl,rfl,zrl (Bool.not_eq_true' _▸h) g1.e g2.e,zmp (Bool.not_eq_true' _▸h) g1.e g2.e⟩)
noncomputable def zwl (H:Hyp G N C d) {a:E}{o:Cop}{b:E}{o2:Cop}{c:E} (sc:Sc) (Γ:Gam) (x:Qe) (ra:∀ y,Ck (SimET G C d sc Γ a y)) (rb:∀ y,Ck (SimET G C d sc Γ b y)) (rc:∀ y,Ck (SimET G C d sc Γ c y)):Ck (SimET G C d sc Γ (.cmp2 a o b o2 c) x) :=
 zui x fun y qs zs p=>w2 qs fun q r=>w2 zs fun z u=>wq (ja o) q (wq (ja o2) r ((ra y).bind fun g1=>(rb z).bind fun g2=>(rc u).bind fun g3 =>
   wb (!behindInMarks (ja o2) u) fun h=>.yes ⟨rfl,rfl,zkp (Bool.not_eq_true' _▸h) g1.e g2.e g3.e,zjo (Bool.not_eq_true' _▸h) g1.e g2.e g3.e⟩))
noncomputable def z03 (H:Hyp G N C d) {n:Bool}{a:E}{v:V} (sc:Sc) (Γ:Gam) (x:Qe) (ra:∀ y,Ck (SimET G C d sc Γ a y)):Ck (SimET G C d sc Γ (.isC n a v) x) :=
 zui x fun y qs zs p=>w1 qs fun q=>w1 zs fun z=>(ra y).bind fun g1=>wb (sb q n) fun h2=>(match v with
   | .none=>wK .none z fun k p=>.yes ⟨rfl,rfl,zr2 h2 g1.e,zlg h2 g1.e⟩
   | _=>.no)
noncomputable def z1h (H:Hyp G N C d) {l:List E} (sc:Sc) (Γ:Gam) (x:Qe) (rl:∀ m,Ck (SimLs G C d sc Γ l m)):Ck (SimET G C d sc Γ (.tup l) x) :=
 zp8 x fun m k p=>(rl m).bind fun g=>.yes (js rfl rfl rfl (zqf g.2.1))
noncomputable def z07 (H:Hyp G N C d) {l:List E} (sc:Sc) (Γ:Gam) (x:Qe) (rl:∀ m,Ck (SimLs G C d sc Γ l m)):Ck (SimET G C d sc Γ (.lst l) x) :=
 zr5 x fun m p=>(rl m).bind fun g=>.yes (js rfl rfl rfl (zps g.2.1))
noncomputable def zzh (H:Hyp G N C d) {k0:Nat}{l:List E} (sc:Sc) (Γ:Gam) (x:Qe) (rl:∀ m,Ck (SimLs G C d sc Γ l m)):Ck (SimET G C d sc Γ (.lstM k0 l) x) :=
 zr5 x fun m p=>(rl m).bind fun g=>.yes (js rfl rfl rfl (zl9 H.O g.2.1))
noncomputable def z00 (H:Hyp G N C d) {a:E}{b:E} (sc:Sc) (Γ:Gam) (x:Qe) (ra:∀ y,Ck (SimET G C d sc Γ a y)) (rb:∀ y,Ck (SimET G C d sc Γ b y)):Ck (SimET G C d sc Γ (.sub a b) x) :=
 zqv x fun y z p=>(ra y).bind fun g1=>(rb z).bind fun g2=>.yes (js rfl rfl rfl (zpy g2.2.1 g1.e g2.e))
noncomputable def zs8 (H:Hyp G N C d) {a:E}{lo:Option E}{hi:Option E} (sc:Sc) (Γ:Gam) (x:Qe) (ra:∀ y,Ck (SimET G C d sc Γ a y)) (rlo:∀ m,Ck (zc8 G C d sc Γ lo m)) (rhi:∀ m,Ck (zc8 G C d sc Γ hi m)):Ck (SimET G C d sc Γ (.slice a lo hi) x) :=
 zqv x fun y z p=>(ra y).bind fun g1=>zt0 z fun l u st ps=>wn st ((rlo l).bind fun g2=>(rhi u).bind fun g3=>.yes (js rfl rfl rfl (zjw g1.e g2 g3)))
noncomputable def zut (H:Hyp G N C d) {a:E}{i:Nat} (sc:Sc) (Γ:Gam) (x:Qe) (ra:∀ y,Ck (SimET G C d sc Γ a y)):Ck (SimET G C d sc Γ (.attr a i) x) :=
 zn9 x fun y n p=>wq (N.attr i) n (wb (decide (i < 13)) fun h2=>wb (j4 y) fun h3=>(ra y).bind fun g=>.yes (zri H h2 h3 g))
noncomputable def zyc (H:Hyp G N C d) {f:Nat}{l:List E} (sc:Sc) (Γ:Gam) (x:Qe) (rl:∀ m,Ck (SimLs G C d sc Γ l m)):Ck (SimET G C d sc Γ (.call f l) x) :=
 wa x (N.fn f) fun np m p=>wb (jp sc (N.fn f)) fun h2=>wb (!(N.fn f == Str.empty)) fun h3=>(rl m).bind fun g=>wk (zt4 H f) fun hq=>.yes (js rfl rfl rfl (znq H.O hq H.hfn (te h3) h2 g.2.2.1 g.2.2.2 g.2.1))
noncomputable def zxm (H:Hyp G N C d) {a:E}{k:Nat}{l:List E} (sc:Sc) (Γ:Gam) (x:Qe) (ra:∀ y,Ck (SimET G C d sc Γ a y)) (rl:∀ m,Ck (SimLs G C d sc Γ l m)):Ck (SimET G C d sc Γ (.meth a k l) x) :=
 zdd x (N.meth k) fun y ap m p q1 q2 q3=>(ra y).bind fun g=>(rl m).bind fun g1=>wb d.q fun hq=>.yes (js rfl rfl rfl (zks H.O (H.CO hq) H.hcl H.hme q1 q2 q3 g1.2.2.1 g1.2.2.2 g.e g1.2.1))
noncomputable def z0y (H:Hyp G N C d) {c:Nat}{l:List E} (sc:Sc) (Γ:Gam) (x:Qe) (rl:∀ m,Ck (SimLs G C d sc Γ l m)):Ck (SimET G C d sc Γ (.new c l) x) :=
 wa x (N.cls c) fun np m p=>wb (jp sc (N.cls c)) fun h2=>(rl m).bind fun g=>wb d.q fun hq=>.yes (js rfl rfl rfl (zqo H.O (H.CO hq) H.hne h2 g.2.2.1 g.2.2.2 g.2.1))
noncomputable def zp9 (H:Hyp G N C d) {a:E}{ks:List Kind} (sc:Sc) (Γ:Gam) (x:Qe) (ra:∀ y,Ck (SimET G C d sc Γ a y)):Ck (SimET G C d sc Γ (.isinst a ks) x) :=
 wa x "isinstance" fun np m p=>wb (jp sc "isinstance") fun h2=>w2 m fun y z=>(ra y).bind fun g=>z08 H sc Γ ks np y z p g h2
noncomputable def z05 (H:Hyp G N C d) {a:E}{k:Nat} (sc:Sc) (Γ:Gam) (x:Qe) (ra:∀ y,Ck (SimET G C d sc Γ a y)):Ck (SimET G C d sc Γ (.isX a k) x) :=
 wa x "isinstance" fun np m p=>wb (jp sc "isinstance") fun h2=>w2 m fun y z=>yv z fun yn yp=>wb (jp sc yn) fun h3=>wb ((decide (k=0)&&yn == ("ValueError":Qf))||N.xs.contains (yn,k)) fun h4=>(ra y).bind fun g=>.yes (zsq H h2 h3 h4 g)
noncomputable def zzi (H:Hyp G N C d) {q:Prim}{l:List E} (sc:Sc) (Γ:Gam) (x:Qe) (rl:∀ m,Ck (SimLs G C d sc Γ l m)):Ck (SimET G C d sc Γ (.prim q l) x) :=
 wa x (vh q) fun np m p=>wb d.q fun hq=>wb (jp sc (vh q)) fun h2=>(rl m).bind fun g=>.yes (js rfl rfl rfl (zh9 hq H.O h2 g.2.2.1 g.2.2.2 g.2.1))
noncomputable def ztb (H:Hyp G N C d) {k0:Nat}{a:E} (sc:Sc) (Γ:Gam) (x:Qe) (ra:∀ y,Ck (SimET G C d sc Γ a y)):Ck (SimET G C d sc Γ (.listM k0 a) x) :=
 wa x "list" fun np m p=>wb (jp sc "list") fun h2=>w1 m fun y=>(ra y).bind fun g=>.yes (js rfl rfl rfl (zik H.O h2 g.1 g.e))
noncomputable def zto (H:Hyp G N C d) {k0:Nat}{a:E} (sc:Sc) (Γ:Gam) (x:Qe) (ra:∀ y,Ck (SimET G C d sc Γ a y)):Ck (SimET G C d sc Γ (.dictC k0 a) x) :=
 wa x "dict" fun np m p=>wb (jp sc "dict") fun h2=>w1 m fun y=>(ra y).bind fun g=>.yes (js rfl rfl rfl (zhu H.O h2 g.1 g.e))
noncomputable def kBm (H:Hyp G N C d) {b:Bm}{a:E}{l:List E} (sc:Sc) (Γ:Gam) (x:Qe) (ra:∀ y,Ck (SimET G C d sc Γ a y)) (rl:∀ m,Ck (SimLs G C d sc Γ l m)):Ck (SimET G C d sc Γ (.bm b a l) x) :=
 zdd x (zeb b) fun y ap m p q1 q2 q3=>wb (zfx b) fun h2=>(ra y).bind fun g=>(rl m).bind fun g1=>.yes (js rfl rfl rfl (ztx H.O h2 q1 q2 q3 g1.2.2.1 g1.2.2.2 g.e g1.2.1))
noncomputable def zxu (H:Hyp G N C d) {k0:Option Nat}{slot:Nat}{range:Bool}{it:E}{cond:Option E}{elt:E} (sc:Sc) (Γ:Gam) (x:Qe) (rit:∀ y,Ck (SimET G C d sc Γ it y)) (rcond:∀ sc Γ m,Ck (CondSim G C d sc Γ cond m)) (re:∀ sc Γ x,Ck (SimET G C d sc Γ elt x)):Ck (SimET G C d sc Γ (.comp k0 slot range it cond elt) x) :=
 zub (slot:=slot) (range:=range) x rit rcond re fun e i y px ifs scope pos K=>wb d.q fun hq=>.yes (zrt hq H K)
mutual
noncomputable def ckE (H:Hyp G N C d):(e:E)->(sc:Sc)->(Γ:Gam)->(x:Qe)->Ck (SimET G C d sc Γ e x)
 | .none,sc,Γ,x=>wK .none x fun k p=>.yes (js rfl rfl rfl zkb)
 | .bool b,sc,Γ,x=>wK (.bool b) x fun k p=>.yes (js rfl rfl rfl zob)
 | .int i,sc,Γ,x=>wK (.int i) x fun k p=>.yes (js rfl rfl rfl zo2)
 | .str l,sc,Γ,x=>wK (.str (z7 l)) x fun k p=>.yes (js rfl rfl rfl zfq)
 | .loc i,sc,Γ,x=>z1f H sc Γ x
 | .gint g i,sc,Γ,x=>zym H sc Γ x
 | .gstr g i,sc,Γ,x=>zyh H sc Γ x
 | .neg a,sc,Γ,x=>z0q H sc Γ x (ckE H a sc Γ)
 | .not a,sc,Γ,x=>z02 H sc Γ x (ckE H a sc Γ)
 | .and l,sc,Γ,x=>z0x H sc Γ x (pu H l sc Γ)
 | .or l,sc,Γ,x=>kOr H sc Γ x (pu H l sc Γ)
 | .bin o a b,sc,Γ,x=>z1d H sc Γ x (ckE H a sc Γ) (ckE H b sc Γ)
 | .cmp a o b,sc,Γ,x=>z1g H sc Γ x (ckE H a sc Γ) (ckE H b sc Γ)
 | .cmp2 a o b o2 c,sc,Γ,x=>zwl H sc Γ x (ckE H a sc Γ) (ckE H b sc Γ) (ckE H c sc Γ)
 | .isC n a v,sc,Γ,x=>z03 H sc Γ x (ckE H a sc Γ)
 | .tup l,sc,Γ,x=>z1h H sc Γ x (pu H l sc Γ)
 | .lst l,sc,Γ,x=>z07 H sc Γ x (pu H l sc Γ)
 | .lstM _ l,sc,Γ,x=>zzh H sc Γ x (pu H l sc Γ)
 | .dictM _ ks l,sc,Γ,x=>zx5 x fun m m' p=>w0 m (w0 m' (match ks,l with
   | [],[]=>.yes (js rfl rfl rfl (zhw H.O))
   | _,_=>.no))
 | .sub a b,sc,Γ,x=>z00 H sc Γ x (ckE H a sc Γ) (ckE H b sc Γ)
 | .slice a lo hi,sc,Γ,x=>zs8 H sc Γ x (ckE H a sc Γ) (ckO H lo sc Γ) (ckO H hi sc Γ)
 | .attr a i,sc,Γ,x=>zut H sc Γ x (ckE H a sc Γ)
 | .call f l,sc,Γ,x=>zyc H sc Γ x (pu H l sc Γ)
 | .meth a k l,sc,Γ,x=>zxm H sc Γ x (ckE H a sc Γ) (pu H l sc Γ)
 | .new c l,sc,Γ,x=>z0y H sc Γ x (pu H l sc Γ)
 | .isinst a ks,sc,Γ,x=>zp9 H sc Γ x (ckE H a sc Γ)
 | .isX a k,sc,Γ,x=>z05 H sc Γ x (ckE H a sc Γ)
 | .prim q l,sc,Γ,x=>zzi H sc Γ x (pu H l sc Γ)
 | .listM _ a,sc,Γ,x=>ztb H sc Γ x (ckE H a sc Γ)
 | .dictC _ a,sc,Γ,x=>zto H sc Γ x (ckE H a sc Γ)
 | .bm b a l,sc,Γ,x=>kBm H sc Γ x (ckE H a sc Γ) (pu H l sc Γ)
 | .comp _ slot range it cond elt,sc,Γ,x=>zxu H sc Γ x (ckE H it sc Γ) (z0u H cond) (ckE H elt)
noncomputable def z0u (H:Hyp G N C d):(e:Option E)->(sc:Sc)->(Γ:Gam)->(m:List Qe)->Ck (CondSim G C d sc Γ e m)
 | none,sc,Γ,m=>w0 m (.yes .none)
 | some c,sc,Γ,m=>w1 m fun x=>(ckE H c sc Γ x).bind fun g=>.yes (.some g.t)
noncomputable def ckO (H:Hyp G N C d):(e:Option E)->(sc:Sc)->(Γ:Gam)->(m:Option Qe)->Ck (zc8 G C d sc Γ e m)
 | none,sc,Γ,m=>wn m (.yes zg8)
 | some c,sc,Γ,m=>ws m fun x=>(ckE H c sc Γ x).bind fun g=>.yes (zjm g.e)
noncomputable def pu (H:Hyp G N C d):(l:List E)->(sc:Sc)->(Γ:Gam)->(m:List Qe)->Ck (SimLs G C d sc Γ l m)
 | [],sc,Γ,m=>w0 m (.yes ⟨.nil,yi,rfl,rfl⟩)
 | e::l,sc,Γ,m=>wc m fun x r=>(ckE H e sc Γ x).bind fun g1=>(pu H l sc Γ r).bind fun g2=>.yes (zq4 g1 g2)
end
end
end Internal
end
section
namespace Internal
open PySem PySem.W PyProof.Rows
noncomputable def cg (Γ:Gam):Bool:=decide ((Γ.filterMap id).Nodup)
theorem ei:∀ (Γ:Gam) (i:Nat) (y:Qf),Γ[i]?=some (some y)->y∈Γ.filterMap id
 | [],i,y,h=>by simp at h
 | a::Γ,0,y,h=>by simp at h;subst h;simp
 | a::Γ,i+1,y,h=>by
  simp only[List.getElem?_cons_succ] at h
  have:=ei Γ i y h
  cases a with
  | none=>simpa using this
  | some z=>simp only[List.filterMap_cons,id];exact Zk _ this
theorem pz:∀ (Γ:Gam),cg Γ=true->jb Γ
 | [],h=>by intro i j y h;simp at h
 | a::Γ,h=>by
  have hn:(List.filterMap id (a::Γ)).Nodup:=by simpa [cg] using h
  have h':jb Γ:=pz Γ (by
   cases a with
   | none=>simpa [cg] using hn
   | some z=>simp only[List.filterMap_cons,id] at hn;simpa [cg] using (List.nodup_cons.1 hn).2)
  intro i j y hi hj
  match i,j with
  | 0,0=>rfl
  | i+1,j+1=>
   simp only[List.getElem?_cons_succ] at hi hj
   exact Qd Nat.succ (h' i j y hi hj)
  | 0,j+1 =>
   simp at hi;subst hi
   simp only[List.getElem?_cons_succ] at hj
   simp only[List.filterMap_cons,id] at hn
   exact((List.nodup_cons.1 hn).1 (ei Γ j y hj)).elim
  | i+1,0 =>
   simp at hj;subst hj
   simp only[List.getElem?_cons_succ] at hi
   simp only[List.filterMap_cons,id] at hn
   exact((List.nodup_cons.1 hn).1 (ei Γ i y hi)).elim
section
variable {P:Stmt->Type} [∀ x,No (P x)]
@[elab_as_elim] noncomputable def zgr (x:Stmt) (f:∀ y p,P (.Expr y p)):P x:=wb (Nat.beq x.ctorIdx 24) fun h=>PySem.Stmt.Expr.elim x (Zo h) f
@[elab_as_elim] noncomputable def zqg (x:Stmt) (f:∀ t e p,P (.Assign t e p)):P x:=wb (Nat.beq x.ctorIdx 5) fun h=>PySem.Stmt.Assign.elim x (Zo h) f
@[elab_as_elim] noncomputable def vIf (x:Stmt) (f:∀ c a b p,P (.If c a b p)):P x:=wb (Nat.beq x.ctorIdx 12) fun h=>PySem.Stmt.If.elim x (Zo h) f
@[elab_as_elim] noncomputable def z09 (x:Stmt) (f:∀ t i b o p,P (.For t i b o p)):P x:=wb (Nat.beq x.ctorIdx 9) fun h=>PySem.Stmt.For.elim x (Zo h) f
@[elab_as_elim] noncomputable def zuh (x:Stmt) (f:∀ c b o p,P (.While c b o p)):P x:=wb (Nat.beq x.ctorIdx 11) fun h=>PySem.Stmt.While.elim x (Zo h) f
@[elab_as_elim] noncomputable def zr0 (x:Stmt) (f:∀ e p,P (.Return e p)):P x:=wb (Nat.beq x.ctorIdx 3) fun h=>PySem.Stmt.Return.elim x (Zo h) f
@[elab_as_elim] noncomputable def z04 (x:Stmt) (f:∀ b h o e p,P (.Try b h o e p)):P x:=wb (Nat.beq x.ctorIdx 17) fun h=>PySem.Stmt.Try.elim x (Zo h) f
@[elab_as_elim] noncomputable def zs5 (x:Stmt) (f:∀ e c p,P (.Raise e c p)):P x:=wb (Nat.beq x.ctorIdx 16) fun h=>PySem.Stmt.Raise.elim x (Zo h) f
@[elab_as_elim] noncomputable def zff (x:Stmt) (f:∀ t e p,P (.Assign [t] e p)):P x:=zqg x fun ts e p=>w1 ts fun t=>f t e p
end
section
variable {G:Gd}{N:Names}{C:Calls}{d:Dp}{n:Nat}{sc:Sc}{Γ:Gam}
noncomputable def ckT (H:Hyp G N C d) (t:T) (x:Qe):Ck (TgtOk G C d sc Γ t x):=match t with
 | .loc i=>yv x fun y p=>wb (Γ[i]? == some (some y)) fun h1=>wb (vt sc y) fun h2=>.yes (.loc (eq_of_beq h1) h2)
 | .item a b=>zqv x fun y z p=>wk (ckE H a sc Γ y) fun g1=>wk (ckE H b sc Γ z) fun g2=>.yes (.item g1.e g2.e)
noncomputable def ztm (H:Hyp G N C d):(l:List T)->(m:List Qe)->Ck (TgtsOk G C d sc Γ l m)
 | [],m=>w0 m (.yes .nil)
 | t::l,m=>wc m fun x r=>wk (ckT H t x) fun h1=>wk (ztm H l r) fun h2=>.yes (.cons h1 h2)
noncomputable def zv9 (H:Hyp G N C d) (t:T ⊕ List T) (x:Qe):Ck (ForTgt G C d sc Γ t x):=match t with
 | .inl t=>wk (ckT H t x) fun h=>.yes (.one h)
 | .inr ts=>zp8 x fun m k p=>wk (ztm H ts m) fun h=>.yes (.many h)
theorem zi8 (H:Hyp G N C d) {a b:E}{i:Nat}{y z:Qe}{ap p:Pos} (h2:decide (i < 13)=true) (g1:SimET G C d sc Γ a y) (g2:SimET G C d sc Γ b z) :
  vz G C d sc Γ n (.setattr a i b) (.Assign [.Attribute y (N.attr i) ap] z p):=by
 rw[show N.attr i=G.an i from congrFun H.O.attr i]
 exact er H.O H.hcl (Za h2) g1.e g2.e
theorem zyu (hq:d.q=true) (H:Hyp G N C d) (gi:jb Γ) {ts:T ⊕ List T}{range:Bool}{it:E}{body:List S}{y i:Qe}{m:List Stmt}{p:Pos} (h1:ForTgt G C d sc Γ ts y) (h2:uy i=true) (h3:ItOk' G C d sc Γ range it i) (h:b8 G C d sc Γ n body m) :
  vz G C d sc Γ n (.for_ ts range it body) (.For y i m [] p):=by
 obtain⟨j,h4,h5⟩:=h3
 exact zl3 hq H.O gi h1 h2 h4 h5 h
@[elab_as_elim] noncomputable def zye {P:ExceptHandler->Type} [∀ x,No (P x)] (x:ExceptHandler) (f:∀ t n b p,P (.ExceptHandler t n b p)):P x:=match x with | .ExceptHandler t n b p=>f t n b p
theorem zue (hq:d.q=true) (H:Hyp G N C d) {a:E}{k:Nat}{l:List E}{x:Qe}{m:List Qe}{ap cp:Pos} (q1:j4 x=true) (q2:(ap.endLine == cp.line)=true) (q3:m.length < 30) (ga:SimET G C d sc Γ a x) (gl:SimLs G C d sc Γ l m) (h1:N.xm k=true) :
  gq G C d sc Γ (.meth a k l) (.Call (.Attribute x (N.meth k) ap) m [] cp):=zfg H.O (H.CX hq) gl.2.2.1 gl.2.2.2 gl.2.1 H.hcl H.hme q1 q2 q3 ga.e fun c f e=>H.xm k c f h1 e
noncomputable def ckQ (H:Hyp G N C d) (q:E) (x:Qe):Ck (gq G C d sc Γ q x):=wb d.q fun hq=>match q with
 | .call f l=>wa x (N.fn f) fun np m cp=>wk (pu H l sc Γ m) fun gl=>wb (N.xf f) fun h1=>wb (jp sc (N.fn f)) fun h6=>wb (!(N.fn f == Str.empty)) fun h7=>.yes (zdt H.O (H.CX hq) gl.2.2.1 gl.2.2.2 gl.2.1 H.hfn h1 (te h7) h6)
 | .meth a k l=>zdd x (N.meth k) fun z ap m cp q1 q2 q3=>wk (ckE H a sc Γ z) fun ga=>wk (pu H l sc Γ m) fun gl=>wb (N.xm k) fun h1=>.yes (zue hq H q1 q2 q3 ga gl h1)
 | _=>.no
noncomputable def z1c (i:Option Nat) (nm:Option Qf):Ck (HandN sc Γ i nm):=match i with
 | some i=>ws nm fun nn=>wb (Γ[i]? == some (some nn)) fun h4=>wb (sc.lookup nn == some .local) fun h5=>.yes (.named (eq_of_beq h4) (eq_of_beq h5))
 | none=>wn nm (.yes .bare)
noncomputable def z0i (H:Hyp G N C d) (gi:jb Γ):(b:List S)->(m:List Stmt)->Ck (b8 G C d sc Γ n b m)
 | [],m=>w0 m (.yes zbm)
 | s::l,m=>wc m fun x r=>wk (z0i H gi l r) fun g=>match s with
  | .assign i a=>zff x fun t z p=>yv t fun y yp=>wb (Γ[i]? == some (some y)) fun h1=>wb (vt sc y) fun h2=>wb (jf z) fun h3=>wk (ckE H a sc Γ z) fun h=>.yes (p8 (uh gi (eq_of_beq h1) h2 h3 h.e) g)
  | .ret (some a)=>zr0 x fun y p=>ws y fun z=>wk (ckE H a sc Γ z) fun h=>.yes (p8 (de h.e) g)
  | _=>.no
theorem ztf (H:Hyp G N C d) (gi:jb Γ) {q:E}{c:Nat}{i:Option Nat}{x:Qe}{ep hp hpos tpos:Pos}{hn:Qf}{nm:Option Qf}{b:List S}{b0:Stmt}{suite:List Stmt}{hs:List ExceptHandler}
  (h0:jf x=true) (he:SimET G C d sc Γ q x) (hx:gq G C d sc Γ q x) (h2:N.xs.contains (hn,c)=true) (h3:jp sc hn=true) (hh:HandN sc Γ i nm) (gr:b8 G C ⟨d.n,false⟩ sc Γ n b (b0::suite)) :
  vz G C d sc Γ n (.tryX q c i b) (.Try [.Expr x ep] (.ExceptHandler (some (.Name hn hp)) nm (b0::suite) hpos::hs) [] [] tpos) :=
 zha H.O gi h0 he.e hx (H.xw hn c h2).2 h3 (fun c' e1 e2=>(H.xk c' c e1 e2).2 (H.xw hn c h2).1) hh gr
theorem zfc {c:Nat}{x:Stmt}:vz G C d sc Γ n (.raise c) x:=by
 intro t st s env loc fl loc' st' A hA hT hsc F R e
 cases e
mutual
noncomputable def ckS (H:Hyp G N C d) (gi:jb Γ):(s:S)->(x:Stmt)->Ck (vz G C d sc Γ n s x)
 | .expr a,x=>zgr x fun y p=>wb (jf y) fun h1=>wk (ckE H a sc Γ y) fun h=>.yes (sj h1 h.e)
 | .assign i a,x=>zff x fun t z p=>yv t fun y yp=>wb (Γ[i]? == some (some y)) fun h1=>wb (vt sc y) fun h2=>(wb (jf z) fun h3=>wk (ckE H a sc Γ z) fun h=>.yes (uh gi (eq_of_beq h1) h2 h3 h.e))
 | .setattr a i b,x=>zff x fun t z p=>zn9 t fun y nm ap=>wq (N.attr i) nm (wb (decide (i < 13)) fun h2=>wk (ckE H a sc Γ y) fun g1=>wk (ckE H b sc Γ z) fun g2=>.yes (zi8 H h2 g1 g2))
 | .setitem a b c,x=>zff x fun t z p=>zqv t fun y u ap=>wb (jf z) fun h1=>wk (ckE H a sc Γ y) fun g1=>wk (ckE H b sc Γ u) fun g2=>wk (ckE H c sc Γ z) fun g3=>.yes (i4 h1 g1.e g2.e g3.e)
 | .unpack ts a,x=>zff x fun t z p=>zp8 t fun m k tp=>wk (ztm H ts m) fun h1=>wb (f7 z) fun h2=>wk (ckE H a sc Γ z) fun g=>wb d.q fun hq=>.yes (zbz hq gi h1 h2 g.e)
 | .ite c b1 b2,x=>vIf x fun y m1 m2 p=>wk (ckE H c sc Γ y) fun g=>wk (ckB H gi b1 m1) fun g1=>wk (ckB H gi b2 m2) fun g2=>.yes (zm4 g.t g1 g2)
 | .for_ ts range it body,x=>z09 x fun y i m o p=>w0 o (wk (zv9 H ts y) fun h1=>wb (uy i) fun h2=>wk (zv6 range i (ckE H it sc Γ)) fun h3=>wk (ckB H gi body m) fun h=>wb d.q fun hq=>.yes (zyu hq H gi h1 h2 h3 h))
 | .while_ c body,x=>zuh x fun y m o p=>w0 o (wk (ckE H c sc Γ y) fun g=>wk (ckB H gi body m) fun h=>.yes (zel g.t h))
 | .ret a,x=>zr0 x fun y p=>(match a with
   | none=>wn y (.yes zix)
   | some a=>ws y fun z=>wk (ckE H a sc Γ z) fun g=>.yes (de g.e))
 | .raise _,x=>.yes zfc
 | .exprX q,x=>zgr x fun y p=>wb (jf y) fun h1=>wk (ckE H q sc Γ y) fun h=>.yes (zc9 (sj h1 h.e))
 | .retX q,x=>zr0 x fun y p=>ws y fun z=>wk (ckE H q sc Γ z) fun g=>.yes (zh4 (de g.e))
 | .assignX i q,x=>zff x fun t z p=>yv t fun y yp=>wb (Γ[i]? == some (some y)) fun h1=>wb (vt sc y) fun h2=>wb (jf z) fun h3=>wk (ckE H q sc Γ z) fun h=>.yes (zao (uh gi (eq_of_beq h1) h2 h3 h.e))
 | .tryX q c i b,x=>z04 x fun bd hs o e tp=>w1 bd fun s0=>zgr s0 fun y ep=>wc hs fun h hr=>zye h fun ty nm hb hpos=>ws ty fun tn=>yv tn fun hn hp=>wc hb fun b0 suite=>w0 o (w0 e
     (wb (jf y) fun h0=>wk (ckE H q sc Γ y) fun g=>wk (ckQ H q y) fun gx=>wb (N.xs.contains (hn,c)) fun h2=>wb (jp sc hn) fun h3=>wk (z1c i nm) fun hh=>wk (z0i H.quiet gi b (b0::suite)) fun gr=>.yes (ztf H gi h0 g gx h2 h3 hh gr)))
noncomputable def ckB (H:Hyp G N C d) (gi:jb Γ):(l:List S)->(m:List Stmt)->Ck (b8 G C d sc Γ n l m)
 | [],m=>w0 m (.yes zbm)
 | s::l,m=>wc m fun x r=>wk (ckS H gi s x) fun g1=>wk (ckB H gi l r) fun g2=>.yes (p8 g1 g2)
end
theorem zm2 (hq:d.q=true) (H:Hyp G N C d) {c kk:Nat}{x:Qf}{np kpos cpos pos:Pos}{z:Qf} (h1:N.xs.contains (x,c)=true) (h2:jp sc x=true):gm G C d sc Γ n (.raise c) (.Raise (some (.Call (.Name x np) [.Constant (.str z) kk kpos] [] cpos)) none pos):=by
 have e:z=z7 z.cps.toList:=by cases z;simp
 rw[e]
 exact zd7 hq H.O (H.xw x c h1).2 h2
noncomputable def zwd:(b:List S)->Ck (OneRet b)
 | [.ite c [.ret o] []]=>.yes (.mk c o)
 | _=>.no
mutual
noncomputable def ckX (H:Hyp G N C d) (gi:jb Γ):(s:S)->(x:Stmt)->Ck (gm G C d sc Γ n s x)
 | .expr _,x=>.yes zho
 | .assign _ _,x=>.yes zbs
 | .setitem _ _ _,x=>.yes zag
 | .setattr _ _ _,x=>.yes et
 | .exprX q,x=>zgr x fun y p=>wb (jf y) fun h1=>wk (ckQ H q y) fun h=>.yes (zdv h1 h)
 | .for_ ts range it body,x=>wk (zwd body) fun h=>.yes (zhv h)
 | .retX q,x=>zr0 x fun y p=>ws y fun z=>wk (ckQ H q z) fun h=>.yes (zir h)
 | .assignX i q,x=>zff x fun t z p=>yv t fun y yp=>wb (jf z) fun h1=>wk (ckQ H q z) fun h=>.yes (ri h1 h)
 | .ret _,x=>.yes zkm
 | .ite c b1 b2,x=>vIf x fun y m1 m2 p=>wk (ckE H c sc Γ y) fun g=>wk (zql H gi b1 m1) fun g1=>wk (zql H gi b2 m2) fun g2=>.yes (zoc g.t g1 g2)
 | .raise c,x=>zs5 x fun e o p=>ws e fun y=>zkr y fun f l k cp=>yv f fun nm np=>w1 l fun z=>zlz z fun v kk kp=>wn o (w0 k (match v with
   | .str z=>wb (N.xs.contains (nm,c)) fun h1=>wb (jp sc nm) fun h2=>wb d.q fun hq=>.yes (zm2 hq H h1 h2)
   | _=>.no))
 | _,x=>.no
noncomputable def zql (H:Hyp G N C d) (gi:jb Γ):(l:List S)->(m:List Stmt)->Ck (n9 G C d sc Γ n l m)
 | [],m=>.yes zjg
 | s::l,m=>wc m fun x r=>wk (ckS H gi s x) fun g0=>wk (ckX H gi s x) fun g1=>wk (zql H gi l r) fun g2=>.yes (zdu g0 g1 g2)
end
end
end Internal
end
section
namespace Internal
open PySem PySem.W PyProof.Rows
set_option tactic.hygienic true in
theorem n4:∀ (names:List Qf) (vals:List Value),vals.length=names.length->∀ x∈names,((names.zip vals).lookup x).isSome=true
 | [],vals,h,x,hx=>by simp at hx
 | a::names,[],h,x,hx=>by simp at h
 | a::names,v::vals,h,x,hx=>by
  simp only[List.zip_cons_cons,List.lookup_cons]
  split
  ·rfl
  ·rename_i e
   refine n4 names vals (by simpa using h) x ?_
   rcases Zu.1 hx with rfl | hx
   ·simp at e
   ·exact hx
theorem zbp {α β:Type}{f g:α->Option β}:∀ {l:List α},(∀ x∈l,f x=g x)->l.filterMap f=l.filterMap g
 | [],_=>rfl
 | x::l,h=>by
  have ih:l.filterMap f=l.filterMap g:=zbp (l:=l) (fun y hy=>h y (by simp[hy]))
  simp only[List.filterMap_cons,h x (by simp),ih]
theorem zms:∀ (names:List Qf) (vals:List Value),vals.length=names.length->names.Nodup->names.filterMap (fun n=>((names.zip vals).lookup n).map (n,·))=names.zip vals
 | [],vals,h,nd=>by simp
 | a::names,[],h,nd=>by simp at h
 | a::names,v::vals,h,nd=>by
  obtain⟨h1,h2⟩:=List.nodup_cons.1 nd
  have ih:=zms names vals (by simpa using h) h2
  simp only[List.zip_cons_cons,List.filterMap_cons,List.lookup_cons,beq_self_eq_true,Option.map_some]
  congr 1
  refine Eq.trans (zbp fun x hx=>?_) ih
  have:(x == a)=false:=by
   simp only[beq_eq_false_iff_ne];rintro rfl;exact h1 hx
  simp only[this]
noncomputable def mz (fd:FuncData) (names:List Qf):Bool :=
 fd.params.posonlyargs.isEmpty&&fd.params.args.map (·.arg) == names&&fd.params.kwonlyargs.isEmpty&&fd.params.vararg.isNone&&fd.params.kwarg.isNone&&(match fd.defaults with | .none=>true | _=>false)
theorem zph {fd:FuncData} (vals:List Value) (h1:fd.params.posonlyargs=[]) (h3:fd.params.kwonlyargs=[]) (h4:fd.params.vararg=none) (h5:fd.params.kwarg=none) (h6:fd.defaults=.none)
  (hl:vals.length=(fd.params.args.map (·.arg)).length) (e1:((fd.params.args.map (·.arg)).filter fun n=>(((fd.params.args.map (·.arg)).zip vals).lookup n).isNone)=[])
  (e2:(fd.params.args.map (·.arg)).filterMap (fun n=>(((fd.params.args.map (·.arg)).zip vals).lookup n).map (n,·))=(fd.params.args.map (·.arg)).zip vals):bindArgs fd ⟨vals,[]⟩=pure ((fd.params.args.map (·.arg)).zip vals):=by
 obtain⟨nm,q,⟨po,pa,va,ko,kd,kw,df⟩,body,sc,g,cl,ds,kds,doc,pm,an,cd,ct,bb⟩:=fd
 cases h1;cases h3;cases h4;cases h5;cases h6
 have hc1:¬ (decide (vals.length > (pa.map (·.arg)).length)&&true)=true:=by
  have:¬ (vals.length > (pa.map (·.arg)).length):=by
   have hl:vals.length=(pa.map (·.arg)).length:=hl
   omega
  rw[Zc this];exact Bool.noConfusion
 have hc2:¬ (!((pa.map (·.arg)).filter fun n=>(((pa.map (·.arg)).zip vals).lookup n).isNone).isEmpty)=true:=by
  have e1:((pa.map (·.arg)).filter fun n=>(((pa.map (·.arg)).zip vals).lookup n).isNone)=[]:=e1
  rw[e1];exact Bool.noConfusion
 have ht:List.take (pa.map (·.arg)).length (pa.map (·.arg))=pa.map (·.arg):=List.take_length
 have hd:List.drop ((Option.getD (none:Option (Array Value)) #[]).toList.length-(pa.map (·.arg)).length) (Option.getD (none:Option (Array Value)) #[]).toList=[]:=List.drop_nil
 refine Eq.trans (Zh hc1) (Eq.trans (Zh ?_) ?_)
 ·intro h
  have h:(!((List.take ((pa.map (·.arg)).length-(List.drop ((Option.getD (none:Option (Array Value)) #[]).toList.length-(pa.map (·.arg)).length) (Option.getD (none:Option (Array Value)) #[]).toList).length) (pa.map (·.arg))).filter fun n=>(((pa.map (·.arg)).zip vals).lookup n).isNone).isEmpty)=true:=h
  rw[hd] at h
  have h:(!((List.take (pa.map (·.arg)).length (pa.map (·.arg))).filter fun n=>(((pa.map (·.arg)).zip vals).lookup n).isNone).isEmpty)=true:=h
  rw[ht] at h
  exact hc2 h
 ·have e2:(pa.map (·.arg)).filterMap (fun n=>(((pa.map (·.arg)).zip vals).lookup n).map (n,·))=(pa.map (·.arg)).zip vals:=e2
  clear hl e1 hc1 hc2
  simp only[List.map_nil,List.nil_append,hd,List.zip_nil_right,Z0]
  exact Qd (fun z=>(pure z:Sem (List (Qf×Value)))) e2
theorem zdl {fd:FuncData}{names:List Qf} (h:mz fd names=true) (nd:names.Nodup) (vals:List Value) (hl:vals.length=names.length):bindArgs fd ⟨vals,[]⟩=pure (names.zip vals):=by
 obtain⟨h,h6⟩:=gf h
 obtain⟨h,h5⟩:=gf h
 obtain⟨h,h4⟩:=gf h
 obtain⟨h,h3⟩:=gf h
 obtain⟨h1,h2⟩:=gf h
 have h2:fd.params.args.map (·.arg)=names:=eq_of_beq h2
 subst h2
 refine zph vals (List.isEmpty_iff.1 h1) (List.isEmpty_iff.1 h3) (Option.isNone_iff_eq_none.1 h4) (Option.isNone_iff_eq_none.1 h5) ?_ hl ?_ (zms _ vals hl nd)
 ·revert h6
  cases fd.defaults <;> first | exact fun ξ=>rfl | exact fun h=>Bool.noConfusion h
 ·rw[List.filter_eq_nil_iff]
  intro x hx e
  have:=n4 _ vals hl x hx
  rw[Option.isNone_iff_eq_none.1 e] at this;exact z6 this
structure Stat (G:Gd) (N:Names):Prop where
 O:G.Ok N
 hcl:∀ c Ca,G.ca c=some Ca->ClsOk G Ca
 hfn:∀ f a,G.fa f=some a->FnOk G N f a
 hme:∀ c k f Ca,G.P.meths c k=some f->G.ca c=some Ca->∃ a,G.fa f=some a/\MethOk G Ca (N.meth k) a
 hne:∀ c k f,G.P.inits c=some (k,f)->∃ Ca fi,G.ca c=some Ca/\G.fa f=some fi/\NewOk G N c Ca fi
 xw:∀ y c,N.xs.contains (y,c)=true->c≠0/\zpl G y c
 xk:∀ c k,(G.P.excBase c).contains c=true->(G.P.excBase c).contains k=true->kitOne G.K (.ref c) (m9 k)=some true/\(k≠0->exmOne G.K (.ref c) (.ref k)=some true)
 xm:∀ k c f,N.xm k=true->G.P.meths c k=some f->N.xf f=true
 xn:∀ c k f,N.xm (1000+c)=true->G.P.inits c=some (k,f)->N.xf f=true
 xi:∀ c k,(G.P.excBase c).contains c=true->(k=0\/∃ y,N.xs.contains (y,k)=true)->zi9 G.K c=true/\kitOne G.K (.ref c) (m9 k)=some ((G.P.excBase c).contains k)
noncomputable def zie (K:Frag) (N:Names) (fn:Fn) (a:Addr):Bool :=
 match K.lookup a with
 | some o=>(match o.data with
  | .func fd=>codeIn K fd.code fd.qualname&&fd.closure.isEmpty&&fd.globals == mainGlobals&&fd.builtins == builtinsNs&&fd.scope.kind == .function&&!fd.scope.isCoroutine&&!fd.scope.isGenerator &&
   mz fd (fn.names.take fn.np)&&decide (fn.np<=fn.names.length)&&(fn.names.take fn.np).all (fun x=>vt fd.scope.names x&&!(x == Str.empty))&&decide (fn.names.take fn.np).Nodup&&cg (oh fn)&&(match fd.body with | .stmts _=>true | _=>false)
  | _=>false)
 | none=>false
noncomputable def fz (K:Frag) (a:Addr):Option (Sc×List Stmt):=(K.lookup a).bind fun o=>match o.data with
 | .func fd=>(match fd.body with
  | .stmts body=>some (fd.scope.names,body)
  | _=>none)
 | _=>none
noncomputable def zrd {G:Gd}{N:Names}{C:Calls}{d:Dp} (n:Nat) (H:Hyp G N C d) (fn:Fn) (p:Sc×List Stmt):Bool:=(wb (cg (oh fn)) fun hg=>ckB (sc:=p.1) (n:=n) H (pz (oh fn) hg) fn.body p.2).isYes
noncomputable def ic (K:Frag) {G:Gd}{N:Names}{C:Calls}{d:Dp} (n:Nat) (H:Hyp G N C d) (fn:Fn) (a:Addr):Bool:=(fz K a).any (zrd n H fn)
noncomputable def zj6 {G:Gd}{N:Names}{C:Calls}{d:Dp} (n:Nat) (H:Hyp G N C d) (fn:Fn) (p:Sc×List Stmt):Bool:=(wb (cg (oh fn)) fun hg=>zql (sc:=p.1) (n:=n) H (pz (oh fn) hg) fn.body p.2).isYes
noncomputable def zam (K:Frag) {G:Gd}{N:Names}{C:Calls}{d:Dp} (n:Nat) (H:Hyp G N C d) (fn:Fn) (a:Addr):Bool:=(fz K a).any (zj6 n H fn)
set_option tactic.hygienic true in
theorem zgf {G:Gd}{N:Names}{fn:Fn}{a:Addr} (h:zie G.K N fn a=true):∃ fd body,FnHd G fn a fd body/\fz G.K a=some (fd.scope.names,body):=by
 unfold zie at h;split at h
 ·rename_i o ho
  split at h
  ·rename_i fd hd
   simp only[Bool.and_eq_true,List.isEmpty_iff,beq_iff_eq,Bool.not_eq_true',decide_eq_true_eq,Zv,beq_eq_false_iff_ne] at h
   obtain⟨⟨⟨⟨⟨⟨⟨⟨⟨⟨⟨⟨h1,h2⟩,h3⟩,h4⟩,h5⟩,h6⟩,h7⟩,h8⟩,h9⟩,h10⟩,h11⟩,h12⟩,h13⟩:=h
   cases hy:fd.body with
   | stmts body =>
    have e:fz G.K a=some (fd.scope.names,body):=by unfold fz;rw[ho];show(match o.data with | .func fd=>_ | _=>none)=_;rw[hd];show(match fd.body with | .stmts body=>_ | _=>none)=_;rw[hy]
    exact⟨fd,body,⟨o,ho,hd,h1,hy,h2,h3,h4,h5,h6,h7,fun vals hv=>zdl h8 h11 vals (by rw[hv,List.length_take];lia),h9,h10,h11⟩,e⟩
   | _=>rw[hy] at h13;exact z6 h13
  ·exact z6 h
 ·exact z6 h
theorem Stat.hyp {G:Gd}{N:Names} (S:Stat G N) {C:Calls}{n:Nat} (CA:CallsA G N.xf N.qf C n):Hyp G N C ⟨n,true⟩:=⟨S.O,fun ξ=>CA.ok,S.hcl,S.hfn,S.hme,S.hne,S.xw,S.xk,S.xm,S.xn,S.xi,fun ξ=>CA.x,CA.q⟩
theorem Stat.hypQ {G:Gd}{N:Names} (S:Stat G N) {C:Calls}{n:Nat} (CQ:ft G C n N.qf):Hyp G N C ⟨n,false⟩:=⟨S.O,nofun,S.hcl,S.hfn,S.hme,S.hne,S.xw,S.xk,S.xm,S.xn,S.xi,nofun,CQ⟩
theorem zbl {G:Gd}{N:Names}{q:Bool}{PX:Calls->Nat->Prop} (S:∀ C n,PX C n->Hyp G N C ⟨n,q⟩) {fn:Fn}{a:Addr} (h:zie G.K N fn a=true) (hb:∀ C n (H:Hyp G N C ⟨n,q⟩),ic G.K n H fn a=true):FnRec G q PX fn a:=by
 obtain⟨fd,body,hd,e⟩:=zgf h
 refine⟨fd,body,hd,fun C n CA=>?_⟩
 have g:=hb C n (S C n CA)
 unfold ic at g;rw[e] at g
 exact Ck.get g
theorem zte {G:Gd}{N:Names} (S:Stat G N) {fn:Fn}{a:Addr} (h:zie G.K N fn a=true) (hb:∀ C n (H:Hyp G N C ⟨n,true⟩),zam G.K n H fn a=true):FnX G N.xf N.qf fn a:=by
 obtain⟨fd,body,hd,e⟩:=zgf h
 refine⟨fd,body,hd,fun C n CA=>?_⟩
 have g:=hb C n (S.hyp CA)
 unfold zam at g;rw[e] at g
 exact Ck.get g
end Internal
end
section
namespace Internal
theorem dj (y:Int) (h0:0<=y) (h:y < 18446744073709551616):intBits y<=64:=by
 unfold intBits
 split
 ·lia
 ·have h1:y.natAbs≠0:=by lia
  have:y.natAbs.log2 < 64:=(Nat.log2_lt h1).2 (by lia)
  lia
theorem ztn (x y:Int) (s:MS) (h0:0<=x) (h:x < 18446744073709551616):yd .mul (.int x) (.int y) s=.ok (.int (x*y)) s :=
 Zg (by rw[zbj,Zb (dj x h0 h),Bool.true_or,Bool.true_or])
theorem ztt (x y:Int) (s:MS) (h0:0 < y) (h:y < 18446744073709551616):yd .fdiv (.int x) (.int y) s=.ok (.int (x / y)) s:=by
 rw[<- Int.fdiv_eq_ediv_of_nonneg x (Int.le_of_lt h0)]
 exact Zh fun q=>q.elim (fun q=>absurd h0 (by rw[q];exact Int.lt_irrefl 0)) fun q=>absurd q (Nat.not_lt.2 (dj y (Int.le_of_lt h0) h))
theorem zcq (x y:List Nat) (s:MS) (h:x.length+y.length<=16777216):yd .add (.str x) (.str y) s=.ok (.str (x++y)) s:=Zg h
theorem zv3 (x y:Int) (s:MS):cmpOp .ne (.int x) (.int y) s=.ok (.bool (!decide (x=y))) s:=rfl
theorem zdk {i:Int}{n:Nat} (h0:0<=i) (h:i < n):idx i n=some i.toNat:=(Zg h0).trans (Zg h)
theorem zzt (x:List Nat) (i:Int) (s:MS) (h0:0<=i) (h:i < x.length) (g:x.length<=16777216):getItem (.str x) (.int i) s=.ok (.str [x[i.toNat]'(by lia)]) s:=by
 refine(Zg g).trans ?_
 rw[zdk h0 h]
 show okV s ((x[i.toNat]?).map _)=_
 rw[Zl (by lia)];rfl
theorem zuv (l:List V) (i:Int) (s:MS) (h0:0<=i) (h:i < l.length):getItem (.lst l) (.int i) s=.ok (l[i.toNat]'(by lia)) s:=by
 show okV s ((idx i l.length).bind fun j=>l[j]?)=_
 rw[zdk h0 h]
 show okV s (l[i.toNat]?)=_
 rw[Zl (by lia)];rfl
theorem znd {a b c:Nat} (g:a+(b+1)<=c):a < c:=Zi (Nat.lt_add_of_pos_right (Nat.succ_pos b)) g
theorem znf {α:Type}{a:List α}{x:α}{b c:Nat} (g:a.length+(b+1)<=c):(a++[x]).length+b<=c:=by rw[Zf];exact Zp (Nat.le_of_eq (Nat.succ_add_eq_add_succ _ _)) g
theorem znn {s₀ s:MS}{range:Bool}{src x v:V}{slot:Nat}{elt:Loc->MS->Res V}{l:Loc}{r acc:List V} (hs:stays s₀ s range src=true) (hx:elt (l.set slot (some x)) s=.ok v s) (g:acc.length < ze):compLoop s₀ range src slot none elt l acc (x::r) s=compLoop s₀ range src slot none elt l (acc++[v]) r s:=by
 refine(Zg hs).trans ?_
 show Res.bind (elt (l.set slot (some x)) s) (fun v s=>if acc.length < ze then compLoop s₀ range src slot none elt l (acc++[v]) r s else .stuck)=_
 rw[hx]
 exact Zg g
theorem w9 (s₀ s:MS) (range:Bool) (src:V) (slot:Nat) (elt:Loc->MS->Res V) (l:Loc) (f:V->V)
  (hs:stays s₀ s range src=true) :
  ∀ (xs acc:List V) ,(∀ x∈xs,elt (l.set slot (some x)) s=.ok (f x) s)->acc.length+xs.length<=ze->
   compLoop s₀ range src slot none elt l acc xs s=.ok (acc++xs.map f) s
 | [],acc,h,g=>by rw[List.map_nil,Z0];exact Zg hs
 | x::r,acc,h,g=>by
  refine(znn hs (h x (Zm ..)) (znd g)).trans ?_
  rw[w9 s₀ s range src slot elt l f hs r _ (fun y hy=>h y (Zk _ hy)) (znf g),Z3]
  rfl
theorem pg (s₀ s:MS) (range:Bool) (src:V) (slot:Nat) (c elt:Loc->MS->Res V) (l:Loc) (p:V->Bool) (f:V->V) (hs:stays s₀ s range src=true) :
  ∀ (xs acc:List V),(∀ x∈xs,c (l.set slot (some x)) s=.ok (.bool (p x)) s)->(∀ x∈xs,p x=true->elt (l.set slot (some x)) s=.ok (f x) s)->acc.length+xs.length<=ze->
   compLoop s₀ range src slot (some c) elt l acc xs s=.ok (acc++(xs.filter p).map f) s
 | [],acc,_,_,_=>by rw[List.filter_nil,List.map_nil,Z0];exact Zg hs
 | x::r,acc,h1,h2,g=>by
  refine(Zg hs).trans ?_
  show Res.bind (Res.bind (c (l.set slot (some x)) s) vw) _=_
  rw[h1 x (Zm ..)]
  show(if p x=true then Res.bind (elt (l.set slot (some x)) s) (fun v s=>if acc.length < ze then compLoop s₀ range src slot (some c) elt l (acc++[v]) r s else .stuck) else compLoop s₀ range src slot (some c) elt l acc r s)=_
  rw[List.filter_cons]
  cases hp:p x with
  | true =>
   rw[Zg rfl,Zg rfl,h2 x (Zm ..) hp]
   show(if acc.length < ze then _ else _)=_
   rw[Zg (znd g),pg s₀ s range src slot c elt l p f hs r _ (fun y hy=>h1 y (Zk _ hy)) (fun y hy=>h2 y (Zk _ hy)) (znf g),Z3]
   rfl
  | false =>
   rw[Zh Z8,Zh Z8]
   exact pg s₀ s range src slot c elt l p f hs r acc (fun y hy=>h1 y (Zk _ hy)) (fun y hy=>h2 y (Zk _ hy)) (Nat.le_of_succ_le g)
theorem j9 (s:MS) (n:Int) (h0:0<=n) (h:n<=16777216):zz s true (.int n)=some ((List.range n.toNat).map fun (i:Nat)=>.int i):=Zg ⟨Int.le_trans (by decide) h0,h⟩
noncomputable def OkR {α:Type} (r:Res α) (Q:α->MS->Prop):Prop:=match r with
 | .ok a s=>Q a s
 | _=>False
theorem fb {α β:Type} (r:Res α) (f:α->MS->Res β) (Q:β->MS->Prop):OkR (r.bnd f) Q=OkR r (fun a s=>OkR (f a s) Q):=by
 cases r <;> rfl
theorem je {α β:Type} (r:Res α) (f:α->MS->Res β) (Q:β->MS->Prop):OkR (r.bind f) Q=OkR r (fun a s=>OkR (f a s) Q):=by
 cases r <;> rfl
theorem qz {α:Type}{r:Res α}{Q R:α->MS->Prop} (h:OkR r Q) (g:∀ a s,Q a s->R a s):OkR r R:=by
 cases r with
 | ok a s=>exact g a s h
 | _=>exact h.elim
theorem q9 {α:Type}{r:Res α}{Q:α->MS->Prop} (h:OkR r Q):∃ a s,r=.ok a s/\Q a s:=by
 cases r with
 | ok a s=>exact⟨a,s,rfl,h⟩
 | _=>exact h.elim
theorem u4 {α:Type}{r:Res α}{a:α}{s:MS}{Q:α->MS->Prop} (h:r=.ok a s) (k:Q a s):OkR r Q:=by rw[h];exact k
theorem z4 {α:Type}{r:Res α}{a:α}{s:MS} (h:OkR r (fun b t=>b=a/\t=s)):r=.ok a s:=by
 cases r with
 | ok b t=>obtain⟨rfl,rfl⟩:=h;rfl
 | _=>exact h.elim
noncomputable def flV:Fl->V
 | .ret v=>v
 | .next=>.none
theorem zak {P:Prog}{n f:Nat}{vs:List V}{s:MS}{fn:Fn} (hf:P.fns f=some fn) (hl:vs.length=fn.np):run P (n+1) f vs s=(exs P (run P n) n fn.body (vs.map some++List.replicate (fn.names.length-fn.np) none) s).bind fun p s=>.ok (flV p.1) s:=by
 rw[run,hf]
 exact Zg hl
theorem zj {P:Prog}{n f:Nat}{vs:List V}{s:MS}{fn:Fn}{Q:V->MS->Prop} (hf:P.fns f=some fn) (hl:vs.length=fn.np)
  (h:OkR (exs P (run P n) n fn.body (vs.map some++List.replicate (fn.names.length-fn.np) none) s) (fun p s=>Q (flV p.1) s)):OkR (run P (n+1) f vs s) Q:=by
 rw[zak hf hl,je]
 exact h
noncomputable def za8 (P:Prog) (C:Calls) (n:Nat) (r:List S) (Q:Fl×Loc->MS->Prop) (p:Fl×Loc) (s:MS):Prop :=
 match p.1 with
 | .next=>OkR (exs P C n r p.2 s) Q
 | .ret v=>Q (.ret v,p.2) s
theorem x9 (P:Prog) (C:Calls) (n:Nat) (r:List S) (Q:Fl×Loc->MS->Prop) (l:Loc) (s:MS):za8 P C n r Q (.next,l) s=OkR (exs P C n r l s) Q:=rfl
theorem uu (P:Prog) (C:Calls) (n:Nat) (st:S) (r:List S) (l:Loc) (s:MS) (Q:Fl×Loc->MS->Prop) :
  OkR (exs P C n (st::r) l s) Q=OkR (ex P C n st l s) (za8 P C n r Q):=by
 rw[qg,je]
 refine Qd (OkR (ex P C n st l s)) (funext fun p=>funext fun s=>?_)
 obtain⟨f,l⟩:=p
 cases f <;> rfl
theorem ed {s₀:MS}{range:Bool}{src:V}{tgt:V->Loc->MS->Res Loc}{body:Loc->MS->Res (Fl×Loc)}{Q:Fl×Loc->MS->Prop}
  (I:List V->Loc->MS->Prop)
  (hc:∀ x r l s,I (x::r) l s->stays s₀ s range src=true/\OkR (tgt x l s) fun l s=>OkR (body l s) fun p s=>match p.1 with
   | .next=>I r p.2 s
   | .ret v=>Q (.ret v,p.2) s)
  (hn:∀ l s,I [] l s->stays s₀ s range src=true/\Q (.next,l) s) :
  ∀ (xs:List V) (l:Loc) (s:MS),I xs l s->OkR (qt s₀ range src tgt body xs l s) Q
 | [],l,s,h=>by
  obtain⟨h1,h2⟩:=hn l s h
  rw[vj,Zg h1]
  exact h2
 | x::r,l,s,h=>by
  obtain⟨h1,h2⟩:=hc x r l s h
  rw[xe,Zg h1,fb]
  refine qz h2 fun l s h=>?_
  rw[je]
  refine qz h fun p s h=>?_
  obtain⟨f,l⟩:=p
  cases f with
  | next=>exact ed I hc hn r l s h
  | ret v=>exact h
theorem xb {α β:Type}{s₀:MS}{range:Bool}{src:V}{tgt:V->Loc->MS->Res Loc}{body:Loc->MS->Res (Fl×Loc)}{Q:Fl×Loc->MS->Prop} (f:α->V) (L:β->Loc)
  (I:List α->β->MS->Prop)
  (hc:∀ x r y s,I (x::r) y s->stays s₀ s range src=true/\OkR (tgt (f x) (L y) s) fun l s=>OkR (body l s) fun p s=>match p.1 with
   | .next=>∃ y,p.2=L y/\I r y s
   | .ret v=>Q (.ret v,p.2) s)
  (hn:∀ y s,I [] y s->stays s₀ s range src=true/\Q (.next,L y) s) :
  ∀ (xs:List α) (y:β) (s:MS),I xs y s->OkR (qt s₀ range src tgt body (xs.map f) (L y) s) Q
 | [],y,s,h=>by
  obtain⟨h1,h2⟩:=hn y s h
  rw[List.map_nil,vj,Zg h1]
  exact h2
 | x::r,y,s,h=>by
  obtain⟨h1,h2⟩:=hc x r y s h
  rw[Zz,xe,Zg h1,fb]
  refine qz h2 fun l s h=>?_
  rw[je]
  refine qz h fun p s h=>?_
  obtain⟨g,l⟩:=p
  cases g with
  | next =>
   obtain⟨y,rfl,h⟩:=h
   exact xb f L I hc hn r y s h
  | ret v=>exact h
theorem sw {test:Loc->MS->Res V}{body:Loc->MS->Res (Fl×Loc)}{Q:Fl×Loc->MS->Prop}
  (I:Nat->Loc->MS->Prop)
  (hc:∀ k l s,I k l s->OkR (test l s) fun v s=>∃ b,v=.bool b/\(if b then 0 < k/\OkR (body l s) fun p s=>match p.1 with
    | .next=>I (k-1) p.2 s
    | .ret v=>Q (.ret v,p.2) s
   else Q (.next,l) s)) :
  ∀ (n k:Nat) (l:Loc) (s:MS),k < n->I k l s->OkR (ka test body n l s) Q
 | 0,k,l,s,hk,h=>absurd hk (Nat.not_lt_zero k)
 | n+1,k,l,s,hk,h=>by
  refine(fb (test l s) _ Q).mpr (qz (hc k l s h) fun v s h=>?_)
  obtain⟨b,rfl,h⟩:=h
  cases b with
  | false=>exact h
  | true =>
   obtain⟨h0,h⟩:=h
   refine(je (body l s) _ Q).mpr (qz h fun p s h=>?_)
   obtain⟨f,l⟩:=p
   cases f with
   | next=>exact sw I hc n (k-1) l s (Zi (Nat.sub_lt h0 Nat.one_pos) (Nat.le_of_lt_succ hk)) h
   | ret v=>exact h
theorem zjt {k a v:V}{r:List (V×V)} (h:d7 a k=true):jh k ((a,v)::r)=some v:=Zg h
theorem ze1 {k a v:V}{r:List (V×V)} (h:d7 a k=false):jh k ((a,v)::r)=jh k r:=Zh (by rw[h];exact Z8)
theorem zng {k a v w:V}{r:List (V×V)} (h:d7 a k=true):lc k v ((a,w)::r)=(a,v)::r:=Zg h
theorem zii {k a v w:V}{r:List (V×V)} (h:d7 a k=false):lc k v ((a,w)::r)=(a,w)::lc k v r:=Zh (by rw[h];exact Z8)
theorem zgn {s:MS}{r:Lbl}{d:List (V×V)} (h:s.heap r=some (.dict d)):dictAt (.ref r) s=some (r,d):=by
 show(match s.heap r with | some (.dict l)=>some (r,l) | _=>none)=_
 rw[h]
theorem fk {s:MS}{r:Lbl}{l:List V} (h:s.heap r=some (.list l)):j7 (.ref r) s=some (r,l):=by
 show(match s.heap r with | some (.list l)=>some (r,l) | _=>none)=_
 rw[h]
theorem zo0 {s:MS}{r:Lbl}{d:List (V×V)} (h:s.heap r=some (.dict d)):j7 (.ref r) s=none:=by
 show(match s.heap r with | some (.list l)=>some (r,l) | _=>none)=_
 rw[h]
theorem xj (s:MS) (r:Lbl) (d:List (V×V)) (k:List Nat) (v:V) (h:s.heap r=some (.dict d)) (hl:d.length < 16777216) :
  setItem (.ref r) (.str k) v s=.ok () (s.put r (.dict (lc (.str k) v d))):=by
 rw[setItem,zo0 h,zgn h]
 exact Zg ⟨rfl,hl⟩
theorem xg (s:MS) (r:Lbl) (l:List V) (v:V) (h:s.heap r=some (.list l)) (hl:l.length < 16777216) :
  uv .append (.ref r) [v] s=.ok .none (s.put r (.list (l++[v]))):=by
 show(match j7 (.ref r) s with | some p=>if p.2.length < ze then Res.ok V.none (s.put p.1 (.list (p.2++[v]))) else .stuck | none=>.stuck)=_
 rw[fk h]
 exact Zg hl
theorem wj (s:MS) (r:Lbl) (d:List (V×V)) (k:List Nat) (v:V) (h:s.heap r=some (.dict d)) (hk:jh (.str k) d=some v) :
  getItem (.ref r) (.str k) s=.ok v s:=by
 show(match s.heap r with | some (.dict l)=>if (V.str k).isKey then okV s (jh (.str k) l) else .stuck | _=>.stuck)=_
 rw[h]
 show okV s (jh (.str k) d)=_
 rw[hk];rfl
theorem uz (f:V->V->Option Bool):∀ l:List V,(∀ x∈l,f x x=some true)->qm f l l=some true
 | [],_=>rfl
 | x::r,h=>by
  have h1:=h x (by simp)
  have h2:=uz f r (fun y hy=>h y (by simp[hy]))
  simp[qm,h1,h2]
theorem zrp (s:MS) (n:Nat) (l:List V) (h:∀ x∈l,veq s n x x=some true):veq s (n+1) (.lst l) (.lst l)=some true:=by
 simp[veq,zr,uz _ _ h]
theorem zpm (s:MS) (n:Nat) (l:List V) (h:∀ x∈l,veq s n x x=some true):veq s (n+1) (.tup l) (.tup l)=some true:=by
 simp[veq,zr,uz _ _ h]
theorem zvi (x y:List V) (s:MS) (h:x.length+y.length<=16777216):yd .add (.lst x) (.lst y) s=.ok (.lst (x++y)) s:=Zg ⟨rfl,h⟩
noncomputable def st0:MS:=⟨fun ξ=>none,fun ξ=>0,0⟩
section
variable {P:Prog}{C:Calls}{n i:Nat}{e a b:E}{r:List S}{l:Loc}{s s':MS}{v w:V}{Q:Fl×Loc->MS->Prop}
theorem zv (k:Q (.next,l) s):OkR (exs P C n [] l s) Q:=k
theorem zh (k:OkR (exs P C n r l s) Q):OkR (exs P C n [] l s) (za8 P C n r Q):=k
theorem zk (hv:ev P C e l s=.ok v s') (hi:decide (i < l.length)=true) (k:OkR (exs P C n r (l.set i (some v)) s') Q):OkR (exs P C n (.assign i e::r) l s) Q:=by
 have hi:=Za hi
 rw[qg,je,bk,fb,hv]
 show OkR (if i < l.length then Res.ok (Fl.next,l.set i (some v)) s' else .stuck) _
 rw[Zg hi];exact k
theorem zeq {R:V->MS->Prop} (hv:OkR (ev P C e l s) R) (hi:decide (i < l.length)=true) (k:∀ v s',R v s'->OkR (exs P C n r (l.set i (some v)) s') Q):OkR (exs P C n (.assign i e::r) l s) Q:=by
 obtain⟨v,s',h1,h2⟩:=q9 hv
 exact zk h1 hi (k v s' h2)
theorem zu (hv:ev P C e l s=.ok v s') (k:Q (.ret v,l) s'):OkR (exs P C n (.ret (some e)::r) l s) Q:=by
 rw[qg,je,p5]
 show OkR ((ev P C e l s).bnd _) _
 rw[hv];exact k
theorem rq (k:Q (.ret .none,l) s):OkR (exs P C n (.ret none::r) l s) Q:=k
theorem zo {c:E}{b1 b2:List S}{t:Bool} (hc:ev P C c l s=.ok (.bool t) s') (k:OkR (exs P C n (if t then b1 else b2) l s') (za8 P C n r Q)):OkR (exs P C n (.ite c b1 b2::r) l s) Q:=by
 rw[uu,u7,hc]
 cases t <;> exact k
noncomputable def Out {α:Type} (r:Res α) (Q:α->MS->Prop) (X:Nat->MS->Prop):Prop:=match r with
 | .ok a s=>Q a s
 | .exc c s=>X c s
 | .stuck=>False
theorem zln {α:Type}{r:Res α}{Q:α->MS->Prop}{X:Nat->MS->Prop} (h:Out r Q X):(∃ a s,r=.ok a s/\Q a s)\/∃ c s,r=.exc c s/\X c s:=by
 cases r with
 | ok a s=>exact .inl ⟨a,s,rfl,h⟩
 | exc c s=>exact .inr ⟨c,s,rfl,h⟩
 | stuck=>exact h.elim
theorem zcr {α:Type}{r:Res α}{Q Q':α->MS->Prop}{X X':Nat->MS->Prop} (h:Out r Q X) (f:∀ a s,Q a s->Q' a s) (g:∀ c s,X c s->X' c s):Out r Q' X':=by
 cases r with
 | ok a s=>exact f a s h
 | exc c s=>exact g c s h
 | stuck=>exact h
theorem zd3 {α:Type}{r:Res α}{Q:α->MS->Prop}{X:Nat->MS->Prop} (h:OkR r Q):Out r Q X:=by
 cases r with
 | ok a s=>exact h
 | _=>exact h.elim
theorem cb {α β:Type}{r:Res α}{f:α->MS->Res β}{Q:β->MS->Prop}{X:Nat->MS->Prop} (h:Out r (fun a s=>Out (f a s) Q X) X):Out (r.bind f) Q X:=by
 cases r with
 | ok a s=>exact h
 | exc c s=>exact h
 | stuck=>exact h
section
variable {X:Nat->MS->Prop}
theorem zuj (k:Q (.next,l) s):Out (exs P C n [] l s) Q X:=k
theorem zgt {st:S} (h:Out (ex P C n st l s) (fun p s=>match p.1 with | .next=>Out (exs P C n r p.2 s) Q X | .ret v=>Q (.ret v,p.2) s) X):Out (exs P C n (st::r) l s) Q X:=by
 rw[qg]
 refine cb (zcr h (fun p s q=>?_) fun ξ ξ q=>q)
 obtain⟨f,l⟩:=p
 cases f <;> exact q
theorem zsc {c:E}{b1 b2:List S}{t:Bool} (hc:ev P C c l s=.ok (.bool t) s') (k:Out (exs P C n (if t then b1 else b2) l s') (fun p s=>match p.1 with | .next=>Out (exs P C n r p.2 s) Q X | .ret v=>Q (.ret v,p.2) s) X):Out (exs P C n (.ite c b1 b2::r) l s) Q X:=by
 refine zgt ?_
 rw[u7,hc]
 cases t <;> exact k
end
theorem zq3 {P:Prog}{n f:Nat}{vs:List V}{s:MS}{fn:Fn}{Q:V->MS->Prop}{X:Nat->MS->Prop} (hf:P.fns f=some fn) (hl:vs.length=fn.np)
  (h:Out (exs P (run P n) n fn.body (vs.map some++List.replicate (fn.names.length-fn.np) none) s) (fun p s=>Q (flV p.1) s) X):Out (run P (n+1) f vs s) Q X:=by
 rw[zak hf hl]
 exact cb (zcr h (fun p s q=>q) fun ξ ξ q=>q)
set_option genCtorIdx true in
inductive IsQ:E->Prop
 | call (f:Nat) (es:List E):IsQ (.call f es)
 | meth (a:E) (m:Nat) (es:List E):IsQ (.meth a m es)
theorem znz (hq:IsQ e) (h:ev P C e l s=.ok v s'):evQ P C e l s=.ok v s':=by
 cases hq with
 | call f es =>
  rw[lr] at h
  rw[du]
  cases hE:evL P C es l s with
  | ok vs s1=>rw[hE] at h;exact h
  | _=>rw[hE] at h;cases h
 | meth a m es =>
  rw[g5] at h
  rw[pe]
  cases hA:ev P C a l s with
  | ok x s1 =>
   rw[hA] at h
   have h:(match jr P x m s1 with | some f=>(evL P C es l s1).bind fun vs s=>C f (x::vs) s | none=>.stuck)=.ok v s':=h
   show(match jr P x m s1 with | some f=>(evL P C es l s1).bnd fun vs s=>C f (x::vs) s | none=>.stuck)=.ok v s'
   cases hm:jr P x m s1 with
   | none=>rw[hm] at h;exact zb h
   | some f =>
    rw[hm] at h
    have h:(evL P C es l s1).bind (fun vs s=>C f (x::vs) s)=.ok v s':=h
    show(evL P C es l s1).bnd (fun vs s=>C f (x::vs) s)=.ok v s'
    cases hE:evL P C es l s1 with
    | ok vs s2=>rw[hE] at h;exact h
    | _=>rw[hE] at h;cases h
  | _=>rw[hA] at h;cases h
theorem qr (hv:ev P C e l s=.ok v s') (k:OkR (exs P C n r l s') Q) (hq:IsQ e:=by constructor):OkR (exs P C n (.exprX e::r) l s) Q:=by
 rw[qg,je,um,znz hq hv];exact k
theorem zfa (hv:ev P C e l s=.ok v s') (hi:decide (i < l.length)=true) (k:OkR (exs P C n r (l.set i (some v)) s') Q) (hq:IsQ e:=by constructor):OkR (exs P C n (.assignX i e::r) l s) Q:=by
 rw[qg,je,yj,znz hq hv]
 show OkR (if i < l.length then _ else _) _
 rw[Zg (Za hi)];exact k
theorem zgk {X:Nat->MS->Prop} (hv:Out (evQ P C e l s) (fun v s=>Q (.ret v,l) s) X):Out (exs P C n (.retX e::r) l s) Q X:=by
 refine zgt ?_
 rw[zat]
 exact cb hv
theorem zl7 {c:Nat}{i:Option Nat}{b:List S} (h:evQ P C e l s=.ok v s') (k:OkR (exs P C n r l s') Q):OkR (exs P C n (.tryX e c i b::r) l s) Q:=by
 rw[uu,ip,h];exact k
theorem zrc {c c':Nat}{i:Option Nat}{b:List S}{l2:Loc}{s3 s4:MS} (h:evQ P C e l s=.exc c' s3)
  (hb:((P.excBase c').contains c'&&(P.excBase c').contains c)=true) (hr:exs P C n b (zr1 i c' l) s3=.ok (.ret v,l2) s4) (k:Q (.ret v,[]) s4):OkR (exs P C n (.tryX e c i b::r) l s) Q:=by
 rw[uu,ip,h]
 delta zau
 dsimp only
 rw[Zg hb,hr]
 exact k
theorem qw (hv:ev P C e l s=.ok v s') (k:OkR (exs P C n r l s') Q):OkR (exs P C n (.expr e::r) l s) Q:=by
 rw[qg,je,lq,hv];exact k
theorem jv {R:V->MS->Prop} (hv:OkR (ev P C e l s) R) (k:∀ v s',R v s'->OkR (exs P C n r l s') Q):OkR (exs P C n (.expr e::r) l s) Q:=by
 obtain⟨v,s',h1,h2⟩:=q9 hv
 exact qw h1 (k v s' h2)
theorem x4 {x y:V}{s1 s2 s3:MS} (h1:ev P C e l s=.ok v s1) (h2:ev P C a l s1=.ok x s2) (h3:ev P C b l s2=.ok y s3) (h4:setItem x y v s3=.ok () s') (k:OkR (exs P C n r l s') Q):OkR (exs P C n (.setitem a b e::r) l s) Q:=by
 rw[qg,je,b4,h1]
 show OkR (Res.bnd (ev P C a l s1) _) _
 rw[h2]
 show OkR (Res.bnd (ev P C b l s2) _) _
 rw[h3]
 show OkR (Res.bnd (setItem x y v s3) _) _
 rw[h4];exact k
theorem zy {x:V}{s1 s2:MS} (h1:ev P C e l s=.ok v s1) (h2:ev P C a l s1=.ok x s2) (h3:setAttr x i v s2=.ok () s') (k:OkR (exs P C n r l s') Q):OkR (exs P C n (.setattr a i e::r) l s) Q:=by
 rw[qg,je,b7,h1]
 show OkR (Res.bnd (ev P C a l s1) _) _
 rw[h2]
 show OkR (Res.bnd (setAttr x i v s2) _) _
 rw[h3];exact k
theorem zj0 {ts:List T}{l':Loc}{s1:MS} (h1:ev P C e l s=.ok v s1) (h2:pi P C ts v l s1=.ok l' s') (k:OkR (exs P C n r l' s') Q):OkR (exs P C n (.unpack ts e::r) l s) Q:=by
 rw[qg,je,o7,h1]
 show OkR (Res.bnd (pi P C ts v l s1) _) _
 rw[h2];exact k
theorem ku {ts:T ⊕ List T}{range:Bool}{body:List S}{xs:List V} (h1:ev P C e l s=.ok v s') (h2:zz s' range v=some xs) (h3:mt ts range v s'=true)
  (k:OkR (qt s' range v (wu P C ts) (exs P C n body) xs l s') (za8 P C n r Q)):OkR (exs P C n (.for_ ts range e body::r) l s) Q:=by
 rw[uu,zc6,h1]
 show OkR (match zz s' range v with | some xs=>_ | none=>_) _
 rw[h2]
 show OkR (if mt ts range v s'=true then _ else _) _
 rw[Zg h3];exact k
theorem qh {f:Nat}{es:List E}{vs:List V}{s1:MS} (h1:evL P C es l s=.ok vs s1) (h2:C f vs s1=.ok v s'):ev P C (.call f es) l s=.ok v s':=by
 rw[lr,h1];exact h2
theorem jo {o:Bop}{x y:V}{s1 s2:MS} (h1:ev P C a l s=.ok x s1) (h2:ev P C b l s1=.ok y s2) (h3:yd o x y s2=.ok v s'):ev P C (.bin o a b) l s=.ok v s':=by
 rw[zm9,h1]
 show Res.bind (ev P C b l s1) _=_
 rw[h2];exact h3
theorem q6 {x y:V}{s1 s2:MS} (h1:ev P C a l s=.ok x s1) (h2:ev P C b l s1=.ok y s2) (h3:getItem x y s2=.ok v s'):ev P C (.sub a b) l s=.ok v s':=by
 rw[zmu,h1]
 show Res.bind (ev P C b l s1) _=_
 rw[h2];exact h3
theorem zge {lo hi:Option E}{x:V}{y z:Option V}{s1 s2 s3:MS} (h1:ev P C a l s=.ok x s1) (h2:evO P C lo l s1=.ok y s2) (h3:evO P C hi l s2=.ok z s3) (h4:kf x y z s3=.ok v s'):ev P C (.slice a lo hi) l s=.ok v s':=by
 rw[zbh,h1]
 show Res.bind (evO P C lo l s1) _=_
 rw[h2]
 show Res.bind (evO P C hi l s2) _=_
 rw[h3];exact h4
theorem za6 {ks:List Kind}{x:V}{t:Bool}{s1:MS} (h1:ev P C a l s=.ok x s1) (h2:kh P s1 x ks=some t):ev P C (.isinst a ks) l s=.ok (.bool t) s1:=by
 rw[me,h1]
 show okB s1 (kh P s1 x ks)=_
 rw[h2];rfl
theorem kq {o:Cop}{x y:V}{s1 s2:MS} (h1:ev P C a l s=.ok x s1) (h2:ev P C b l s1=.ok y s2) (h3:cmpOp o x y s2=.ok v s'):ev P C (.cmp a o b) l s=.ok v s':=by
 rw[zeh,h1]
 show Res.bind (ev P C b l s1) _=_
 rw[h2];exact h3
theorem zy6 {t u:Bool}{s1:MS} (h1:ev P C a l s=.ok (.bool t) s1) (h2:t=false->ev P C b l s1=.ok (.bool u) s1):ev P C (.or [a,b]) l s=.ok (.bool (t||u)) s1:=by
 rw[tu,xh,h1]
 cases t with
 | true=>rfl
 | false=>exact h2 rfl
theorem yl {q:Res V} (h:ev P C a l s=q):ev P C (.and [a]) l s=q:=by rw[n0,kt];exact h
theorem vr {es:List E}{s1:MS}{q:Res V} (h1:ev P C a l s=.ok (.bool true) s1) (h2:ev P C (.and (b::es)) l s1=q):ev P C (.and (a::b::es)) l s=q:=by
 rw[n0] at h2 ⊢
 rw[xd,h1];exact h2
theorem p6 {es:List E}{s1:MS} (h1:ev P C a l s=.ok (.bool false) s1):ev P C (.and (a::b::es)) l s=.ok (.bool false) s1:=by
 rw[n0,xd,h1];rfl
theorem y0 {q:Res V} (h:ev P C a l s=q):ev P C (.or [a]) l s=q:=by rw[tu,yg];exact h
theorem yk {es:List E}{s1:MS}{q:Res V} (h1:ev P C a l s=.ok (.bool false) s1) (h2:ev P C (.or (b::es)) l s1=q):ev P C (.or (a::b::es)) l s=q:=by
 rw[tu] at h2 ⊢
 rw[xh,h1];exact h2
theorem zsg {es:List E}{s1:MS} (h1:ev P C a l s=.ok (.bool true) s1):ev P C (.or (a::b::es)) l s=.ok (.bool true) s1:=by
 rw[tu,xh,h1];rfl
theorem jt {t:Bool}{s1:MS} (h1:ev P C a l s=.ok (.bool t) s1):ev P C (.not a) l s=.ok (.bool (!t)) s1:=by
 rw[zdc,h1];rfl
theorem zn {x:V}{s1:MS} (h1:ev P C a l s=.ok x s1) (h2:getAttr x i s1=.ok v s'):ev P C (.attr a i) l s=.ok v s':=by
 rw[zfj,h1];exact h2
theorem uq {g t:Bool}{s1:MS} (h1:ev P C a l s=.ok v s1) (h2:decide (v=.none)=t):ev P C (.isC g a .none) l s=.ok (.bool (t != g)) s1:=by
 rw[ze2,h1,<- h2];rfl
theorem zsy {c:Nat}{es:List E}{vs:List V}{s1:MS}{R:V->MS->Prop} (h1:evL P C es l s=.ok vs s1) (h2:OkR (ji P C c vs s1) R):OkR (ev P C (.new c es) l s) R:=by
 rw[zd4,h1];exact h2
theorem m6 {es:List E}{vs:List V}{s1:MS} (h1:evL P C es l s=.ok vs s1) (hn:decide (vs.length<=ze)=true):ev P C (.lst es) l s=.ok (.lst vs) s1:=by
 rw[zmf,h1];exact Zg (Za hn)
theorem m4 {es:List E}{vs:List V}{s1:MS} (h1:evL P C es l s=.ok vs s1) (hn:decide (vs.length<=ze)=true):ev P C (.tup es) l s=.ok (.tup vs) s1:=by
 rw[zor,h1];exact Zg (Za hn)
theorem xr {p:Prim}{es:List E}{vs:List V}{s1:MS} (h1:evL P C es l s=.ok vs s1) (h2:prim p vs s1=.ok v s'):ev P C (.prim p es) l s=.ok v s':=by
 rw[iz,h1];exact h2
theorem ud {m:Bm}{es:List E}{x:V}{vs:List V}{s1 s2:MS} (h1:ev P C a l s=.ok x s1) (h0:zdo m x s1=true) (h2:evL P C es l s1=.ok vs s2) (h3:uv m x vs s2=.ok v s'):ev P C (.bm m a es) l s=.ok v s':=by
 rw[zr9,h1]
 show(if zdo m x s1=true then _ else _)=_
 rw[Zg h0,h2];exact h3
theorem zt {k f:Nat}{es:List E}{x:V}{vs:List V}{s1 s2:MS} (h1:ev P C a l s=.ok x s1) (h0:jr P x k s1=some f) (h2:evL P C es l s1=.ok vs s2) (h3:C f (x::vs) s2=.ok v s'):ev P C (.meth a k es) l s=.ok v s':=by
 rw[g5,h1]
 show(match jr P x k s1 with | some f=>_ | none=>_)=_
 rw[h0]
 show Res.bind (evL P C es l s1) _=_
 rw[h2];exact h3
theorem x3 {k f:Nat}{es:List E}{x:V}{vs:List V}{s1 s2:MS}{R:V->MS->Prop} (h1:ev P C a l s=.ok x s1) (h0:jr P x k s1=some f) (h2:evL P C es l s1=.ok vs s2) (h3:OkR (C f (x::vs) s2) R):OkR (ev P C (.meth a k es) l s) R:=by
 rw[g5,h1]
 show OkR (match jr P x k s1 with | some f=>_ | none=>_) _
 rw[h0]
 show OkR (Res.bind (evL P C es l s1) _) _
 rw[h2];exact h3
theorem au {k:Nat}{r:Lbl}{d:List (V×V)}{s1:MS} (h1:ev P C a l s=.ok (.ref r) s1) (h2:s1.heap r=some (.dict d)) (h3:d.length<=1000):ev P C (.dictC k a) l s=.ok (.ref (k,s1.cnt k)) (s1.new k (.dict d)):=by
 rw[zbf,h1]
 show(match s1.heap r with | some (.dict d)=>if d.length<=1000 then Res.ok (V.ref (k,s1.cnt k)) (s1.new k (.dict d)) else .stuck | _=>.stuck)=_
 rw[h2];exact Zg h3
theorem ig {k:Nat}{x:V}{b:Bool}{vs:List V}{s1:MS} (h1:ev P C a l s=.ok x s1) (h2:zr s1 x=some (b,vs)):ev P C (.listM k a) l s=.ok (.ref (k,s1.cnt k)) (s1.new k (.list vs)):=by
 rw[zcy,h1]
 show(match zr s1 x with | some (_,vs)=>Res.ok (V.ref (k,s1.cnt k)) (s1.new k (.list vs)) | none=>.stuck)=_
 rw[h2]
theorem b6 {slot:Nat}{range:Bool}{cond:Option E}{src:V}{xs vs:List V}{s1 s2:MS} (h1:ev P C a l s=.ok src s1) (h2:zz s1 range src=some xs) (h3:compLoop s1 range src slot (evC P C cond) (ev P C e) l [] xs s1=.ok vs s2) :
  ev P C (.comp none slot range a cond e) l s=.ok (.lst vs) s2:=by
 rw[zah,h1]
 show(match zz s1 range src with | some xs=>_ | none=>_)=_
 rw[h2]
 show(Res.bind _ _)=_
 rw[h3];rfl
theorem zo1 {k slot:Nat}{range:Bool}{cond:Option E}{src:V}{xs vs:List V}{s1 s2:MS} (h1:ev P C a l s=.ok src s1) (h2:zz s1 range src=some xs) (h3:compLoop s1 range src slot (evC P C cond) (ev P C e) l [] xs s1=.ok vs s2) :
  ev P C (.comp (some k) slot range a cond e) l s=.ok (.ref (k,s2.cnt k)) (s2.new k (.list vs)):=by
 rw[zah,h1]
 show(match zz s1 range src with | some xs=>_ | none=>_)=_
 rw[h2]
 show(Res.bind _ _)=_
 rw[h3];rfl
theorem zf {es:List E}{vs:List V}{s1:MS} (h1:ev P C e l s=.ok v s1) (h2:evL P C es l s1=.ok vs s'):evL P C (e::es) l s=.ok (v::vs) s':=by
 rw[y7,h1]
 show Res.bind (evL P C es l s1) _=_
 rw[h2];rfl
end
theorem jz {s:MS}{r:Lbl}{l:List V} (h:s.heap r=some (.list l)):zdo .append (.ref r) s=true:=by
 show(j7 (.ref r) s).isSome=true
 delta j7;dsimp only;rw[h];rfl
theorem ar {α β:Type}{r:Res α}{a:α}{s:MS}{f:α->MS->Res β}{q:Res β} (h:r=.ok a s) (k:f a s=q):r.bind f=q:=by rw[h];exact k
theorem xa {s:MS}{c:Lbl}{k:Nat}{as:List (Nat×V)} (i:Nat) (v:V) (h:s.heap c=some (.inst k as)) (hn:decide (as.length < 1000)=true):setAttr (.ref c) i v s=.ok () (s.put c (.inst k (pc i v as))):=by
 show(match s.heap c with | some (.inst c' as)=>if as.length < 1000 then Res.ok () (s.put c (.inst c' (pc i v as))) else .stuck | _=>.stuck)=_
 rw[h]
 exact Zg (Za hn)
theorem z3 {s:MS}{c:Lbl}{k i:Nat}{as:List (Nat×V)}{v:V} (h:s.heap c=some (.inst k as)) (hv:vn i as=some v):getAttr (.ref c) i s=.ok v s:=by
 show(match s.heap c with | some (.inst _ as)=>okV s (vn i as) | _=>.stuck)=_
 rw[h]
 show okV s (vn i as)=_
 rw[hv];rfl
theorem zl (s:MS) (c:Lbl) (o:MObj):(s.put c o).heap c=some o:=Zg rfl
theorem zm {s:MS}{c l:Lbl}{o:MObj} (h:l≠c):(s.put c o).heap l=s.heap l:=Zh h
theorem z5 (s:MS) (k:Nat) (o:MObj):(s.new k o).heap (k,s.cnt k)=some o:=Zg rfl
theorem qu {s:MS}{k:Nat}{l:Lbl}{o:MObj} (h:l≠(k,s.cnt k)):(s.new k o).heap l=s.heap l:=Zh h
theorem zd {a b i j:Nat} (h:a≠b):((a,i):Lbl)≠(b,j):=fun e=>h (Qd Prod.fst e)
theorem zg {P:Prog}{s:MS}{r:Lbl}{c m:Nat}{as:List (Nat×V)} (h:s.heap r=some (.inst c as)):jr P (.ref r) m s=P.meths c m:=by
 show(match s.heap r with | some (.inst c _)=>P.meths c m | _=>none)=_
 rw[h]
theorem qd {s:MS}{r:Lbl}{l:List V} (h:s.heap r=some (.list l)):zr s (.ref r)=some (true,l):=by
 show(match s.heap r with | some (.list l)=>some (true,l) | _=>none)=_
 rw[h]
theorem zae (s:MS) (r:Lbl) (l:List V) (i:Int) (v:V) (h:s.heap r=some (.list l)) (h0:0<=i) (h1:i < l.length):setItem (.ref r) (.int i) v s=.ok () (s.put r (.list (l.set i.toNat v))):=by
 rw[setItem,fk h];exact Zg ⟨h0,h1⟩
end Internal
end
section
namespace Internal
open PySem PySem.W PyProof.Rows
noncomputable def attrs:List Qf:=["number","begun","open_call","closed","known","written","laid","fresh","all_keys","houses","callers","post","rows"]
noncomputable def xz (i:Nat):Qf:=match attrs[i]? with
  | some x=>x
  | none=>z7 [0,i]
noncomputable def zfs:Bool:=attrs.all (fun x=>!(x.cps[0]? == some 0))&&(List.range 13).all fun i=>(List.range 13).all fun j=>decide (attrs[i]?=attrs[j]?->i=j)
theorem zm5:zfs=true:=by decide +kernel
theorem zn3 (i j:Nat) (h:xz i=xz j):i=j:=by
  have hok:=zm5
  simp only[zfs,Bool.and_eq_true,Zv,Bool.not_eq_true',beq_eq_false_iff_ne,decide_eq_true_eq] at hok
  unfold xz at h
  cases hi:attrs[i]? with
  | some x =>
    cases hj:attrs[j]? with
    | some y =>
      rw[hi,hj] at h
      simp only at h
      subst h
      have h1:i < 13:=(List.getElem?_eq_some_iff.1 hi).1
      have h2:j < 13:=(List.getElem?_eq_some_iff.1 hj).1
      exact hok.2 i (List.mem_range.2 h1) j (List.mem_range.2 h2) (hi.trans hj.symm)
    | none =>
      rw[hi,hj] at h
      simp only at h
      have:=hok.1 x (List.mem_of_getElem? hi)
      rw[h] at this
      exact(this rfl).elim
  | none =>
    cases hj:attrs[j]? with
    | some y =>
      rw[hi,hj] at h
      simp only at h
      have:=hok.1 y (List.mem_of_getElem? hj)
      rw[<- h] at this
      exact(this rfl).elim
    | none =>
      rw[hi,hj] at h
      simp only[z7] at h
      injection h with h
      injection h with h
      injection h with _ h
      injection h
noncomputable def ay (x:Qf):Bool:=!(x.cps[0]? == some 0)&&attrs.all fun y=>!(y == x)
theorem ze7 {x:Qf} (h:ay x=true) (i:Nat):x≠xz i:=by
  simp only[ay,Bool.and_eq_true,Zv,Bool.not_eq_true',beq_eq_false_iff_ne] at h
  unfold xz
  cases hi:attrs[i]? with
  | some y =>
    intro e
    exact h.2 y (List.mem_of_getElem? hi) e.symm
  | none =>
    rintro rfl
    exact h.1 rfl
noncomputable def ua (K:Frag) (x:Qf):Option Value:=match K.lookup mainGlobals with
  | some ⟨_,_,.dict es _,_⟩=>nsFind es x
  | _=>none
noncomputable def ag (K:Frag):Bool:=match K.lookup mainGlobals with
  | some ⟨_,_,.dict _ _,_⟩=>true
  | _=>false
set_option tactic.hygienic true in
theorem sr {K:Frag}{h:Heap}{mg:Qf->Option Value} (X:K.In h) (hg:h.Ns mainGlobals mg) (hK:ag K=true) (x:Qf):mg x=ua K x:=by
  unfold ag at hK
  split at hK
  · rename_i c dd es n sl ho
    obtain⟨o,es',ep,h1,h2,h3,h4⟩:=hg
    have h5:=X _ _ ho
    rw[h1] at h5
    cases h5
    cases h2
    rw[<- h4]
    simp only[ua,ho]
  · exact z6 hK
structure Tab where
  fal:List (Nat×Addr)
  cal:List (Nat×Addr)
  fnl:List (Nat×Fn)
  mel:List ((Nat×Nat)×Nat)
  inl:List (Nat×(Nat×Nat))
  xbl:List (Nat×List Nat)
noncomputable def noneNames:List Qf:=["len","max","int","sorted","tuple","list","all","isinstance","range","dict","bool","str","ValueError"]
noncomputable def zkf (v:Option Value) (i:Int):Bool:=match v with
  | some (.int j _)=>decide (i=j)
  | _=>false
noncomputable def zlv (v:Option Value) (x:Qf):Bool:=match v with
  | some (.str y _)=>x == y
  | _=>false
theorem zmy {v:Option Value}{i:Int} (h:zkf v i=true):∃ k,v=some (.int i k):=by
  unfold zkf at h
  split at h
  · simp only[decide_eq_true_eq] at h;subst h;exact⟨_,rfl⟩
  · exact z6 h
theorem zkn {v:Option Value}{x:Qf} (h:zlv v x=true):∃ k,v=some (.str x k):=by
  unfold zlv at h
  split at h
  · simp only[beq_iff_eq] at h;subst h;exact⟨_,rfl⟩
  · exact z6 h
noncomputable def zoa (K:Frag) (N:Names):Bool :=
  ag K&&N.gi.all (fun p=>zkf (ua K p.1) p.2)&&N.gs.all (fun p=>zlv (ua K p.1) (z7 p.2))&&noneNames.all fun x=>(ua K x).isNone
noncomputable def zsd (K:Frag) (N:Names) (T:Tab):Bool:=T.fal.all fun p=>keepIn K (.ref p.2)&&(N.fn p.1 == Str.empty||decide (ua K (N.fn p.1)=some (.ref p.2)))
noncomputable def zsf (K:Frag) (Ca:Addr):Bool :=
  decide (findIn K (.ref Ca) "__getattribute__"=some (some (.builtin "object.__getattribute__"))) &&
  decide (findIn K (.ref Ca) "__getattr__"=some none)&&decide (findIn K (.ref Ca) "__setattr__"=some (some (.builtin "object.__setattr__"))) &&
  attrs.all (fun x=>decide (findIn K (.ref Ca) x=some none))&&(clsIn K Ca).any (·.hasDict)&&plainOver K Ca
noncomputable def zse (K:Frag) (T:Tab):Bool:=T.cal.all fun p=>zsf K p.2
noncomputable def zr6 (K:Frag) (N:Names) (T:Tab):Bool:=T.mel.all fun p=>match T.cal.lookup p.1.1 with
  | some Ca=>(match T.fal.lookup p.2 with
    | some a=>decide (findIn K (.ref Ca) (N.meth p.1.2)=some (some (.ref a)))&&decide (typeIn K (.ref a)=some (.type "function"))&&keepIn K (.ref a)&&ay (N.meth p.1.2)
    | none=>false)
  | none=>true
noncomputable def zsl (K:Frag) (N:Names) (T:Tab):Bool:=T.inl.all fun p=>match T.cal.lookup p.1 with
  | some Ca=>(match T.fal.lookup p.2.2 with
    | some fi=>keepIn K (.ref Ca)&&decide (ua K (N.cls p.1)=some (.ref Ca))&&makesIn K Ca&&decide (findIn K (.ref Ca) "__init__"=some (some (.ref fi)))&&decide (typeIn K (.ref fi)=some (.type "function"))
    | none=>false)
  | none=>false
noncomputable def z06 (K:Frag) (T:Tab):Bool:=T.xbl.all fun p=>p.2.all fun k=>decide (kitOne K (.ref p.1) (m9 k)=some true)&&(decide (k=0)||decide (exmOne K (.ref p.1) (.ref k)=some true))
noncomputable def z1k (K:Frag) (N:Names) (T:Tab):Bool:=T.xbl.all fun p=>zi9 K p.1&&p.2.contains 0&&N.xs.all fun x=>p.2.contains x.2||decide (kitOne K (.ref p.1) (m9 x.2)=some false)
noncomputable def z0v (N:Names) (T:Tab):Bool:=(T.mel.all fun p=>!N.xm p.1.2||N.xf p.2)&&T.inl.all fun p=>!N.xm (1000+p.1)||N.xf p.2.2
noncomputable def zvj (K:Frag) (N:Names) (T:Tab):Bool:=T.fnl.all fun p=>match T.fal.lookup p.1 with
  | some a=>zie K N p.2 a
  | none=>false
noncomputable def z1i (K:Frag) (T:Tab) {G:Gd}{N:Names}{C:Calls}{d:Dp} (n:Nat) (H:Hyp G N C d):Bool:=T.fnl.all fun p=>!N.xf p.1||(T.fal.lookup p.1).any fun a=>zam K n H p.2 a
noncomputable def z1b (K:Frag) (T:Tab) {G:Gd}{N:Names}{C:Calls}{d:Dp} (n:Nat) (H:Hyp G N C d):Bool:=T.fnl.all fun p=>!N.qf p.1||(T.fal.lookup p.1).any fun a=>ic K n H p.2 a
noncomputable def z1a (K:Frag) (T:Tab) {G:Gd}{N:Names}{C:Calls}{d:Dp} (n:Nat) (H:Hyp G N C d):Bool:=T.fnl.all fun p=>(T.fal.lookup p.1).any fun a=>ic K n H p.2 a
set_option tactic.hygienic true in
theorem mem_of_lookup {α β:Type} [BEq α] [LawfulBEq α]:∀ {l:List (α×β)}{k:α}{v:β},l.lookup k=some v->(k,v)∈l
  | [],_,_,h=>by simp at h
  | (a,b)::l,k,v,h=>by
    rw[List.lookup_cons] at h
    split at h
    · rename_i e
      cases h
      rw[beq_iff_eq.1 e];exact Zm ..
    · exact Zk _ (mem_of_lookup h)
noncomputable def Tab.prog (T:Tab):Prog:=⟨fun f=>T.fnl.lookup f,fun c m=>T.mel.lookup (c,m),fun c=>T.inl.lookup c,fun c=>(T.xbl.lookup c).getD []⟩
noncomputable def Tab.gd (T:Tab) (prog:Program) (w:World) (K:Frag) (mg mb:Qf->Option Value) (h:Heap):Gd :=
  ⟨prog,w,K,mg,mb,h,T.prog,fun f=>T.fal.lookup f,fun c=>T.cal.lookup c,xz⟩
noncomputable def zmd:Option (Option Value)->Nat->Bool
  | some (some (.ref a)),c=>decide (a=c)
  | _,_=>false
theorem zsz {o:Option (Option Value)}{c:Nat} (h:zmd o c=true):o=some (some (.ref c)):=by
  unfold zmd at h
  split at h
  · rw[Za h]
  · cases h
noncomputable def z1j (K:Frag) (xs:List (Qf×Nat)):Bool:=xs.all fun p=>!decide (p.2=0)&&(zmd (nsIn K mainGlobals p.1) p.2&&excIn K p.2 vbm "ValueError.__new__")
theorem zuz {K:Frag}{prog:Program}{loose:List Qf}{mg mb:Qf->Option Value}{h:Heap} (X:K.In h) (T:TopRead prog loose mg mb h) {xs:List (Qf×Nat)} (q:z1j K xs=true):∀ y c,xs.contains (y,c)=true->c≠0/\OwnCls y c vbm "ValueError.__new__" mg h:=fun y c hc=>by
  have q:=Zv.1 q (y,c) (List.contains_iff_mem.1 hc)
  obtain⟨q1,q2⟩:=Zj.1 q
  obtain⟨q2,q3⟩:=Zj.1 q2
  exact⟨fun z=>by rw[show decide (c=0)=true from Zb z] at q1;exact z6 q1,own_of_in X T (zsz q2) q3⟩
set_option tactic.hygienic true in
theorem zq5 {T:Tab}{N:Names}{prog:Program}{w:World}{K:Frag}{mg mb:Qf->Option Value}{h:Heap} (hN:N.attr=xz)
    (X:K.In h) (g:h.Ns mainGlobals mg) (b:h.Ns builtinsNs mb) (bi:∀ x:Qf,x≠"__name__"->mb x=bootBuiltins x) (lim:h.NoLimit)
    (h1:zoa K N=true) (h2:zsd K N T=true) (h3:zse K T=true) (h4:zr6 K N T=true) (h5:zsl K N T=true) (hxw:∀ y c,N.xs.contains (y,c)=true->c≠0/\OwnCls y c vbm "ValueError.__new__" mg h) (h6:z06 K T=true) (h7:z0v N T=true) (h8:z1k K N T=true):Stat (T.gd prog w K mg mb h) N:=by
  simp only[zoa,Bool.and_eq_true,Zv] at h1
  obtain⟨⟨⟨g1,g2⟩,g3⟩,g4⟩:=h1
  have hm:=fun x=>sr X g g1 x
  simp only[zsd,zse,zr6,zsl,Zv,Bool.and_eq_true,Bool.or_eq_true,beq_iff_eq,decide_eq_true_eq] at h2 h3 h4 h5
  constructor
  · refine⟨X,g,b,bi,lim,fun x i hc=>?_,fun x i hc=>?_,zn3,hN,fun x hx=>?_⟩
    · obtain⟨k,e⟩:=zmy (g2 (x,i) (by simpa using hc))
      exact⟨k,(hm x).trans e⟩
    · obtain⟨k,e⟩:=zkn (g3 (x,i) (by simpa using hc))
      exact⟨k,(hm x).trans e⟩
    · exact(hm x).trans (Option.isNone_iff_eq_none.1 (g4 x hx))
  · intro c Ca hc
    have e:=h3 _ (mem_of_lookup hc)
    simp only[zsf,Bool.and_eq_true,decide_eq_true_eq,Zv] at e
    obtain⟨⟨⟨⟨⟨e1,e2⟩,e3⟩,e4⟩,e5⟩,e6⟩:=e
    refine⟨e1,e2,e3,fun i hi=>?_,?_,e6⟩
    · show findIn K (.ref Ca) (xz i)=some none
      unfold xz
      have hlt:i < attrs.length:=hi
      rw[Zl hlt]
      exact e4 _ (Qc _)
    · show ∃ cd,clsIn K Ca=some cd/\cd.hasDict=true
      cases hc:clsIn K Ca with
      | none=>rw[hc] at e5;exact z6 e5
      | some cd=>rw[hc] at e5;exact⟨cd,rfl,e5⟩
  · intro f a hf
    have e:=h2 _ (mem_of_lookup hf)
    exact⟨e.1,e.2.imp id fun e=>(hm _).trans e⟩
  · intro c k f Ca hc hca
    have e:=h4 _ (mem_of_lookup hc)
    have hca:T.cal.lookup c=some Ca:=hca
    simp only[hca] at e
    split at e
    · rename_i a ha
      simp only[Bool.and_eq_true,decide_eq_true_eq] at e
      obtain⟨⟨⟨e1,e2⟩,e3⟩,e4⟩:=e
      exact⟨a,ha,e1,e2,e3,ze7 e4⟩
    · exact z6 e
  · intro c k f hc
    have e:=h5 _ (mem_of_lookup hc)
    simp only at e
    split at e
    · rename_i Ca hca
      split at e
      · rename_i fi hfi
        simp only[Bool.and_eq_true,decide_eq_true_eq] at e
        obtain⟨⟨⟨⟨e1,e2⟩,e3⟩,e4⟩,e5⟩:=e
        exact⟨Ca,fi,hca,hfi,e1,(hm _).trans e2,e3,e4,e5⟩
      · exact z6 e
    · exact z6 e
  · exact hxw
  · intro c k h1 h2
    have h1:((T.xbl.lookup c).getD []).contains c=true:=h1
    have h2:((T.xbl.lookup c).getD []).contains k=true:=h2
    show kitOne K (.ref c) (m9 k)=some true/\(k≠0->exmOne K (.ref c) (.ref k)=some true)
    cases hl:T.xbl.lookup c with
    | none=>rw[hl] at h1;exact z6 h1
    | some l =>
      rw[hl] at h2
      have e:=Zv.1 (Zv.1 h6 _ (mem_of_lookup hl)) k (List.contains_iff_mem.1 h2)
      obtain⟨e1,e2⟩:=Zj.1 e
      exact⟨Za e1,fun hk=>(Bool.or_eq_true_iff.1 e2).elim (fun z=>absurd (Za z) hk) Za⟩
  · intro k c f hk hc
    have e:=Zv.1 (Zj.1 h7).1 _ (mem_of_lookup hc)
    exact(Bool.or_eq_true_iff.1 e).elim (fun z=>by rw[show N.xm k=true from hk] at z;exact z6 z) id
  · intro c k f hk hc
    have e:=Zv.1 (Zj.1 h7).2 _ (mem_of_lookup hc)
    exact(Bool.or_eq_true_iff.1 e).elim (fun z=>by rw[show N.xm (1000+c)=true from hk] at z;exact z6 z) id
  · intro c k h1 h2
    have h1:((T.xbl.lookup c).getD []).contains c=true:=h1
    show zi9 K c=true/\kitOne K (.ref c) (m9 k)=some (((T.xbl.lookup c).getD []).contains k)
    cases hl:T.xbl.lookup c with
    | none=>rw[hl] at h1;exact z6 h1
    | some l =>
      rw[hl] at h1
      obtain⟨e1,e2⟩:=Zj.1 (Zv.1 h8 _ (mem_of_lookup hl))
      obtain⟨e0,e1⟩:=Zj.1 e1
      refine⟨e0,?_⟩
      show kitOne K (.ref c) (m9 k)=some (l.contains k)
      cases hk:l.contains k with
      | true =>
        have e:=Zv.1 (Zv.1 h6 _ (mem_of_lookup hl)) k (List.contains_iff_mem.1 hk)
        exact Za (Zj.1 e).1
      | false =>
        rcases h2 with rfl | ⟨y,h2⟩
        · rw[hk] at e1;exact z6 e1
        · have e:=Zv.1 e2 _ (List.contains_iff_mem.1 h2)
          exact Za ((Bool.or_eq_true_iff.1 e).resolve_left fun z=>by rw[hk] at z;exact z6 z)
theorem za2:∀ {ns:List Int}{n:Nat},PyData.weightAll (ns.map .int)<=n->∀ i∈ns,intBits i<=n
  | [],_,_,i,hi=>by cases hi
  | j::ns,n,h,i,hi=>by
    simp only[Zz,PyData.weightAll,PyData.weight] at h
    rcases Zu.1 hi with rfl | hi
    · unfold intBits
      by_cases e:i=0
      · simp[e]
      · simp[e] at h ⊢;lia
    · exact za2 (by lia) i hi
theorem zn2 {ns:List Int} (h:(PyData.list (ns.map .int)).layable0=true):∀ i∈ns,intBits i<=1048576:=by
  simp only[PyData.layable0,Bool.and_eq_true,PyData.weight] at h
  exact za2 (Za h.2)
set_option tactic.hygienic true in
theorem zio {T:Tab}{N:Names}{prog:Program}{w:World}{K:Frag}{mg mb:Qf->Option Value}{s:Shared} (S:Stat (T.gd prog w K mg mb s.heap) N) (hf:zvj K N T=true) (hb:∀ (G:Gd) (C:Calls) (n:Nat) (H:Hyp G N C ⟨n,true⟩),z1a K T n H=true) (hbx:∀ (G:Gd) (C:Calls) (n:Nat) (H:Hyp G N C ⟨n,true⟩),z1i K T n H=true) (hbq:∀ (G:Gd) (C:Calls) (n:Nat) (H:Hyp G N C ⟨n,false⟩),z1b K T n H=true)
    {n law:Nat}{fa la:Addr}{ns:List Int}{vals:List Value} (hA:AC ⟨n,true⟩ callerA) (hfa:T.fal.lookup law=some fa) (hz:s.heap.get? la=some {cls:=.type "list",data:=.seq vals.toArray}) (hlen:ns.length<=63) (hI:IntsAre vals ns)
    {st':MS} (hrun:run T.prog n law [.lst (ns.map .int)] st0=.ok (.bool true) st') {B:Result->Shared->Prop}
    (k:∀ s':Shared,(∀ b o,s.heap.get? b=some o->s'.heap.get? b=some o)->s'.os=s.os->s'.gens=s.gens->B (.ok (.ret (.bool true))) s') :
    codeAny (model prog w) callerA (.call (.ref fa) ⟨[.ref la],[]⟩) B s:=by
  let G:=T.gd prog w K mg mb s.heap
  have hok:∀ f fn,G.P.fns f=some fn->∃ a,G.fa f=some a/\zie G.K N fn a=true:=by
    intro f fn h
    have e:=Zv.1 hf _ (mem_of_lookup h)
    simp only at e
    split at e
    · rename_i a ha
      exact⟨a,ha,e⟩
    · exact z6 e
  have hfn:∀ f fn,G.P.fns f=some fn->∃ a,G.fa f=some a/\FnRec G true (CallsA G N.xf N.qf) fn a:=by
    intro f fn h
    obtain⟨a,ha,e⟩:=hok f fn h
    refine⟨a,ha,zbl (fun ξ ξ=>S.hyp) e fun C n H=>?_⟩
    have g:=Zv.1 (hb G C n H) _ (mem_of_lookup h)
    rw[show T.fal.lookup f=some a from ha] at g
    exact g
  have hfx:∀ f fn,N.xf f=true->G.P.fns f=some fn->∃ a,G.fa f=some a/\FnX G N.xf N.qf fn a:=by
    intro f fn hx h
    obtain⟨a,ha,e⟩:=hok f fn h
    refine⟨a,ha,zte S e fun C n H=>?_⟩
    have g:=(Bool.or_eq_true_iff.1 (Zv.1 (hbx G C n H) _ (mem_of_lookup h))).resolve_left fun z=>by
      rw[show N.xf f=true from hx] at z;exact z6 z
    rw[show T.fal.lookup f=some a from ha] at g
    exact g
  have hfq:∀ f fn,N.qf f=true->G.P.fns f=some fn->∃ a,G.fa f=some a/\FnRec G false (fun C n=>ft G C n N.qf) fn a:=by
    intro f fn hx h
    obtain⟨a,ha,e⟩:=hok f fn h
    refine⟨a,ha,zbl (fun ξ ξ=>S.hypQ) e fun C n H=>?_⟩
    have g:=(Bool.or_eq_true_iff.1 (Zv.1 (hbq G C n H) _ (mem_of_lookup h))).resolve_left fun z=>by
      rw[show N.qf f=true from hx] at z;exact z6 z
    rw[show T.fal.lookup f=some a from ha] at g
    exact g
  let t0:Tie:=⟨fun ξ=>none,fun ξ=>none,fun ξ=>False,0,[]⟩
  have hno:∀ a,¬ t0.Avoid a:=by
    rintro a (⟨l,e | e⟩ | e)
    · exact za e
    · exact za e
    · exact e
  have R:Rel G t0 st0 s :=
    {base:=fun b o e=>e,apart:=fun a q=>(hno a q).elim,live:=fun a q=>(hno a q).elim,pv:=fun a q=>q.elim,injρ:=(fun l l' a e=>by exact za e),injδ:=(fun l l' a e=>by exact za e),two:=(fun l l' a e=>by exact za e),
      objs:=(fun l o e=>by exact za e),cnt:=(fun k i ξ=>⟨rfl,rfl,rfl⟩),sys:=(fun l e=>by exact za e),wr:=rfl}
  have hV:∀ {vs:List Value}{ms:List Int},IntsAre vs ms->VRels t0 s.heap (ms.map .int) vs:=by
    intro vs ms h
    induction h with
    | nil=>rfl
    | cons n t _ ih=>exact⟨_,_,rfl,⟨t,rfl⟩,ih⟩
  have rv:VRel t0 s.heap (.lst (ns.map .int)) (.ref la):=⟨la,vals.toArray,rfl,⟨_,hz⟩,hno _,by rw[Zd];unfold ze;lia,hV hI⟩
  obtain⟨a,ha,go⟩:=(dw S.O hfn hfx hfq n).ok law [.lst (ns.map .int)] st0 (.bool true) st' hrun callerA hA
  have:a=fa:=by
    have ha:T.fal.lookup law=some a:=ha
    rw[hfa] at ha;cases ha;rfl
  subst this
  refine go t0 s [.ref la] ⟨rfl,fun e he=>by cases he⟩ R ⟨_,_,rfl,rv,rfl⟩ B fun v t' s' S' R' r=>?_
  have r:v=.bool true:=r
  subst r
  exact k s' R'.base S'.os S'.gens
end Internal
end
section
namespace Internal
noncomputable def f_cell:Fn:=⟨2,["_law_script","_law_k"],[.ite (.cmp (.loc 1) .lt (.prim .len [.loc 0])) [.ret (some (.sub (.loc 0) (.loc 1)))] [],.ret (some (.int 0))]⟩
noncomputable def f_wish:Fn:=⟨1,["_law_cell","_law_number"],[.assign 1 (.bin .sub (.bin .mod (.bin .fdiv (.loc 0) (.int 6)) (.int 7)) (.int 3)),.ite (.cmp (.bin .mod (.bin .fdiv (.loc 0) (.int 3)) (.int 2)) .eq (.int 1)) [.assign 1 (.bin .sub (.bin .mod (.bin .fdiv (.loc 0) (.int 6)) (.bin .add (.bin .mul (.int 2) (.bin .pow (.int 10) (.int 30))) (.int 1))) (.bin .pow (.int 10) (.int 30)))] [],.ret (some (.sub (.lst [.tup [.str [103,101,116]],.tup [.str [115,101,116],.loc 1],.tup [.str [97,100,100],.loc 1]]) (.bin .mod (.loc 0) (.int 3))))]⟩
noncomputable def f_keys:Fn:=⟨1,["_law_cell","_law_letters","_law_many","_law_size","_law_at","_law_turn","_law_rest","","",""],[.assign 1 (.str [97,98,99,100,101,102,103,104,105,106,107,108,109,110,111,112,113,114,115,116,117,118,119,120,121,122]),.assign 2 (.bin .add (.int 1) (.bin .mod (.loc 0) (.int 6))),.assign 3 (.bin .mod (.bin .fdiv (.loc 0) (.int 6)) (.int 8)),.assign 4 (.bin .mod (.bin .fdiv (.loc 0) (.int 48)) (.bin .add (.loc 3) (.int 1))),.assign 5 (.bin .fdiv (.loc 0) (.int 432)),.assign 6 (.bm .join (.str []) [.comp none 7 true (.loc 3) none (.sub (.loc 1) (.bin .mod (.bin .add (.bin .fdiv (.loc 5) (.int 26)) (.bin .mul (.int 5) (.loc 7))) (.int 26)))]),.ite (.cmp (.bin .mod (.loc 5) (.int 3)) .eq (.int 1)) [.ret (some (.comp none 8 true (.loc 2) none (.slice (.bin .add (.loc 6) (.str [113,119,101,114,116,121,117,105])) none (some (.bin .add (.loc 8) (.int 1))))))] [],.ret (some (.comp none 9 true (.loc 2) none (.bin .add (.bin .add (.slice (.loc 6) none (some (.loc 4))) (.sub (.loc 1) (.bin .mod (.bin .add (.loc 5) (.loc 9)) (.int 26)))) (.slice (.loc 6) (some (.loc 4)) none))))]⟩
set_option genCtorIdx true in
inductive W where | get | set (i:Int) | add (i:Int)
noncomputable def wv:W->V
 | .get=>.tup [.str [103,101,116]]
 | .set i=>.tup [.str [115,101,116],.int i]
 | .add i=>.tup [.str [97,100,100],.int i]
noncomputable def dn (a:Int):W->Int×Int
 | .get=>(a,a)
 | .set i=>(i,a)
 | .add i=>(a+i,a+i)
variable {P:Prog}
theorem yh {s:MS}{a:V}{k:Bool}{l:List V} (h:zr s a=some (k,l)) (i:Nat) (hi:i < l.length):getItem a (.int i) s=.ok l[i] s:=by
 have h0:(0:Int)<=i:=by lia
 have h1:(i:Int) < l.length:=by lia
 cases a <;> simp[zr] at h <;> simp_all [getItem,zr,idx,okV]
theorem wy {f:Nat} (hf:P.fns f=some f_cell) (n:Nat) (l:List Int) (k:Nat) (s:MS):run P (n+1) f [.lst (l.map .int),.int k] s=.ok (.int (l.getD k 0)) s:=by
 refine z4 (zj (fn:=f_cell) hf rfl ?_)
 have hc:ev P (run P n) (.cmp (.loc 1) .lt (.prim .len [.loc 0])) [some (.lst (l.map .int)),some (.int k)] s=.ok (.bool (decide ((k:Int) < ((l.map V.int).length:Nat)))) s:=rfl
 rw[Zd] at hc
 by_cases h:k < l.length
 ·refine zo (hc.trans (Qd (fun b=>Res.ok (V.bool b) s) (Zb (by lia)))) (zu (q6 (s1:=s) (s2:=s) rfl rfl (yh (a:=.lst (l.map .int)) (k:=true) rfl k (by simpa using h))) ⟨?_,rfl⟩)
  simp[flV,h]
 ·refine zo (hc.trans (Qd (fun b=>Res.ok (V.bool b) s) (Zc (by lia)))) (zh (zu rfl ⟨?_,rfl⟩))
  simp[flV,h]
theorem zjr {f:Nat} (hf:P.fns f=some f_cell) (n:Nat) (l:List Int) (s:MS):run P (n+1) f [.lst (l.map .int),.int 0] s=.ok (.int (l.getD 0 0)) s:=wy hf n l 0 s
theorem tz {f:Nat} (hf:P.fns f=some f_cell) (n:Nat) (l:List Int) (s:MS):run P (n+1) f [.lst (l.map .int),.int 1] s=.ok (.int (l.getD 1 0)) s:=wy hf n l 1 s
theorem zhj {f:Nat} (hf:P.fns f=some f_cell) (n:Nat) (l:List Int) (s:MS):run P (n+1) f [.lst (l.map .int),.int 2] s=.ok (.int (l.getD 2 0)) s:=wy hf n l 2 s
noncomputable def fp (c:Int) (b:Bool):Int:=match b with
 | true=>(c.fdiv 6).fmod 2000000000000000000000000000001-1000000000000000000000000000000
 | false=>(c.fdiv 6).fmod 7-3
noncomputable def d4 (k i:Int):W:=if k=0 then .get else if k=1 then .set i else .add i
noncomputable def zd2 (c:Int):W:=d4 (c.fmod 3) (fp c (decide ((c.fdiv 3).fmod 2=1)))
theorem zfp (k i:Int) (s:MS) (h:k=0\/k=1\/k=2):getItem (.lst [.tup [.str [103,101,116]],.tup [.str [115,101,116],.int i],.tup [.str [97,100,100],.int i]]) (.int k) s=.ok (wv (d4 k i)) s:=by
 rcases h with rfl | rfl | rfl <;> rfl
theorem znh {f:Nat} (hf:P.fns f=some f_wish) (n:Nat) (c:Int) (s:MS):run P (n+1) f [.int c] s=.ok (wv (zd2 c)) s:=by
 refine z4 (zj (fn:=f_wish) hf rfl ?_)
 have h3:c.fmod 3=0\/c.fmod 3=1\/c.fmod 3=2:=by
  rw[Int.fmod_eq_emod_of_nonneg c (by decide)];lia
 refine zk (v:=.int (fp c false)) rfl rfl ?_
 cases hb:decide ((c.fdiv 3).fmod 2=1)
 ·refine zo (t:=false) (Qd (fun b=>Res.ok (V.bool b) s) hb) (zh (zu (zfp (c.fmod 3) (fp c false) s h3) ⟨?_,rfl⟩))
  show wv (d4 _ (fp c false))=wv (d4 _ (fp c (decide _)));rw[hb]
 ·refine zo (t:=true) (Qd (fun b=>Res.ok (V.bool b) s) hb) (zk (v:=.int (fp c true)) rfl rfl (zh (zu (zfp (c.fmod 3) (fp c true) s h3) ⟨?_,rfl⟩)))
  show wv (d4 _ (fp c true))=wv (d4 _ (fp c (decide _)));rw[hb]
theorem zcf (x y:Int) (h:0<=y):x.fmod y=x % y:=Int.fmod_eq_emod_of_nonneg x h
noncomputable def abc:List Nat:=[97,98,99,100,101,102,103,104,105,106,107,108,109,110,111,112,113,114,115,116,117,118,119,120,121,122]
noncomputable def x6 (x:Int):Nat:=abc[(x.fmod 26).toNat]?.getD 97
theorem qk (x m:Int) (h:0 < m):0<=x.fmod m/\x.fmod m < m:=by
 rw[Int.fmod_eq_emod_of_nonneg x (Int.le_of_lt h)]
 exact⟨Int.emod_nonneg x (Int.ne_of_gt h),Int.emod_lt_of_pos x h⟩
theorem zky (x:Int) (s:MS):getItem (.str abc) (.int (x.fmod 26)) s=.ok (.str [x6 x]) s:=by
 obtain⟨h1,h2⟩:=qk x 26 (by decide)
 have h3:(x.fmod 26).toNat < abc.length:=by show _ < 26;lia
 refine(zzt abc (x.fmod 26) s h1 (by show _ < (26:Int);exact h2) (by decide)).trans ?_
 rw[x6,Zl h3];rfl
theorem zqp:∀ i:Fin 26,abc[i.1]?.getD 97=97+i.1:=by decide
theorem mh (x:Int):x6 x=97+(x.fmod 26).toNat:=by
 obtain⟨h1,h2⟩:=qk x 26 (by decide)
 exact zqp ⟨(x.fmod 26).toNat,by lia⟩
theorem zku (x:List Nat) (j:Int) (s:MS) (h:0<=j) (hx:x.length<=16777216):kf (.str x) none (some (.int j)) s=.ok (.str (x.take j.toNat)) s:=by
 have hx:x.length<=ze:=hx
 simp[kf,kc,h,hx]
theorem zpg (x:List Nat) (j:Int) (s:MS) (h:0<=j) (hx:x.length<=16777216):kf (.str x) (some (.int j)) none s=.ok (.str (x.drop j.toNat)) s:=by
 have hx:x.length<=ze:=hx
 simp[kf,kc,h,hx]
theorem zq8 {vs:List V}{x:List Nat} (s:MS) (h:wh vs=some x) (hx:x.length<=16777216):uv .join (.str []) [.lst vs] s=.ok (.str x) s:=by
 have hx:x.length<=ze:=hx
 simp only[uv,bm1,h,Zg hx]
noncomputable def vb (z:Nat) (t:Int):List Nat:=(List.range z).map fun (k:Nat)=>x6 (t.fdiv 26+5*k)
noncomputable def qwe:List Nat:=[113,119,101,114,116,121,117,105]
noncomputable def uc (m z a:Nat) (t:Int) (b:Bool):List (List Nat):=match b with
 | true=>(List.range m).map fun (k:Nat)=>(vb z t++qwe).take (k+1)
 | false=>(List.range m).map fun (k:Nat)=>(vb z t).take a++[x6 (t+k)]++(vb z t).drop a
noncomputable def dy (c:Int):List (List Nat) :=
 uc (1+c.fmod 6).toNat ((c.fdiv 6).fmod 8).toNat ((c.fdiv 48).fmod ((c.fdiv 6).fmod 8+1)).toNat (c.fdiv 432) (decide ((c.fdiv 432).fmod 3=1))
theorem zcd (z:Nat) (t:Int):(vb z t).length=z:=by rw[vb,Zd,Zx]
theorem zfu (f:Nat->Nat):∀ l:List Nat,wh (l.map fun k=>V.str [f k])=some (l.map f)
 | []=>rfl
 | k::l=>by rw[Zz,wh,zfu f l];rfl
theorem zhr (x:List Nat) (a:Nat) (h:x.length < 8):(x.take a).length+1<=16777216:=by rw[List.length_take];omega
theorem zke (x:List Nat) (a c:Nat) (h:x.length < 8):(x.take a++[c]).length+(x.drop a).length<=16777216:=by rw[Zf,List.length_take,List.length_drop];show min _ _+1+_<=_;omega
theorem ziy {f:Nat} (hf:P.fns f=some f_keys) (n:Nat) (c:Int) (s:MS):run P (n+1) f [.int c] s=.ok (.lst ((dy c).map .str)) s:=by
 obtain⟨hm0,hm1⟩:=qk c 6 (by decide)
 obtain⟨hz0,hz1⟩:=qk (c.fdiv 6) 8 (by decide)
 refine z4 (zj (fn:=f_keys) hf rfl ?_)
 refine zk (v:=.str abc) rfl rfl (zk (v:=.int (1+c.fmod 6)) rfl rfl (zk (v:=.int ((c.fdiv 6).fmod 8)) rfl rfl ?_))
 unfold dy
 generalize c.fmod 6=m at hm0 hm1
 generalize (c.fdiv 6).fmod 8=z at hz0 hz1
 have hz2:¬ (z+1=0):=by lia
 refine zk (v:=.int ((c.fdiv 48).fmod (z+1))) (Zh hz2) rfl (zk (v:=.int (c.fdiv 432)) rfl rfl ?_)
 obtain⟨ha0,-⟩:=qk (c.fdiv 48) (z+1) (by lia)
 generalize (c.fdiv 48).fmod (z+1)=a at ha0
 generalize c.fdiv 432=t
 have hzn:(0:Nat)+((List.range z.toNat).map fun (i:Nat)=>V.int i).length<=ze:=by rw[Zd,Zx];show _<=16777216;lia
 have hxl:(vb z.toNat t).length < 8:=by rw[zcd];lia
 refine zk (v:=.str (vb z.toNat t)) (s':=s) (ud (x:=.str []) (vs:=[.lst (((List.range z.toNat).map fun (i:Nat)=>V.int i).map fun v=>match v with | .int i=>V.str [x6 (t.fdiv 26+5*i)] | _=>.none)]) (s2:=s) rfl rfl (zf (b6 rfl (j9 s z hz0 (by lia)) (w9 s s true (.int z) 7 _ _ _ rfl _ [] ?_ hzn)) rfl) ?_) rfl ?_
 ·intro x hx
  obtain⟨i,-,rfl⟩:=Z1.1 hx
  exact q6 (s1:=s) (s2:=s) rfl (jo (x:=.int (t.fdiv 26+5*i)) (s1:=s) (s2:=s) (jo (x:=.int (t.fdiv 26)) (s1:=s) rfl (ztn 5 i s (by decide) (by decide)) rfl) rfl rfl) (zky (t.fdiv 26+5*i) s)
 ·refine zq8 s ?_ (by lia)
  rw[List.map_map]
  exact zfu (fun (k:Nat)=>x6 (t.fdiv 26+5*k)) (List.range z.toNat)
 have hmn:(0:Nat)+((List.range (1+m).toNat).map fun (i:Nat)=>V.int i).length<=ze:=by rw[Zd,Zx];show _<=16777216;lia
 have hit:zz s true (.int (1+m))=some ((List.range (1+m).toNat).map fun (i:Nat)=>.int i):=j9 s _ (by lia) (by lia)
 unfold uc
 generalize vb z.toNat t=x at hxl
 cases hb:decide (t.fmod 3=1)
 ·refine zo (t:=false) (Qd (fun b=>Res.ok (V.bool b) s) hb) (zh (zu (b6 rfl hit (w9 s s true (.int (1+m)) 9 _ _ (fun v=>match v with | .int i=>V.str (x.take a.toNat++[x6 (t+i)]++x.drop a.toNat) | _=>.none) rfl _ [] ?_ hmn)) ⟨?_,rfl⟩))
  ·intro y hy
   obtain⟨i,-,rfl⟩:=Z1.1 hy
   have h1:=zhr x a.toNat hxl
   have h2:=zke x a.toNat (x6 (t+i)) hxl
   exact jo (s1:=s) (s2:=s) (x:=.str (x.take a.toNat++[x6 (t+i)])) (jo (s1:=s) (s2:=s) (zku x a s ha0 (by lia)) (q6 (s1:=s) (s2:=s) rfl rfl (zky (t+i) s)) (zcq _ _ s h1)) (zpg x a s ha0 (by lia)) (zcq _ _ s h2)
  ·show V.lst ([]++_)=_
   rw[List.nil_append,List.map_map,List.map_map];rfl
 ·refine zo (t:=true) (Qd (fun b=>Res.ok (V.bool b) s) hb) (zu (b6 rfl hit (w9 s s true (.int (1+m)) 8 _ _ (fun v=>match v with | .int i=>V.str ((x++qwe).take (i+1).toNat) | _=>.none) rfl _ [] ?_ hmn)) ⟨?_,rfl⟩)
  ·intro y hy
   obtain⟨i,-,rfl⟩:=Z1.1 hy
   have h1:x.length+qwe.length<=16777216:=by show x.length+8<=_;lia
   exact zge (s1:=s) (s2:=s) (s3:=s) (jo (s1:=s) (s2:=s) rfl rfl (zcq x qwe s h1)) rfl rfl (zku (x++qwe) (i+1) s (by lia) (by rw[Zf];exact h1))
  ·show V.lst ([]++_)=_
   rw[List.nil_append,List.map_map,List.map_map];rfl
structure KeysOk (ks:List (List Nat)):Prop where
 pos:0 < ks.length
 six:ks.length<=6
 nd:ks.Nodup
theorem nodup_range {α:Type} (f:Nat->α) (m:Nat) (h:∀ i j,i < m->j < m->f i=f j->i=j):((List.range m).map f).Nodup:=by
 refine List.pairwise_map.2 (List.Pairwise.imp_of_mem (fun ha hb hlt e=>?_) List.pairwise_lt_range)
 have:=h _ _ (List.mem_range.1 ha) (List.mem_range.1 hb) e
 lia
theorem n8 (x:Int):97<=x6 x/\x6 x<=122:=by
 rw[mh]
 obtain⟨h1,h2⟩:=qk x 26 (by decide)
 lia
theorem zko (z:Nat) (t:Int):∀ c∈vb z t,97<=c/\c<=122:=by
 intro c hc
 obtain⟨k,-,rfl⟩:=Z1.1 hc
 exact n8 _
theorem zkg {l:List Nat} (h:8<=l.length) (i j:Nat) (hi:i < 6) (hj:j < 6) (e:l.take (i+1)=l.take (j+1)):i=j:=by
 have:=Qd List.length e
 rw[List.length_take,List.length_take,Nat.min_eq_left (by lia),Nat.min_eq_left (by lia)] at this
 exact Nat.succ.inj this
theorem zfb (t:Int) (i j:Nat) (hi:i < 6) (hj:j < 6) (e:x6 (t+i)=x6 (t+j)):i=j:=by
 rw[mh,mh,zcf _ _ (by decide),zcf _ _ (by decide)] at e
 have e1:=Qd Int.ofNat (Nat.add_left_cancel e)
 rw[Int.ofNat_eq_natCast,Int.ofNat_eq_natCast,Int.toNat_of_nonneg (Int.emod_nonneg _ (by decide)),Int.toNat_of_nonneg (Int.emod_nonneg _ (by decide))] at e1
 obtain⟨k,hk⟩:=Int.dvd_of_emod_eq_zero (Int.emod_eq_emod_iff_emod_sub_eq_zero.mp e1)
 rw[Int.add_sub_add_left] at hk
 omega
theorem zib {m:Nat} (h0:0 < m) (h6:m<=6) (z a:Nat) (t:Int) (b:Bool):KeysOk (uc m z a t b):=by
 cases b with
 | true=>exact⟨by rw[uc,Zd,Zx];exact h0,by rw[uc,Zd,Zx];exact h6,nodup_range _ _ fun i j hi hj e=>zkg (by rw[Zf];exact Nat.le_add_left 8 _) i j (Zi hi h6) (Zi hj h6) e⟩
 | false=>exact⟨by rw[uc,Zd,Zx];exact h0,by rw[uc,Zd,Zx];exact h6,nodup_range _ _ fun i j hi hj e=>zfb t i j (Zi hi h6) (Zi hj h6) (List.head_eq_of_cons_eq (List.append_cancel_left (List.append_cancel_right e)))⟩
theorem zp6 (c:Int):KeysOk (dy c):=by
 obtain⟨h0,h1⟩:=qk c 6 (by decide)
 exact zib (by omega) (by omega) _ _ _ _
noncomputable def AllA (R:V->V->Prop):List V->List V->Prop
 | [],[]=>True
 | x::l,y::m=>R x y/\AllA R l m
 | _,_=>False
theorem AllA.len {R:V->V->Prop}:∀ {a b:List V},AllA R a b->a.length=b.length
 | [],[],_=>rfl
 | x::l,y::m,h=>by simp[AllA.len h.2]
 | [],_::_,h=>h.elim
 | _::_,[],h=>h.elim
theorem AllA.get {R:V->V->Prop}:∀ {a b:List V},AllA R a b->∀ (i:Nat) (h:i < a.length) (h':i < b.length),R a[i] b[i]
 | x::l,y::m,h,0,_,_=>h.1
 | x::l,y::m,h,i+1,h1,h2=>AllA.get h.2 i (by simpa using h1) (by simpa using h2)
 | [],_,_,_,h1,_=>by simp at h1
 | _::_,[],h,_,_,_=>h.elim
theorem AllA.map {α:Type}{R:V->V->Prop}{f g:α->V}:∀ (l:List α),(∀ x∈l,R (f x) (g x))->AllA R (l.map f) (l.map g)
 | [],_=>trivial
 | x::l,h=>⟨h x (by simp),AllA.map l fun y hy=>h y (by simp[hy])⟩
theorem zjj {s:MS}{v:V}{g:Tag} (h:bt s v=some g) (k:Kind):u0 P s v k=yr g k:=by
 cases v with
 | exc=>exact za h
 | ref r =>
  show(match bt s (.ref r) with | some g=>yr g k | none=>none)=_
  rw[h]
 | _=>cases h;rfl
theorem z0l {s:MS}{v:V}{g:Tag}{k:Kind}{t:Bool} (h:bt s v=some g) (hk:yr g k=some t):kh P s v [k]=some t:=by
 rw[kh,zjj h,hk];cases t <;> rfl
theorem bc {s:MS}{a:V}{k:Bool}{l:List V} (h:zr s a=some (k,l)):zl8 a s=.ok (.int l.length) s:=by
 cases a with
 | tup=>cases h;rfl
 | lst=>cases h;rfl
 | ref r =>
  show(match zr s (.ref r) with | some p=>Res.ok (V.int p.2.length) s | none=>.stuck)=_
  rw[h]
 | _=>exact za h
end Internal
end
section
namespace Internal
set_option genCtorIdx true in
inductive St where | here | owes | gone
 deriving DecidableEq
noncomputable def stS:St->List Nat
 | .here=>[104,101,114,101]
 | .owes=>[111,119,101,115]
 | .gone=>[103,111,110,101]
noncomputable abbrev qp:=Int×Int×Int
structure Row where
 st:St
 turn:Int
 amt:Int
 marks:List qp
noncomputable abbrev Key:=List Nat
noncomputable abbrev qv:=List (Key×Row)
set_option genCtorIdx true in
inductive Letter where
 | call (h c n:Int) (k:Key) (w:W)
 | parcel (h:Int) (k:Key) (t a:Int) (ms:List qp)
 | taken (h:Int) (k:Key) (t:Int)
 | answer (c n told:Int)
structure LRow where
 c:Int
 n:Int
 k:Key
 w:W
 told:Int
noncomputable def qj (m:qp):V:=.tup [.int m.1,.int m.2.1,.int m.2.2]
noncomputable def kz (ms:List qp):V:=.tup (ms.map qj)
noncomputable def zan (r:Row):V:=.tup [.str (stS r.st),.int r.turn,.int r.amt,kz r.marks]
noncomputable def zw (k:qv):List (V×V):=k.map fun p=>(.str p.1,zan p.2)
noncomputable def z9:Letter->V
 | .call h c n k w=>.tup [.str [99,97,108,108],.int h,.int c,.int n,.str k,wv w]
 | .parcel h k t a ms=>.tup [.str [112,97,114,99,101,108],.int h,.str k,.int t,.int a,kz ms]
 | .taken h k t=>.tup [.str [116,97,107,101,110],.int h,.str k,.int t]
 | .answer c n told=>.tup [.str [97,110,115,119,101,114],.int c,.int n,.int told]
noncomputable def vy (r:LRow):V:=.tup [.int r.c,.int r.n,.str r.k,wv r.w,.int r.told]
noncomputable def qb (key:Key):qv->Option Row
 | []=>none
 | (a,r)::l=>if a=key then some r else qb key l
noncomputable def qx (key:Key) (x:Row):qv->qv
 | []=>[(key,x)]
 | (a,r)::l=>if a=key then (a,x)::l else (a,r)::qx key x l
theorem vp (key:Key):∀ k:qv,jh (.str key) (zw k)=(qb key k).map zan
 | []=>rfl
 | (a,r)::l=>by
  by_cases h:a=key
  ·rw[qb,Zg h];exact zjt (Zb h)
  ·rw[qb,Zh h];exact(ze1 (a:=.str a) (k:=.str key) (Zc h)).trans (vp key l)
theorem x5 (key:Key) (x:Row):∀ k:qv,lc (.str key) (zan x) (zw k)=zw (qx key x k)
 | []=>rfl
 | (a,r)::l=>by
  by_cases h:a=key
  ·rw[qx,Zg h];exact zng (Zb h)
  ·rw[qx,Zh h];exact(zii (a:=.str a) (k:=.str key) (Zc h)).trans (Qd (_::·) (x5 key x l))
theorem p0 (key key':Key) (x:Row):∀ k:qv,qb key' (qx key x k)=if key'=key then some x else qb key' k
 | []=>by
  by_cases h:key'=key
  ·subst h;rw[Zg rfl];exact Zg rfl
  ·rw[Zh h];exact Zh fun e=>h e.symm
 | (a,r)::l=>by
  have ih:=p0 key key' x l
  by_cases h1:a=key
  ·subst h1
   rw[qx,Zg rfl]
   by_cases h:key'=a
   ·subst h;rw[Zg rfl];exact Zg rfl
   ·rw[Zh h,qb,qb,Zh fun e=>h e.symm,Zh fun e=>h e.symm]
  ·rw[qx,Zh h1,qb]
   by_cases h2:a=key'
   ·subst h2;rw[Zg rfl,Zh h1,qb,Zg rfl]
   ·rw[Zh h2,ih,qb,Zh h2]
theorem k7 (key:Key) (x:Row):∀ (k:qv) (r:Row),qb key k=some r->(qx key x k).map (·.1)=k.map (·.1)
 | [],_,h=>by cases h
 | (a,r')::l,r,h=>by
  by_cases h1:a=key
  ·rw[qx,Zg h1];rfl
  ·rw[qb,Zh h1] at h
   rw[qx,Zh h1,Zz,Zz,k7 key x l r h]
theorem gj {key:Key}{x:Row}:∀ {k:qv}{p:Key×Row},p∈qx key x k->p=(key,x)\/p∈k
 | [],p,h=>by
  rcases Zu.1 h with h | h
  ·exact .inl h
  ·cases h
 | (a,r)::l,p,h=>by
  by_cases h1:a=key
  ·rw[qx,Zg h1] at h
   rcases Zu.1 h with h | h
   ·rw[h1] at h;exact .inl h
   ·exact .inr (Zk _ h)
  ·rw[qx,Zh h1] at h
   rcases Zu.1 h with h | h
   ·exact .inr (h▸Zm ..)
   ·exact(gj h).imp id (Zk _)
theorem vf {key:Key}:∀ {k:qv}{r:Row},qb key k=some r->(key,r)∈k
 | [],_,h=>by cases h
 | (a,r')::l,r,h=>by
  by_cases h1:a=key
  ·rw[qb,Zg h1] at h;cases h;subst h1;exact Zm ..
  ·rw[qb,Zh h1] at h;exact Zk _ (vf h)
theorem ls {key:Key}:∀ {k:qv},key∈k.map (·.1)->∃ r,qb key k=some r
 | [],h=>by cases h
 | (a,r')::l,h=>by
  by_cases h1:a=key
  ·exact⟨r',Zg h1⟩
  ·rcases Zu.1 h with h | h
   ·exact(h1 h.symm).elim
   ·obtain⟨r,hr⟩:=ls h
    exact⟨r,(Zh h1).trans hr⟩
noncomputable def yy (c:Int):List qp->Option (Int×Int)
 | []=>none
 | m::l=>if m.1=c then some m.2 else yy c l
noncomputable def mins (x:qp):List qp->List qp
 | []=>[x]
 | m::l=>if x.1 < m.1 then x::m::l else m::mins x l
noncomputable def zcb (x:qp) (ms:List qp):List qp:=mins x (ms.filter fun m=>!decide (m.1=x.1))
noncomputable def Up (a:Int):List qp->Prop
 | []=>True
 | m::l=>a<=m.1/\m.1 < 6/\Up (m.1+1) l
noncomputable def MOk (ms:List qp):Prop:=Up 0 ms
theorem Up.le {a b:Int} (h:a<=b):∀ {ms:List qp},Up b ms->Up a ms
 | [],_=>trivial
 | m::l,⟨h1,h2,h3⟩=>⟨Int.le_trans h h1,h2,h3⟩
theorem Up.len:∀ {ms:List qp}{a:Int},0<=a->a<=6->Up a ms->(ms.length:Int)<=6-a
 | [],a,h0,h6,_=>by show(0:Int)<=_;lia
 | m::l,a,h0,h6,⟨h1,h2,h3⟩=>by
  have:=Up.len (a:=m.1+1) (by lia) (by lia) h3
  rw[Z4];lia
theorem Up.filter (p:qp->Bool):∀ {ms:List qp}{a:Int},Up a ms->Up a (ms.filter p)
 | [],_,_=>trivial
 | m::l,a,⟨h1,h2,h3⟩=>by
  rw[List.filter_cons]
  split
  ·exact⟨h1,h2,Up.filter p h3⟩
  ·exact(Up.filter p h3).le (by lia)
theorem Up.mem:∀ {ms:List qp}{a:Int},Up a ms->∀ m∈ms,a<=m.1
 | [],_,_,m,h=>by cases h
 | x::l,a,⟨h1,h2,h3⟩,m,h=>by
  rcases Zu.1 h with rfl | h
  ·exact h1
  ·have:=Up.mem h3 m h;lia
set_option tactic.hygienic true in
theorem Up.mins {x:qp}:∀ {ms:List qp}{a:Int},Up a ms->(∀ m∈ms,m.1≠x.1)->a<=x.1->x.1 < 6->Up a (mins x ms)
 | [],a,_,_,h1,h2=>⟨h1,h2,trivial⟩
 | m::l,a,⟨g1,g2,g3⟩,hn,h1,h2=>by
  have hm:=hn m (Zm ..)
  rw[Internal.mins]
  split
  ·rename_i h;exact⟨h1,h2,by lia,g2,g3⟩
  ·rename_i h;exact⟨g1,g2,Up.mins g3 (fun y hy=>hn y (Zk _ hy)) (by lia) h2⟩
theorem ur (ms:List qp) (c:Int):∀ m∈ms.filter fun m=>!decide (m.1=c),m.1≠c:=fun m h=>by
 have:=(List.mem_filter.1 h).2
 simpa using this
theorem MOk.put {ms:List qp} (h:MOk ms) {x:qp} (h0:0<=x.1) (h6:x.1 < 6):MOk (zcb x ms) :=
 Up.mins (Up.filter _ h) (ur ms x.1) h0 h6
theorem Up.rising:∀ {ms:List qp}{a:Int},Up a ms->Internal.rising (ms.map (·.1))=true
 | [],_,_=>rfl
 | [m],_,_=>rfl
 | m::m'::l,a,⟨_,_,h⟩=>by
  have hr:=Up.rising h
  show(decide (m.1 < m'.1)&&Internal.rising (m'.1::l.map (·.1)))=true
  rw[Zb (by have:=h.1;omega)];exact hr
theorem dv:∀ ms:List qp,(ms.map qj).mapM qy=some (ms.map (·.1))
 | []=>rfl
 | m::l=>by rw[Zz,List.mapM_cons,dv l];rfl
theorem zbn (L:List V):∀ (n k:Nat),k+n<=L.length->(List.range n).map (fun i=>L.getD (k+i) .none)=(L.drop k).take n:=fun n k h=>by
 refine List.ext_getElem? fun i=>?_
 by_cases hi:i < n
 ·rw[List.getElem?_map,List.getElem?_range hi,List.getElem?_take,Zg hi,List.getElem?_drop]
  show some (L.getD (k+i) .none)=_
  rw[List.getD_eq_getElem?_getD,Zl (by lia)];rfl
 ·rw[List.getElem?_eq_none (by rw[Zd,Zx];lia),List.getElem?_take,Zh hi]
theorem zca (x:qp):∀ ms:List qp,xu x.1 (ms.map (·.1))<=ms.length/\mins x ms=ms.take (xu x.1 (ms.map (·.1)))++x::ms.drop (xu x.1 (ms.map (·.1)))
 | []=>⟨Zs _,rfl⟩
 | m::l=>by
  obtain⟨h1,h2⟩:=zca x l
  rw[Zz,xu,mins]
  split
  ·exact⟨Nat.zero_le _,rfl⟩
  ·exact⟨Nat.succ_le_succ h1,Qd (m::·) h2⟩
theorem zcw (x:qp) (ms:List qp):(y3 ms.length (xu x.1 (ms.map (·.1)))).map (fun i=>(ms.map qj++[qj x]).getD i .none)=(mins x ms).map qj:=by
 obtain⟨h1,h2⟩:=zca x ms
 rw[h2]
 generalize xu x.1 (ms.map (·.1))=p at h1
 have hl:(ms.map qj).length=ms.length:=Zd ..
 have e1:=zbn (ms.map qj++[qj x]) p 0 (by rw[Zf,hl];lia)
 have e2:=zbn (ms.map qj++[qj x]) (ms.length-p) p (by rw[Zf,hl];show p+_<=_+1;lia)
 have e3:(ms.map qj++[qj x]).getD ms.length .none=qj x:=by
  rw[List.getD_eq_getElem?_getD,List.getElem?_append_right (by lia),hl,Nat.sub_self];rfl
 rw[y3,Qb,Zz,List.map_map,e3,Qb,Zz]
 congr 1
 ·refine Eq.trans (List.map_congr_left fun i ξ=>by rw[Nat.zero_add]) (e1.trans ?_)
  rw[List.drop_zero,List.take_append_of_le_length (by lia),List.map_take]
 ·congr 1
  refine e2.trans ?_
  rw[List.drop_append_of_le_length (by lia),List.take_append_of_le_length (by rw[List.length_drop];lia),List.take_of_length_le (by rw[List.length_drop];lia),List.map_drop]
theorem aq {ms:List qp}{x:qp} (h:Up 0 ms) (hn:∀ m∈ms,m.1≠x.1) (h0:0<=x.1) (h6:x.1 < 6):ju (ms.map qj++[qj x])=some ((mins x ms).map qj):=by
 have hl:((mins x ms).length:Int)<=6:=by have:=Up.len (by lia) (by lia) (Up.mins h hn h0 h6);lia
 have hlen:∀ ms:List qp,(mins x ms).length=ms.length+1:=by
  intro ms
  induction ms with
  | nil=>rfl
  | cons m l ih=>rw[mins];split;rfl;rw[Z4,ih];rfl
 rw[hlen] at hl
 have e:(ms.map qj++[qj x]).reverse=qj x::(ms.map qj).reverse:=by rw[List.reverse_append];rfl
 rw[ju,e]
 dsimp only
 rw[List.reverse_reverse,dv]
 show(if (rising (ms.map (·.1))&&!(ms.map (·.1)).contains x.1&&decide ((ms.map qj++[qj x]).length<=6))=true then some ((y3 (ms.map (·.1)).length (xu x.1 (ms.map (·.1)))).map fun i=>(ms.map qj++[qj x]).getD i .none) else none)=_
 rw[Zd,zcw,h.rising,Zb (by rw[Zf,Zd];show ms.length+1<=6;lia)]
 have hc:(ms.map (·.1)).contains x.1=false:=by
  cases q:(ms.map (·.1)).contains x.1 with
  | false=>rfl
  | true =>
   rw[List.contains_iff_mem] at q
   obtain⟨m,hm,e⟩:=Z1.1 q
   exact(hn m hm e).elim
 rw[hc];rfl
structure HS where
 num:Int
 known:qv
 written:qv
 laid:List Letter
 fresh:List LRow
noncomputable def HS.has (h:HS) (key:Key):Bool:=match qb key h.known with
 | some r=>decide (r.st=.here)
 | none=>false
noncomputable def HS.owes (h:HS):List Key:=(h.known.filter fun p=>decide (p.2.st=.owes)).map (·.1)
noncomputable def xx (num:Int) (key:Key) (r:Row):Letter:=.parcel (1-num) key (r.turn+1) r.amt r.marks
noncomputable def HS.nudge (h:HS):List Letter:=(h.written.filter fun p=>decide (p.2.st=.owes)).map fun p=>xx h.num p.1 p.2
noncomputable def HS.move (h:HS) (key:Key) (r:Row):HS:={h with known:=qx key {r with st:=.owes} h.known,laid:=h.laid++[xx h.num key r]}
noncomputable def HS.write (h:HS):HS:={h with written:=h.known,laid:=[],fresh:=[]}
noncomputable def HS.sleep (h:HS):HS:={h with known:=h.written,laid:=[],fresh:=[]}
noncomputable def HS.again (h:HS) (c n told:Int):HS:={h with laid:=h.laid++[.answer c n told]}
noncomputable def HS.first (h:HS) (c n:Int) (key:Key) (w:W) (r:Row):HS :=
 {h with known:=qx key ⟨.here,r.turn,(dn r.amt w).1,zcb (c,n,(dn r.amt w).2) r.marks⟩ h.known,laid:=h.laid++[.answer c n (dn r.amt w).2],fresh:=h.fresh++[⟨c,n,key,w,(dn r.amt w).2⟩]}
noncomputable def HS.called (h:HS) (c n:Int) (key:Key) (w:W) (r:Row):HS:=match yy c r.marks with
 | some p=>if n < p.1 then h else if p.1=n then h.again c n p.2 else h.first c n key w r
 | none=>h.first c n key w r
noncomputable def HS.came (h:HS):Letter->HS
 | .call _ c n key w=>(match qb key h.known with
  | some r=>if r.st=.here then h.called c n key w r else h
  | none=>h)
 | .parcel _ key t a ms=>(match qb key h.known with
  | some r=>{h with known:=if r.turn < t then qx key ⟨.here,t,a,ms⟩ h.known else h.known,laid:=h.laid++[.taken (1-h.num) key t]}
  | none=>h)
 | .taken _ key t=>(match qb key h.known with
  | some r=>if r.st=.owes/\t=r.turn+1 then {h with known:=qx key ⟨.gone,r.turn,0,[]⟩ h.known} else h
  | none=>h)
 | .answer _ _ _=>h
section
variable {h:HS}{hh c n tn am:Int}{key:Key}{w:W}{r:Row}{ms:List qp}
theorem bj (hk:qb key h.known=some r):h.came (.call hh c n key w)=if r.st=.here then h.called c n key w r else h:=by delta HS.came;dsimp only;rw[hk]
theorem zek (hk:qb key h.known=none):h.came (.call hh c n key w)=h:=by delta HS.came;dsimp only;rw[hk]
theorem yu (hk:qb key h.known=some r):h.came (.parcel hh key tn am ms)={h with known:=if r.turn < tn then qx key ⟨.here,tn,am,ms⟩ h.known else h.known,laid:=h.laid++[.taken (1-h.num) key tn]}:=by delta HS.came;dsimp only;rw[hk]
theorem ii (hk:qb key h.known=none):h.came (.parcel hh key tn am ms)=h:=by delta HS.came;dsimp only;rw[hk]
theorem wl (hk:qb key h.known=some r):h.came (.taken hh key tn)=if r.st=.owes/\tn=r.turn+1 then {h with known:=qx key ⟨.gone,r.turn,0,[]⟩ h.known} else h:=by delta HS.came;dsimp only;rw[hk]
theorem zcs (hk:qb key h.known=none):h.came (.taken hh key tn)=h:=by delta HS.came;dsimp only;rw[hk]
end
noncomputable def HS.new (num:Int) (keys:List Key):HS :=
 let k:qv:=keys.foldl (fun k key=>qx key (if num=0 then ⟨.here,0,0,[]⟩ else ⟨.gone,-1,0,[]⟩) k) []
 ⟨num,k,k,[],[]⟩
end Internal
end
section
namespace Internal
noncomputable def f_done:Fn:=⟨2,["amount","wish"],[.ite (.cmp (.sub (.loc 1) (.int 0)) .eq (.str [115,101,116])) [.ret (some (.tup [.sub (.loc 1) (.int 1),.loc 0]))] [],.ite (.cmp (.sub (.loc 1) (.int 0)) .eq (.str [97,100,100])) [.ret (some (.tup [.bin .add (.loc 0) (.sub (.loc 1) (.int 1)),.bin .add (.loc 0) (.sub (.loc 1) (.int 1))]))] [],.ret (some (.tup [.loc 0,.loc 0]))]⟩
noncomputable def zgx:List S:=[.setitem (.attr (.loc 0) 4) (.loc 3) (.tup [.str [104,101,114,101],.int 0,.int 0,.tup []]),.ite (.cmp (.loc 1) .ne (.int 0)) [.setitem (.attr (.loc 0) 4) (.loc 3) (.tup [.str [103,111,110,101],.neg (.int 1),.int 0,.tup []])] []]
noncomputable def zsb:List S:=[.setattr (.loc 0) 5 (.dictC 5 (.attr (.loc 0) 4)),.setattr (.loc 0) 6 (.lstM 6 []),.setattr (.loc 0) 7 (.lstM 7 [])]
noncomputable def wd:Fn:=⟨3,["self","number","keys","key"],.setattr (.loc 0) 0 (.loc 1)::.setattr (.loc 0) 4 (.dictM 4 [] [])::.for_ (.inl (.loc 3)) false (.loc 2) zgx::zsb⟩
noncomputable def f_House_has:Fn:=⟨2,["self","key"],[.ret (some (.and [.cmp (.loc 1) .isin (.attr (.loc 0) 4),.cmp (.sub (.sub (.attr (.loc 0) 4) (.loc 1)) (.int 0)) .eq (.str [104,101,114,101])]))]⟩
noncomputable def f_House_owes:Fn:=⟨1,["self",""],[.ret (some (.comp (some 14) 1 false (.attr (.loc 0) 4) (some (.cmp (.sub (.sub (.attr (.loc 0) 4) (.loc 1)) (.int 0)) .eq (.str [111,119,101,115]))) (.loc 1)))]⟩
noncomputable def f_House_came:Fn:=⟨2,["self","letter","one"],[.ite (.cmp (.sub (.loc 1) (.int 0)) .eq (.str [99,97,108,108])) [.ite (.meth (.loc 0) 0 [.sub (.loc 1) (.int 4)]) [.expr (.meth (.loc 0) 3 [.sub (.loc 1) (.int 2),.sub (.loc 1) (.int 3),.sub (.loc 1) (.int 4),.sub (.loc 1) (.int 5)])] []] [.ite (.cmp (.sub (.loc 1) (.int 0)) .eq (.str [112,97,114,99,101,108])) [.ite (.cmp (.sub (.loc 1) (.int 3)) .gt (.sub (.sub (.attr (.loc 0) 4) (.sub (.loc 1) (.int 2))) (.int 1))) [.setitem (.attr (.loc 0) 4) (.sub (.loc 1) (.int 2)) (.tup [.str [104,101,114,101],.sub (.loc 1) (.int 3),.sub (.loc 1) (.int 4),.sub (.loc 1) (.int 5)])] [],.expr (.bm .append (.attr (.loc 0) 6) [.tup [.str [116,97,107,101,110],.bin .sub (.int 1) (.attr (.loc 0) 0),.sub (.loc 1) (.int 2),.sub (.loc 1) (.int 3)]])] [.assign 2 (.sub (.attr (.loc 0) 4) (.sub (.loc 1) (.int 2))),.ite (.and [.cmp (.sub (.loc 2) (.int 0)) .eq (.str [111,119,101,115]),.cmp (.sub (.loc 1) (.int 3)) .eq (.bin .add (.sub (.loc 2) (.int 1)) (.int 1))]) [.setitem (.attr (.loc 0) 4) (.sub (.loc 1) (.int 2)) (.tup [.str [103,111,110,101],.sub (.loc 2) (.int 1),.int 0,.tup []])] []]]]⟩
noncomputable def ztu:List S:=[.ite (.and [.cmp (.sub (.loc 6) (.int 0)) .eq (.loc 1),.cmp (.sub (.loc 6) (.int 1)) .gt (.loc 2)]) [.ret none] [],.ite (.and [.cmp (.sub (.loc 6) (.int 0)) .eq (.loc 1),.cmp (.sub (.loc 6) (.int 1)) .eq (.loc 2)]) [.expr (.bm .append (.attr (.loc 0) 6) [.tup [.str [97,110,115,119,101,114],.loc 1,.loc 2,.sub (.loc 6) (.int 2)]]),.ret none] []]
noncomputable def zv5:List S:=[.assign 7 (.call 2 [.sub (.loc 5) (.int 2),.loc 4]),.assign 8 (.bin .add (.comp none 9 false (.sub (.loc 5) (.int 3)) (some (.cmp (.sub (.loc 9) (.int 0)) .ne (.loc 1))) (.loc 9)) (.lst [.tup [.loc 1,.loc 2,.sub (.loc 7) (.int 1)]])),.setitem (.attr (.loc 0) 4) (.loc 3) (.tup [.str [104,101,114,101],.sub (.loc 5) (.int 1),.sub (.loc 7) (.int 0),.prim .tuple1 [.prim .sorted [.loc 8]]]),.expr (.bm .append (.attr (.loc 0) 6) [.tup [.str [97,110,115,119,101,114],.loc 1,.loc 2,.sub (.loc 7) (.int 1)]]),.expr (.bm .append (.attr (.loc 0) 7) [.tup [.loc 1,.loc 2,.loc 3,.loc 4,.sub (.loc 7) (.int 1)]])]
noncomputable def ye:Fn:=⟨5,["self","caller","number","key","wish","one","mark","pair","marks",""],.assign 5 (.sub (.attr (.loc 0) 4) (.loc 3))::.for_ (.inl (.loc 6)) false (.sub (.loc 5) (.int 3)) ztu::zv5⟩
noncomputable def f_House_parcel:Fn:=⟨3,["self","key","one"],[.ret (some (.tup [.str [112,97,114,99,101,108],.bin .sub (.int 1) (.attr (.loc 0) 0),.loc 1,.bin .add (.sub (.loc 2) (.int 1)) (.int 1),.sub (.loc 2) (.int 2),.sub (.loc 2) (.int 3)]))]⟩
noncomputable def f_House_move (xc:Nat):Fn:=⟨2,["self","key","one"],[.ite (.not (.meth (.loc 0) 0 [.loc 1])) [.raise xc] [],.assign 2 (.sub (.attr (.loc 0) 4) (.loc 1)),.setitem (.attr (.loc 0) 4) (.loc 1) (.tup [.str [111,119,101,115],.sub (.loc 2) (.int 1),.sub (.loc 2) (.int 2),.sub (.loc 2) (.int 3)]),.expr (.bm .append (.attr (.loc 0) 6) [.meth (.loc 0) 4 [.loc 1,.loc 2]])]⟩
noncomputable def f_House_write:Fn:=⟨1,["self","found"],[.setattr (.loc 0) 5 (.dictC 5 (.attr (.loc 0) 4)),.assign 1 (.tup [.attr (.loc 0) 6,.attr (.loc 0) 7]),.setattr (.loc 0) 6 (.lstM 6 []),.setattr (.loc 0) 7 (.lstM 7 []),.ret (some (.loc 1))]⟩
noncomputable def f_House_sleep:Fn:=⟨1,["self"],[.setattr (.loc 0) 4 (.dictC 4 (.attr (.loc 0) 5)),.setattr (.loc 0) 6 (.lstM 6 []),.setattr (.loc 0) 7 (.lstM 7 [])]⟩
noncomputable def f_House_nudge:Fn:=⟨1,["self",""],[.ret (some (.comp none 1 false (.attr (.loc 0) 5) (some (.cmp (.sub (.sub (.attr (.loc 0) 5) (.loc 1)) (.int 0)) .eq (.str [111,119,101,115]))) (.meth (.loc 0) 4 [.loc 1,.sub (.attr (.loc 0) 5) (.loc 1)])))]⟩
structure HouseP (P:Prog):Prop where
 done:P.fns 2=some f_done
 init:P.fns 20=some wd
 has:P.fns 21=some f_House_has
 came:P.fns 23=some f_House_came
 called:P.fns 24=some ye
 parcel:P.fns 25=some f_House_parcel
 mhas:P.meths 1 0=some 21
 mowes:P.meths 1 1=some 22
 mcame:P.meths 1 2=some 23
 mcalled:P.meths 1 3=some 24
 mparcel:P.meths 1 4=some 25
noncomputable def Fr (F:Lbl->Prop) (s s':MS):Prop:=(∀ l:Lbl,l.2 < s.cnt l.1->¬ F l->s'.heap l=s.heap l)/\∀ k,s.cnt k<=s'.cnt k
theorem Fr.refl (F:Lbl->Prop) (s:MS):Fr F s s:=⟨fun ξ ξ ξ=>rfl,fun ξ=>Zs _⟩
theorem Fr.trans {F:Lbl->Prop}{s s' s'':MS} (a:Fr F s s') (b:Fr F s' s''):Fr F s s'' :=
 ⟨fun l h n=>(b.1 l (Zi h (a.2 l.1)) n).trans (a.1 l h n),fun k=>Zp (a.2 k) (b.2 k)⟩
theorem Fr.mono {F G:Lbl->Prop}{s s':MS} (a:Fr F s s') (h:∀ l,F l->G l):Fr G s s':=⟨fun l hl n=>a.1 l hl fun q=>n (h l q),a.2⟩
theorem Fr.put {F:Lbl->Prop}{s s':MS} (a:Fr F s s') {l:Lbl} (h:F l) (o:MObj):Fr F s (s'.put l o) :=
 ⟨fun x hx n=>(zm fun (e:x=l)=>n (e.symm▸h)).trans (a.1 x hx n),a.2⟩
noncomputable def At1 (l:Lbl):Lbl->Prop:=fun x=>x=l
theorem at1 (l:Lbl):At1 l l:=rfl
set_option tactic.hygienic true in
theorem zqm (s:MS) (k:Nat) (o:MObj) (j:Nat):s.cnt j<=(s.new k o).cnt j:=by
 show s.cnt j<=if j=k then s.cnt k+1 else s.cnt j
 split
 ·rename_i e;subst e;exact Zw _
 ·exact Zs _
theorem uj (s:MS) (k:Nat) (o:MObj):(s.new k o).cnt k=s.cnt k+1:=Zg rfl
theorem Fr.new {F:Lbl->Prop}{s s':MS} (a:Fr F s s') (k:Nat) (o:MObj):Fr F s (s'.new k o) :=
 ⟨fun x hx n=>(qu fun e=>by
   have h1:=a.2 x.1
   rw[e] at h1 hx
   exact Nat.lt_irrefl _ (Zi hx h1)).trans (a.1 x hx n),fun j=>Zp (a.2 j) (zqm s' k o j)⟩
structure HIx where
 k:Nat
 w:Nat
 la:Nat
 fr:Nat
noncomputable def jw (num:Int) (x:HIx):MObj:=.inst 1 [(0,.int num),(4,.ref (4,x.k)),(5,.ref (5,x.w)),(6,.ref (6,x.la)),(7,.ref (7,x.fr))]
structure HAt (s:MS) (i:Nat) (x:HIx) (h:HS):Prop where
 o:s.heap (2,i)=some (jw h.num x)
 k:s.heap (4,x.k)=some (.dict (zw h.known))
 w:s.heap (5,x.w)=some (.dict (zw h.written))
 la:s.heap (6,x.la)=some (.list (h.laid.map z9))
 fr:s.heap (7,x.fr)=some (.list (h.fresh.map vy))
 io:i < s.cnt 2
 ik:x.k < s.cnt 4
 iw:x.w < s.cnt 5
 il:x.la < s.cnt 6
 ir:x.fr < s.cnt 7
noncomputable def HF (i:Nat) (x:HIx) (l:Lbl):Prop:=l=(2,i)\/l=(4,x.k)\/l=(5,x.w)\/l=(6,x.la)\/l=(7,x.fr)
theorem HAt.step {F:Lbl->Prop}{s s':MS}{i:Nat}{x:HIx}{h:HS} (a:HAt s i x h) (f:Fr F s s') (n:∀ l,HF i x l->¬ F l):HAt s' i x h where
 o:=(f.1 _ a.io (n _ (.inl rfl))).trans a.o
 k:=(f.1 _ a.ik (n _ (.inr (.inl rfl)))).trans a.k
 w:=(f.1 _ a.iw (n _ (.inr (.inr (.inl rfl))))).trans a.w
 la:=(f.1 _ a.il (n _ (.inr (.inr (.inr (.inl rfl)))))).trans a.la
 fr:=(f.1 _ a.ir (n _ (.inr (.inr (.inr (.inr rfl)))))).trans a.fr
 io:=Zi a.io (f.2 2)
 ik:=Zi a.ik (f.2 4)
 iw:=Zi a.iw (f.2 5)
 il:=Zi a.il (f.2 6)
 ir:=Zi a.ir (f.2 7)
theorem HAt.laid {s:MS}{i:Nat}{x:HIx}{h:HS} (a:HAt s i x h) (l:List Letter):HAt (s.put (6,x.la) (.list (l.map z9))) i x {h with laid:=l} :=
 ⟨(zm (zd (by decide))).trans a.o,(zm (zd (by decide))).trans a.k,(zm (zd (by decide))).trans a.w,zl _ _ _,(zm (zd (by decide))).trans a.fr,a.io,a.ik,a.iw,a.il,a.ir⟩
theorem HAt.fresh {s:MS}{i:Nat}{x:HIx}{h:HS} (a:HAt s i x h) (l:List LRow):HAt (s.put (7,x.fr) (.list (l.map vy))) i x {h with fresh:=l} :=
 ⟨(zm (zd (by decide))).trans a.o,(zm (zd (by decide))).trans a.k,(zm (zd (by decide))).trans a.w,(zm (zd (by decide))).trans a.la,zl _ _ _,a.io,a.ik,a.iw,a.il,a.ir⟩
theorem HAt.known {s:MS}{i:Nat}{x:HIx}{h:HS} (a:HAt s i x h) (k:qv):HAt (s.put (4,x.k) (.dict (zw k))) i x {h with known:=k} :=
 ⟨(zm (zd (by decide))).trans a.o,zl _ _ _,(zm (zd (by decide))).trans a.w,(zm (zd (by decide))).trans a.la,(zm (zd (by decide))).trans a.fr,a.io,a.ik,a.iw,a.il,a.ir⟩
theorem HAt.laid1 {s:MS}{i:Nat}{x:HIx}{h:HS} (a:HAt s i x h) (L:Letter):HAt (s.put (6,x.la) (.list (h.laid.map z9++[z9 L]))) i x {h with laid:=h.laid++[L]}:=by
 have:=a.laid (h.laid++[L])
 rwa [Qb] at this
theorem HAt.fresh1 {s:MS}{i:Nat}{x:HIx}{h:HS} (a:HAt s i x h) (L:LRow):HAt (s.put (7,x.fr) (.list (h.fresh.map vy++[vy L]))) i x {h with fresh:=h.fresh++[L]}:=by
 have:=a.fresh (h.fresh++[L])
 rwa [Qb] at this
structure HZ (h:HS):Prop where
 la:h.laid.length < 16777000
 fr:h.fresh.length < 16777000
 k:h.known.length < 1000
 w:h.written.length < 1000
noncomputable def KOk (k:qv):Prop:=∀ p∈k,MOk p.2.marks
section
variable {P:Prog} (H:HouseP P) {n i:Nat}{x:HIx}{s:MS}{h:HS}{key:Key}{r:Row}
theorem gv {α:Type}{f:α->V}{l:List α} (h:l.length < 16777000):(l.map f).length < 16777216:=by rw[Zd];lia
theorem y6 {k:qv} (h:k.length < 1000):(zw k).length < 16777216:=by rw[zw,Zd];lia
theorem b5 {k:qv} (h:k.length < 1000):(zw k).length<=1000:=by rw[zw,Zd];lia
theorem zov (st:St):decide (stS st=[104,101,114,101])=decide (st=.here):=by cases st <;> rfl
theorem g7 (st:St):decide (stS st=[111,119,101,115])=decide (st=.owes):=by cases st <;> rfl
theorem pp (hk:qb key h.known=some r):jh (.str key) (zw h.known)=some (.tup [.str (stS r.st),.int r.turn,.int r.amt,kz r.marks]):=by
 rw[vp,hk];rfl
theorem zwn {s:MS}{l:Lbl}{d:List (V×V)} (h:s.heap l=some (.dict d)) (key:Key):cmpOp .isin (.str key) (.ref l) s=.ok (.bool (jh (.str key) d).isSome) s:=by
 have e:cmpOp.memb (.str key) (.ref l) s=some (jh (.str key) d).isSome:=by
  delta cmpOp.memb zr;dsimp only;rw[h];rfl
 show okB s (cmpOp.memb (.str key) (.ref l) s)=_
 rw[e];rfl
include H
theorem zkh (n:Nat) (a:Int) (w:W) (s:MS):run P (n+1) 2 [.int a,wv w] s=.ok (.tup [.int (dn a w).1,.int (dn a w).2]) s:=by
 refine z4 (zj H.done rfl ?_)
 cases w with
 | get=>exact zo (t:=false) rfl (zh (zo (t:=false) rfl (zh (zu rfl ⟨rfl,rfl⟩))))
 | set j=>exact zo (t:=true) rfl (zu rfl ⟨rfl,rfl⟩)
 | add j=>exact zo (t:=false) rfl (zh (zo (t:=true) rfl (zu rfl ⟨rfl,rfl⟩)))
theorem y8 (n:Nat) (a:HAt s i x h) (key:Key):run P (n+1) 21 [.ref (2,i),.str key] s=.ok (.bool (h.has key)) s:=by
 refine z4 (zj H.has rfl ?_)
 obtain⟨ho,hk,-⟩:=a
 have hin:ev P (run P n) (.cmp (.loc 1) .isin (.attr (.loc 0) 4)) [some (.ref (2,i)),some (.str key)] s=.ok (.bool (jh (.str key) (zw h.known)).isSome) s :=
  kq rfl (by (repeat' first | exact rfl | apply zn | exact z3 (by assumption) rfl)) (zwn hk key)
 rw[vp] at hin
 unfold HS.has
 cases e:qb key h.known with
 | none =>
  rw[e] at hin
  exact zu (p6 hin) ⟨rfl,rfl⟩
 | some r =>
  rw[e] at hin
  have hd:=pp e
  refine zu (vr hin (yl (by (repeat' first | exact rfl | apply zn | apply q6 | apply kq | exact z3 (by assumption) rfl | exact wj _ _ _ _ _ (by assumption) (by first | exact rfl | assumption))))) ⟨Qd V.bool (zov r.st),rfl⟩
theorem dc (n:Nat) {num:Int} (ho:s.heap (2,i)=some (jw num x)) (key:Key) (r:Row) :
  run P (n+1) 25 [.ref (2,i),.str key,.tup [.str (stS r.st),.int r.turn,.int r.amt,kz r.marks]] s=.ok (z9 (xx num key r)) s:=by
 refine z4 (zj H.parcel rfl ?_)
 exact zu (by (repeat' first | exact rfl | apply zn | apply jo | apply m4 | apply zf | exact z3 (by assumption) rfl)) ⟨rfl,rfl⟩
omit H
noncomputable def wm (c:Int) (ms:List qp):List qp:=ms.filter fun m=>!decide (m.1=c)
noncomputable def zr7 (c:Int) (m:V):Bool:=match m with | .tup [.int a,_,_]=>!decide (a=c) | _=>false
theorem gk (c:Int):∀ ms:List qp,(ms.map qj).filter (zr7 c)=(wm c ms).map qj
 | []=>rfl
 | m::l=>by
  rw[wm,Zz,List.filter_cons,List.filter_cons]
  show(if (!decide (m.1=c))=true then _ else _)=_
  rw[gk c l,wm]
  split <;> rfl
theorem ub {α:Type}{f:α->V}{l:List α}{v:V} (h:v∈l.map f):∃ a,a∈l/\v=f a:=by
 obtain⟨a,h1,h2⟩:=Z1.1 h
 exact⟨a,h1,h2.symm⟩
theorem zz6 {ms:List qp} (h:MOk ms):ms.length<=6:=by have:=Up.len (by lia) (by lia) h;lia
theorem im {ms:List qp}{c n t:Int}{s:MS} (h:MOk ms) (h0:0<=c) (h6:c < 6) :
  prim .sorted [.lst ((wm c ms).map qj++[.tup [.int c,.int n,.int t]])] s=.ok (.lst ((zcb (c,n,t) ms).map qj)) s:=by
 have e:ju ((wm c ms).map qj++[V.tup [.int c,.int n,.int t]])=some ((zcb (c,n,t) ms).map qj):=aq (x:=(c,n,t)) (Up.filter _ h) (ur ms c) h0 h6
 show(match ju ((wm c ms).map qj++[V.tup [.int c,.int n,.int t]]) with | some m=>Res.ok (V.lst m) s | none=>.stuck)=_
 rw[e]
noncomputable def MI (c n:Int) (all rem:List qp):Prop:=yy c all=yy c rem\/(∃ p,yy c all=some p/\p.1 < n/\∀ x∈rem,x.1≠c)
theorem MI.next {c n:Int}{all rem:List qp}{m:qp} (h:MI c n all (m::rem)) (hc:m.1≠c):MI c n all rem:=by
 rcases h with h | ⟨p,h1,h2,h3⟩
 ·rw[yy,Zh hc] at h;exact .inl h
 ·exact .inr ⟨p,h1,h2,fun x hx=>h3 x (Zk _ hx)⟩
theorem MI.here {c n:Int}{all rem:List qp}{m:qp} (h:MI c n all (m::rem)) (hc:m.1=c):yy c all=some m.2:=by
 rcases h with h | ⟨p,h1,h2,h3⟩
 ·rw[yy,Zg hc] at h;exact h
 ·exact(h3 m (Zm ..) hc).elim
theorem zqn {c a:Int}{m:qp}{rem:List qp} (h:Up a (m::rem)) (hc:m.1=c):∀ x∈rem,x.1≠c:=fun x hx e=>by
 have:=Up.mem h.2.2 x hx;lia
include H
omit H
theorem zdm {c n:Int}{w:W}{p:Int×Int} (e:yy c r.marks=some p) (hn:n < p.1):h.called c n key w r=h:=by
 delta HS.called;rw[e];exact Zg hn
theorem za7 {c n:Int}{w:W}{p:Int×Int} (e:yy c r.marks=some p) (hn:p.1=n):h.called c n key w r=h.again c n p.2:=by
 delta HS.called;rw[e];exact(Zh (by omega)).trans (Zg hn)
theorem zey {c n:Int}{w:W} (e:MI c n r.marks []):h.called c n key w r=h.first c n key w r:=by
 delta HS.called
 rcases e with e | ⟨p,e,q,-⟩
 ·rw[e];rfl
 ·rw[e];exact(Zh (by omega)).trans (Zh (by omega))
theorem MI.more {c n:Int}{all rem:List qp}{m:qp}{b:Int} (h:MI c n all (m::rem)) (u:Up b (m::rem)) (k:m.1=c->m.2.1 < n):MI c n all rem:=by
 by_cases hc:m.1=c
 ·exact .inr ⟨_,h.here hc,k hc,zqn u hc⟩
 ·exact h.next hc
theorem zny {C:Calls}{a b:E}{l:Loc}{s:MS}{q:Lbl}{xs:List V}{v:V} (h1:ev P C a l s=.ok (.ref q) s) (h2:s.heap q=some (.list xs)) (h3:ev P C b l s=.ok v s) (h4:xs.length < 16777216):ev P C (.bm .append a [b]) l s=.ok .none (s.put q (.list (xs++[v]))) :=
 ud h1 (jz h2) (zf h3 rfl) (xg _ _ _ _ h2 h4)
noncomputable def zbx (i:Nat) (c num:Int) (key:Key) (w:W) (r:Row) (y:Option V):Loc:=[some (.ref (2,i)),some (.int c),some (.int num),some (.str key),some (wv w),some (.tup [.str (stS r.st),.int r.turn,.int r.amt,kz r.marks]),y,none,none,none]
theorem zcz {C:Calls}{Q:Fl×Loc->MS->Prop}{m:qp}{c num:Int}{w:W} (a:HAt s i x h) (hl:(h.laid.map z9).length < 16777216)
  (k1:m.1=c->num < m.2.1->Q (.ret .none,zbx i c num key w r (some (qj m))) s)
  (k2:m.1=c->m.2.1=num->Q (.ret .none,zbx i c num key w r (some (qj m))) (s.put (6,x.la) (.list (h.laid.map z9++[z9 (.answer c num m.2.2)]))))
  (k3:(m.1=c->m.2.1 < num)->Q (.next,zbx i c num key w r (some (qj m))) s) :
  OkR (exs P C n ztu (zbx i c num key w r (some (qj m))) s) Q:=by
 have hb:∀ {b t:Bool},b=t->Res.ok (V.bool b) s=.ok (V.bool t) s:=fun e=>e▸rfl
 by_cases hc:m.1=c
 ·have h1:=hb (Zb hc)
  by_cases hgt:num < m.2.1
  ·exact zo (t:=true) (vr h1 (yl (hb (Zb hgt)))) (rq (k1 hc hgt))
  ·refine zo (t:=false) (vr h1 (yl (hb (Zc hgt)))) (zh ?_)
   by_cases heq:m.2.1=num
   ·exact zo (t:=true) (vr h1 (yl (hb (Zb heq)))) (qw (zny (zn rfl (z3 a.o rfl)) a.la rfl hl) (rq (k2 hc heq)))
   ·exact zo (t:=false) (vr h1 (yl (hb (Zc heq)))) (zh (zv (k3 fun ξ=>by omega)))
 ·have h1:=hb (Zc hc)
  exact zo (t:=false) (p6 h1) (zh (zo (t:=false) (p6 h1) (zh (zv (k3 fun h=>(hc h).elim)))))
noncomputable def z1e (c num:Int) (r:Row) (s:MS) (rm:List qp) (_:Option V) (t:MS):Prop:=s=t/\MI c num r.marks rm/\∃ b,Up b rm
theorem zcn {C:Calls}{Q:Fl×Loc->MS->Prop}{c num:Int}{w:W} (a:HAt s i x h) (hl:(h.laid.map z9).length < 16777216) (hm:MOk r.marks)
  (kr:∀ l t,HAt t i x (h.called c num key w r)->Fr (HF i x) s t->Q (.ret .none,l) t) (kn:∀ y,h.called c num key w r=h.first c num key w r->Q (.next,zbx i c num key w r y) s) :
  OkR (qt s false (kz r.marks) (wu P C (.inl (.loc 6))) (exs P C n ztu) (r.marks.map qj) (zbx i c num key w r none) s) Q :=
 xb qj (zbx i c num key w r) (z1e c num r s) (fun m rm y t ⟨e,e1,b,e2⟩=>e▸⟨rfl,zcz a hl
   (fun hc hn=>kr _ _ (by rw[zdm (e1.here hc) hn];exact a) (.refl _ _))
   (fun hc hn=>kr _ _ (by rw[za7 (e1.here hc) hn];exact a.laid1 (.answer c num m.2.2)) ((Fr.refl _ _).put (.inr (.inr (.inr (.inl rfl)))) _))
   fun hn=>⟨_,rfl,rfl,e1.more e2 hn,_,e2.2.2⟩⟩)
  (fun y t e=>e.1▸⟨rfl,kn y (zey e.2.1)⟩) _ _ _ ⟨rfl,.inl rfl,_,hm⟩
theorem ziz {C:Calls}{c:Int}{ms:List qp}{a0 a2 a3 a4 a6 a7 a8 a9:Option V}{b0 b1 b2:V} (hm:MOk ms) :
  ev P C (.comp none 9 false (.sub (.loc 5) (.int 3)) (some (.cmp (.sub (.loc 9) (.int 0)) .ne (.loc 1))) (.loc 9)) [a0,some (.int c),a2,a3,a4,some (.tup [b0,b1,b2,kz ms]),a6,a7,a8,a9] s=.ok (.lst ((wm c ms).map qj)) s:=by
 have hl:(0:Nat)+(ms.map qj).length<=ze:=by rw[Zd,Nat.zero_add];exact Zp (zz6 hm) (by decide)
 refine b6 (src:=kz ms) (xs:=ms.map qj) rfl rfl ?_
 rw[<- gk]
 refine(pg s s false (kz ms) 9 _ _ _ (zr7 c) id rfl (ms.map qj) [] (fun v hv=>?_) (fun v hv ξ=>rfl) hl).trans (by rw[List.map_id];rfl)
 obtain⟨m,-,rfl⟩:=ub hv
 rfl
theorem zet {c:Int}{ms:List qp} (hm:MOk ms):((wm c ms).map qj).length+1<=16777216:=by
 rw[Zd,wm]
 exact Nat.succ_le_succ (Zp (List.length_filter_le _ _) (Zp (zz6 hm) (by decide)))
include H
theorem zbr (n:Nat) (a:HAt s i x h) (z:HZ h) (hm:MOk r.marks) {c num:Int} (h0:0<=c) (h6:c < 6) {w:W}{y:Option V}{Q:Fl×Loc->MS->Prop} (k:∀ l t,HAt t i x (h.first c num key w r)->Fr (HF i x) s t->Q (.next,l) t) :
  OkR (exs P (run P (n+1)) (n+1) zv5 (zbx i c num key w r y) s) Q:=by
 refine zk (qh (zf rfl (zf rfl rfl)) (zkh H n r.amt w s)) rfl ?_
 refine zk (jo (ziz hm) rfl (zvi _ _ _ (zet hm))) rfl ?_
 refine x4 (v:=zan ⟨.here,r.turn,(dn r.amt w).1,zcb (c,num,(dn r.amt w).2) r.marks⟩) (m4 (zf rfl (zf (v:=.int r.turn) rfl (zf (v:=.int (dn r.amt w).1) rfl (zf (xr (zf (xr (zf rfl rfl) (im hm h0 h6)) rfl) rfl) rfl)))) rfl) (zn rfl (z3 a.o rfl)) rfl (xj _ _ _ _ _ a.k (y6 z.k)) ?_
 rw[x5]
 have a1:=a.known (qx key ⟨.here,r.turn,(dn r.amt w).1,zcb (c,num,(dn r.amt w).2) r.marks⟩ h.known)
 have a2:=a1.laid1 (.answer c num (dn r.amt w).2)
 refine qw (zny (zn rfl (z3 a1.o rfl)) a1.la rfl (gv z.la)) (qw (zny (zn rfl (z3 a2.o rfl)) a2.fr rfl (gv z.fr)) (zv (k _ _ (a2.fresh1 ⟨c,num,key,w,(dn r.amt w).2⟩) ((((Fr.refl (HF i x) s).put (.inr (.inl rfl)) _).put (.inr (.inr (.inr (.inl rfl)))) _).put (.inr (.inr (.inr (.inr rfl)))) _))))
theorem zd5 (n:Nat) (a:HAt s i x h) (z:HZ h) (hk:qb key h.known=some r) (hm:MOk r.marks) {c num:Int} (h0:0<=c) (h6:c < 6) (w:W) :
  OkR (run P (n+2) 24 [.ref (2,i),.int c,.int num,.str key,wv w] s) fun v s'=>v=.none/\HAt s' i x (h.called c num key w r)/\Fr (HF i x) s s' :=
 zj H.called rfl (zk (q6 (zn rfl (z3 a.o rfl)) rfl (wj _ _ _ _ _ a.k (pp hk))) rfl (ku rfl rfl rfl (zcn a (gv z.la) hm (fun l t b f=>⟨rfl,b,f⟩) fun y e=>zbr H n a z hm h0 h6 fun l t b f=>⟨rfl,by rw[e];exact b,f⟩)))
noncomputable def LOk (h:HS):Letter->Prop
 | .call _ c _ key _=>0<=c/\c < 6/\∃ r,qb key h.known=some r
 | .parcel _ key _ _ _=>∃ r,qb key h.known=some r
 | .taken _ key _=>∃ r,qb key h.known=some r
 | .answer _ _ _=>False
theorem zl0 (n:Nat) (a:HAt s i x h) (z:HZ h) (km:KOk h.known) (L:Letter) (hL:LOk h L) :
  OkR (run P (n+3) 23 [.ref (2,i),z9 L] s) fun v s'=>v=.none/\HAt s' i x (h.came L)/\Fr (HF i x) s s':=by
 have ho:=a.o
 have hkn:=a.k
 have hla:=a.la
 have hll:=gv (f:=z9) z.la
 have hks:=y6 z.k
 have hm0:=H.mhas
 have hm3:=H.mcalled
 refine zj H.came rfl ?_
 cases L with
 | answer=>exact hL.elim
 | call hh c num key w =>
  obtain⟨h0,h6,r,hk⟩:=hL
  have hv:=y8 H (n+1) a key
  refine zo (t:=true) rfl ?_
  have hhas:h.has key=decide (r.st=.here):=by rw[HS.has,hk]
  rw[hhas] at hv
  have e:h.came (.call hh c num key w)=if r.st=.here then h.called c num key w r else h:=bj hk
  rw[e]
  by_cases hs:r.st=.here
  ·rw[Zb hs] at hv
   rw[Zg hs]
   refine zo (t:=true) (by (repeat' first | exact rfl | apply zt | exact(zg (by assumption)).trans (by assumption) | assumption)) (jv (x3 rfl ((zg ho).trans hm3) rfl (zd5 H n a z hk (km _ (vf hk)) h0 h6 w)) ?_)
   rintro v s' ⟨rfl,h1,h2⟩
   exact zh (zh (zv ⟨rfl,h1,h2⟩))
  ·rw[Zc hs] at hv
   rw[Zh hs]
   exact zo (t:=false) (by (repeat' first | exact rfl | apply zt | exact(zg (by assumption)).trans (by assumption) | assumption)) (zh (zh (zv ⟨rfl,a,.refl _ _⟩)))
 | parcel hh key tn am ms =>
  obtain⟨r,hk⟩:=hL
  have hd:=pp hk
  refine zo (t:=false) rfl (zo (t:=true) rfl ?_)
  have e:h.came (.parcel hh key tn am ms)={h with known:=if r.turn < tn then qx key ⟨.here,tn,am,ms⟩ h.known else h.known,laid:=h.laid++[.taken (1-h.num) key tn]}:=yu hk
  rw[e]
  have fin:∀ (k:qv) (t:MS) (Q:Fl×Loc->MS->Prop),HAt t i x {h with known:=k}->Fr (HF i x) s t->(∀ l s',HAt s' i x {h with known:=k,laid:=h.laid++[.taken (1-h.num) key tn]}->Fr (HF i x) s s'->Q (.next,l) s')->
    OkR (exs P (run P (n+2)) (n+2) [.expr (.bm .append (.attr (.loc 0) 6) [.tup [.str [116,97,107,101,110],.bin .sub (.int 1) (.attr (.loc 0) 0),.sub (.loc 1) (.int 2),.sub (.loc 1) (.int 3)]])] [some (.ref (2,i)),some (z9 (.parcel hh key tn am ms)),none] t) Q:=by
   intro k t Q a1 f1 hQ
   have ho1:=a1.o
   have hla1:=a1.la
   exact qw (v:=.none) (s':=t.put (6,x.la) (.list (h.laid.map z9++[z9 (.taken (1-h.num) key tn)]))) (by (repeat' first | exact rfl | apply zn | apply jo | apply m4 | apply ud | apply zf | exact z3 (by assumption) rfl | exact jz (by assumption) | exact xg _ _ _ _ (by assumption) (by assumption))) (zv (hQ _ _ (a1.laid1 (.taken (1-h.num) key tn)) (f1.put (.inr (.inr (.inr (.inl rfl)))) _)))
  by_cases hs:r.turn < tn
  ·rw[Zg hs]
   refine zo (t:=true) ((show _=Res.ok (V.bool (decide (r.turn < tn))) s by (repeat' first | exact rfl | apply zn | apply q6 | apply kq | exact z3 (by assumption) rfl | exact wj _ _ _ _ _ (by assumption) (by first | exact rfl | assumption))).trans (Qd (fun q=>Res.ok (V.bool q) s) (Zb hs))) (x4 (v:=zan ⟨.here,tn,am,ms⟩) rfl (by (repeat' first | exact rfl | apply zn | exact z3 (by assumption) rfl)) rfl (xj _ _ _ _ _ hkn hks) ?_)
   rw[x5]
   exact zh (fin _ _ _ (a.known _) ((Fr.refl _ _).put (.inr (.inl rfl)) _) fun l s' q1 q2=>⟨rfl,q1,q2⟩)
  ·rw[Zh hs]
   refine zo (t:=false) ((show _=Res.ok (V.bool (decide (r.turn < tn))) s by (repeat' first | exact rfl | apply zn | apply q6 | apply kq | exact z3 (by assumption) rfl | exact wj _ _ _ _ _ (by assumption) (by first | exact rfl | assumption))).trans (Qd (fun q=>Res.ok (V.bool q) s) (Zc hs))) (zh ?_)
   exact fin _ _ _ a (.refl _ _) fun l s' q1 q2=>⟨rfl,q1,q2⟩
 | taken hh key tn =>
  obtain⟨r,hk⟩:=hL
  have hd:=pp hk
  refine zo (t:=false) rfl (zo (t:=false) rfl (zk (by (repeat' first | exact rfl | apply zn | apply q6 | exact z3 (by assumption) rfl | exact wj _ _ _ _ _ (by assumption) (by first | exact rfl | assumption))) rfl ?_))
  have e:h.came (.taken hh key tn)=if r.st=.owes/\tn=r.turn+1 then {h with known:=qx key ⟨.gone,r.turn,0,[]⟩ h.known} else h:=wl hk
  rw[e]
  by_cases hs:r.st=.owes
  ·by_cases ht:tn=r.turn+1
   ·rw[Zg ⟨hs,ht⟩]
    refine zo (t:=true) (vr (Qd (fun q=>Res.ok (V.bool q) s) ((g7 r.st).trans (Zb hs))) (yl (Qd (fun q=>Res.ok (V.bool q) s) (Zb ht)))) (x4 (v:=zan ⟨.gone,r.turn,0,[]⟩) rfl (by (repeat' first | exact rfl | apply zn | exact z3 (by assumption) rfl)) rfl (xj _ _ _ _ _ hkn hks) ?_)
    rw[x5]
    exact zh (zh (zh (zv ⟨rfl,a.known _,(Fr.refl _ _).put (.inr (.inl rfl)) _⟩)))
   ·rw[Zh fun q=>ht q.2]
    exact zo (t:=false) (vr (Qd (fun q=>Res.ok (V.bool q) s) ((g7 r.st).trans (Zb hs))) (yl (Qd (fun q=>Res.ok (V.bool q) s) (Zc ht)))) (zh (zh (zh (zv ⟨rfl,a,.refl _ _⟩))))
  ·rw[Zh fun q=>hs q.1]
   exact zo (t:=false) (p6 (Qd (fun q=>Res.ok (V.bool q) s) ((g7 r.st).trans (Zc hs)))) (zh (zh (zh (zv ⟨rfl,a,.refl _ _⟩))))
theorem zkd {xc:Nat} (hf:P.fns 26=some (f_House_move xc)) (n:Nat) (a:HAt s i x h) (z:HZ h) (hk:qb key h.known=some r) (hs:r.st=.here) :
  OkR (run P (n+2) 26 [.ref (2,i),.str key] s) fun v s'=>v=.none/\HAt s' i x (h.move key r)/\Fr (HF i x) s s':=by
 have ho:=a.o
 have hkn:=a.k
 have hd:=pp hk
 have hll:=gv (f:=z9) z.la
 have hks:=y6 z.k
 have hm0:=H.mhas
 have hm4:=H.mparcel
 have hh:=y8 H n a key
 have hhas:h.has key=true:=by rw[HS.has,hk];exact Zb hs
 rw[hhas] at hh
 refine zj hf rfl ?_
 refine zo (t:=false) (s':=s) (jt (t:=true) (by (repeat' first | exact rfl | apply zt | exact(zg (by assumption)).trans (by assumption) | assumption))) (zh (zk (by (repeat' first | exact rfl | apply zn | apply q6 | exact z3 (by assumption) rfl | exact wj _ _ _ _ _ (by assumption) (by first | exact rfl | assumption))) rfl (x4 (v:=zan {r with st:=.owes}) rfl (by (repeat' first | exact rfl | apply zn | exact z3 (by assumption) rfl)) rfl (xj _ _ _ _ _ hkn hks) ?_)))
 rw[x5]
 have a1:=a.known (qx key {r with st:=.owes} h.known)
 have f1:Fr (HF i x) s _:=(Fr.refl (HF i x) s).put (.inr (.inl rfl)) (.dict (zw (qx key {r with st:=.owes} h.known)))
 generalize s.put (4,x.k) (.dict (zw (qx key {r with st:=.owes} h.known)))=t1 at a1 f1
 have ho1:=a1.o
 have hla1:=a1.la
 have hp:=dc H n ho1 key r
 exact qw (v:=.none) (s':=t1.put (6,x.la) (.list (h.laid.map z9++[z9 (xx h.num key r)]))) (by (repeat' first | exact rfl | apply zn | apply zt | apply ud | apply zf | exact z3 (by assumption) rfl | exact(zg (by assumption)).trans (by assumption) | exact jz (by assumption) | exact xg _ _ _ _ (by assumption) (by assumption) | assumption)) (zv ⟨rfl,a1.laid1 (xx h.num key r),f1.put (.inr (.inr (.inr (.inl rfl)))) _⟩)
noncomputable def HIx.fresh (x:HIx) (s:MS):Prop:=s.cnt 4<=x.k/\s.cnt 5<=x.w/\s.cnt 6<=x.la/\s.cnt 7<=x.fr
theorem zi4 (hf:P.fns 27=some f_House_write) (n:Nat) (a:HAt s i x h) (z:HZ h) :
  OkR (run P (n+1) 27 [.ref (2,i)] s) fun v s'=>v=.tup [.ref (6,x.la),.ref (7,x.fr)]/\HAt s' i ⟨x.k,s.cnt 5,s.cnt 6,s.cnt 7⟩ h.write/\Fr (At1 (2,i)) s s':=by
 have ho:=a.o
 have hkn:=a.k
 have hkz:=b5 z.k
 refine zj hf rfl ?_
 have h1:(s.new 5 (.dict (zw h.known))).heap (2,i)=some (jw h.num x):=by (repeat' first | assumption | exact zl _ _ _ | exact z5 _ _ _ | refine(zm (zd (by decide))).trans ?_ | refine(qu (zd (by decide))).trans ?_)
 refine zy (s':=(s.new 5 (.dict (zw h.known))).put (2,i) (jw h.num ⟨x.k,s.cnt 5,x.la,x.fr⟩)) (by (repeat' first | exact rfl | apply zn | apply au | exact z3 (by assumption) rfl | assumption)) rfl (xa 5 _ h1 rfl) ?_
 have f1:Fr (At1 (2,i)) s ((s.new 5 (.dict (zw h.known))).put (2,i) (jw h.num ⟨x.k,s.cnt 5,x.la,x.fr⟩)):=((Fr.refl _ _).new _ _).put (at1 _) _
 have h2:((s.new 5 (.dict (zw h.known))).put (2,i) (jw h.num ⟨x.k,s.cnt 5,x.la,x.fr⟩)).heap (2,i)=some (jw h.num ⟨x.k,s.cnt 5,x.la,x.fr⟩):=zl _ _ _
 have w2:((s.new 5 (.dict (zw h.known))).put (2,i) (jw h.num ⟨x.k,s.cnt 5,x.la,x.fr⟩)).heap (5,s.cnt 5)=some (.dict (zw h.known)):=by (repeat' first | assumption | exact zl _ _ _ | exact z5 _ _ _ | refine(zm (zd (by decide))).trans ?_ | refine(qu (zd (by decide))).trans ?_)
 have c5:((s.new 5 (.dict (zw h.known))).put (2,i) (jw h.num ⟨x.k,s.cnt 5,x.la,x.fr⟩)).cnt 5=s.cnt 5+1:=rfl
 have c6:((s.new 5 (.dict (zw h.known))).put (2,i) (jw h.num ⟨x.k,s.cnt 5,x.la,x.fr⟩)).cnt 6=s.cnt 6:=rfl
 have c7:((s.new 5 (.dict (zw h.known))).put (2,i) (jw h.num ⟨x.k,s.cnt 5,x.la,x.fr⟩)).cnt 7=s.cnt 7:=rfl
 generalize (s.new 5 (.dict (zw h.known))).put (2,i) (jw h.num ⟨x.k,s.cnt 5,x.la,x.fr⟩)=t at f1 h2 w2 c5 c6 c7
 refine zk (v:=.tup [.ref (6,x.la),.ref (7,x.fr)]) (s':=t) (by (repeat' first | exact rfl | apply zn | apply m4 | apply zf | exact z3 (by assumption) rfl)) rfl ?_
 have h3:(t.new 6 (.list [])).heap (2,i)=some (jw h.num ⟨x.k,s.cnt 5,x.la,x.fr⟩):=by (repeat' first | assumption | exact zl _ _ _ | exact z5 _ _ _ | refine(zm (zd (by decide))).trans ?_ | refine(qu (zd (by decide))).trans ?_)
 refine zy (v:=.ref (6,t.cnt 6)) (s':=(t.new 6 (.list [])).put (2,i) (jw h.num ⟨x.k,s.cnt 5,t.cnt 6,x.fr⟩)) rfl rfl (xa 6 _ h3 rfl) ?_
 have h4:(((t.new 6 (.list [])).put (2,i) (jw h.num ⟨x.k,s.cnt 5,t.cnt 6,x.fr⟩)).new 7 (.list [])).heap (2,i)=some (jw h.num ⟨x.k,s.cnt 5,t.cnt 6,x.fr⟩):=by (repeat' first | assumption | exact zl _ _ _ | exact z5 _ _ _ | refine(zm (zd (by decide))).trans ?_ | refine(qu (zd (by decide))).trans ?_)
 refine zy (v:=.ref (7,t.cnt 7)) (s':=(((t.new 6 (.list [])).put (2,i) (jw h.num ⟨x.k,s.cnt 5,t.cnt 6,x.fr⟩)).new 7 (.list [])).put (2,i) (jw h.num ⟨x.k,s.cnt 5,t.cnt 6,t.cnt 7⟩)) rfl rfl (xa 7 _ h4 rfl) ?_
 have f2:=(((f1.new 6 (.list [])).put (at1 _) (jw h.num ⟨x.k,s.cnt 5,t.cnt 6,x.fr⟩)).new 7 (.list [])).put (at1 _) (jw h.num ⟨x.k,s.cnt 5,t.cnt 6,t.cnt 7⟩)
 refine zu (v:=.tup [.ref (6,x.la),.ref (7,x.fr)]) rfl ⟨rfl,?_,f2⟩
 have hk':=(f2.1 (4,x.k) a.ik (zd (by decide))).trans a.k
 rw[c6,c7] at hk' f2 ⊢
 refine⟨zl _ _ _,hk',by (repeat' first | assumption | exact zl _ _ _ | exact z5 _ _ _ | refine(zm (zd (by decide))).trans ?_ | refine(qu (zd (by decide))).trans ?_),?_,?_,Zi a.io (f2.2 2),Zi a.ik (f2.2 4),?_,?_,?_⟩
 ·rw[<- c6];(repeat' first | assumption | exact zl _ _ _ | exact z5 _ _ _ | refine(zm (zd (by decide))).trans ?_ | refine(qu (zd (by decide))).trans ?_)
 ·rw[<- c7];exact(zm (zd (by decide))).trans (z5 _ 7 _)
 ·show s.cnt 5 < t.cnt 5;rw[c5];exact Zy _
 ·show s.cnt 6 < t.cnt 6+1;rw[c6];exact Zy _
 ·show s.cnt 7 < t.cnt 7+1;rw[c7];exact Zy _
theorem zjc (hf:P.fns 28=some f_House_sleep) (n:Nat) (a:HAt s i x h) (z:HZ h) :
  OkR (run P (n+1) 28 [.ref (2,i)] s) fun v s'=>v=.none/\HAt s' i ⟨s.cnt 4,x.w,s.cnt 6,s.cnt 7⟩ h.sleep/\Fr (At1 (2,i)) s s':=by
 have ho:=a.o
 have hwn:=a.w
 have hwz:=b5 z.w
 refine zj hf rfl ?_
 have h1:(s.new 4 (.dict (zw h.written))).heap (2,i)=some (jw h.num x):=by (repeat' first | assumption | exact zl _ _ _ | exact z5 _ _ _ | refine(zm (zd (by decide))).trans ?_ | refine(qu (zd (by decide))).trans ?_)
 refine zy (s':=(s.new 4 (.dict (zw h.written))).put (2,i) (jw h.num ⟨s.cnt 4,x.w,x.la,x.fr⟩)) (by (repeat' first | exact rfl | apply zn | apply au | exact z3 (by assumption) rfl | assumption)) rfl (xa 4 _ h1 rfl) ?_
 have f1:Fr (At1 (2,i)) s ((s.new 4 (.dict (zw h.written))).put (2,i) (jw h.num ⟨s.cnt 4,x.w,x.la,x.fr⟩)):=((Fr.refl _ _).new _ _).put (at1 _) _
 have h2:((s.new 4 (.dict (zw h.written))).put (2,i) (jw h.num ⟨s.cnt 4,x.w,x.la,x.fr⟩)).heap (2,i)=some (jw h.num ⟨s.cnt 4,x.w,x.la,x.fr⟩):=zl _ _ _
 have w2:((s.new 4 (.dict (zw h.written))).put (2,i) (jw h.num ⟨s.cnt 4,x.w,x.la,x.fr⟩)).heap (4,s.cnt 4)=some (.dict (zw h.written)):=by (repeat' first | assumption | exact zl _ _ _ | exact z5 _ _ _ | refine(zm (zd (by decide))).trans ?_ | refine(qu (zd (by decide))).trans ?_)
 have c4:((s.new 4 (.dict (zw h.written))).put (2,i) (jw h.num ⟨s.cnt 4,x.w,x.la,x.fr⟩)).cnt 4=s.cnt 4+1:=rfl
 have c6:((s.new 4 (.dict (zw h.written))).put (2,i) (jw h.num ⟨s.cnt 4,x.w,x.la,x.fr⟩)).cnt 6=s.cnt 6:=rfl
 have c7:((s.new 4 (.dict (zw h.written))).put (2,i) (jw h.num ⟨s.cnt 4,x.w,x.la,x.fr⟩)).cnt 7=s.cnt 7:=rfl
 generalize (s.new 4 (.dict (zw h.written))).put (2,i) (jw h.num ⟨s.cnt 4,x.w,x.la,x.fr⟩)=t at f1 h2 w2 c4 c6 c7
 have h3:(t.new 6 (.list [])).heap (2,i)=some (jw h.num ⟨s.cnt 4,x.w,x.la,x.fr⟩):=by (repeat' first | assumption | exact zl _ _ _ | exact z5 _ _ _ | refine(zm (zd (by decide))).trans ?_ | refine(qu (zd (by decide))).trans ?_)
 refine zy (v:=.ref (6,t.cnt 6)) (s':=(t.new 6 (.list [])).put (2,i) (jw h.num ⟨s.cnt 4,x.w,t.cnt 6,x.fr⟩)) rfl rfl (xa 6 _ h3 rfl) ?_
 have h4:(((t.new 6 (.list [])).put (2,i) (jw h.num ⟨s.cnt 4,x.w,t.cnt 6,x.fr⟩)).new 7 (.list [])).heap (2,i)=some (jw h.num ⟨s.cnt 4,x.w,t.cnt 6,x.fr⟩):=by (repeat' first | assumption | exact zl _ _ _ | exact z5 _ _ _ | refine(zm (zd (by decide))).trans ?_ | refine(qu (zd (by decide))).trans ?_)
 refine zy (v:=.ref (7,t.cnt 7)) (s':=(((t.new 6 (.list [])).put (2,i) (jw h.num ⟨s.cnt 4,x.w,t.cnt 6,x.fr⟩)).new 7 (.list [])).put (2,i) (jw h.num ⟨s.cnt 4,x.w,t.cnt 6,t.cnt 7⟩)) rfl rfl (xa 7 _ h4 rfl) ?_
 have f2:=(((f1.new 6 (.list [])).put (at1 _) (jw h.num ⟨s.cnt 4,x.w,t.cnt 6,x.fr⟩)).new 7 (.list [])).put (at1 _) (jw h.num ⟨s.cnt 4,x.w,t.cnt 6,t.cnt 7⟩)
 refine zv ⟨rfl,?_,f2⟩
 have hw':=(f2.1 (5,x.w) a.iw (zd (by decide))).trans a.w
 rw[c6,c7] at hw' f2 ⊢
 refine⟨zl _ _ _,by (repeat' first | assumption | exact zl _ _ _ | exact z5 _ _ _ | refine(zm (zd (by decide))).trans ?_ | refine(qu (zd (by decide))).trans ?_),hw',?_,?_,Zi a.io (f2.2 2),?_,Zi a.iw (f2.2 5),?_,?_⟩
 ·rw[<- c6];(repeat' first | assumption | exact zl _ _ _ | exact z5 _ _ _ | refine(zm (zd (by decide))).trans ?_ | refine(qu (zd (by decide))).trans ?_)
 ·rw[<- c7];exact(zm (zd (by decide))).trans (z5 _ 7 _)
 ·show s.cnt 4 < t.cnt 4;rw[c4];exact Zy _
 ·show s.cnt 6 < t.cnt 6+1;rw[c6];exact Zy _
 ·show s.cnt 7 < t.cnt 7+1;rw[c7];exact Zy _
omit H
theorem dg {s:MS}{r:Lbl}{d:List (V×V)} (h:s.heap r=some (.dict d)):zz s false (.ref r)=some (d.map (·.1)):=by
 show(match dictAt (.ref r) s with | some p=>some (p.2.map fun q:V×V=>q.1) | none=>(zr s (.ref r)).map fun q:Bool×List V=>q.2)=_
 rw[zgn h]
theorem dm (s:MS) (v:V) (b:Bool):stays s s b v=true:=by
 cases b with
 | true=>rfl
 | false=>cases v <;> first | rfl | (show(decide _&&(_||decide _))=true;rw[Zb rfl,Zb rfl,Bool.or_true];rfl)
theorem wf {key:Key}{r:Row}:∀ {k:qv},(k.map (·.1)).Nodup->(key,r)∈k->qb key k=some r
 | [],_,h=>by cases h
 | (a,r')::l,nd,h=>by
  rw[Zz,List.nodup_cons] at nd
  rcases Zu.1 h with h | h
  ·cases h;exact Zg rfl
  ·by_cases e:a=key
   ·exact(nd.1 (e▸Z1.2 ⟨_,h,rfl⟩)).elim
   ·exact(Zh e).trans (wf nd.2 h)
noncomputable def znu (k:qv) (st:St) (v:V):Bool:=match v with
 | .str key=>(match qb key k with | some r=>decide (r.st=st) | none=>false)
 | _=>false
theorem my {k:qv}{st:St} (nd:(k.map (·.1)).Nodup):((zw k).map (·.1)).filter (znu k st)=(k.filter fun p=>decide (p.2.st=st)).map fun p=>V.str p.1:=by
 have e:(zw k).map (·.1)=k.map fun p=>V.str p.1:=by rw[zw,List.map_map];rfl
 rw[e,List.filter_map]
 congr 1
 refine List.filter_congr fun p hp=>?_
 show(match qb p.1 k with | some r=>decide (r.st=st) | none=>false)=_
 rw[wf nd hp]
theorem pn {k:qv}{v:V} (h:v∈(zw k).map (·.1)):∃ key r,v=.str key/\qb key k=some r:=by
 obtain⟨p,hp,rfl⟩:=Z1.1 h
 obtain⟨q,hq,rfl⟩:=Z1.1 hp
 obtain⟨r,hr⟩:=ls (Z1.2 ⟨q,hq,rfl⟩)
 exact⟨q.1,r,rfl,hr⟩
theorem zih {C:Calls}{L:Loc} (a:HAt s i x h) (z:HZ h) (nd:(h.known.map (·.1)).Nodup) :
  compLoop s false (.ref (4,x.k)) 1 (evC P C (some (.cmp (.sub (.sub (.attr (.loc 0) 4) (.loc 1)) (.int 0)) .eq (.str [111,119,101,115])))) (ev P C (.loc 1)) [some (.ref (2,i)),none] [] ((zw h.known).map (·.1)) s=.ok (h.owes.map .str) s:=by
 have ho:=a.o
 have hkn:=a.k
 have hl:(0:Nat)+((zw h.known).map (·.1)).length<=ze:=by have:=y6 z.k;rw[Zd];show _<=16777216;lia
 refine(pg s s false (.ref (4,x.k)) 1 _ _ _ (znu h.known .owes) id (dm _ _ _) _ [] ?_ ?_ hl).trans ?_
 ·intro v hv
  obtain⟨key,r,rfl,hk⟩:=pn hv
  have hd:=pp hk
  show ev P C _ [some (.ref (2,i)),some (.str key)] s=.ok (.bool (match qb key h.known with | some r=>decide (r.st=.owes) | none=>false)) s
  rw[hk]
  show _=Res.ok (V.bool (decide (r.st=.owes))) s
  rw[<- g7]
  (repeat' first | exact rfl | apply zn | apply q6 | apply kq | exact z3 (by assumption) rfl | exact wj _ _ _ _ _ (by assumption) (by first | exact rfl | assumption))
 ·intro v hv _
  rfl
 ·rw[my nd,List.map_id,HS.owes,List.map_map];rfl
include H
theorem nv {fo:Fn} (hfo:fo=f_House_owes) (hf:P.fns 22=some fo) (n:Nat) (a:HAt s i x h) (z:HZ h) (nd:(h.known.map (·.1)).Nodup) :
  run P (n+1) 22 [.ref (2,i)] s=.ok (.ref (14,s.cnt 14)) (s.new 14 (.list (h.owes.map .str))):=by
 subst hfo
 have ho:=a.o
 have hkn:=a.k
 refine z4 (zj hf rfl ?_)
 exact zu (zo1 (src:=.ref (4,x.k)) (by (repeat' first | exact rfl | apply zn | exact z3 (by assumption) rfl)) (dg hkn) (zih (L:=[]) a z nd)) ⟨rfl,rfl⟩
theorem zh5 (hf:P.fns 29=some f_House_nudge) (n:Nat) (a:HAt s i x h) (z:HZ h) (nd:(h.written.map (·.1)).Nodup) :
  run P (n+2) 29 [.ref (2,i)] s=.ok (.lst (h.nudge.map z9)) s:=by
 have ho:=a.o
 have hwn:=a.w
 have hm4:=H.mparcel
 refine z4 (zj hf rfl ?_)
 have hl:(0:Nat)+((zw h.written).map (·.1)).length<=ze:=by have:=y6 z.w;rw[Zd];show _<=16777216;lia
 refine zu (b6 (src:=.ref (5,x.w)) (by (repeat' first | exact rfl | apply zn | exact z3 (by assumption) rfl)) (dg hwn) (pg s s false (.ref (5,x.w)) 1 _ _ _ (znu h.written .owes) (fun v=>match v with | .str key=>(match qb key h.written with | some r=>z9 (xx h.num key r) | none=>.none) | _=>.none) (dm _ _ _) _ [] ?_ ?_ hl)) ⟨?_,rfl⟩
 ·intro v hv
  obtain⟨key,r,rfl,hk⟩:=pn hv
  have hd:jh (.str key) (zw h.written)=some (.tup [.str (stS r.st),.int r.turn,.int r.amt,kz r.marks]):=by rw[vp,hk];rfl
  show ev P _ _ [some (.ref (2,i)),some (.str key)] s=.ok (.bool (match qb key h.written with | some r=>decide (r.st=.owes) | none=>false)) s
  rw[hk]
  show _=Res.ok (V.bool (decide (r.st=.owes))) s
  rw[<- g7]
  (repeat' first | exact rfl | apply zn | apply q6 | apply kq | exact z3 (by assumption) rfl | exact wj _ _ _ _ _ (by assumption) (by first | exact rfl | assumption))
 ·intro v hv _
  obtain⟨key,r,rfl,hk⟩:=pn hv
  have hd:jh (.str key) (zw h.written)=some (.tup [.str (stS r.st),.int r.turn,.int r.amt,kz r.marks]):=by rw[vp,hk];rfl
  have hp:=dc H n ho key r
  show ev P _ _ [some (.ref (2,i)),some (.str key)] s=.ok (match qb key h.written with | some r=>z9 (xx h.num key r) | none=>.none) s
  rw[hk]
  (repeat' first | exact rfl | apply zn | apply q6 | apply zt | apply zf | exact z3 (by assumption) rfl | exact wj _ _ _ _ _ (by assumption) (by first | exact rfl | assumption) | exact(zg (by assumption)).trans (by assumption) | assumption)
 ·show V.lst ([]++_)=_
  rw[List.nil_append,my nd,HS.nudge,List.map_map,List.map_map]
  congr 1
  refine List.map_congr_left fun p hp=>?_
  show(match qb p.1 h.written with | some r=>z9 (xx h.num p.1 r) | none=>V.none)=z9 (xx h.num p.1 p.2)
  rw[wf nd (List.mem_filter.1 hp).1]
omit H
theorem tt (key:Key) (a b:Row):∀ k:qv,qx key b (qx key a k)=qx key b k
 | []=>Zg rfl
 | (c,r)::l=>by
  by_cases h:c=key
  ·rw[qx,Zg h,qx,Zg h,qx,Zg h]
  ·rw[qx,Zh h,qx,Zh h,tt key a b l,qx,Zh h]
noncomputable def v6 (num:Int):Row:=if num=0 then ⟨.here,0,0,[]⟩ else ⟨.gone,-1,0,[]⟩
noncomputable def KeysV (kv:V) (ks:List Key) (s:MS):Prop:=kv=.lst (ks.map .str)\/∃ r:Lbl,kv=.ref r/\r.1≠2/\r.1≠4/\r.2 < s.cnt r.1/\s.heap r=some (.list (ks.map .str))
theorem zfo {s:MS}{r:Lbl}{l:List V} (h:s.heap r=some (.list l)):dictAt (.ref r) s=none:=by
 show(match s.heap r with | some (.dict l)=>some (r,l) | _=>none)=_
 rw[h]
theorem zea {s:MS}{r:Lbl}{l:List V} (h:s.heap r=some (.list l)):zz s false (.ref r)=some l:=by
 show(match dictAt (.ref r) s with | some p=>some (p.2.map fun q:V×V=>q.1) | none=>(zr s (.ref r)).map fun q:Bool×List V=>q.2)=_
 rw[zfo h,qd h];rfl
theorem KeysV.items {kv:V}{ks:List Key}{s:MS} (h:KeysV kv ks s):zz s false kv=some (ks.map .str):=by
 rcases h with rfl | ⟨r,rfl,-,-,-,h⟩
 ·rfl
 ·exact zea h
theorem KeysV.stays {F:Lbl->Prop}{kv:V}{ks:List Key}{s t:MS} (h:KeysV kv ks s) (f:Fr F s t) (hF:∀ l,F l->l.1=2\/l.1=4):stays s t false kv=true:=by
 rcases h with rfl | ⟨r,rfl,h2,h4,hc,h⟩
 ·rfl
 ·show(decide _&&((dictAt (.ref r) s).isNone||_))=true
  rw[Zb (f.1 r hc fun q=>(hF r q).elim h2 h4).symm,zfo h];rfl
theorem KeysV.step {F:Lbl->Prop}{kv:V}{ks:List Key}{s t:MS} (h:KeysV kv ks s) (f:Fr F s t) (hF:∀ l,F l->l.1=2\/l.1=4):KeysV kv ks t:=by
 rcases h with rfl | ⟨r,rfl,h2,h4,hc,h⟩
 ·exact .inl rfl
 ·exact .inr ⟨r,rfl,h2,h4,Zi hc (f.2 _),(f.1 r hc fun q=>(hF r q).elim h2 h4).trans h⟩
include H
omit H in
theorem Fr.fresh {F:Lbl->Prop}{s t u:MS}{r:Lbl} (a:Fr F s t) (b:Fr (At1 r) t u) (h:s.cnt r.1<=r.2):Fr F s u :=
 ⟨fun x hx n=>(b.1 x (Zi hx (a.2 _)) fun (e:x=r)=>Nat.not_lt_of_le h (e▸hx)).trans (a.1 x hx n),fun k=>Zp (a.2 k) (b.2 k)⟩
omit H in
theorem eg (key:Key) (a:Row):∀ k:qv,(qx key a k).length<=k.length+1
 | []=>Zs _
 | p::l=>by
  rw[qx]
  split
  ·exact Zw _
  ·exact Nat.succ_le_succ (eg key a l)
noncomputable def zfd (num:Int) (d:Nat):MObj:=.inst 1 [(0,.int num),(4,.ref (4,d))]
noncomputable def dh (num:Int) (kv:V) (i:Nat) (y:Option V):Loc:=[some (.ref (2,i)),some (.int num),some kv,y]
omit H in
theorem zhm {C:Calls}{n d:Nat}{l:Loc}{u:MS}{k0:qv}{num:Int}{Q:Fl×Loc->MS->Prop} (hu:u.heap (2,i)=some (zfd num d)) (e3:u.heap (4,d)=some (.dict (zw k0))) (hz:k0.length < 1000) (hi:i < u.cnt 2) (hd:d < u.cnt 4)
  (k:∀ t,HAt t i ⟨d,u.cnt 5,u.cnt 6,u.cnt 7⟩ ⟨num,k0,k0,[],[]⟩->Fr (At1 (2,i)) u t->(∀ k,k≠5->k≠6->k≠7->t.cnt k=u.cnt k)->Q (.next,some (.ref (2,i))::l) t) :
  OkR (exs P C n zsb (some (.ref (2,i))::l) u) Q:=by
 refine zy (au (zn rfl (z3 hu rfl)) e3 (b5 hz)) rfl (xa 5 _ ((qu (zd (by decide))).trans hu) rfl) (zy rfl rfl (xa 6 _ ((qu (zd (by decide))).trans (zl _ _ _)) rfl) (zy rfl rfl (xa 7 _ ((qu (zd (by decide))).trans (zl _ _ _)) rfl) (zv (k _ ⟨zl _ _ _,by (repeat' first | assumption | exact zl _ _ _ | exact z5 _ _ _ | refine(zm (zd (by decide))).trans ?_ | refine(qu (zd (by decide))).trans ?_),by (repeat' first | assumption | exact zl _ _ _ | exact z5 _ _ _ | refine(zm (zd (by decide))).trans ?_ | refine(qu (zd (by decide))).trans ?_),?_,(zm (zd (by decide))).trans (z5 _ 7 _),hi,hd,Zy _,Zy _,Zy _⟩ (((((((Fr.refl _ _).new _ _).put (at1 _) _).new _ _).put (at1 _) _).new _ _).put (at1 _) _) fun ξ h5 h6 h7=>(Zh h7).trans ((Zh h6).trans (Zh h5))))))
 exact(zm (zd (by decide))).trans ((qu (zd (by decide))).trans ((zm (zd (by decide))).trans (z5 _ 6 _)))
omit H in
theorem zhf {C:Calls}{n d:Nat}{u:MS}{k0:qv}{num:Int}{kv:V}{Q:Fl×Loc->MS->Prop} (key:Key) (hu:u.heap (2,i)=some (zfd num d)) (e3:u.heap (4,d)=some (.dict (zw k0))) (hz:k0.length < 1000)
  (k:∀ t:MS,t.heap (4,d)=some (.dict (zw (qx key (v6 num) k0)))->t.heap (2,i)=some (zfd num d)->Fr (At1 (4,d)) u t->t.cnt=u.cnt->Q (.next,dh num kv i (some (.str key))) t) :
  OkR (exs P C n zgx (dh num kv i (some (.str key))) u) Q:=by
 have hl:∀ {k:qv},k.length<=1000->(zw k).length < 16777216:=fun h=>by rw[zw,Zd];exact Z7 h (by decide)
 refine x4 (v:=zan ⟨.here,0,0,[]⟩) rfl (zn rfl (z3 hu rfl)) rfl (xj _ _ _ _ _ e3 (hl (Nat.le_of_lt hz))) ?_
 rw[x5]
 have h1:∀ o,(u.put (4,d) o).heap (2,i)=some (zfd num d):=fun ξ=>(zm (zd (by decide))).trans hu
 have f1:∀ o,Fr (At1 (4,d)) u (u.put (4,d) o):=fun ξ=>(Fr.refl _ _).put (at1 _) _
 by_cases hz0:num=0
 ·exact zo (t:=false) (Qd (fun q=>Res.ok (V.bool (!q)) _) (Zb hz0)) (zh (zv (k _ (by rw[v6,Zg hz0];exact zl _ _ _) (h1 _) (f1 _) rfl)))
 ·refine zo (t:=true) (Qd (fun q=>Res.ok (V.bool (!q)) _) (Zc hz0)) (x4 (v:=zan ⟨.gone,-1,0,[]⟩) rfl (zn rfl (z3 (h1 _) rfl)) rfl (xj _ _ _ _ _ (zl _ _ _) (hl (Zp (eg _ _ _) hz))) ?_)
  rw[x5,tt]
  exact zh (zv (k _ (by rw[v6,Zh hz0];exact zl _ _ _) ((zm (zd (by decide))).trans (h1 _)) ((f1 _).put (at1 _) _) rfl))
structure InitI (num:Int) (ks:List Key) (i d:Nat) (t:MS) (rk:List Key) (_:Option V) (u:MS):Prop where
 c:u.cnt=t.cnt
 e:∃ dk,ks=dk++rk/\u.heap (4,d)=some (.dict (zw (HS.new num dk).known))/\(HS.new num dk).known.length<=dk.length
 o:u.heap (2,i)=some (zfd num d)
 f:Fr (At1 (4,d)) t u
omit H in
theorem zht {C:Calls}{n d:Nat}{num:Int}{kv:V}{ks rk:List Key}{t u:MS}{key:Key}{y:Option V} (hn:ks.length < 1000) (e:InitI num ks i d t (key::rk) y u)
  {Q:Fl×Loc->MS->Prop} (k:∀ y u,InitI num ks i d t rk y u->Q (.next,dh num kv i y) u) :
  OkR (exs P C n zgx (dh num kv i (some (.str key))) u) Q:=by
 obtain⟨dk,e1,e3,e4⟩:=e.e
 refine zhf key e.o e3 (Z7 e4 (Z7 ?_ hn)) fun t' q1 q2 q3 q4=>k _ t' ⟨q4.trans e.c,⟨dk++[key],by rw[e1,Z3];rfl,?_⟩,q2,e.f.trans q3⟩
 ·rw[e1,Zf];exact Nat.le_add_right _ _
 ·have e:(HS.new num (dk++[key])).known=qx key (v6 num) (HS.new num dk).known:=List.foldl_append ..
  rw[e,Zf];exact⟨q1,Zp (eg _ _ _) (Nat.succ_le_succ e4)⟩
omit H in
theorem zji {C:Calls}{n d:Nat}{num:Int}{kv:V}{ks:List Key}{t:MS}{Q:Fl×Loc->MS->Prop} (hkt:KeysV kv ks t) (hn:ks.length < 1000) (h2:t.heap (2,i)=some (zfd num d)) (h3:t.heap (4,d)=some (.dict []))
  (k:∀ y u,InitI num ks i d t [] y u->Q (.next,dh num kv i y) u) :
  OkR (qt t false kv (wu P C (.inl (.loc 3))) (exs P C n zgx) (ks.map .str) (dh num kv i none) t) Q :=
 have hs:∀ {u},Fr (At1 (4,d)) t u->stays t u false kv=true:=fun f=>hkt.stays f fun ξ e=>.inr (Qd Prod.fst e)
 xb .str (dh num kv i) (InitI num ks i d t) (fun key rk y u e=>⟨hs e.f,zht hn e fun y u e=>⟨y,rfl,e⟩⟩) (fun y u e=>⟨hs e.f,k y u e⟩) _ _ _ ⟨rfl,⟨[],rfl,h3,Zs _⟩,h2,.refl _ _⟩
theorem zl5 (n:Nat) (num:Int) (kv:V) (ks:List Key) (ho:s.heap (2,i)=some (.inst 1 [])) (hi:i < s.cnt 2) (hkv:KeysV kv ks s) (hn:ks.length < 1000) :
  OkR (run P (n+1) 20 [.ref (2,i),.int num,kv] s) fun v s'=>v=.none/\∃ x:HIx,x.fresh s/\HAt s' i x (HS.new num ks)/\Fr (At1 (2,i)) s s'/\s'.cnt 2=s.cnt 2/\∀ k,7 < k\/k=3->s'.cnt k=s.cnt k:=by
 refine zj H.init rfl (zy rfl rfl (xa 0 _ ho rfl) (zy rfl rfl (xa 4 _ ((qu (zd (by decide))).trans (zl _ _ _)) rfl) ?_))
 have f1:Fr (At1 (2,i)) s (((s.put (2,i) (.inst 1 [(0,.int num)])).new 4 (.dict [])).put (2,i) (zfd num (s.cnt 4))):=(((Fr.refl _ _).put (at1 _) _).new _ _).put (at1 _) _
 have hkt:=hkv.step f1 fun l e=>.inl (Qd Prod.fst e)
 refine ku rfl hkt.items rfl (zji hkt hn (zl _ _ _) ((zm (zd (by decide))).trans (z5 _ 4 _)) fun y u e=>?_)
 obtain⟨dk,e1,e3,e4⟩:=e.e
 cases e1.trans (Z0 _)
 have c:∀ k,k≠4->u.cnt k=s.cnt k:=fun k hk=>(congrFun e.c k).trans (Zh hk)
 refine zhm e.o e3 (Z7 e4 hn) (Nat.lt_of_lt_of_eq hi (c 2 (by decide)).symm) (Nat.lt_of_lt_of_eq (Zy _) (congrFun e.c 4).symm) fun t a f hc=>⟨rfl,_,⟨Zs _,Nat.le_of_eq (c 5 (by decide)).symm,Nat.le_of_eq (c 6 (by decide)).symm,Nat.le_of_eq (c 7 (by decide)).symm⟩,a,(f1.fresh e.f (Zs _)).trans f,(hc 2 (by decide) (by decide) (by decide)).trans (c 2 (by decide)),fun k hk=>?_⟩
 have hk:k≠4/\k≠5/\k≠6/\k≠7:=by lia
 exact(hc k hk.2.1 hk.2.2.1 hk.2.2.2).trans (c k hk.1)
theorem n7 (hin:P.inits 1=some (2,20)) (n:Nat) (num:Int) (kv:V) (ks:List Key) (hkv:KeysV kv ks s) (hn:ks.length < 1000) :
  OkR (ji P (run P (n+1)) 1 [.int num,kv] s) fun v s'=>v=.ref (2,s.cnt 2)/\∃ x:HIx,x.fresh s/\HAt s' (s.cnt 2) x (HS.new num ks)/\Fr (fun ξ=>False) s s'/\s'.cnt 2=s.cnt 2+1/\∀ k,7 < k\/k=3->s'.cnt k=s.cnt k:=by
 have f0:Fr (fun ξ=>False) s (s.new 2 (.inst 1 [])):=(Fr.refl _ _).new _ _
 have h:=zl5 H n num kv ks (i:=s.cnt 2) (s:=s.new 2 (.inst 1 [])) (z5 _ _ _) (by rw[uj];exact Zy _) (hkv.step f0 fun ξ q=>q.elim) hn
 obtain⟨v,s',h1,rfl,x,hx,h2,h3,h4,h5⟩:=q9 h
 rw[ji,hin]
 show OkR (Res.bind (run P (n+1) 20 [.ref (2,s.cnt 2),.int num,kv] (s.new 2 (.inst 1 []))) _) _
 rw[h1]
 refine⟨rfl,x,⟨Zp (f0.2 4) hx.1,Zp (f0.2 5) hx.2.1,Zp (f0.2 6) hx.2.2.1,Zp (f0.2 7) hx.2.2.2⟩,h2,⟨fun l hl ξ=>(h3.1 l (Zi hl (f0.2 l.1)) fun (e:l=(2,s.cnt 2))=>by rw[e] at hl;exact Nat.lt_irrefl _ hl).trans (f0.1 l hl fun q=>q),fun k=>Zp (f0.2 k) (h3.2 k)⟩,h4.trans (uj _ _ _),fun k hk=>(h5 k hk).trans (Zh fun e=>absurd (e▸hk) (by decide))⟩
end
end Internal
end
section
namespace Internal
noncomputable def LMk:Letter->Prop
 | .parcel _ _ _ _ ms=>MOk ms
 | .call _ c _ _ _=>0<=c/\c < 6
 | _=>True
structure HInv (h:HS) (ks:List Key) (m:Nat):Prop where
 hk:h.known.map (·.1)=ks
 hw:h.written.map (·.1)=ks
 kk:KOk h.known
 kw:KOk h.written
 lm:∀ L∈h.laid,LMk L
 la:h.laid.length<=m
 fr:h.fresh.length<=m
section
variable {h:HS}{ks:List Key}{m:Nat}{key:Key}{r:Row}
theorem HInv.get (I:HInv h ks m) (hk:key∈ks):∃ r,qb key h.known=some r/\MOk r.marks:=by
 rw[<- I.hk] at hk
 obtain⟨r,hr⟩:=ls hk
 exact⟨r,hr,I.kk _ (vf hr)⟩
theorem HInv.mono (I:HInv h ks m) {m':Nat} (hm:m<=m'):HInv h ks m':=⟨I.hk,I.hw,I.kk,I.kw,I.lm,Zp I.la hm,Zp I.fr hm⟩
theorem HInv.z (I:HInv h ks m) (hm:m < 16777000) (hks:ks.length<=6):HZ h:=by
 have h1:=Qd List.length I.hk
 have h2:=Qd List.length I.hw
 rw[Zd] at h1 h2
 exact⟨Z7 I.la hm,Z7 I.fr hm,by lia,by lia⟩
theorem KOk.put {k:qv} (hk:KOk k) (key:Key) {r:Row} (hr:MOk r.marks):KOk (qx key r k):=fun p hp=>by
 rcases gj hp with rfl | hp
 ·exact hr
 ·exact hk p hp
theorem vm {α:Type}{P:α->Prop}{l:List α}{a:α} (h:∀ x∈l,P x) (ha:P a):∀ x∈l++[a],P x:=fun x hx=>by
 rcases Zt.1 hx with hx | hx
 ·exact h x hx
 ·rw[Zq.1 hx];exact ha
theorem y5 {α:Type}{l:List α}{a:α}{m:Nat} (h:l.length<=m):(l++[a]).length<=m+1:=by rw[Zf];exact Nat.succ_le_succ h
theorem HInv.came (I:HInv h ks m) (L:Letter) (hL:LMk L):HInv (h.came L) ks (m+1):=by
 cases L with
 | answer=>exact I.mono (Zw _)
 | call hh c n key w =>
  cases hk:qb key h.known with
  | none=>rw[zek hk];exact I.mono (Zw _)
  | some r =>
   rw[bj hk]
   show HInv (if r.st=.here then h.called c n key w r else h) ks (m+1)
   split
   ·have hf:HInv (h.first c n key w r) ks (m+1) :=
     ⟨(k7 _ _ _ _ hk).trans I.hk,I.hw,I.kk.put _ (MOk.put (I.kk _ (vf hk)) hL.1 hL.2),I.kw,vm I.lm trivial,y5 I.la,y5 I.fr⟩
    unfold HS.called
    split
    ·split
     ·exact I.mono (Zw _)
     ·split
      ·exact⟨I.hk,I.hw,I.kk,I.kw,vm I.lm trivial,y5 I.la,Z2 I.fr⟩
      ·exact hf
    ·exact hf
   ·exact I.mono (Zw _)
 | parcel hh key tn am ms =>
  cases hk:qb key h.known with
  | none=>rw[ii hk];exact I.mono (Zw _)
  | some r =>
   rw[yu hk]
   show HInv {h with known:=if r.turn < tn then qx key ⟨.here,tn,am,ms⟩ h.known else h.known,laid:=h.laid++[.taken (1-h.num) key tn]} ks (m+1)
   split
   ·exact⟨(k7 _ _ _ _ hk).trans I.hk,I.hw,I.kk.put _ hL,I.kw,vm I.lm trivial,y5 I.la,Z2 I.fr⟩
   ·exact⟨I.hk,I.hw,I.kk,I.kw,vm I.lm trivial,y5 I.la,Z2 I.fr⟩
 | taken hh key tn =>
  cases hk:qb key h.known with
  | none=>rw[zcs hk];exact I.mono (Zw _)
  | some r =>
   rw[wl hk]
   show HInv (if r.st=.owes/\tn=r.turn+1 then {h with known:=qx key ⟨.gone,r.turn,0,[]⟩ h.known} else h) ks (m+1)
   split
   ·exact⟨(k7 _ _ _ _ hk).trans I.hk,I.hw,I.kk.put _ trivial,I.kw,I.lm,Z2 I.la,Z2 I.fr⟩
   ·exact I.mono (Zw _)
theorem HInv.move (I:HInv h ks m) (hk:qb key h.known=some r):HInv (h.move key r) ks (m+1) :=
 ⟨(k7 _ _ _ _ hk).trans I.hk,I.hw,I.kk.put _ (I.kk _ (vf hk)),I.kw,vm I.lm (I.kk _ (vf hk)),y5 I.la,Z2 I.fr⟩
theorem HInv.write (I:HInv h ks m):HInv h.write ks m:=⟨I.hk,I.hk,I.kk,I.kk,fun ξ q=>(List.not_mem_nil q).elim,Nat.zero_le _,Nat.zero_le _⟩
theorem HInv.sleep (I:HInv h ks m):HInv h.sleep ks m:=⟨I.hw,I.hw,I.kw,I.kw,fun ξ q=>(List.not_mem_nil q).elim,Nat.zero_le _,Nat.zero_le _⟩
theorem zbu (key:Key) (x:Row):∀ k:qv,key ∉ k.map (·.1)->qx key x k=k++[(key,x)]
 | [],_=>rfl
 | (a,r)::l,hn=>by
  have h1:¬ a=key:=fun e=>hn (e▸Zm ..)
  rw[qx,Zh h1,zbu key x l fun q=>hn (Zk _ q)];rfl
theorem zb5 (x:Row):∀ (ks:List Key) (k:qv),(k.map (·.1)++ks).Nodup->ks.foldl (fun k key=>qx key x k) k=k++ks.map fun key=>(key,x)
 | [],k,_=>(Z0 k).symm
 | key::ks,k,nd=>by
  have hn:key ∉ k.map (·.1):=fun q=>(List.nodup_append.1 nd).2.2 _ q _ (Zm ..) rfl
  rw[List.foldl_cons,zbu key x k hn,zb5 x ks,Z3];rfl
  rw[Qb,Z3];exact nd
theorem mf (num:Int) {ks:List Key} (nd:ks.Nodup):(HS.new num ks).known=ks.map fun key=>(key,v6 num):=zb5 (v6 num) ks [] nd
theorem HInv.new (num:Int) (nd:ks.Nodup):HInv (HS.new num ks) ks 0:=by
 have e:=mf num nd
 have hk:(HS.new num ks).known.map (·.1)=ks:=by rw[e,List.map_map];exact List.map_id ks
 have ok:KOk (HS.new num ks).known:=fun p hp=>by
  rw[e] at hp
  obtain⟨key,-,rfl⟩:=Z1.1 hp
  unfold v6
  split <;> exact trivial
 exact⟨hk,hk,ok,ok,fun ξ q=>(List.not_mem_nil q).elim,Zs _,Zs _⟩
end
end Internal
end
section
namespace Internal
noncomputable def f_is_whole:Fn:=⟨1,["thing"],[.ret (some (.and [.isinst (.loc 0) [.int],.not (.isinst (.loc 0) [.bool])]))]⟩
noncomputable def f_need_wish (xc:Nat):Fn:=⟨1,["wish"],[.ite (.or [.not (.isinst (.loc 0) [.tuple]),.cmp (.prim .len [.loc 0]) .lt (.int 1),.not (.isinst (.sub (.loc 0) (.int 0)) [.str])]) [.raise xc] [],.ite (.and [.cmp (.sub (.loc 0) (.int 0)) .eq (.str [103,101,116]),.cmp (.prim .len [.loc 0]) .eq (.int 1)]) [.ret none] [],.ite (.or [.cmp (.sub (.loc 0) (.int 0)) .notin (.tup [.str [115,101,116],.str [97,100,100]]),.cmp (.prim .len [.loc 0]) .ne (.int 2),.not (.call 0 [.sub (.loc 0) (.int 1)])]) [.raise xc] [],.ite (.not (.cmp2 (.neg (.gint "GREATEST" 1000000000000000000000000000000)) .le (.sub (.loc 0) (.int 1)) .le (.gint "GREATEST" 1000000000000000000000000000000))) [.raise xc] []]⟩
noncomputable def f_is_key:Fn:=⟨1,["thing","sign"],[.ite (.or [.not (.isinst (.loc 0) [.str]),.not (.cmp2 (.int 1) .le (.prim .len [.loc 0]) .le (.gint "LONGEST" 8))]) [.ret (some (.bool false))] [],.for_ (.inl (.loc 1)) false (.loc 0) [.ite (.cmp (.loc 1) .notin (.gstr "LETTERS" [97,98,99,100,101,102,103,104,105,106,107,108,109,110,111,112,113,114,115,116,117,118,119,120,121,122])) [.ret (some (.bool false))] []],.ret (some (.bool true))]⟩
noncomputable def f_need_world (xc:Nat):Fn:=⟨2,["keys","callers","k"],[.ite (.or [.not (.isinst (.loc 0) [.list]),.not (.cmp2 (.int 1) .le (.prim .len [.loc 0]) .le (.gint "MOST" 6))]) [.raise xc] [],.for_ (.inl (.loc 2)) true (.prim .len [.loc 0]) [.ite (.or [.not (.call 4 [.sub (.loc 0) (.loc 2)]),.cmp (.sub (.loc 0) (.loc 2)) .isin (.slice (.loc 0) none (some (.loc 2)))]) [.raise xc] []],.ite (.or [.not (.call 0 [.loc 1]),.not (.cmp2 (.int 1) .le (.loc 1) .le (.gint "MOST" 6))]) [.raise xc] []]⟩
noncomputable def f_Caller_init:Fn:=⟨2,["self","number"],[.setattr (.loc 0) 0 (.loc 1),.setattr (.loc 0) 1 (.int 0),.setattr (.loc 0) 2 .none,.setattr (.loc 0) 3 (.lstM 8 [])]⟩
noncomputable def f_Caller_begin:Fn:=⟨3,["self","key","wish"],[.setattr (.loc 0) 1 (.bin .add (.attr (.loc 0) 1) (.int 1)),.setattr (.loc 0) 2 (.tup [.attr (.loc 0) 1,.loc 1,.loc 2]),.ret (some (.attr (.loc 0) 1))]⟩
noncomputable def f_Caller_letter:Fn:=⟨2,["self","house","call"],[.assign 2 (.attr (.loc 0) 2),.ret (some (.tup [.str [99,97,108,108],.loc 1,.attr (.loc 0) 0,.sub (.loc 2) (.int 0),.sub (.loc 2) (.int 1),.sub (.loc 2) (.int 2)]))]⟩
noncomputable def f_Caller_asking:Fn:=⟨1,["self"],[.ret (some (.attr (.loc 0) 2))]⟩
noncomputable def f_Caller_answers:Fn:=⟨1,["self"],[.ret (some (.listM 13 (.attr (.loc 0) 3)))]⟩
noncomputable def zlx:List S:=[.setattr (.loc 0) 8 (.prim .list1 [.loc 1]),.setattr (.loc 0) 9 (.lst [.new 1 [.int 0,.loc 1],.new 1 [.int 1,.loc 1]]),.setattr (.loc 0) 10 (.comp none 3 true (.loc 2) none (.new 2 [.loc 3])),.setattr (.loc 0) 11 (.lstM 9 []),.setattr (.loc 0) 12 (.lstM 10 [])]
noncomputable def we:Fn:=⟨3,["self","keys","callers",""],.expr (.call 5 [.loc 1,.loc 2])::zlx⟩
noncomputable def f_World_need_caller (xc:Nat):Fn:=⟨2,["self","caller"],[.ite (.or [.not (.call 0 [.loc 1]),.not (.cmp2 (.int 0) .le (.loc 1) .lt (.prim .len [.attr (.loc 0) 10]))]) [.raise xc] []]⟩
noncomputable def f_World_need_house (xc:Nat):Fn:=⟨2,["self","house"],[.ite (.or [.not (.call 0 [.loc 1]),.not (.cmp2 (.int 0) .le (.loc 1) .lt (.int 2))]) [.raise xc] []]⟩
noncomputable def f_World_need_key (xc:Nat):Fn:=⟨2,["self","key"],[.ite (.or [.not (.isinst (.loc 1) [.str]),.cmp (.loc 1) .notin (.attr (.loc 0) 8)]) [.raise xc] []]⟩
noncomputable def f_World_need_place (xc:Nat):Fn:=⟨2,["self","place"],[.ite (.or [.not (.call 0 [.loc 1]),.not (.cmp2 (.int 0) .le (.loc 1) .lt (.prim .len [.attr (.loc 0) 11]))]) [.raise xc] []]⟩
noncomputable def f_World_call (xc:Nat):Fn:=⟨5,["self","caller","house","key","wish","number"],[.exprX (.meth (.loc 0) 13 [.loc 1]),.exprX (.meth (.loc 0) 14 [.loc 2]),.exprX (.meth (.loc 0) 15 [.loc 3]),.exprX (.call 1 [.loc 4]),.ite (.isC true (.meth (.sub (.attr (.loc 0) 10) (.loc 1)) 11 []) .none) [.raise xc] [],.assign 5 (.meth (.sub (.attr (.loc 0) 10) (.loc 1)) 9 [.loc 3,.loc 4]),.expr (.bm .append (.attr (.loc 0) 11) [.meth (.sub (.attr (.loc 0) 10) (.loc 1)) 10 [.loc 2]]),.ret (some (.loc 5))]⟩
noncomputable def f_World_again (xc:Nat):Fn:=⟨3,["self","caller","house"],[.exprX (.meth (.loc 0) 13 [.loc 1]),.exprX (.meth (.loc 0) 14 [.loc 2]),.ite (.isC false (.meth (.sub (.attr (.loc 0) 10) (.loc 1)) 11 []) .none) [.raise xc] [],.expr (.bm .append (.attr (.loc 0) 11) [.meth (.sub (.attr (.loc 0) 10) (.loc 1)) 10 [.loc 2]])]⟩
noncomputable def f_World_letters:Fn:=⟨1,["self"],[.ret (some (.listM 11 (.attr (.loc 0) 11)))]⟩
noncomputable def f_World_brought:Fn:=⟨2,["self","letter"],[.ite (.cmp (.sub (.loc 1) (.int 0)) .eq (.str [97,110,115,119,101,114])) [.expr (.meth (.sub (.attr (.loc 0) 10) (.sub (.loc 1) (.int 1))) 2 [.sub (.loc 1) (.int 2),.sub (.loc 1) (.int 3)])] [.expr (.meth (.sub (.attr (.loc 0) 9) (.sub (.loc 1) (.int 1))) 2 [.loc 1])]]⟩
noncomputable def f_World_hand:Fn:=⟨2,["self","place"],[.exprX (.meth (.loc 0) 16 [.loc 1]),.expr (.meth (.loc 0) 20 [.bm .pop (.attr (.loc 0) 11) [.loc 1]])]⟩
noncomputable def f_World_twice:Fn:=⟨2,["self","place"],[.exprX (.meth (.loc 0) 16 [.loc 1]),.expr (.meth (.loc 0) 20 [.sub (.attr (.loc 0) 11) (.loc 1)])]⟩
noncomputable def f_World_lose:Fn:=⟨2,["self","place"],[.exprX (.meth (.loc 0) 16 [.loc 1]),.expr (.bm .pop (.attr (.loc 0) 11) [.loc 1])]⟩
noncomputable def f_World_sleep:Fn:=⟨2,["self","house"],[.exprX (.meth (.loc 0) 14 [.loc 1]),.expr (.meth (.sub (.attr (.loc 0) 9) (.loc 1)) 7 [])]⟩
noncomputable def f_World_ledger:Fn:=⟨1,["self"],[.ret (some (.listM 12 (.attr (.loc 0) 12)))]⟩
noncomputable def f_World_asking:Fn:=⟨2,["self","caller"],[.exprX (.meth (.loc 0) 13 [.loc 1]),.ret (some (.meth (.sub (.attr (.loc 0) 10) (.loc 1)) 11 []))]⟩
noncomputable def f_World_answers:Fn:=⟨2,["self","caller"],[.exprX (.meth (.loc 0) 13 [.loc 1]),.ret (some (.meth (.sub (.attr (.loc 0) 10) (.loc 1)) 12 []))]⟩
structure WorldP (P:Prog):Prop where
 whole:P.fns 0=some f_is_whole
 ncal:∃ xc,P.fns 41=some (f_World_need_caller xc)
 nhou:∃ xc,P.fns 42=some (f_World_need_house xc)
 nkey:∃ xc,P.fns 43=some (f_World_need_key xc)
 npla:∃ xc,P.fns 44=some (f_World_need_place xc)
 cask:P.fns 14=some f_Caller_asking
 clet:P.fns 12=some f_Caller_letter
 brou:P.fns 48=some f_World_brought
 m13:P.meths 0 13=some 41
 m14:P.meths 0 14=some 42
 m15:P.meths 0 15=some 43
 m16:P.meths 0 16=some 44
 m20:P.meths 0 20=some 48
 c9:P.meths 2 9=some 11
 c10:P.meths 2 10=some 12
 c11:P.meths 2 11=some 14
noncomputable def hn:Bool->Int
 | false=>0
 | true=>1
noncomputable def hx:Bool->Nat
 | false=>0
 | true=>1
noncomputable def upd {α:Type} (f:Bool->α) (i:Bool) (v:α):Bool->α:=fun k=>if k=i then v else f k
section
variable {α:Type}{f:Bool->α}{i k:Bool}{v:α}
theorem vd:upd f i v i=v:=Zg rfl
theorem cq (h:k≠i):upd f i v k=f k:=Zh h
theorem lx {P:Bool->α->Prop} (h:P i v) (g:∀ k,k≠i->P k (f k)):∀ k,P k (upd f i v k):=fun k=>by
 by_cases e:k=i
 ·subst e;rw[vd];exact h
 ·rw[cq e];exact g k e
end
theorem zns {i k:Bool} (h:k≠i):hx k≠hx i:=by
 cases i <;> cases k <;> first | exact absurd rfl h | decide
structure HH (s:MS) (x:Bool->HIx) (h:Bool->HS):Prop where
 at_:∀ i,HAt s (hx i) (x i) (h i)
 k:(x false).k≠(x true).k
 w:(x false).w≠(x true).w
 la:(x false).la≠(x true).la
 fr:(x false).fr≠(x true).fr
noncomputable def NH (l:Lbl):Prop:=l.1≠2/\l.1≠4/\l.1≠5/\l.1≠6/\l.1≠7
theorem zv0 {i:Nat}{x:HIx}{l:Lbl} (q:HF i x l):¬ NH l:=fun z=>by
 rcases q with rfl | rfl | rfl | rfl | rfl
 ·exact z.1 rfl
 ·exact z.2.1 rfl
 ·exact z.2.2.1 rfl
 ·exact z.2.2.2.1 rfl
 ·exact z.2.2.2.2 rfl
section
variable {s s':MS}{x:Bool->HIx}{h:Bool->HS}{i:Bool}
theorem HH.step (a:HH s x h) (f:Fr NH s s'):HH s' x h:=⟨fun i=>(a.at_ i).step f fun l q z=>zv0 q z,a.k,a.w,a.la,a.fr⟩
theorem HH.ne (a:HH s x h) {i k:Bool} (e:k≠i):∀ l,HF (hx k) (x k) l->¬ HF (hx i) (x i) l:=by
 have sy:∀ {α:Type}{g:Bool->α},g false≠g true->g k≠g i:=by
  intro α g hg
  cases i <;> cases k <;> first | exact absurd rfl e | exact hg | exact hg.symm
 have h1:=zns e
 have h2:=sy (g:=fun i=>(x i).k) a.k
 have h3:=sy (g:=fun i=>(x i).w) a.w
 have h4:=sy (g:=fun i=>(x i).la) a.la
 have h5:=sy (g:=fun i=>(x i).fr) a.fr
 rintro l (rfl | rfl | rfl | rfl | rfl) (q | q | q | q | q) <;> first | exact absurd (Qd Prod.fst q) (Za rfl) | skip
 ·exact h1 (Qd Prod.snd q)
 ·exact h2 (Qd Prod.snd q)
 ·exact h3 (Qd Prod.snd q)
 ·exact h4 (Qd Prod.snd q)
 ·exact h5 (Qd Prod.snd q)
theorem HH.deed (a:HH s x h) {h':HS} (g:HAt s' (hx i) (x i) h') (f:Fr (HF (hx i) (x i)) s s'):HH s' x (upd h i h') :=
 ⟨lx (P:=fun k g=>HAt s' (hx k) (x k) g) g fun k e=>(a.at_ k).step f (a.ne e),a.k,a.w,a.la,a.fr⟩
theorem hf2 {k i:Bool} (e:k≠i) {x:HIx}:∀ l,HF (hx k) x l->¬ At1 (2,hx i) l:=by
 rintro l (rfl | rfl | rfl | rfl | rfl) q <;> first | exact absurd (Qd Prod.fst q) (Za rfl) | skip
 exact zns e (Qd Prod.snd q)
theorem HH.slept (a:HH s x h) {h':HS} (g:HAt s' (hx i) ⟨s.cnt 4,(x i).w,s.cnt 6,s.cnt 7⟩ h') (f:Fr (At1 (2,hx i)) s s'):HH s' (upd x i ⟨s.cnt 4,(x i).w,s.cnt 6,s.cnt 7⟩) (upd h i h'):=by
 have hk:=fun k=>Z9 (a.at_ k).ik
 have hl:=fun k=>Z9 (a.at_ k).il
 have hr:=fun k=>Z9 (a.at_ k).ir
 refine⟨fun k=>?_,?_,?_,?_,?_⟩
 ·by_cases e:k=i
  ·subst e;rw[vd,vd];exact g
  ·rw[cq e,cq e];exact(a.at_ k).step f (hf2 e)
 ·cases i
  ·exact(hk true).symm
  ·exact hk false
 ·cases i <;> exact a.w
 ·cases i
  ·exact(hl true).symm
  ·exact hl false
 ·cases i
  ·exact(hr true).symm
  ·exact hr false
end
structure CS where
 begun:Int
 op:Option (Int×Key×W)
 closed:List (Int×Int)
noncomputable def opV:Option (Int×Key×W)->V
 | none=>.none
 | some p=>.tup [.int p.1,.str p.2.1,wv p.2.2]
noncomputable def wx (p:Int×Int):V:=.tup [.int p.1,.int p.2]
noncomputable def ke (i:Nat) (c:CS):MObj:=.inst 2 [(0,.int i),(1,.int c.begun),(2,opV c.op),(3,.ref (8,i))]
structure WS where
 nc:Nat
 h:Bool->HS
 c:Nat->CS
 post:List Letter
 rows:List LRow
noncomputable def jj (nc:Nat):List V:=(List.range nc).map fun (i:Nat)=>.ref (3,i)
noncomputable def z0w (ks:List Key) (nc:Nat):MObj:=.inst 0 [(8,.lst (ks.map .str)),(9,.lst [.ref (2,0),.ref (2,1)]),(10,.lst (jj nc)),(11,.ref (9,0)),(12,.ref (10,0))]
structure WAt (s:MS) (ks:List Key) (W:WS) (x:Bool->HIx):Prop where
 o:s.heap (1,0)=some (z0w ks W.nc)
 hh:HH s x W.h
 co:∀ i,i < W.nc->s.heap (3,i)=some (ke i (W.c i))
 cl:∀ i,i < W.nc->s.heap (8,i)=some (.list ((W.c i).closed.map wx))
 po:s.heap (9,0)=some (.list (W.post.map z9))
 ro:s.heap (10,0)=some (.list (W.rows.map vy))
 i1:0 < s.cnt 1
 i3:W.nc<=s.cnt 3
 i8:W.nc<=s.cnt 8
 i9:0 < s.cnt 9
 i10:0 < s.cnt 10
noncomputable def yo (f:Nat->CS) (i:Nat) (v:CS):Nat->CS:=fun k=>if k=i then v else f k
noncomputable def NW (l:Lbl):Prop:=11<=l.1
section
variable {s s':MS}{ks:List Key}{W:WS}{x:Bool->HIx}
theorem zyo {l:Lbl} (h:NW l):NH l:=by
 have h:11<=l.1:=h
 exact⟨by lia,by lia,by lia,by lia,by lia⟩
theorem WAt.step (a:WAt s ks W x) (f:Fr NW s s'):WAt s' ks W x where
 o:=(f.1 (1,0) a.i1 (Za (p:=¬ 11<=1) rfl)).trans a.o
 hh:=a.hh.step (f.mono fun ξ=>zyo)
 co i hi:=(f.1 (3,i) (Zi hi a.i3) (Za (p:=¬ 11<=3) rfl)).trans (a.co i hi)
 cl i hi:=(f.1 (8,i) (Zi hi a.i8) (Za (p:=¬ 11<=8) rfl)).trans (a.cl i hi)
 po:=(f.1 (9,0) a.i9 (Za (p:=¬ 11<=9) rfl)).trans a.po
 ro:=(f.1 (10,0) a.i10 (Za (p:=¬ 11<=10) rfl)).trans a.ro
 i1:=Zi a.i1 (f.2 _)
 i3:=Zp a.i3 (f.2 _)
 i8:=Zp a.i8 (f.2 _)
 i9:=Zi a.i9 (f.2 _)
 i10:=Zi a.i10 (f.2 _)
noncomputable def HO (l:Lbl):Prop:=l.1=2\/l.1=4\/l.1=5\/l.1=6\/l.1=7
theorem WAt.houses (a:WAt s ks W x) (f:Fr HO s s') {x':Bool->HIx}{h':Bool->HS} (hh:HH s' x' h'):WAt s' ks {W with h:=h'} x' where
 o:=(f.1 (1,0) a.i1 (Za (p:=¬ (1=2\/1=4\/1=5\/1=6\/1=7)) rfl)).trans a.o
 hh:=hh
 co i hi:=(f.1 (3,i) (Zi hi a.i3) (Za (p:=¬ (3=2\/3=4\/3=5\/3=6\/3=7)) rfl)).trans (a.co i hi)
 cl i hi:=(f.1 (8,i) (Zi hi a.i8) (Za (p:=¬ (8=2\/8=4\/8=5\/8=6\/8=7)) rfl)).trans (a.cl i hi)
 po:=(f.1 (9,0) a.i9 (Za (p:=¬ (9=2\/9=4\/9=5\/9=6\/9=7)) rfl)).trans a.po
 ro:=(f.1 (10,0) a.i10 (Za (p:=¬ (10=2\/10=4\/10=5\/10=6\/10=7)) rfl)).trans a.ro
 i1:=Zi a.i1 (f.2 _)
 i3:=Zp a.i3 (f.2 _)
 i8:=Zp a.i8 (f.2 _)
 i9:=Zi a.i9 (f.2 _)
 i10:=Zi a.i10 (f.2 _)
theorem zr4 {i:Nat}{y:HIx} (f:Fr (HF i y) s s'):Fr HO s s':=f.mono fun l q=>by
 rcases q with rfl | rfl | rfl | rfl | rfl
 ·exact .inl rfl
 ·exact .inr (.inl rfl)
 ·exact .inr (.inr (.inl rfl))
 ·exact .inr (.inr (.inr (.inl rfl)))
 ·exact .inr (.inr (.inr (.inr rfl)))
theorem zsm {i:Nat} (f:Fr (At1 (2,i)) s s'):Fr HO s s':=f.mono fun l q=>.inl (Qd Prod.fst (show l=(2,i) from q))
theorem rt {l:Lbl} (h:NH l) (o:MObj):Fr NH s (s.put l o):=(Fr.refl _ _).put h o
theorem WAt.setPost (a:WAt s ks W x) (l:List Letter):WAt (s.put (9,0) (.list (l.map z9))) ks {W with post:=l} x :=
 ⟨(zm (zd (by decide))).trans a.o,a.hh.step (rt (l:=(9,0)) (Za (p:=9≠2/\9≠4/\9≠5/\9≠6/\9≠7) rfl) _),fun i hi=>(zm (zd (by decide))).trans (a.co i hi),fun i hi=>(zm (zd (by decide))).trans (a.cl i hi),zl _ _ _,(zm (zd (by decide))).trans a.ro,a.i1,a.i3,a.i8,a.i9,a.i10⟩
theorem WAt.setCaller (a:WAt s ks W x) (i:Nat) (c:CS) (hc:c.closed=(W.c i).closed):WAt (s.put (3,i) (ke i c)) ks {W with c:=yo W.c i c} x:=by
 refine⟨(zm (zd (by decide))).trans a.o,a.hh.step (rt (l:=(3,i)) (Za (p:=3≠2/\3≠4/\3≠5/\3≠6/\3≠7) rfl) _),fun k hk=>?_,fun k hk=>?_,(zm (zd (by decide))).trans a.po,(zm (zd (by decide))).trans a.ro,a.i1,a.i3,a.i8,a.i9,a.i10⟩
 ·show(s.put (3,i) (ke i c)).heap (3,k)=some (ke k (if k=i then c else W.c k))
  by_cases e:k=i
  ·subst e;rw[Zg rfl];exact zl _ _ _
  ·rw[Zh e];exact(zm fun q=>e (Qd Prod.snd q)).trans (a.co k hk)
 ·show(s.put (3,i) (ke i c)).heap (8,k)=some (.list (List.map wx (if k=i then c else W.c k).closed))
  refine((zm (zd (by decide))).trans (a.cl k hk)).trans ?_
  by_cases e:k=i
  ·rw[Zg e,hc,e]
  ·rw[Zh e]
end
section
variable {P:Prog} (H:WorldP P) {n:Nat}{s:MS}{ks:List Key}{W:WS}{x:Bool->HIx}{i:Nat}
theorem zok {C:Calls}{l:Loc}{a b c:E}{o o2:Cop}{x y z v:V} (ha:ev P C a l s=.ok x s) (hb:ev P C b l s=.ok y s) (h1:cmpOp o x y s=.ok (.bool true) s) (hc:ev P C c l s=.ok z s) (h2:cmpOp o2 y z s=.ok v s):ev P C (.cmp2 a o b o2 c) l s=.ok v s:=by
 rw[gw,ha]
 show Res.bind (ev P C b l s) _=_
 rw[hb]
 show Res.bind (cmpOp o x y s) _=_
 rw[h1]
 show Res.bind (ev P C c l s) _=_
 rw[hc];exact h2
theorem zdf {C:Calls}{l:Loc}{a b c:E}{x y z:Int} (ha:ev P C a l s=.ok (.int x) s) (hb:ev P C b l s=.ok (.int y) s) (hc:ev P C c l s=.ok (.int z) s) (h1:x<=y) (h2:y < z):ev P C (.cmp2 a .le b .lt c) l s=.ok (.bool true) s :=
 zok ha hb (Qd (fun q=>Res.ok (V.bool q) s) (Zb h1)) hc (Qd (fun q=>Res.ok (V.bool q) s) (Zb h2))
theorem zab {C:Calls}{l:Loc}{a b c:E}{x y z:Int} (ha:ev P C a l s=.ok (.int x) s) (hb:ev P C b l s=.ok (.int y) s) (hc:ev P C c l s=.ok (.int z) s) (h1:x<=y) (h2:y<=z):ev P C (.cmp2 a .le b .le c) l s=.ok (.bool true) s :=
 zok ha hb (Qd (fun q=>Res.ok (V.bool q) s) (Zb h1)) hc (Qd (fun q=>Res.ok (V.bool q) s) (Zb h2))
theorem uo (nc:Nat):(jj nc).length=nc:=by rw[jj,Zd,Zx]
theorem zdg {nc:Nat} (hi:i < nc) (s:MS):getItem (.lst (jj nc)) (.int i) s=.ok (.ref (3,i)) s:=by
 have h:i < (jj nc).length:=by rw[uo];exact hi
 refine(yh (s:=s) (a:=.lst (jj nc)) (k:=true) rfl i h).trans ?_
 congr 1
 rw[show(jj nc)[i]=V.ref (3,(List.range nc)[i]'(by rw[Zx];exact hi)) from List.getElem_map ..,List.getElem_range]
theorem zfy {key:Key} (s:MS):∀ {ks:List Key},key∈ks->vin s (.str key) (ks.map .str)=some true
 | k::ks,h=>by
  have e:vin s (.str key) ((k::ks).map .str)=(match some (decide (k=key)),vin s (.str key) (ks.map .str) with | some p,some q=>some (p||q) | _,_=>none):=rfl
  rw[e]
  by_cases hk:k=key
  ·have:∀ l:List Key,∃ q,vin s (.str key) (l.map .str)=some q:=fun l=>by
    induction l with
    | nil=>exact⟨false,rfl⟩
    | cons a l ih =>
     obtain⟨q,hq⟩:=ih
     refine⟨decide (a=key)||q,?_⟩
     show(match some (decide (a=key)),vin s (.str key) (l.map .str) with | some p,some q=>some (p||q) | _,_=>none)=_
     rw[hq]
   obtain⟨q,hq⟩:=this ks
   rw[hq,Zb hk];rfl
  ·rw[zfy s ((Zu.1 h).resolve_left fun q=>hk q.symm)]
   show some (_||true)=_
   rw[Bool.or_true]
include H
theorem v9 (n:Nat) (i:Int) (s:MS):run P (n+1) 0 [.int i] s=.ok (.bool true) s:=z4 (zj H.whole rfl (zu rfl ⟨rfl,rfl⟩))
theorem yt (n:Nat) (a:WAt s ks W x) (hi:i < W.nc):run P (n+2) 41 [.ref (1,0),.int i] s=.ok .none s:=by
 obtain⟨xc,hf⟩:=H.ncal
 refine z4 (zj hf rfl ?_)
 have hw:=v9 H n i s
 exact zo (t:=false) (s':=s) (yk (jt (t:=true) (qh (vs:=[.int i]) rfl hw)) (y0 (jt (t:=true) (zdf (x:=0) (y:=i) (z:=(jj W.nc).length) rfl rfl (xr (zf (zn rfl (z3 a.o rfl)) rfl) rfl) (by lia) (by rw[uo];lia))))) (zh (zv ⟨rfl,rfl⟩))
theorem x7 (n:Nat) (b:Bool) (s:MS):run P (n+2) 42 [.ref (1,0),.int (hn b)] s=.ok .none s:=by
 obtain⟨xc,hf⟩:=H.nhou
 refine z4 (zj hf rfl ?_)
 have hw:=v9 H n (hn b) s
 exact zo (t:=false) (s':=s) (yk (jt (t:=true) (qh (vs:=[.int (hn b)]) rfl hw)) (y0 (jt (t:=true) (zdf (x:=0) (y:=hn b) (z:=2) rfl rfl rfl (by cases b <;> decide) (by cases b <;> decide))))) (zh (zv ⟨rfl,rfl⟩))
theorem ch (n:Nat) (a:WAt s ks W x) {key:Key} (hk:key∈ks):run P (n+1) 43 [.ref (1,0),.str key] s=.ok .none s:=by
 obtain⟨xc,hf⟩:=H.nkey
 refine z4 (zj hf rfl ?_)
 refine zo (t:=false) (s':=s) (yk rfl (y0 (kq rfl (zn rfl (z3 a.o rfl)) ?_))) (zh (zv ⟨rfl,rfl⟩))
 show okB s ((vin s (.str key) (ks.map .str)).map (!·))=_
 rw[zfy s hk];rfl
theorem gb (n:Nat) (a:WAt s ks W x) {p:Nat} (hp:p < W.post.length):run P (n+2) 44 [.ref (1,0),.int p] s=.ok .none s:=by
 obtain⟨xc,hf⟩:=H.npla
 refine z4 (zj hf rfl ?_)
 have hw:=v9 H n p s
 exact zo (t:=false) (s':=s) (yk (jt (t:=true) (qh (vs:=[.int p]) rfl hw)) (y0 (jt (t:=true) (zdf (x:=0) (y:=p) (z:=(W.post.map z9).length) rfl rfl (xr (zf (zn rfl (z3 a.o rfl)) rfl) (bc (qd a.po))) (by lia) (by rw[Zd];lia))))) (zh (zv ⟨rfl,rfl⟩))
theorem x8 (n:Nat) (a:WAt s ks W x) (hi:i < W.nc):run P (n+1) 14 [.ref (3,i)] s=.ok (opV (W.c i).op) s :=
 z4 (zj H.cask rfl (zu (zn rfl (z3 (a.co i hi) rfl)) ⟨rfl,rfl⟩))
theorem ue (n:Nat) (a:WAt s ks W x) (hi:i < W.nc) {p:Int×Key×Internal.W} (hp:(W.c i).op=some p) (b:Bool):run P (n+1) 12 [.ref (3,i),.int (hn b)] s=.ok (z9 (.call (hn b) i p.1 p.2.1 p.2.2)) s:=by
 have ho:=a.co i hi
 refine z4 (zj H.clet rfl ?_)
 refine zk (v:=.tup [.int p.1,.str p.2.1,wv p.2.2]) (s':=s) (zn rfl (z3 ho (Qd (fun q=>some (opV q)) hp))) rfl ?_
 exact zu (by (repeat' first | exact rfl | apply zn | apply m4 | apply zf | exact z3 (by assumption) rfl)) ⟨rfl,rfl⟩
omit H
theorem ef {C:Calls}{l:Loc}{a b:E} (A:WAt s ks W x) (hi:i < W.nc) (ha:ev P C a l s=.ok (.ref (1,0)) s) (hb:ev P C b l s=.ok (.int i) s):ev P C (.sub (.attr a 10) b) l s=.ok (.ref (3,i)) s :=
 q6 (zn ha (z3 A.o rfl)) hb (zdg hi s)
theorem zg1 (b:Bool) (s:MS):getItem (.lst [.ref (2,0),.ref (2,1)]) (.int (hn b)) s=.ok (.ref (2,hx b)) s:=by cases b <;> rfl
theorem pd {C:Calls}{l:Loc}{a e:E}{b:Bool} (A:WAt s ks W x) (ha:ev P C a l s=.ok (.ref (1,0)) s) (hb:ev P C e l s=.ok (.int (hn b)) s):ev P C (.sub (.attr a 9) e) l s=.ok (.ref (2,hx b)) s :=
 q6 (zn ha (z3 A.o rfl)) hb (zg1 b s)
theorem WAt.post1 (a:WAt s ks W x) (L:Letter):WAt (s.put (9,0) (.list (W.post.map z9++[z9 L]))) ks {W with post:=W.post++[L]} x:=by
 have:=a.setPost (W.post++[L])
 rwa [Qb] at this
noncomputable def NWp (l:Lbl):Prop:=l.1 < 11
theorem bf {l:Lbl} (h:l.1 < 11) (o:MObj):Fr NWp s (s.put l o):=(Fr.refl _ _).put h o
include H
theorem zg2 (hf:P.fns 11=some f_Caller_begin) (n:Nat) (a:WAt s ks W x) (hi:i < W.nc) (key:Key) (w:Internal.W) :
  ∃ u,run P (n+1) 11 [.ref (3,i),.str key,wv w] s=.ok (.int ((W.c i).begun+1)) u/\WAt u ks {W with c:=yo W.c i ⟨(W.c i).begun+1,some ((W.c i).begun+1,key,w),(W.c i).closed⟩} x/\Fr NWp s u:=by
 have ho:=a.co i hi
 have h1:(s.put (3,i) (ke i ⟨(W.c i).begun+1,(W.c i).op,(W.c i).closed⟩)).heap (3,i)=some (ke i ⟨(W.c i).begun+1,(W.c i).op,(W.c i).closed⟩):=zl _ _ _
 have f1:Fr NWp s (s.put (3,i) (ke i ⟨(W.c i).begun+1,(W.c i).op,(W.c i).closed⟩)):=bf (Za (p:=3 < 11) rfl) _
 have a1:=a.setCaller i ⟨(W.c i).begun+1,(W.c i).op,(W.c i).closed⟩ rfl
 refine⟨(s.put (3,i) (ke i ⟨(W.c i).begun+1,(W.c i).op,(W.c i).closed⟩)).put (3,i) (ke i ⟨(W.c i).begun+1,some ((W.c i).begun+1,key,w),(W.c i).closed⟩),z4 (zj hf rfl ?_),?_,f1.put (Za (p:=3 < 11) rfl) _⟩
 ·refine zy (v:=.int ((W.c i).begun+1)) (s':=s.put (3,i) (ke i ⟨(W.c i).begun+1,(W.c i).op,(W.c i).closed⟩)) (by (repeat' first | exact rfl | apply zn | apply jo | exact z3 (by assumption) rfl)) rfl (xa 1 _ ho rfl) ?_
  generalize s.put (3,i) (ke i ⟨(W.c i).begun+1,(W.c i).op,(W.c i).closed⟩)=t at h1
  refine zy (v:=opV (some ((W.c i).begun+1,key,w))) (s':=t.put (3,i) (ke i ⟨(W.c i).begun+1,some ((W.c i).begun+1,key,w),(W.c i).closed⟩)) (by (repeat' first | exact rfl | apply zn | apply m4 | apply zf | exact z3 (by assumption) rfl)) rfl (xa 2 _ h1 rfl) ?_
  have h2:(t.put (3,i) (ke i ⟨(W.c i).begun+1,some ((W.c i).begun+1,key,w),(W.c i).closed⟩)).heap (3,i)=some (ke i ⟨(W.c i).begun+1,some ((W.c i).begun+1,key,w),(W.c i).closed⟩):=zl _ _ _
  exact zu (by (repeat' first | exact rfl | apply zn | exact z3 (by assumption) rfl)) ⟨rfl,rfl⟩
 ·have a2:=a1.setCaller i ⟨(W.c i).begun+1,some ((W.c i).begun+1,key,w),(W.c i).closed⟩ (by show _=(if i=i then _ else _:CS).closed;rw[Zg rfl])
  have e:yo (yo W.c i ⟨(W.c i).begun+1,(W.c i).op,(W.c i).closed⟩) i ⟨(W.c i).begun+1,some ((W.c i).begun+1,key,w),(W.c i).closed⟩=yo W.c i ⟨(W.c i).begun+1,some ((W.c i).begun+1,key,w),(W.c i).closed⟩:=by
   funext k
   show(if k=i then _ else if k=i then _ else W.c k)=if k=i then _ else W.c k
   split <;> rfl
  exact e▸a2
theorem tq {xc yc:Nat} (hb:P.fns 11=some f_Caller_begin) (hw:P.fns 1=some (f_need_wish yc)) (hf:P.fns 45=some (f_World_call xc)) (n:Nat) (a:WAt s ks W x) (hi:i < W.nc) (b:Bool) {key:Key} (hk:key∈ks) {w:Internal.W} (hn1:run P (n+2) 1 [wv w] s=.ok .none s) (ho:(W.c i).op=none) (hz:W.post.length < 16777000) :
  ∃ u,run P (n+3) 45 [.ref (1,0),.int i,.int (hn b),.str key,wv w] s=.ok (.int ((W.c i).begun+1)) u /\
   WAt u ks {W with c:=yo W.c i ⟨(W.c i).begun+1,some ((W.c i).begun+1,key,w),(W.c i).closed⟩,post:=W.post++[.call (hn b) i ((W.c i).begun+1) key w]} x/\Fr NWp s u:=by
 have hco:=a.co i hi
 obtain⟨t,e1,a1,f1⟩:=zg2 H hb (n+1) a hi key w
 have hco1:=a1.co i hi
 have hlet:=ue H (n+1) a1 hi (p:=((W.c i).begun+1,key,w)) (by show(if i=i then _ else _:CS).op=_;rw[Zg rfl]) b
 have hll:(W.post.map z9).length < 16777216:=by rw[Zd];lia
 refine⟨t.put (9,0) (.list (W.post.map z9++[z9 (.call (hn b) i ((W.c i).begun+1) key w)])),z4 (zj hf rfl ?_),a1.post1 _,f1.put (Za (p:=9 < 11) rfl) _⟩
 refine qr (zt (vs:=[.int i]) rfl ((zg a.o).trans H.m13) rfl (yt H n a hi)) ?_
 refine qr (zt (vs:=[.int (hn b)]) rfl ((zg a.o).trans H.m14) rfl (x7 H n b s)) ?_
 refine qr (zt (vs:=[.str key]) rfl ((zg a.o).trans H.m15) rfl (ch H (n+1) a hk)) ?_
 refine qr (qh (vs:=[wv w]) rfl hn1) ?_
 refine zo (t:=false) (uq (g:=true) (t:=true) (zt (ef a hi rfl rfl) ((zg hco).trans H.c11) rfl (x8 H (n+1) a hi)) (by rw[ho];exact Zb rfl)) (zh ?_)
 refine zk (zt (vs:=[.str key,wv w]) (ef a hi rfl rfl) ((zg hco).trans H.c9) rfl e1) rfl ?_
 refine qw (v:=.none) (ud (x:=.ref (9,0)) (zn rfl (z3 a1.o rfl)) (jz a1.po) (zf (zt (vs:=[.int (hn b)]) (ef a1 hi rfl rfl) ((zg hco1).trans H.c10) rfl hlet) rfl) (xg _ _ _ _ a1.po hll)) ?_
 exact zu rfl ⟨rfl,rfl⟩
theorem zfe {xc:Nat} (hf:P.fns 46=some (f_World_again xc)) (n:Nat) (a:WAt s ks W x) (hi:i < W.nc) (b:Bool) {p:Int×Key×Internal.W} (ho:(W.c i).op=some p) (hz:W.post.length < 16777000) :
  ∃ u,run P (n+3) 46 [.ref (1,0),.int i,.int (hn b)] s=.ok .none u/\WAt u ks {W with post:=W.post++[.call (hn b) i p.1 p.2.1 p.2.2]} x/\Fr NWp s u:=by
 have hco:=a.co i hi
 have hlet:=ue H (n+1) a hi ho b
 have hll:(W.post.map z9).length < 16777216:=by rw[Zd];lia
 refine⟨s.put (9,0) (.list (W.post.map z9++[z9 (.call (hn b) i p.1 p.2.1 p.2.2)])),z4 (zj hf rfl ?_),a.post1 _,bf (Za (p:=9 < 11) rfl) _⟩
 refine qr (zt (vs:=[.int i]) rfl ((zg a.o).trans H.m13) rfl (yt H n a hi)) ?_
 refine qr (zt (vs:=[.int (hn b)]) rfl ((zg a.o).trans H.m14) rfl (x7 H n b s)) ?_
 refine zo (t:=false) (uq (g:=false) (t:=false) (zt (ef a hi rfl rfl) ((zg hco).trans H.c11) rfl (x8 H (n+1) a hi)) (by rw[ho];exact Zc nofun)) (zh ?_)
 exact qw (v:=.none) (ud (x:=.ref (9,0)) (zn rfl (z3 a.o rfl)) (jz a.po) (zf (zt (vs:=[.int (hn b)]) (ef a hi rfl rfl) ((zg hco).trans H.c10) rfl hlet) rfl) (xg _ _ _ _ a.po hll)) (zv ⟨rfl,rfl⟩)
theorem mu (hf:P.fns 59=some f_World_asking) (n:Nat) (a:WAt s ks W x) (hi:i < W.nc):run P (n+3) 59 [.ref (1,0),.int i] s=.ok (opV (W.c i).op) s:=by
 refine z4 (zj hf rfl ?_)
 refine qr (zt (vs:=[.int i]) rfl ((zg a.o).trans H.m13) rfl (yt H n a hi)) ?_
 exact zu (zt (ef a hi rfl rfl) ((zg (a.co i hi)).trans H.c11) rfl (x8 H (n+1) a hi)) ⟨rfl,rfl⟩
theorem g6 (hc:P.fns 15=some f_Caller_answers) (hm:P.meths 2 12=some 15) (hf:P.fns 60=some f_World_answers) (n:Nat) (a:WAt s ks W x) (hi:i < W.nc):run P (n+3) 60 [.ref (1,0),.int i] s=.ok (.ref (13,s.cnt 13)) (s.new 13 (.list ((W.c i).closed.map wx))):=by
 have hans:run P (n+2) 15 [.ref (3,i)] s=.ok (.ref (13,s.cnt 13)) (s.new 13 (.list ((W.c i).closed.map wx))):=z4 (zj hc rfl (zu (ig (zn rfl (z3 (a.co i hi) rfl)) (qd (a.cl i hi))) ⟨rfl,rfl⟩))
 refine z4 (zj hf rfl ?_)
 refine qr (zt (vs:=[.int i]) rfl ((zg a.o).trans H.m13) rfl (yt H n a hi)) ?_
 exact zu (zt (ef a hi rfl rfl) ((zg (a.co i hi)).trans hm) rfl hans) ⟨rfl,rfl⟩
theorem pk (hf:P.fns 47=some f_World_letters) (n:Nat) (a:WAt s ks W x):run P (n+1) 47 [.ref (1,0)] s=.ok (.ref (11,s.cnt 11)) (s.new 11 (.list (W.post.map z9))) :=
 z4 (zj hf rfl (zu (ig (zn rfl (z3 a.o rfl)) (qd a.po)) ⟨rfl,rfl⟩))
theorem za5 (hf:P.fns 58=some f_World_ledger) (n:Nat) (a:WAt s ks W x):run P (n+1) 58 [.ref (1,0)] s=.ok (.ref (12,s.cnt 12)) (s.new 12 (.list (W.rows.map vy))) :=
 z4 (zj hf rfl (zu (ig (zn rfl (z3 a.o rfl)) (qd a.ro)) ⟨rfl,rfl⟩))
omit H
theorem zlc (s:MS) (r:Lbl) (l:List V) (p:Nat) (h:s.heap r=some (.list l)) (hp:p < l.length):uv .pop (.ref r) [.int p] s=.ok l[p] (s.put r (.list (l.eraseIdx p))):=by
 show(match j7 (.ref r) s with | some q=>(match idx (p:Int) q.2.length with | some j=>(match q.2[j]? with | some v=>Res.ok v (s.put q.1 (.list (q.2.eraseIdx j))) | none=>.stuck) | none=>.stuck) | none=>.stuck)=_
 rw[fk h]
 show(match idx (p:Int) l.length with | some j=>(match l[j]? with | some v=>Res.ok v (s.put r (.list (l.eraseIdx j))) | none=>.stuck) | none=>.stuck)=_
 rw[zdk (by lia) (by lia)]
 show(match l[p]? with | some v=>Res.ok v (s.put r (.list (l.eraseIdx p))) | none=>.stuck)=_
 rw[Zl hp]
theorem zgz {p:Nat} (hp:p < W.post.length):(W.post.map z9)[p]'(by rw[Zd];exact hp)=z9 W.post[p]:=List.getElem_map ..
theorem ta {α:Type} (f:α->V):∀ (l:List α) (p:Nat),(l.map f).eraseIdx p=(l.eraseIdx p).map f
 | [],_=>rfl
 | _::_,0=>rfl
 | a::l,p+1=>Qd (f a::·) (ta f l p)
theorem WAt.pop (a:WAt s ks W x) (p:Nat):WAt (s.put (9,0) (.list ((W.post.map z9).eraseIdx p))) ks {W with post:=W.post.eraseIdx p} x:=by
 rw[ta];exact a.setPost _
noncomputable def wg (b:Bool):Letter->Prop
 | .call h _ _ _ _=>h=hn b
 | .parcel h _ _ _ _=>h=hn b
 | .taken h _ _=>h=hn b
 | .answer _ _ _=>False
theorem zon {b:Bool}{L:Letter} (hL:wg b L) (s:MS):getItem (z9 L) (.int 1) s=.ok (.int (hn b)) s:=by
 cases L with
 | answer=>exact hL.elim
 | call=>rw[<- show _=hn b from hL];rfl
 | parcel=>rw[<- show _=hn b from hL];rfl
 | taken=>rw[<- show _=hn b from hL];rfl
theorem zhi {b:Bool}{L:Letter} (hL:wg b L) {C:Calls}{l0:V} (s:MS):ev P C (.cmp (.sub (.loc 1) (.int 0)) .eq (.str [97,110,115,119,101,114])) [some l0,some (z9 L)] s=.ok (.bool false) s:=by
 cases L with
 | answer=>exact hL.elim
 | call=>rfl
 | parcel=>rfl
 | taken=>rfl
theorem zj5 {u:MS}{j:Nat}{y:HIx} (f:Fr (HF j y) s u):Fr NWp s u:=f.mono fun l q=>by
 rcases q with rfl | rfl | rfl | rfl | rfl
 ·exact Za (p:=2 < 11) rfl
 ·exact Za (p:=4 < 11) rfl
 ·exact Za (p:=5 < 11) rfl
 ·exact Za (p:=6 < 11) rfl
 ·exact Za (p:=7 < 11) rfl
theorem zkx {u:MS}{j:Nat} (f:Fr (At1 (2,j)) s u):Fr NWp s u:=f.mono fun l q=>by
 rw[show l=(2,j) from q];exact Za (p:=2 < 11) rfl
include H
theorem zce (HP:HouseP P) (n:Nat) (a:WAt s ks W x) {b:Bool}{L:Letter} (hL:wg b L) (z:HZ (W.h b)) (km:KOk (W.h b).known) (hk:LOk (W.h b) L) :
  OkR (run P (n+4) 48 [.ref (1,0),z9 L] s) fun v u=>v=.none/\WAt u ks {W with h:=upd W.h b ((W.h b).came L)} x/\Fr NWp s u:=by
 refine zj H.brou rfl (zo (t:=false) (zhi hL s) ?_)
 refine jv (x3 (vs:=[z9 L]) (pd a rfl (q6 (x:=z9 L) (y:=.int 1) rfl rfl (zon hL s))) ((zg (a.hh.at_ b).o).trans HP.mcame) rfl (zl0 HP n (a.hh.at_ b) z km L hk)) ?_
 rintro v u ⟨rfl,h1,h2⟩
 exact zh (zv ⟨rfl,a.houses (zr4 h2) (a.hh.deed h1 h2),zj5 h2⟩)
theorem zmv (hf:P.fns 51=some f_World_lose) (n:Nat) (a:WAt s ks W x) {p:Nat} (hp:p < W.post.length) :
  ∃ u,run P (n+3) 51 [.ref (1,0),.int p] s=.ok .none u/\WAt u ks {W with post:=W.post.eraseIdx p} x/\Fr NWp s u:=by
 have hp':p < (W.post.map z9).length:=by rw[Zd];exact hp
 refine⟨_,z4 (zj hf rfl ?_),a.pop p,bf (Za (p:=9 < 11) rfl) _⟩
 refine qr (zt (vs:=[.int p]) rfl ((zg a.o).trans H.m16) rfl (gb H n a hp)) ?_
 exact qw (ud (x:=.ref (9,0)) (vs:=[.int p]) (zn rfl (z3 a.o rfl)) (jz a.po) rfl (zlc s (9,0) _ p a.po hp')) (zv ⟨rfl,rfl⟩)
theorem zc7 (HP:HouseP P) (hs:P.fns 28=some f_House_sleep) (hm:P.meths 1 7=some 28) (hf:P.fns 56=some f_World_sleep) (n:Nat) (a:WAt s ks W x) (b:Bool) (z:HZ (W.h b)) :
  OkR (run P (n+3) 56 [.ref (1,0),.int (hn b)] s) fun v u=>v=.none/\(∃ x',WAt u ks {W with h:=upd W.h b (W.h b).sleep} x')/\Fr NWp s u:=by
 refine zj hf rfl ?_
 refine qr (zt (vs:=[.int (hn b)]) rfl ((zg a.o).trans H.m14) rfl (x7 H n b s)) ?_
 refine jv (x3 (vs:=[]) (pd a rfl rfl) ((zg (a.hh.at_ b).o).trans hm) rfl (zjc HP hs (n+1) (a.hh.at_ b) z)) ?_
 rintro v u ⟨rfl,h1,h2⟩
 exact zv ⟨rfl,⟨_,a.houses (zsm h2) (a.hh.slept h1 h2)⟩,zkx h2⟩
end
end Internal
end
section
namespace Internal
section
variable {P:Prog} (H:WorldP P) {n:Nat}{s:MS}{ks:List Key}
structure KeyFine (k:Key):Prop where
 pos:1<=k.length
 eig:k.length<=8
 abc:∀ c∈k,97<=c/\c<=122
theorem zqx:∀ i:Fin 26,abc.contains (97+i.1)=true:=by decide
theorem zpz {c:Nat} (h:97<=c/\c<=122):c∈abc:=by
 have:=zqx ⟨c-97,by omega⟩
 rw[show 97+(⟨c-97,by omega⟩:Fin 26).1=c from by show 97+(c-97)=c;omega] at this
 exact List.contains_iff_mem.1 this
theorem zpb {k:Key} (h:∀ c∈k,97<=c/\c<=122):k.all (fun c=>decide (c < 128))=true:=Zv.2 fun c hc=>Zb (by have:=h c hc;lia)
theorem zev (hf:P.fns 4=some f_is_key) (n:Nat) {k:Key} (h:KeyFine k) (s:MS):run P (n+1) 4 [.str k] s=.ok (.bool true) s:=by
 have hp:=h.pos
 have he:=h.eig
 refine z4 (zj hf rfl ?_)
 have hl:ev P (run P n) (.prim .len [.loc 0]) [some (.str k),none] s=.ok (.int k.length) s:=xr (vs:=[.str k]) rfl (Zg (by show _<=16777216;lia))
 refine zo (t:=false) (s':=s) (yk rfl (y0 (jt (t:=true) (zab (x:=1) (y:=k.length) (z:=8) rfl hl rfl (by lia) (by lia))))) (zh ?_)
 refine ku (v:=.str k) (s':=s) (xs:=k.map fun c=>.str [c]) rfl (Zg (zpb h.abc)) rfl (ed (fun rem l u=>u=s/\(∀ v∈rem,∃ c,v=V.str [c]/\c∈abc)/\∃ a,l=[some (.str k),a]) ?_ ?_ _ _ _ ⟨rfl,fun v hv=>?_,_,rfl⟩)
 ·rintro v rem l u ⟨rfl,hv,a,rfl⟩
  obtain⟨c,rfl,hc⟩:=hv v (Zm ..)
  refine⟨rfl,?_⟩
  show OkR (exs P _ _ _ [some (.str k),some (.str [c])] u) _
  exact zo (t:=false) (Qd (fun q=>Res.ok (V.bool (!q)) u) (Zb hc)) (zh (zv ⟨rfl,fun v hv'=>hv v (Zk _ hv'),_,rfl⟩))
 ·rintro l u ⟨rfl,-,a,rfl⟩
  refine⟨rfl,?_⟩
  rw[x9]
  exact zu rfl ⟨rfl,rfl⟩
 ·obtain⟨c,hc,rfl⟩:=ub hv
  exact⟨c,rfl,zpz (h.abc c hc)⟩
theorem zcv {key:Key} (s:MS):∀ {ks:List Key},key ∉ ks->vin s (.str key) (ks.map .str)=some false
 | [],_=>rfl
 | k::ks,h=>by
  show(match some (decide (k=key)),vin s (.str key) (ks.map .str) with | some p,some q=>some (p||q) | _,_=>none)=_
  have e:¬ k=key:=fun q=>h (by rw[q];exact Zm ..)
  rw[zcv s fun q=>h (Zk _ q),Zc e];rfl
theorem zpn (l:List V) (i:Nat) (s:MS):kf (.lst l) none (some (.int i)) s=.ok (.lst (l.take i)) s:=by
 show(match some 0,(if (0:Int)<=i then some (i:Int).toNat else none) with | some i,some j=>Res.ok (V.lst ((l.take j).drop i)) s | _,_=>.stuck)=_
 rw[Zg (Int.natCast_nonneg i)];rfl
theorem oa {key:Key}:∀ {ks:List Key}{i:Nat},ks.Nodup->ks[i]?=some key->key ∉ ks.take i
 | [],i,_,h=>by simp at h
 | a::ks,0,_,_=>by rw[List.take_zero];exact List.not_mem_nil
 | a::ks,i+1,nd,h=>by
  rw[List.nodup_cons] at nd
  rw[List.getElem?_cons_succ] at h
  rw[List.take_succ_cons]
  intro q
  rcases Zu.1 q with e | q
  ·exact nd.1 (e▸List.mem_of_getElem? h)
  ·exact oa nd.2 h q
structure KeysFine (ks:List Key):Prop where
 pos:1<=ks.length
 six:ks.length<=6
 nd:ks.Nodup
 all:∀ k∈ks,KeyFine k
include H
theorem cy {xc:Nat} (hk:P.fns 4=some f_is_key) (hf:P.fns 5=some (f_need_world xc)) (n:Nat) (K:KeysFine ks) {nc:Nat} (h1:1<=nc) (h6:nc<=6) (s:MS):run P (n+2) 5 [.lst (ks.map .str),.int nc] s=.ok .none s:=by
 have hp:=K.pos
 have h6':=K.six
 have hw:=v9 H n nc s
 refine z4 (zj hf rfl ?_)
 have hl:(ks.map V.str).length=ks.length:=Zd ..
 refine zo (t:=false) (s':=s) (yk rfl (y0 (jt (t:=true) (zab (x:=1) (y:=(ks.map V.str).length) (z:=6) rfl rfl rfl (by lia) (by lia))))) (zh ?_)
 refine ku (v:=.int (ks.map V.str).length) (s':=s) (xs:=(List.range (ks.map V.str).length).map fun (i:Nat)=>.int i) rfl (j9 s _ (by lia) (by lia)) rfl (ed (fun rem l u=>u=s/\(∀ v∈rem,∃ i:Nat,v=V.int i/\i < ks.length)/\∃ a,l=[some (.lst (ks.map .str)),some (.int nc),a]) ?_ ?_ _ _ _ ⟨rfl,fun v hv=>?_,_,rfl⟩)
 ·rintro v rem l u ⟨rfl,hv,a,rfl⟩
  obtain⟨i,rfl,hi⟩:=hv v (Zm ..)
  refine⟨rfl,?_⟩
  show OkR (exs P _ _ _ [some (.lst (ks.map .str)),some (.int nc),some (.int i)] u) _
  have hi':i < (ks.map V.str).length:=by rw[hl];exact hi
  have e1:=yh (s:=u) (a:=.lst (ks.map .str)) (k:=true) rfl i hi'
  rw[show(ks.map V.str)[i]=V.str ks[i] from List.getElem_map ..] at e1
  have e2:ev P (run P (n+1)) (.sub (.loc 0) (.loc 2)) [some (.lst (ks.map .str)),some (.int nc),some (.int i)] u=.ok (.str ks[i]) u:=q6 rfl rfl e1
  refine zo (t:=false) (s':=u) (yk (jt (t:=true) (qh (zf e2 rfl) (zev hk n (K.all _ (Qc _)) u))) (y0 (kq e2 (zge (x:=.lst (ks.map .str)) (y:=none) (z:=some (.int i)) rfl rfl rfl (zpn _ i u)) ?_))) (zh (zv ⟨rfl,fun v hv'=>hv v (Zk _ hv'),_,rfl⟩))
  show okB u (vin u (.str ks[i]) ((ks.map .str).take i))=_
  rw[<- List.map_take,zcv u (oa K.nd (Zl hi))];rfl
 ·rintro l u ⟨rfl,-,a,rfl⟩
  refine⟨rfl,?_⟩
  rw[x9]
  exact zo (t:=false) (s':=u) (yk (jt (t:=true) (qh (vs:=[.int nc]) rfl hw)) (y0 (jt (t:=true) (zab (x:=1) (y:=nc) (z:=6) rfl rfl rfl (by lia) (by lia))))) (zh (zv ⟨rfl,rfl⟩))
 ·obtain⟨i,hi,rfl⟩:=ub hv
  rw[List.mem_range,hl] at hi
  exact⟨i,rfl,hi⟩
omit H
theorem rh {C:Calls}{s₀:MS}{nc slot:Nat}{e:E}{l:Loc} (f:Nat->V) (I:Nat->MS->Prop) (hz:nc<=1000)
  (he:∀ j s,j < nc->I j s->OkR (ev P C e (l.set slot (some (.int j))) s) fun v t=>v=f j/\I (j+1) t) :
  ∀ (m j:Nat) (s:MS),j+m=nc->I j s->OkR (compLoop s₀ true (.int nc) slot none (ev P C e) l ((List.range j).map f) ((List.range' j m).map fun (i:Nat)=>V.int i) s) fun vs t=>vs=(List.range nc).map f/\I nc t
 | 0,j,s,hj,h=>by
  have hj:j=nc:=hj
  subst hj
  rw[show(List.range' j 0).map (fun (i:Nat)=>V.int i)=[] from rfl,gy]
  exact⟨rfl,h⟩
 | m+1,j,s,hj,h=>by
  rw[List.range'_succ,Zz,bw]
  show OkR (Res.bind (ev P C e (l.set slot (some (.int j))) s) _) _
  obtain⟨v,t,e1,rfl,h1⟩:=q9 (he j s (by lia) h)
  rw[e1]
  show OkR (if ((List.range j).map f).length < ze then _ else _) _
  rw[Zg (by rw[Zd,Zx];show _ < 16777216;lia)]
  have ih:=rh (s₀:=s₀) f I hz he m (j+1) t (by lia) h1
  rw[List.range_succ,Qb] at ih
  exact ih
noncomputable def c0:CS:=⟨0,none,[]⟩
theorem cn {F:Lbl->Prop}{s':MS} (a:Fr F s s') {l:Lbl} (h:s.cnt l.1<=l.2) (o:MObj):Fr F s (s'.put l o) :=
 ⟨fun x hx n=>(zm fun (e:x=l)=>by rw[e] at hx;lia).trans (a.1 x hx n),a.2⟩
theorem zbc (hin:P.inits 2=some (3,10)) (hf:P.fns 10=some f_Caller_init) (n:Nat) {i:Nat} (h3:s.cnt 3=i) (h8:s.cnt 8=i) :
  ∃ u,ji P (run P (n+1)) 2 [.int i] s=.ok (.ref (3,i)) u/\u.heap (3,i)=some (ke i c0)/\u.heap (8,i)=some (.list [])/\Fr (fun ξ=>False) s u/\u.cnt 3=i+1/\u.cnt 8=i+1/\∀ k,k≠3->k≠8->u.cnt k=s.cnt k:=by
 subst h3
 have q0:(s.new 3 (.inst 2 [])).heap (3,s.cnt 3)=some (.inst 2 []):=z5 _ _ _
 have f0:Fr (fun ξ=>False) s (s.new 3 (.inst 2 [])):=(Fr.refl _ _).new _ _
 have c3:(s.new 3 (.inst 2 [])).cnt 3=s.cnt 3+1:=rfl
 have ck:∀ k,k≠3->(s.new 3 (.inst 2 [])).cnt k=s.cnt k:=fun k hk=>Zh hk
 have c8:=(ck 8 (by decide)).trans h8
 have ge:s.cnt 3<=s.cnt 3:=Zs _
 have e:∃ u,run P (n+1) 10 [.ref (3,s.cnt 3),.int (s.cnt 3)] (s.new 3 (.inst 2 []))=.ok .none u/\u.heap (3,s.cnt 3)=some (ke (s.cnt 3) c0)/\u.heap (8,s.cnt 3)=some (.list [])/\Fr (fun ξ=>False) s u/\u.cnt 3=s.cnt 3+1/\u.cnt 8=s.cnt 3+1/\∀ k,k≠3->k≠8->u.cnt k=s.cnt k:=by
  generalize s.new 3 (.inst 2 [])=t at q0 f0 c3 ck c8
  have q1:(t.put (3,s.cnt 3) (.inst 2 [(0,.int (s.cnt 3))])).heap (3,s.cnt 3)=some (.inst 2 [(0,.int (s.cnt 3))]):=zl _ _ _
  have f1:=cn (l:=(3,s.cnt 3)) f0 ge (.inst 2 [(0,.int (s.cnt 3))])
  have q2:((t.put (3,s.cnt 3) (.inst 2 [(0,.int (s.cnt 3))])).put (3,s.cnt 3) (.inst 2 [(0,.int (s.cnt 3)),(1,.int 0)])).heap (3,s.cnt 3)=some (.inst 2 [(0,.int (s.cnt 3)),(1,.int 0)]):=zl _ _ _
  have f2:=cn (l:=(3,s.cnt 3)) f1 ge (.inst 2 [(0,.int (s.cnt 3)),(1,.int 0)])
  have q3:(((t.put (3,s.cnt 3) (.inst 2 [(0,.int (s.cnt 3))])).put (3,s.cnt 3) (.inst 2 [(0,.int (s.cnt 3)),(1,.int 0)])).put (3,s.cnt 3) (.inst 2 [(0,.int (s.cnt 3)),(1,.int 0),(2,.none)])).heap (3,s.cnt 3)=some (.inst 2 [(0,.int (s.cnt 3)),(1,.int 0),(2,.none)]):=zl _ _ _
  have f3:=cn (l:=(3,s.cnt 3)) f2 ge (.inst 2 [(0,.int (s.cnt 3)),(1,.int 0),(2,.none)])
  have k3:(((t.put (3,s.cnt 3) (.inst 2 [(0,.int (s.cnt 3))])).put (3,s.cnt 3) (.inst 2 [(0,.int (s.cnt 3)),(1,.int 0)])).put (3,s.cnt 3) (.inst 2 [(0,.int (s.cnt 3)),(1,.int 0),(2,.none)])).cnt=t.cnt:=rfl
  refine⟨((((t.put (3,s.cnt 3) (.inst 2 [(0,.int (s.cnt 3))])).put (3,s.cnt 3) (.inst 2 [(0,.int (s.cnt 3)),(1,.int 0)])).put (3,s.cnt 3) (.inst 2 [(0,.int (s.cnt 3)),(1,.int 0),(2,.none)])).new 8 (.list [])).put (3,s.cnt 3) (ke (s.cnt 3) c0),z4 (zj hf rfl ?_),zl _ _ _,?_,cn (f3.new 8 _) ge _,c3,Qd (·+1) c8,fun k h1 h2=>(Zh h2).trans (ck k h1)⟩
  ·refine zy (v:=.int (s.cnt 3)) rfl rfl (xa 0 _ q0 rfl) (zy (v:=.int 0) rfl rfl (xa 1 _ q1 rfl) (zy (v:=.none) rfl rfl (xa 2 _ q2 rfl) ?_))
   refine zy (v:=.ref (8,t.cnt 8)) (s':=((((t.put (3,s.cnt 3) (.inst 2 [(0,.int (s.cnt 3))])).put (3,s.cnt 3) (.inst 2 [(0,.int (s.cnt 3)),(1,.int 0)])).put (3,s.cnt 3) (.inst 2 [(0,.int (s.cnt 3)),(1,.int 0),(2,.none)])).new 8 (.list [])).put (3,s.cnt 3) (ke (s.cnt 3) c0)) rfl rfl ?_ (zv ⟨rfl,rfl⟩)
   refine(xa 3 _ ((qu (zd (by decide))).trans q3) rfl).trans ?_
   rw[c8];rfl
  ·refine(zm (zd (by decide))).trans ?_
   rw[<- c8];exact z5 _ 8 _
 obtain⟨u,e1,e2⟩:=e
 refine⟨u,?_,e2⟩
 rw[ji,hin]
 show Res.bind (run P (n+1) 10 [.ref (3,s.cnt 3),.int (s.cnt 3)] (s.new 3 (.inst 2 []))) _=_
 rw[e1];rfl
noncomputable def W0 (ks:List Key) (nc:Nat):WS:=⟨nc,fun b=>HS.new (hn b) ks,fun ξ=>c0,[],[]⟩
structure CI (s:MS) (j:Nat) (u:MS):Prop where
 c3:u.cnt 3=j
 c8:u.cnt 8=j
 co:∀ i,i < j->u.heap (3,i)=some (ke i c0)
 cl:∀ i,i < j->u.heap (8,i)=some (.list [])
 fr:Fr (fun ξ=>False) s u
 ck:∀ k,k≠3->k≠8->u.cnt k=s.cnt k
theorem CI.next {u v:MS}{j:Nat} (a:CI s j u) (h1:v.heap (3,j)=some (ke j c0)) (h2:v.heap (8,j)=some (.list [])) (f:Fr (fun ξ=>False) u v) (h3:v.cnt 3=j+1) (h8:v.cnt 8=j+1) (hk:∀ k,k≠3->k≠8->v.cnt k=u.cnt k):CI s (j+1) v:=by
 refine⟨h3,h8,fun i hi=>?_,fun i hi=>?_,a.fr.trans f,fun k q1 q2=>(hk k q1 q2).trans (a.ck k q1 q2)⟩
 ·by_cases e:i=j
  ·rw[e];exact h1
  ·exact(f.1 (3,i) (by show i < u.cnt 3;rw[a.c3];lia) fun q=>q).trans (a.co i (by lia))
 ·by_cases e:i=j
  ·rw[e];exact h2
  ·exact(f.1 (8,i) (by show i < u.cnt 8;rw[a.c8];lia) fun q=>q).trans (a.cl i (by lia))
theorem ej (n:Nat):List.range n=List.range' 0 n:=List.range_eq_range'
noncomputable def KeysW (kv:V) (ks:List Key) (s:MS):Prop:=kv=.lst (ks.map .str)\/∃ r:Lbl,kv=.ref r/\11<=r.1/\r.2 < s.cnt r.1/\s.heap r=some (.list (ks.map .str))
theorem KeysW.v {kv:V} (h:KeysW kv ks s):KeysV kv ks s :=
 h.imp id fun ⟨r,e,h1,h2,h3⟩=>⟨r,e,Nat.ne_of_gt (Zi (by decide) h1),Nat.ne_of_gt (Zi (by decide) h1),h2,h3⟩
theorem KeysW.step {kv:V}{F:Lbl->Prop}{t:MS} (h:KeysW kv ks s) (f:Fr F s t) (hF:∀ l,F l->l.1 < 11):KeysW kv ks t :=
 h.imp id fun ⟨r,e,h1,h2,h3⟩=>⟨r,e,h1,Zi h2 (f.2 _),(f.1 r h2 fun q=>Nat.not_lt_of_le h1 (hF r q)).trans h3⟩
theorem KeysW.list {kv:V}{C:Calls}{e:E}{l:Loc} (h:KeysW kv ks s) (he:ev P C e l s=.ok kv s):ev P C (.prim .list1 [e]) l s=.ok (.lst (ks.map .str)) s:=by
 rcases h with rfl | ⟨r,rfl,-,-,h⟩
 ·exact xr (zf he rfl) rfl
 ·refine xr (zf he rfl) ?_
  show(match zr s (.ref r) with | some p=>Res.ok (V.lst p.2) s | none=>.stuck)=_
  rw[qd h]
theorem zdr (HP:HouseP P) (i1:P.inits 1=some (2,20)) (n:Nat) {kv:V} (hk:KeysW kv ks s) (hn6:ks.length < 1000) (z:s.cnt 2=0) :
  ∃ s1 s2 x,ji P (run P (n+1)) 1 [.int 0,kv] s=.ok (.ref (2,0)) s1/\ji P (run P (n+1)) 1 [.int 1,kv] s1=.ok (.ref (2,1)) s2/\HH s2 x (fun b=>HS.new (hn b) ks)/\Fr (fun ξ=>False) s s2/\∀ k,7 < k\/k=3->s2.cnt k=s.cnt k:=by
 obtain⟨v,s1,e1,rfl,x1,-,hH1,u1,c1,m1⟩:=q9 (n7 HP i1 n (s:=s) 0 kv ks hk.v hn6)
 obtain⟨v,s2,e2,rfl,x2,hx2,hH2,u2,c2,m2⟩:=q9 (n7 HP i1 n (s:=s1) 1 kv ks (hk.step u1 fun ξ q=>q.elim).v hn6)
 rw[z] at c1 e1 hH1
 rw[c1] at e2 hH2
 refine⟨s1,s2,fun b=>cond b x2 x1,e1,e2,⟨fun b=>?_,Z9 (Zi hH1.ik hx2.1),Z9 (Zi hH1.iw hx2.2.1),Z9 (Zi hH1.il hx2.2.2.1),Z9 (Zi hH1.ir hx2.2.2.2)⟩,u1.trans u2,fun k hk=>(m2 k hk).trans (m1 k hk)⟩
 cases b
 ·exact hH1.step u2 fun ξ ξ q=>q
 ·exact hH2
theorem za1 (i2:P.inits 2=some (3,10)) (hci:P.fns 10=some f_Caller_init) (n:Nat) (h3:s.cnt 3=0) (h8:s.cnt 8=0) {nc:Nat} (h6:nc<=6) {a b:Option V} :
  ∃ t,ev P (run P (n+1)) (.comp none 3 true (.loc 2) none (.new 2 [.loc 3])) [a,b,some (.int nc),none] s=.ok (.lst (jj nc)) t/\CI s nc t:=by
 have hz:nc<=1000:=Zp h6 (by decide)
 obtain⟨vs,t,e,rfl,ci⟩:=q9 (rh (P:=P) (C:=run P (n+1)) (s₀:=s) (slot:=3) (e:=.new 2 [.loc 3]) (l:=[a,b,some (.int nc),none]) (nc:=nc) (fun i=>.ref (3,i)) (CI s) hz (fun j u hj a=>by
  obtain⟨v,r1,r2,r3,r4,r5,r6,r7⟩:=zbc i2 hci n a.c3 a.c8
  exact u4 (ar (a:=[.int j]) (s:=u) rfl r1) ⟨rfl,a.next r2 r3 r4 r5 r6 r7⟩) nc 0 s (Nat.zero_add nc) ⟨h3,h8,fun i hi=>absurd hi (Nat.not_lt_zero i),fun i hi=>absurd hi (Nat.not_lt_zero i),.refl _ _,fun ξ ξ ξ=>rfl⟩)
 exact⟨t,b6 (src:=.int nc) rfl ((j9 s nc (Int.le_trans (by decide) (Int.natCast_nonneg nc)) (Int.ofNat_le.2 (Zp hz (by decide)))).trans (by rw[Int.toNat_natCast,ej])) e,ci⟩
noncomputable def zmz (ks:List Key) (nc:Nat):MObj:=.inst 0 [(8,.lst (ks.map .str)),(9,.lst [.ref (2,0),.ref (2,1)]),(10,.lst (jj nc))]
theorem zim {C:Calls}{l:Loc}{x:Bool->HIx}{nc:Nat}{Q:Fl×Loc->MS->Prop} (q0:s.heap (1,0)=some (zmz ks nc)) (hh:HH s x (fun b=>HS.new (hn b) ks)) (co:∀ i,i < nc->s.heap (3,i)=some (ke i c0)) (cl:∀ i,i < nc->s.heap (8,i)=some (.list []))
  (i1:0 < s.cnt 1) (i3:nc<=s.cnt 3) (i8:nc<=s.cnt 8) (c9:s.cnt 9=0) (c10:s.cnt 10=0)
  (k:∀ u,WAt u ks (W0 ks nc) x->Fr (At1 (1,0)) s u->(∀ k,10 < k->u.cnt k=s.cnt k)->Q (.next,some (.ref (1,0))::l) u) :
  OkR (exs P C n [.setattr (.loc 0) 11 (.lstM 9 []),.setattr (.loc 0) 12 (.lstM 10 [])] (some (.ref (1,0))::l) s) Q:=by
 have g:∀ {a b:MObj}{l:Lbl}{o:MObj},s.heap l=some o->l.1≠1->l.1≠9->l.1≠10->((((s.new 9 (.list [])).put (1,0) a).new 10 (.list [])).put (1,0) b).heap l=some o :=
  fun e h1 h9 h10=>(zm fun q=>h1 (Qd Prod.fst q)).trans ((qu fun q=>h10 (Qd Prod.fst q)).trans ((zm fun q=>h1 (Qd Prod.fst q)).trans ((qu fun q=>h9 (Qd Prod.fst q)).trans e)))
 have f:∀ {a b:MObj},Fr (At1 (1,0)) s ((((s.new 9 (.list [])).put (1,0) a).new 10 (.list [])).put (1,0) b):=((((Fr.refl _ _).new _ _).put (at1 _) _).new _ _).put (at1 _) _
 refine zy rfl rfl (xa 11 _ ((qu (zd (by decide))).trans q0) rfl) (zy rfl rfl (xa 12 _ ((qu (zd (by decide))).trans (zl _ _ _)) rfl) (zv (k _ ⟨?_,hh.step (f.mono fun l (e:l=(1,0))=>e▸Za (p:=1≠2/\1≠4/\1≠5/\1≠6/\1≠7) rfl),fun i hi=>g (co i hi) (Za (p:=3≠1) rfl) (Za (p:=3≠9) rfl) (Za (p:=3≠10) rfl),fun i hi=>g (cl i hi) (Za (p:=8≠1) rfl) (Za (p:=8≠9) rfl) (Za (p:=8≠10) rfl),?_,?_,i1,i3,i8,Nat.succ_pos _,Nat.succ_pos _⟩ f fun k hk=>(Zh (Nat.ne_of_gt hk)).trans (Zh (Nat.ne_of_gt (Nat.lt_of_succ_lt hk))))))
 ·refine(zl _ _ _).trans ?_
  show some (MObj.inst 0 [(8,.lst (ks.map .str)),(9,.lst [.ref (2,0),.ref (2,1)]),(10,.lst (jj nc)),(11,.ref (9,s.cnt 9)),(12,.ref (10,s.cnt 10))])=_
  rw[c9,c10];rfl
 ·refine(zm (zd (by decide))).trans ((qu (zd (by decide))).trans ((zm (zd (by decide))).trans ?_))
  rw[<- c9];exact z5 _ 9 _
 ·refine(zm (zd (by decide))).trans ?_
  have e:((s.new 9 (.list [])).put (1,0) (.inst 0 (pc 11 (.ref (9,s.cnt 9)) [(8,.lst (ks.map .str)),(9,.lst [.ref (2,0),.ref (2,1)]),(10,.lst (jj nc))]))).cnt 10=0:=c10
  rw[<- e];exact z5 _ 10 _
theorem zen (HP:HouseP P) (i1:P.inits 1=some (2,20)) (i2:P.inits 2=some (3,10)) (hci:P.fns 10=some f_Caller_init) (n:Nat) {kv:V} (hk:KeysW kv ks s) (hn6:ks.length < 1000) {nc:Nat} (h6:nc<=6)
  (q0:s.heap (1,0)=some (.inst 0 [])) (l1:0 < s.cnt 1) (hc:∀ k,k≠1->k < 11->s.cnt k=0) {Q:Fl×Loc->MS->Prop} (k:∀ u l x,WAt u ks (W0 ks nc) x->Fr (At1 (1,0)) s u->(∀ k,10 < k->u.cnt k=s.cnt k)->Q (.next,l) u) :
  OkR (exs P (run P (n+1)) (n+1) zlx [some (.ref (1,0)),some kv,some (.int nc),none] s) Q:=by
 refine zy (hk.list rfl) rfl (xa 8 _ q0 rfl) ?_
 have f1:Fr (At1 (1,0)) s (s.put (1,0) (.inst 0 [(8,.lst (ks.map .str))])):=(Fr.refl _ _).put (at1 _) _
 obtain⟨s1,s2,x,e1,e2,hh,f2,c2⟩:=zdr HP i1 n (hk.step f1 fun l (e:l=(1,0))=>e▸Za (p:=1 < 11) rfl) hn6 (hc 2 (by decide) (by decide))
 refine zy (m6 (vs:=[.ref (2,0),.ref (2,1)]) (zf (ar (a:=[.int 0,kv]) rfl e1) (zf (ar (a:=[.int 1,kv]) rfl e2) rfl)) rfl) rfl (xa 9 _ ((f2.1 (1,0) l1 fun q=>q).trans (zl _ _ _)) rfl) ?_
 have hz:∀ k,7 < k\/k=3->k≠1->k < 11->s2.cnt k=0:=fun k h h1 h2=>(c2 k h).trans (hc k h1 h2)
 obtain⟨t,e3,ci⟩:=za1 (s:=s2.put (1,0) (.inst 0 [(8,.lst (ks.map .str)),(9,.lst [.ref (2,0),.ref (2,1)])])) i2 hci n (hz 3 (.inr rfl) (by decide) (by decide)) (hz 8 (.inl (by decide)) (by decide) (by decide)) h6 (a:=some (.ref (1,0))) (b:=some kv)
 have l2:0 < s2.cnt 1:=Zi l1 (f2.2 1)
 have l3:0 < t.cnt 1:=Zi l2 (ci.fr.2 1)
 have fN:Fr NH s2 (s2.put (1,0) (.inst 0 [(8,.lst (ks.map .str)),(9,.lst [.ref (2,0),.ref (2,1)])])):=(Fr.refl _ _).put (Za (p:=1≠2/\1≠4/\1≠5/\1≠6/\1≠7) rfl) _
 have f3:Fr (At1 (1,0)) s t:=((f1.trans (f2.mono fun ξ q=>q.elim)).put (at1 _) _).trans (ci.fr.mono fun ξ q=>q.elim)
 have hput:∀ {l:Lbl}{o:MObj},t.heap l=some o->l.1≠1->(t.put (1,0) (zmz ks nc)).heap l=some o:=fun e h=>(zm fun q=>h (Qd Prod.fst q)).trans e
 refine zy e3 rfl (xa 10 _ ((ci.fr.1 (1,0) l2 fun q=>q).trans (zl _ _ _)) rfl) (zim (x:=x) (zl _ _ _) ?_ (fun i hi=>hput (ci.co i hi) (Za (p:=3≠1) rfl)) (fun i hi=>hput (ci.cl i hi) (Za (p:=8≠1) rfl)) l3 (Nat.le_of_eq ci.c3.symm) (Nat.le_of_eq ci.c8.symm) ((ci.ck 9 (by decide) (by decide)).trans (hz 9 (.inl (by decide)) (by decide) (by decide))) ((ci.ck 10 (by decide) (by decide)).trans (hz 10 (.inl (by decide)) (by decide) (by decide))) fun u A f hu=>k u _ x A ((f3.put (at1 _) _).trans f) fun k hk=>?_)
 ·exact(hh.step fN).step ((ci.fr.mono fun ξ q=>q.elim).put (Za (p:=1≠2/\1≠4/\1≠5/\1≠6/\1≠7) rfl) _)
 ·have h:k≠3/\k≠8/\7 < k:=by omega
  exact(hu k hk).trans ((ci.ck k h.1 h.2.1).trans (c2 k (.inl h.2.2)))
theorem zi2 {Q:V->MS->Prop} (i0:P.inits 0=some (1,40)) {n:Nat}{vs:List V} (hc:∀ k,k < 11->s.cnt k=0)
  (h:∀ t,t.heap (1,0)=some (.inst 0 [])->0 < t.cnt 1->(∀ k,k≠1->t.cnt k=s.cnt k)->Fr (fun ξ=>False) s t->OkR (run P n 40 (.ref (1,0)::vs) t) fun v u=>v=.none/\Q (.ref (1,0)) u) :
  OkR (ji P (run P n) 0 vs s) Q:=by
 have g1:=hc 1 (by decide)
 rw[ji,i0]
 show OkR (Res.bind (run P n 40 (.ref (1,s.cnt 1)::vs) (s.new 1 (.inst 0 []))) _) _
 rw[g1,je]
 exact qz (h (s.new 1 (.inst 0 [])) (by rw[<- g1];exact z5 _ 1 _) (by rw[uj];exact Nat.succ_pos _) (fun k hk=>Zh hk) ((Fr.refl _ _).new _ _)) fun v u q=>by obtain⟨rfl,q⟩:=q;exact q
include H
theorem zdb {xc:Nat} (HP:HouseP P) (i0:P.inits 0=some (1,40)) (i1:P.inits 1=some (2,20)) (i2:P.inits 2=some (3,10)) (hci:P.fns 10=some f_Caller_init) (hk:P.fns 4=some f_is_key) (hnw:P.fns 5=some (f_need_world xc)) (hf:P.fns 40=some we)
  (n:Nat) (K:KeysFine ks) {nc:Nat} (h1:1<=nc) (h6:nc<=6) (hc:∀ k,k < 11->s.cnt k=0) :
  OkR (ji P (run P (n+3)) 0 [.lst (ks.map .str),.int nc] s) fun v u=>v=.ref (1,0)/\(∃ x,WAt u ks (W0 ks nc) x)/\Fr (fun ξ=>False) s u/\∀ k,10 < k->u.cnt k=s.cnt k :=
 zi2 i0 hc fun t q0 l1 ck f0=>zj hf rfl (qw (qh (vs:=[.lst (ks.map .str),.int nc]) rfl (cy H hk hnw n K h1 h6 t)) (zen HP i1 i2 hci (n+1) (.inl rfl) (Z7 K.six (by decide)) h6 q0 l1 (fun k h h'=>(ck k h).trans (hc k h')) fun u l x A f hu=>⟨rfl,rfl,⟨x,A⟩,f0.fresh f (Nat.le_of_eq (hc 1 (by decide))),fun k hk=>(hu k hk).trans (ck k (Nat.ne_of_gt (Nat.lt_trans (by decide) hk)))⟩))
omit H
noncomputable abbrev big:Int:=1000000000000000000000000000000
theorem zsk {C:Calls}{l:Loc}{a:E}{i:Int} (ha:ev P C a l s=.ok (.int i) s) (h1:-big<=i) (h2:i<=big) :
  ev P C (.not (.cmp2 (.neg (.gint "GREATEST" 1000000000000000000000000000000)) .le a .le (.gint "GREATEST" 1000000000000000000000000000000))) l s=.ok (.bool false) s :=
 jt (t:=true) (zab (x:=-big) (y:=i) (z:=big) rfl ha rfl h1 h2)
noncomputable def WOk:W->Prop
 | .get=>True
 | .set i=>-big<=i/\i<=big
 | .add i=>-big<=i/\i<=big
include H
theorem zbg {xc:Nat} (hf:P.fns 1=some (f_need_wish xc)) (n:Nat) (w:W) (h:WOk w) (s:MS):run P (n+2) 1 [wv w] s=.ok .none s:=by
 refine z4 (zj hf rfl ?_)
 cases w with
 | get=>exact zo (t:=false) (s':=s) rfl (zh (zo (t:=true) (s':=s) rfl (rq ⟨rfl,rfl⟩)))
 | set i =>
  have hw:=v9 H n i s
  exact zo (t:=false) (s':=s) rfl (zh (zo (t:=false) (s':=s) rfl (zh (zo (t:=false) (s':=s) (yk rfl (yk rfl (y0 (jt (t:=true) (qh (vs:=[.int i]) rfl hw))))) (zh (zo (t:=false) (zsk rfl h.1 h.2) (zh (zv ⟨rfl,rfl⟩))))))))
 | add i =>
  have hw:=v9 H n i s
  exact zo (t:=false) (s':=s) rfl (zh (zo (t:=false) (s':=s) rfl (zh (zo (t:=false) (s':=s) (yk rfl (yk rfl (y0 (jt (t:=true) (qh (vs:=[.int i]) rfl hw))))) (zh (zo (t:=false) (zsk rfl h.1 h.2) (zh (zv ⟨rfl,rfl⟩))))))))
omit H
theorem ztv:big=1000000000000000000000000000000:=rfl
theorem zfz (c:Int) (b:Bool):-big<=fp c b/\fp c b<=big:=by
 rw[ztv]
 cases b with
 | true =>
  obtain⟨h1,h2⟩:=qk (c.fdiv 6) 2000000000000000000000000000001 (by decide)
  show _<=_-_/\_-_<=_
  constructor <;> omega
 | false =>
  obtain⟨h1,h2⟩:=qk (c.fdiv 6) 7 (by decide)
  show _<=_-_/\_-_<=_
  constructor <;> omega
theorem zo8 (c:Int):WOk (zd2 c):=by
 unfold zd2 d4
 split
 ·trivial
 ·split
  ·exact zfz c _
  ·exact zfz c _
theorem zoy:∀ c∈qwe,97<=c/\c<=122:=by decide
theorem za3 {m z:Nat} (h6:m<=6) (hz:z < 8) (a:Nat) (t:Int) (b:Bool):∀ k∈uc m z a t b,KeyFine k:=by
 have hl:(vb z t).length=z:=zcd z t
 have ha:=zko z t
 cases b with
 | true =>
  intro k hk
  obtain⟨i,hi,rfl⟩:=Z1.1 hk
  have hi:=List.mem_range.1 hi
  have e:((vb z t++qwe).take (i+1)).length=i+1:=by rw[List.length_take,Zf,hl];show min (i+1) (z+8)=i+1;lia
  exact⟨by lia,by lia,fun c hc=>(Zt.1 (List.mem_of_mem_take hc)).elim (ha c) (zoy c)⟩
 | false =>
  intro k hk
  obtain⟨i,hi,rfl⟩:=Z1.1 hk
  have e:((vb z t).take a++[x6 (t+i)]++(vb z t).drop a).length=z+1:=by rw[Zf,Zf,List.length_take,List.length_drop,hl];show min a z+1+(z-a)=z+1;lia
  refine⟨by lia,by lia,fun c hc=>?_⟩
  rcases Zt.1 hc with hc | hc
  ·rcases Zt.1 hc with hc | hc
   ·exact ha c (List.mem_of_mem_take hc)
   ·rw[Zq.1 hc];exact n8 _
  ·exact ha c (List.mem_of_mem_drop hc)
theorem zjb (c:Int):KeysFine (dy c):=by
 obtain⟨h0,h1⟩:=qk c 6 (by decide)
 obtain⟨h2,h3⟩:=qk (c.fdiv 6) 8 (by decide)
 have K:=zp6 c
 exact⟨K.pos,K.six,K.nd,za3 (by omega) (by omega) _ _ _⟩
theorem w4 (k:Int) {N:Nat} (h:0 < N):∃ p:Nat,p < N/\k.fmod (N:Int)=p:=by
 obtain⟨h1,h2⟩:=qk k (N:Int) (by omega)
 exact⟨(k.fmod (N:Int)).toNat,by omega,by omega⟩
end
end Internal
end
section
namespace Internal
noncomputable def f_Caller_came:Fn:=⟨3,["self","number","told"],[.ite (.and [.isC true (.attr (.loc 0) 2) .none,.cmp (.sub (.attr (.loc 0) 2) (.int 0)) .eq (.loc 1)]) [.expr (.bm .append (.attr (.loc 0) 3) [.tup [.loc 1,.loc 2]]),.setattr (.loc 0) 2 .none] []]⟩
noncomputable def f_World_home:Fn:=⟨2,["self","key","house"],[.exprX (.meth (.loc 0) 15 [.loc 1]),.for_ (.inl (.loc 2)) false (.attr (.loc 0) 9) [.ite (.meth (.loc 2) 0 [.loc 1]) [.ret (some (.attr (.loc 2) 0))] []],.ret (some .none)]⟩
noncomputable def f_World_move (xc:Nat):Fn:=⟨2,["self","key","home"],[.assignX 2 (.meth (.loc 0) 24 [.loc 1]),.ite (.isC false (.loc 2) .none) [.raise xc] [],.expr (.meth (.sub (.attr (.loc 0) 9) (.loc 2)) 5 [.loc 1])]⟩
noncomputable def f_World_has:Fn:=⟨3,["self","house","key"],[.exprX (.meth (.loc 0) 14 [.loc 1]),.exprX (.meth (.loc 0) 15 [.loc 2]),.ret (some (.meth (.sub (.attr (.loc 0) 9) (.loc 1)) 0 [.loc 2]))]⟩
noncomputable def f_World_write:Fn:=⟨2,["self","house","found"],[.exprX (.meth (.loc 0) 14 [.loc 1]),.assign 2 (.meth (.sub (.attr (.loc 0) 9) (.loc 1)) 6 []),.expr (.bm .extend (.attr (.loc 0) 11) [.sub (.loc 2) (.int 0)]),.expr (.bm .extend (.attr (.loc 0) 12) [.sub (.loc 2) (.int 1)])]⟩
noncomputable def f_World_nudge:Fn:=⟨2,["self","house"],[.exprX (.meth (.loc 0) 14 [.loc 1]),.expr (.bm .extend (.attr (.loc 0) 11) [.meth (.sub (.attr (.loc 0) 9) (.loc 1)) 8 []])]⟩
noncomputable def f_World_owes:Fn:=⟨2,["self","house"],[.exprX (.meth (.loc 0) 14 [.loc 1]),.ret (some (.meth (.sub (.attr (.loc 0) 9) (.loc 1)) 1 []))]⟩
noncomputable def CS.came (c:CS) (n told:Int):CS:=match c.op with
 | some p=>if p.1=n then ⟨c.begun,none,c.closed++[(n,told)]⟩ else c
 | none=>c
noncomputable def jc (W:WS) (key:Key):V:=if (W.h false).has key then .int (W.h false).num else if (W.h true).has key then .int (W.h true).num else .none
section
variable {P:Prog} (H:WorldP P) {n:Nat}{s:MS}{ks:List Key}{W:WS}{x:Bool->HIx}{i:Nat}
theorem ze0 (s:MS) (r:Lbl) (l:List V) {v:V}{k:Bool}{l2:List V} (h:s.heap r=some (.list l)) (h2:zr s v=some (k,l2)) (hz:l.length+l2.length<=16777216):uv .extend (.ref r) [v] s=.ok .none (s.put r (.list (l++l2))):=by
 show(match j7 (.ref r) s with | some p=>(match zr s v with | some q=>if p.2.length+q.2.length<=ze then Res.ok V.none (s.put p.1 (.list (p.2++q.2))) else .stuck | none=>.stuck) | none=>.stuck)=_
 rw[fk h]
 show(match zr s v with | some q=>if l.length+q.2.length<=ze then Res.ok V.none (s.put r (.list (l++q.2))) else .stuck | none=>.stuck)=_
 rw[h2]
 exact Zg hz
theorem WAt.setRows (a:WAt s ks W x) (l:List LRow):WAt (s.put (10,0) (.list (l.map vy))) ks {W with rows:=l} x :=
 ⟨(zm (zd (by decide))).trans a.o,a.hh.step (rt (l:=(10,0)) (Za (p:=10≠2/\10≠4/\10≠5/\10≠6/\10≠7) rfl) _),fun i hi=>(zm (zd (by decide))).trans (a.co i hi),fun i hi=>(zm (zd (by decide))).trans (a.cl i hi),(zm (zd (by decide))).trans a.po,zl _ _ _,a.i1,a.i3,a.i8,a.i9,a.i10⟩
theorem WAt.setClosed (a:WAt s ks W x) (i:Nat) (c:CS) (h1:c.begun=(W.c i).begun) (h2:c.op=(W.c i).op):WAt (s.put (8,i) (.list (c.closed.map wx))) ks {W with c:=yo W.c i c} x:=by
 refine⟨(zm (zd (by decide))).trans a.o,a.hh.step (rt (l:=(8,i)) (Za (p:=8≠2/\8≠4/\8≠5/\8≠6/\8≠7) rfl) _),fun k hk=>?_,fun k hk=>?_,(zm (zd (by decide))).trans a.po,(zm (zd (by decide))).trans a.ro,a.i1,a.i3,a.i8,a.i9,a.i10⟩
 ·refine((zm (zd (by decide))).trans (a.co k hk)).trans ?_
  show some (ke k (W.c k))=some (ke k (if k=i then c else W.c k))
  by_cases e:k=i
  ·rw[Zg e,ke,ke,h1,h2,e]
  ·rw[Zh e]
 ·show(s.put (8,i) (.list (c.closed.map wx))).heap (8,k)=some (.list (List.map wx (if k=i then c else W.c k).closed))
  by_cases e:k=i
  ·subst e;rw[Zg rfl];exact zl _ _ _
  ·rw[Zh e];exact(zm fun q=>e (Qd Prod.snd q)).trans (a.cl k hk)
theorem zh1 (f:Nat->CS) (i:Nat) (a b:CS):yo (yo f i a) i b=yo f i b:=by
 funext k
 show(if k=i then _ else if k=i then _ else f k)=if k=i then _ else f k
 split <;> rfl
set_option tactic.hygienic true in
theorem td (f:Nat->CS) (i:Nat):yo f i (f i)=f:=by
 funext k
 show(if k=i then f i else f k)=f k
 split
 ·rename_i e;rw[e]
 ·rfl
include H
theorem zjd (hf:P.fns 13=some f_Caller_came) (n:Nat) (a:WAt s ks W x) (hi:i < W.nc) (num told:Int) (hz:(W.c i).closed.length < 16777000) :
  OkR (run P (n+1) 13 [.ref (3,i),.int num,.int told] s) fun v u=>v=.none/\WAt u ks {W with c:=yo W.c i ((W.c i).came num told)} x/\Fr NWp s u:=by
 have ho:=a.co i hi
 have hcl:=a.cl i hi
 refine zj hf rfl ?_
 have eo:ev P (run P n) (.attr (.loc 0) 2) [some (.ref (3,i)),some (.int num),some (.int told)] s=.ok (opV (W.c i).op) s:=zn rfl (z3 ho rfl)
 cases hop:(W.c i).op with
 | none =>
  have e:(W.c i).came num told=W.c i:=by rw[CS.came,hop]
  rw[e,td]
  rw[hop] at eo
  exact zo (t:=false) (s':=s) (p6 (uq (g:=true) (t:=true) eo (Zb rfl))) (zh (zv ⟨rfl,a,.refl _ _⟩))
 | some p =>
  rw[hop] at eo
  have e0:ev P (run P n) (.cmp (.sub (.attr (.loc 0) 2) (.int 0)) .eq (.loc 1)) [some (.ref (3,i)),some (.int num),some (.int told)] s=.ok (.bool (decide (p.1=num))) s:=kq (q6 eo rfl rfl) rfl rfl
  have e1:=uq (g:=true) (t:=false) eo (Zc nofun)
  by_cases hn:p.1=num
  ·have e:(W.c i).came num told=⟨(W.c i).begun,none,(W.c i).closed++[(num,told)]⟩:=by rw[CS.came,hop];exact Zg hn
   rw[e]
   have hll:((W.c i).closed.map wx).length < 16777216:=by rw[Zd];lia
   refine zo (t:=true) (s':=s) (vr e1 (yl (e0.trans (Qd (fun q=>Res.ok (V.bool q) s) (Zb hn))))) ?_
   have a1:=a.setClosed i ⟨(W.c i).begun,(W.c i).op,(W.c i).closed++[(num,told)]⟩ rfl rfl
   have f1:Fr NWp s (s.put (8,i) (.list (((W.c i).closed++[(num,told)]).map wx))):=bf (Za (p:=8 < 11) rfl) _
   refine qw (v:=.none) (s':=s.put (8,i) (.list (((W.c i).closed++[(num,told)]).map wx))) (ud (x:=.ref (8,i)) (vs:=[wx (num,told)]) (zn rfl (z3 ho rfl)) (jz hcl) rfl (by rw[Qb];exact xg _ _ _ _ hcl hll)) ?_
   generalize s.put (8,i) (.list (((W.c i).closed++[(num,told)]).map wx))=t at a1 f1
   have hself:yo W.c i ⟨(W.c i).begun,(W.c i).op,(W.c i).closed++[(num,told)]⟩ i=⟨(W.c i).begun,(W.c i).op,(W.c i).closed++[(num,told)]⟩:=Zg rfl
   have ho1:t.heap (3,i)=some (ke i ⟨(W.c i).begun,(W.c i).op,(W.c i).closed++[(num,told)]⟩):=(a1.co i hi).trans (Qd (fun c=>some (ke i c)) hself)
   have a2:WAt (t.put (3,i) (ke i ⟨(W.c i).begun,none,(W.c i).closed++[(num,told)]⟩)) ks {W with c:=yo (yo W.c i ⟨(W.c i).begun,(W.c i).op,(W.c i).closed++[(num,told)]⟩) i ⟨(W.c i).begun,none,(W.c i).closed++[(num,told)]⟩} x:=a1.setCaller i ⟨(W.c i).begun,none,(W.c i).closed++[(num,told)]⟩ (Qd CS.closed hself).symm
   rw[zh1] at a2
   exact zy (v:=.none) (s':=t.put (3,i) (ke i ⟨(W.c i).begun,none,(W.c i).closed++[(num,told)]⟩)) rfl rfl (xa 2 _ ho1 rfl) (zh (zv ⟨rfl,a2,f1.put (Za (p:=3 < 11) rfl) _⟩))
  ·have e:(W.c i).came num told=W.c i:=by rw[CS.came,hop];exact Zh hn
   rw[e,td]
   exact zo (t:=false) (s':=s) (vr e1 (yl (e0.trans (Qd (fun q=>Res.ok (V.bool q) s) (Zc hn))))) (zh (zv ⟨rfl,a,.refl _ _⟩))
theorem n5 (HP:HouseP P) (hf:P.fns 54=some f_World_has) (n:Nat) (a:WAt s ks W x) (b:Bool) {key:Key} (hk:key∈ks):run P (n+3) 54 [.ref (1,0),.int (hn b),.str key] s=.ok (.bool ((W.h b).has key)) s:=by
 refine z4 (zj hf rfl ?_)
 refine qr (zt (vs:=[.int (hn b)]) rfl ((zg a.o).trans H.m14) rfl (x7 H n b s)) ?_
 refine qr (zt (vs:=[.str key]) rfl ((zg a.o).trans H.m15) rfl (ch H (n+1) a hk)) ?_
 exact zu (zt (vs:=[.str key]) (pd a rfl rfl) ((zg (a.hh.at_ b).o).trans HP.mhas) rfl (y8 HP (n+1) (a.hh.at_ b) key)) ⟨rfl,rfl⟩
theorem gn (HP:HouseP P) (hf:P.fns 52=some f_World_home) (n:Nat) (a:WAt s ks W x) {key:Key} (hk:key∈ks):run P (n+3) 52 [.ref (1,0),.str key] s=.ok (jc W key) s:=by
 have h0:=y8 HP (n+1) (a.hh.at_ false) key
 have h1:=y8 HP (n+1) (a.hh.at_ true) key
 have o0:=(a.hh.at_ false).o
 have o1:=(a.hh.at_ true).o
 refine z4 (zj hf rfl ?_)
 refine qr (zt (vs:=[.str key]) rfl ((zg a.o).trans H.m15) rfl (ch H (n+1) a hk)) ?_
 refine ku (v:=.lst [.ref (2,0),.ref (2,1)]) (s':=s) (xs:=[.ref (2,0),.ref (2,1)]) (zn rfl (z3 a.o rfl)) rfl rfl ?_
 have turn:∀ (b:Bool) (l2:Option V) (rest:List V),(W.h b).has key=false->OkR (qt s false (.lst [.ref (2,0),.ref (2,1)]) (wu P (run P (n+2)) (.inl (.loc 2))) (exs P (run P (n+2)) (n+2) [.ite (.meth (.loc 2) 0 [.loc 1]) [.ret (some (.attr (.loc 2) 0))] []]) rest [some (.ref (1,0)),some (.str key),some (.ref (2,hx b))] s) (za8 P (run P (n+2)) (n+2) [.ret (some .none)] fun p t=>flV p.1=jc W key/\t=s)->
   OkR (qt s false (.lst [.ref (2,0),.ref (2,1)]) (wu P (run P (n+2)) (.inl (.loc 2))) (exs P (run P (n+2)) (n+2) [.ite (.meth (.loc 2) 0 [.loc 1]) [.ret (some (.attr (.loc 2) 0))] []]) (.ref (2,hx b)::rest) [some (.ref (1,0)),some (.str key),l2] s) (za8 P (run P (n+2)) (n+2) [.ret (some .none)] fun p t=>flV p.1=jc W key/\t=s):=by
  intro b l2 rest hb k
  have hr:=y8 HP (n+1) (a.hh.at_ b) key
  rw[hb] at hr
  rw[xe]
  show OkR (Res.bind (exs P (run P (n+2)) (n+2) [.ite (.meth (.loc 2) 0 [.loc 1]) [.ret (some (.attr (.loc 2) 0))] []] [some (.ref (1,0)),some (.str key),some (.ref (2,hx b))] s) _) _
  have e:exs P (run P (n+2)) (n+2) [.ite (.meth (.loc 2) 0 [.loc 1]) [.ret (some (.attr (.loc 2) 0))] []] [some (.ref (1,0)),some (.str key),some (.ref (2,hx b))] s=.ok (.next,[some (.ref (1,0)),some (.str key),some (.ref (2,hx b))]) s:=z4 (zo (t:=false) (s':=s) (zt (vs:=[.str key]) rfl ((zg (a.hh.at_ b).o).trans HP.mhas) rfl hr) (zh (zv ⟨rfl,rfl⟩)))
  rw[e]
  exact k
 have hit:∀ (b:Bool) (l2:Option V) (rest:List V),(W.h b).has key=true->jc W key=.int (W.h b).num->OkR (qt s false (.lst [.ref (2,0),.ref (2,1)]) (wu P (run P (n+2)) (.inl (.loc 2))) (exs P (run P (n+2)) (n+2) [.ite (.meth (.loc 2) 0 [.loc 1]) [.ret (some (.attr (.loc 2) 0))] []]) (.ref (2,hx b)::rest) [some (.ref (1,0)),some (.str key),l2] s) (za8 P (run P (n+2)) (n+2) [.ret (some .none)] fun p t=>flV p.1=jc W key/\t=s):=by
  intro b l2 rest hb hv
  have hr:=y8 HP (n+1) (a.hh.at_ b) key
  rw[hb] at hr
  rw[xe]
  show OkR (Res.bind (exs P (run P (n+2)) (n+2) [.ite (.meth (.loc 2) 0 [.loc 1]) [.ret (some (.attr (.loc 2) 0))] []] [some (.ref (1,0)),some (.str key),some (.ref (2,hx b))] s) _) _
  have e:exs P (run P (n+2)) (n+2) [.ite (.meth (.loc 2) 0 [.loc 1]) [.ret (some (.attr (.loc 2) 0))] []] [some (.ref (1,0)),some (.str key),some (.ref (2,hx b))] s=.ok (.ret (.int (W.h b).num),[some (.ref (1,0)),some (.str key),some (.ref (2,hx b))]) s:=z4 (zo (t:=true) (s':=s) (zt (vs:=[.str key]) rfl ((zg (a.hh.at_ b).o).trans HP.mhas) rfl hr) (zu (zn rfl (z3 (a.hh.at_ b).o rfl)) ⟨rfl,rfl⟩))
  rw[e]
  exact⟨hv.symm,rfl⟩
 cases c0:(W.h false).has key with
 | true=>exact hit false none [.ref (2,1)] c0 (by rw[jc,c0];exact Zg rfl)
 | false =>
  refine turn false none [.ref (2,1)] c0 ?_
  cases c1:(W.h true).has key with
  | true=>exact hit true _ [] c1 (by rw[jc,c0,c1];rfl)
  | false =>
   refine turn true _ [] c1 ?_
   rw[vj]
   show OkR (exs P (run P (n+2)) (n+2) [.ret (some .none)] [some (.ref (1,0)),some (.str key),some (.ref (2,hx true))] s) fun p t=>flV p.1=jc W key/\t=s
   exact zu (v:=.none) (s':=s) rfl ⟨by rw[jc,c0,c1];rfl,rfl⟩
theorem pq (HP:HouseP P) (ho:P.fns 22=some f_House_owes) (hf:P.fns 61=some f_World_owes) (n:Nat) (a:WAt s ks W x) (b:Bool) (z:HZ (W.h b)) (nd:((W.h b).known.map (·.1)).Nodup) :
  run P (n+3) 61 [.ref (1,0),.int (hn b)] s=.ok (.ref (14,s.cnt 14)) (s.new 14 (.list ((W.h b).owes.map .str))):=by
 refine z4 (zj hf rfl ?_)
 refine qr (zt (vs:=[.int (hn b)]) rfl ((zg a.o).trans H.m14) rfl (x7 H n b s)) ?_
 exact zu (zt (vs:=[]) (pd a rfl rfl) ((zg (a.hh.at_ b).o).trans HP.mowes) rfl (nv HP rfl ho (n+1) (a.hh.at_ b) z nd)) ⟨rfl,rfl⟩
theorem si {xc yc:Nat} (HP:HouseP P) (hm:P.fns 26=some (f_House_move yc)) (hh:P.fns 52=some f_World_home) (h24:P.meths 0 24=some 52) (h5:P.meths 1 5=some 26) (hf:P.fns 53=some (f_World_move xc)) (n:Nat) (a:WAt s ks W x) {key:Key} (hk:key∈ks) (b:Bool) (hv:jc W key=.int (hn b)) (z:HZ (W.h b)) {r:Row} (hr:qb key (W.h b).known=some r) (hs:r.st=.here) :
  OkR (run P (n+4) 53 [.ref (1,0),.str key] s) fun v u=>v=.none/\WAt u ks {W with h:=upd W.h b ((W.h b).move key r)} x/\Fr NWp s u:=by
 have e1:=gn H HP hh n a hk
 rw[hv] at e1
 refine zj hf rfl ?_
 refine zfa (zt (vs:=[.str key]) rfl ((zg a.o).trans h24) rfl e1) rfl ?_
 refine zo (t:=false) (s':=s) (uq (g:=false) (t:=false) rfl (Zc nofun)) (zh ?_)
 refine jv (x3 (vs:=[.str key]) (pd a rfl rfl) ((zg (a.hh.at_ b).o).trans h5) rfl (zkd HP hm (n+1) (a.hh.at_ b) z hr hs)) ?_
 rintro v u ⟨rfl,h1,h2⟩
 exact zv ⟨rfl,a.houses (zr4 h2) (a.hh.deed h1 h2),zj5 h2⟩
theorem zdz (HP:HouseP P) (hu:P.fns 29=some f_House_nudge) (h8:P.meths 1 8=some 29) (hf:P.fns 57=some f_World_nudge) (n:Nat) (a:WAt s ks W x) (b:Bool) (z:HZ (W.h b)) (nd:((W.h b).written.map (·.1)).Nodup) (hz:W.post.length+(W.h b).nudge.length<=16777000) :
  ∃ u,run P (n+3) 57 [.ref (1,0),.int (hn b)] s=.ok .none u/\WAt u ks {W with post:=W.post++(W.h b).nudge} x/\Fr NWp s u:=by
 have a1:=a.setPost (W.post++(W.h b).nudge)
 rw[Qb] at a1
 refine⟨_,z4 (zj hf rfl ?_),a1,bf (Za (p:=9 < 11) rfl) _⟩
 refine qr (zt (vs:=[.int (hn b)]) rfl ((zg a.o).trans H.m14) rfl (x7 H n b s)) ?_
 exact qw (v:=.none) (ud (x:=.ref (9,0)) (vs:=[.lst ((W.h b).nudge.map z9)]) (zn rfl (z3 a.o rfl)) (jz a.po) (zf (zt (vs:=[]) (pd a rfl rfl) ((zg (a.hh.at_ b).o).trans h8) rfl (zh5 HP hu n (a.hh.at_ b) z nd)) rfl) (ze0 s (9,0) _ a.po rfl (by rw[Zd,Zd];lia))) (zv ⟨rfl,rfl⟩)
omit H
theorem HH.wrote {h:Bool->HS}{s':MS}{b:Bool} (a:HH s x h) {h':HS} (g:HAt s' (hx b) ⟨(x b).k,s.cnt 5,s.cnt 6,s.cnt 7⟩ h') (f:Fr (At1 (2,hx b)) s s'):HH s' (upd x b ⟨(x b).k,s.cnt 5,s.cnt 6,s.cnt 7⟩) (upd h b h'):=by
 have hw:=fun k=>Z9 (a.at_ k).iw
 have hl:=fun k=>Z9 (a.at_ k).il
 have hr:=fun k=>Z9 (a.at_ k).ir
 refine⟨fun k=>?_,?_,?_,?_,?_⟩
 ·by_cases e:k=b
  ·subst e;rw[vd,vd];exact g
  ·rw[cq e,cq e];exact(a.at_ k).step f (hf2 e)
 ·cases b <;> exact a.k
 ·cases b
  ·exact(hw true).symm
  ·exact hw false
 ·cases b
  ·exact(hl true).symm
  ·exact hl false
 ·cases b
  ·exact(hr true).symm
  ·exact hr false
include H
theorem zdi (HP:HouseP P) (hw:P.fns 27=some f_House_write) (h6:P.meths 1 6=some 27) (hf:P.fns 55=some f_World_write) (n:Nat) (a:WAt s ks W x) (b:Bool) (z:HZ (W.h b)) (hz:W.post.length+(W.h b).laid.length<=16777000) (hz2:W.rows.length+(W.h b).fresh.length<=16777000) :
  OkR (run P (n+3) 55 [.ref (1,0),.int (hn b)] s) fun v u=>v=.none/\(∃ x',WAt u ks {W with h:=upd W.h b (W.h b).write,post:=W.post++(W.h b).laid,rows:=W.rows++(W.h b).fresh} x')/\Fr NWp s u:=by
 refine zj hf rfl ?_
 refine qr (zt (vs:=[.int (hn b)]) rfl ((zg a.o).trans H.m14) rfl (x7 H n b s)) ?_
 obtain⟨v,s1,e1,rfl,h1,f1⟩:=q9 (zi4 HP hw (n+1) (a.hh.at_ b) z)
 have a1:=a.houses (zsm f1) (a.hh.wrote h1 f1)
 have la1:s1.heap (6,(x b).la)=some (.list ((W.h b).laid.map z9)):=(f1.1 (6,(x b).la) (a.hh.at_ b).il (zd (by decide))).trans (a.hh.at_ b).la
 have fr1:s1.heap (7,(x b).fr)=some (.list ((W.h b).fresh.map vy)):=(f1.1 (7,(x b).fr) (a.hh.at_ b).ir (zd (by decide))).trans (a.hh.at_ b).fr
 refine zk (zt (vs:=[]) (pd a rfl rfl) ((zg (a.hh.at_ b).o).trans h6) rfl e1) rfl ?_
 refine qw (v:=.none) (ud (x:=.ref (9,0)) (vs:=[.ref (6,(x b).la)]) (zn rfl (z3 a1.o rfl)) (jz a1.po) rfl (ze0 s1 (9,0) _ a1.po (qd la1) (by rw[Zd,Zd];show W.post.length+_<=_;lia))) ?_
 have a2:=a1.setPost (W.post++(W.h b).laid)
 rw[Qb] at a2
 have f2:=(zkx f1).put (l:=(9,0)) (Za (p:=9 < 11) rfl) (.list (W.post.map z9++(W.h b).laid.map z9))
 have fr2:(s1.put (9,0) (.list (W.post.map z9++(W.h b).laid.map z9))).heap (7,(x b).fr)=some (.list ((W.h b).fresh.map vy)):=(zm (zd (by decide))).trans fr1
 generalize s1.put (9,0) (.list (W.post.map z9++(W.h b).laid.map z9))=s2 at a2 f2 fr2
 have a3:=a2.setRows (W.rows++(W.h b).fresh)
 rw[Qb] at a3
 exact qw (v:=.none) (ud (x:=.ref (10,0)) (vs:=[.ref (7,(x b).fr)]) (zn rfl (z3 a2.o rfl)) (jz a2.ro) rfl (ze0 s2 (10,0) _ a2.ro (qd fr2) (by rw[Zd,Zd];show W.rows.length+_<=_;lia))) (zv ⟨rfl,⟨_,a3⟩,f2.put (Za (p:=10 < 11) rfl) _⟩)
theorem ah (hcc:P.fns 13=some f_Caller_came) (h2:P.meths 2 2=some 13) (n:Nat) (a:WAt s ks W x) (hi:i < W.nc) (num told:Int) (hz:(W.c i).closed.length < 16777000) :
  OkR (run P (n+4) 48 [.ref (1,0),z9 (.answer i num told)] s) fun v u=>v=.none/\WAt u ks {W with c:=yo W.c i ((W.c i).came num told)} x/\Fr NWp s u:=by
 refine zj H.brou rfl (zo (t:=true) (s':=s) rfl ?_)
 refine jv (x3 (vs:=[.int num,.int told]) (ef a hi rfl rfl) ((zg (a.co i hi)).trans h2) rfl (zjd H hcc (n+2) a hi num told hz)) ?_
 rintro v u ⟨rfl,h3,h4⟩
 exact zh (zv ⟨rfl,h3,h4⟩)
theorem zg5 (hf:P.fns 49=some f_World_hand) (n:Nat) (a:WAt s ks W x) {p:Nat} (hp:p < W.post.length) {W':WS} (hb:∀ t,WAt t ks {W with post:=W.post.eraseIdx p} x->OkR (run P (n+4) 48 [.ref (1,0),z9 W.post[p]] t) fun v u=>v=.none/\WAt u ks W' x/\Fr NWp t u) :
  OkR (run P (n+5) 49 [.ref (1,0),.int p] s) fun v u=>v=.none/\WAt u ks W' x/\Fr NWp s u:=by
 have hp':p < (W.post.map z9).length:=by rw[Zd];exact hp
 refine zj hf rfl ?_
 refine qr (zt (vs:=[.int p]) rfl ((zg a.o).trans H.m16) rfl (gb H (n+2) a hp)) ?_
 have e1:=zlc s (9,0) (W.post.map z9) p a.po hp'
 rw[zgz hp] at e1
 have a1:=a.pop p
 have f1:Fr NWp s (s.put (9,0) (.list ((W.post.map z9).eraseIdx p))):=bf (Za (p:=9 < 11) rfl) _
 generalize s.put (9,0) (.list ((W.post.map z9).eraseIdx p))=t at e1 a1 f1
 refine jv (x3 (x:=.ref (1,0)) (vs:=[z9 W.post[p]]) (s2:=t) rfl ((zg a.o).trans H.m20) (zf (ud (x:=.ref (9,0)) (vs:=[.int p]) (zn rfl (z3 a.o rfl)) (jz a.po) rfl e1) rfl) (hb t a1)) ?_
 rintro v u ⟨rfl,h1,h2⟩
 exact zv ⟨rfl,h1,f1.trans h2⟩
theorem zda (hf:P.fns 50=some f_World_twice) (n:Nat) (a:WAt s ks W x) {p:Nat} (hp:p < W.post.length) {W':WS} (hb:OkR (run P (n+4) 48 [.ref (1,0),z9 W.post[p]] s) fun v u=>v=.none/\WAt u ks W' x/\Fr NWp s u) :
  OkR (run P (n+5) 50 [.ref (1,0),.int p] s) fun v u=>v=.none/\WAt u ks W' x/\Fr NWp s u:=by
 have hp':p < (W.post.map z9).length:=by rw[Zd];exact hp
 refine zj hf rfl ?_
 refine qr (zt (vs:=[.int p]) rfl ((zg a.o).trans H.m16) rfl (gb H (n+2) a hp)) ?_
 have e1:=yh (qd a.po) p hp'
 rw[zgz hp] at e1
 refine jv (x3 (x:=.ref (1,0)) (vs:=[z9 W.post[p]]) (s2:=s) rfl ((zg a.o).trans H.m20) (zf (q6 (x:=.ref (9,0)) (y:=.int p) (zn rfl (z3 a.o rfl)) rfl e1) rfl) hb) ?_
 rintro v u ⟨rfl,h1,h2⟩
 exact zv ⟨rfl,h1,h2⟩
end
end Internal
end
section
namespace Internal
theorem f6 (i:Bool):(1:Int)-hn i=hn (!i):=by cases i <;> rfl
noncomputable def qc (k:qv) (key:Key):Row:=(qb key k).getD ⟨.gone,0,0,[]⟩
theorem jn {k:qv}{key:Key}{r:Row} (h:qb key k=some r):qc k key=r:=by rw[qc,h];rfl
theorem bo (k:qv) (key key':Key) (x:Row):qc (qx key x k) key'=if key'=key then x else qc k key':=by
 rw[qc,p0]
 split <;> rfl
noncomputable def MG (ms:List qp):Prop:=MOk ms/\∀ m∈ms,m.2.1<=1
noncomputable def KG (k:qv):Prop:=∀ p∈k,MG p.2.marks
theorem zcm {x m:qp}:∀ {ms:List qp},x∈mins m ms->x=m\/x∈ms
 | [],h=>.inl (Zq.1 h)
 | a::l,h=>by
  rw[mins] at h
  split at h
  ·exact Zu.1 h
  ·rcases Zu.1 h with h | h
   ·exact .inr (h▸Zm ..)
   ·exact(zcm h).imp id (Zk _)
theorem MG.put {ms:List qp} (a:MG ms) {c n t:Int} (h0:0<=c) (h6:c < 6) (h1:n<=1):MG (zcb (c,n,t) ms) :=
 ⟨a.1.put h0 h6,fun x hx=>(zcm hx).elim (fun e=>e▸h1) fun q=>a.2 x (List.mem_filter.1 q).1⟩
set_option tactic.hygienic true in
theorem o8 {c:Int}:∀ {ms:List qp}{p:Int×Int},yy c ms=some p->(c,p)∈ms
 | m::l,p,h=>by
  rw[yy] at h
  split at h
  ·rename_i e
   cases h
   exact e▸Zm ..
  ·exact Zk _ (o8 h)
noncomputable def vx (ks:List Key) (nc:Nat):Letter->Prop
 | .call h c n k _=>(∃ b,h=hn b)/\(∃ i:Nat,i < nc/\c=i)/\k∈ks/\n<=1
 | .parcel h k _ _ ms=>(∃ b,h=hn b)/\k∈ks/\MG ms
 | .taken h k _=>(∃ b,h=hn b)/\k∈ks
 | .answer c _ _=>∃ i:Nat,i < nc/\c=i
structure HJ (ks:List Key) (nc:Nat) (b:Bool) (h:HS):Prop where
 hk:h.known.map (·.1)=ks
 hw:h.written.map (·.1)=ks
 kk:KG h.known
 kw:KG h.written
 la:∀ L∈h.laid,vx ks nc L
 nu:h.num=hn b
noncomputable def RwR (p q:Row):Prop:=q.st=.here\/(q.turn=p.turn/\p.st≠.here/\(q.st=.owes->q=p))
theorem RwR.refl (p:Row):RwR p p:=(Classical.em (p.st=.here)).imp id fun h=>⟨rfl,h,fun ξ=>rfl⟩
theorem RwR.trans {p q r:Row} (a:RwR p q) (b:RwR q r):RwR p r:=b.imp id fun ⟨t,n,e⟩=>a.elim (fun h=>absurd h n) fun ⟨t',n',e'⟩=>⟨t.trans t',n',fun o=>(e o).trans (e' (e o▸o))⟩
structure CM (x y:HS):Prop where
 ro:∀ key,RwR (qc x.known key) (qc y.known key)
 la:∀ L∈x.laid,L∈y.laid
theorem CM.refl (x:HS):CM x x:=⟨fun ξ=>.refl _,fun ξ q=>q⟩
theorem CM.trans {x y z:HS} (a:CM x y) (b:CM y z):CM x z:=⟨fun k=>(a.ro k).trans (b.ro k),fun L q=>b.la L (a.la L q)⟩
noncomputable def hp (h:HS):Nat:=h.laid.length+h.fresh.length
section
variable {ks:List Key}{nc m:Nat}{b:Bool}{x y:HS}{key:Key}{r:Row}{L:Letter}
theorem HJ.get (a:HJ ks nc b x) (hk:key∈ks):∃ r,qb key x.known=some r:=ls (a.hk.symm▸hk)
theorem HJ.mg (a:HJ ks nc b x) (hk:qb key x.known=some r):MG r.marks:=a.kk _ (vf hk)
noncomputable def Nx (ks:List Key) (nc:Nat) (b:Bool) (x y:HS):Prop:=HJ ks nc b y/\CM x y/\hp y<=hp x+2
theorem Nx.refl (a:HJ ks nc b x):Nx ks nc b x x:=⟨a,.refl x,Nat.le_add_right _ _⟩
theorem zkz {α β:Type}{l la:List α}{f fr:List β} (h:la.length<=1) (h2:fr.length<=1):(l++la).length+(f++fr).length<=l.length+f.length+2:=by rw[Zf,Zf];omega
theorem Nx.lay (a:HJ ks nc b x) (h:vx ks nc L):Nx ks nc b x {x with laid:=x.laid++[L]} :=
 ⟨⟨a.hk,a.hw,a.kk,a.kw,vm a.la h,a.nu⟩,⟨fun ξ=>.refl _,fun ξ q=>Z6 _ q⟩,by have:=zkz (l:=x.laid) (la:=[L]) (f:=x.fresh) (fr:=[]) (Zs _) (Nat.zero_le _);rw[Z0] at this;exact this⟩
theorem Nx.put (a:HJ ks nc b x) (hk:qb key x.known=some r) {r':Row} (h1:MG r'.marks) (h2:RwR r r') {la:List Letter} (h3:∀ L∈la,vx ks nc L) (hl:la.length<=1) {fr:List LRow} (hf:fr.length<=1):Nx ks nc b x {x with known:=qx key r' x.known,laid:=x.laid++la,fresh:=x.fresh++fr} :=
 ⟨⟨(k7 _ _ _ _ hk).trans a.hk,a.hw,fun p hp=>(gj hp).elim (fun e=>e▸h1) (a.kk p),a.kw,fun L q=>(Zt.1 q).elim (a.la L) (h3 L),a.nu⟩,⟨fun k=>by
  show RwR _ (qc (qx key r' x.known) k)
  rw[bo]
  by_cases e:k=key
  ·rw[Zg e,e,jn hk];exact h2
  ·rw[Zh e];exact .refl _,fun ξ q=>Z6 _ q⟩,zkz hl hf⟩
set_option tactic.hygienic true in
theorem HJ.came (a:HJ ks nc b x) (h6:nc<=6) (hL:vx ks nc L):Nx ks nc b x (x.came L):=by
 cases L with
 | answer=>exact .refl a
 | call hh c n k w =>
  obtain⟨-,⟨i,hi,rfl⟩,hk,h1⟩:=hL
  obtain⟨r,hr⟩:=a.get hk
  rw[bj hr]
  have la:vx ks nc (.answer i n (dn r.amt w).2):=⟨i,hi,rfl⟩
  have fi:Nx ks nc b x (x.first i n k w r):=Nx.put a hr (r':=⟨.here,r.turn,(dn r.amt w).1,zcb (i,n,(dn r.amt w).2) r.marks⟩) ((a.mg hr).put (Int.natCast_nonneg i) (Int.ofNat_lt.2 (Zi hi h6)) h1) (.inl rfl) (fun L q=>Zq.1 q▸la) (Zs _) (Zs _)
  split
  ·unfold HS.called
   split
   ·split
    ·exact .refl a
    ·split
     ·exact .lay a ⟨i,hi,rfl⟩
     ·exact fi
   ·exact fi
  ·exact .refl a
 | parcel hh k T am ms =>
  obtain⟨-,hk,h1⟩:=hL
  obtain⟨r,hr⟩:=a.get hk
  rw[yu hr]
  have la:vx ks nc (.taken (1-x.num) k T):=⟨⟨!b,a.nu.symm▸f6 b⟩,hk⟩
  split
  ·have:=Nx.put a hr (r':=⟨.here,T,am,ms⟩) h1 (.inl rfl) (la:=[.taken (1-x.num) k T]) (fun L q=>Zq.1 q▸la) (Zs _) (fr:=[]) (Nat.zero_le _)
   rw[Z0] at this;exact this
  ·exact .lay a la
 | taken hh k T =>
  obtain⟨-,hk⟩:=hL
  obtain⟨r,hr⟩:=a.get hk
  rw[wl hr]
  split
  ·rename_i h
   have:=Nx.put a hr (r':=⟨.gone,r.turn,0,[]⟩) ⟨trivial,fun m q=>(nomatch q)⟩ (.inr ⟨rfl,h.1▸nofun,fun q=>(nomatch q)⟩) (la:=[]) (fun L q=>(nomatch q)) (Nat.zero_le _) (fr:=[]) (Nat.zero_le _)
   rw[Z0,Z0] at this;exact this
  ·exact .refl a
theorem HJ.move (a:HJ ks nc b x) (hk:qb key x.known=some r) (hm:key∈ks):HJ ks nc b (x.move key r) :=
 ⟨(k7 _ _ _ _ hk).trans a.hk,a.hw,fun p hp=>(gj hp).elim (fun e=>by rw[e];exact(show MG r.marks from a.mg hk)) (a.kk p),a.kw,vm a.la (show vx ks nc (.parcel (1-x.num) key (r.turn+1) r.amt r.marks) from ⟨⟨!b,a.nu.symm▸f6 b⟩,hm,a.mg hk⟩),a.nu⟩
theorem HJ.write (a:HJ ks nc b x):HJ ks nc b x.write:=⟨a.hk,a.hk,a.kk,a.kk,fun ξ q=>(nomatch q),a.nu⟩
theorem HJ.nudge (a:HJ ks nc b x):(∀ L∈x.nudge,vx ks nc L)/\x.nudge.length<=ks.length:=by
 have h2:=Qd List.length a.hw
 rw[Zd] at h2
 refine⟨fun L q=>?_,by rw[HS.nudge,Zd,<- h2];exact List.length_filter_le ..⟩
 obtain⟨p,hp,rfl⟩:=Z1.1 q
 have hp:=(List.mem_filter.1 hp).1
 exact⟨⟨!b,a.nu.symm▸f6 b⟩,a.hw▸Z1.2 ⟨p,hp,rfl⟩,a.kw p hp⟩
theorem HJ.new (nd:ks.Nodup) (b:Bool):HJ ks nc b (HS.new (hn b) ks):=by
 have e:=mf (hn b) nd
 have hk:(HS.new (hn b) ks).known.map (·.1)=ks:=by rw[e,List.map_map];exact List.map_id ks
 have ok:KG (HS.new (hn b) ks).known:=fun p hp=>by
  rw[e] at hp
  obtain⟨key,-,rfl⟩:=Z1.1 hp
  cases b <;> exact⟨trivial,fun m q=>(nomatch q)⟩
 exact⟨hk,hk,ok,ok,fun ξ q=>(nomatch q),rfl⟩
end
structure CC (c d:CS):Prop where
 op:∀ p,d.op=some p->c.op=some p
 be:d.begun=c.begun
 cl:d.closed.length<=c.closed.length+1
theorem CC.came (c:CS) (n t:Int):CC c (c.came n t):=by
 have h0:CC c c:=⟨fun ξ h=>h,rfl,Zw _⟩
 unfold CS.came
 split
 ·split
  ·exact⟨fun ξ h=>(nomatch h),rfl,by rw[Zf];exact Zs _⟩
  ·exact h0
 ·exact h0
noncomputable def pot (W:WS):Nat:=W.post.length+W.rows.length+(hp (W.h false)+hp (W.h true))
structure WI (ks:List Key) (nc m:Nat) (W:WS):Prop where
 nc_:W.nc=nc
 hi:∀ b,HJ ks nc b (W.h b)
 po:∀ L∈W.post,vx ks nc L
 pl:pot W<=8*m
 co:∀ i,i < nc->(∀ p,(W.c i).op=some p->p.1=1/\p.2.1∈ks)/\(W.c i).closed.length<=m
noncomputable def toB:Letter->Bool
 | .call h _ _ _ _=>decide (h=1)
 | .parcel h _ _ _ _=>decide (h=1)
 | .taken h _ _=>decide (h=1)
 | _=>false
noncomputable def bring (W:WS) (L:Letter):WS:=match L with
 | .answer c n t=>{W with c:=yo W.c c.toNat ((W.c c.toNat).came n t)}
 | L=>{W with h:=upd W.h (toB L) ((W.h (toB L)).came L)}
noncomputable def zx (W:WS):List Letter->WS
 | []=>W
 | L::l=>zx (bring W L) l
theorem ze8 (b:Bool):decide (hn b=1)=b:=by cases b <;> rfl
theorem ztg {b:Bool}{L:Letter} (h:wg b L):toB L=b:=by
 cases L with
 | answer=>exact h.elim
 | call=>rw[toB,show _=hn b from h];exact ze8 b
 | parcel=>rw[toB,show _=hn b from h];exact ze8 b
 | taken=>rw[toB,show _=hn b from h];exact ze8 b
theorem vg {W:WS}{b:Bool}{L:Letter} (h:wg b L):bring W L={W with h:=upd W.h b ((W.h b).came L)}:=by
 have e:=ztg h
 cases L with
 | answer=>exact h.elim
 | call hh c n k w=>show {W with h:=upd W.h (toB (.call hh c n k w)) _}=_;rw[e]
 | parcel hh k T a ms=>show {W with h:=upd W.h (toB (.parcel hh k T a ms)) _}=_;rw[e]
 | taken hh k T=>show {W with h:=upd W.h (toB (.taken hh k T)) _}=_;rw[e]
theorem mi {W:WS}{i:Nat}{n t:Int}:bring W (.answer i n t)={W with c:=yo W.c i ((W.c i).came n t)}:=by
 delta bring;dsimp only;rw[Int.toNat_natCast]
theorem bg (l2:List Letter):∀ (l1:List Letter) (W:WS),zx W (l1++l2)=zx (zx W l1) l2
 | [],_=>rfl
 | L::l,W=>bg l2 l (bring W L)
structure WM (W W':WS):Prop where
 h:∀ b,CM (W.h b) (W'.h b)
 op:∀ i p,(W'.c i).op=some p->(W.c i).op=some p
 be:∀ i,(W'.c i).begun=(W.c i).begun
theorem WM.refl (W:WS):WM W W:=⟨fun ξ=>.refl _,fun ξ ξ h=>h,fun ξ=>rfl⟩
theorem WM.trans {W W1 W2:WS} (a:WM W W1) (b:WM W1 W2):WM W W2:=⟨fun k=>(a.h k).trans (b.h k),fun i p h=>a.op i p (b.op i p h),fun i=>(b.be i).trans (a.be i)⟩
section
variable {ks:List Key}{nc m:Nat}{W:WS}{b:Bool}{key:Key}
theorem zp0 {f:Bool->HS}{y:HS}{k:Nat} (b:Bool) (h:hp y<=hp (f b)+k):hp (upd f b y false)+hp (upd f b y true)<=hp (f false)+hp (f true)+k:=by
 cases b
 ·exact Zp (Nat.add_le_add_right h _) (Nat.le_of_eq (Nat.add_right_comm ..))
 ·exact Zp (Nat.add_le_add_left h _) (Nat.le_of_eq (Nat.add_assoc ..).symm)
theorem zqt {a p b c m k:Nat} (hl:a<=p+8*k) (h:p+b+c<=8*m):a+b+c<=8*(m+k):=by omega
theorem WI.setPost (a:WI ks nc m W) {l:List Letter} (h:∀ L∈l,vx ks nc L) {k:Nat} (hl:l.length<=W.post.length+8*k):WI ks nc (m+k) {W with post:=l} :=
 ⟨a.nc_,a.hi,h,zqt hl a.pl,fun i hi=>⟨(a.co i hi).1,Nat.le_add_right_of_le (a.co i hi).2⟩⟩
theorem zs7 {a b c k m:Nat} (h:a+b+c<=8*m) (hk:k<=8):a+b+(c+k)<=8*(m+1):=by omega
theorem WI.house (a:WI ks nc m W) (b:Bool) {y:HS} (h:HJ ks nc b y) (hy:hp y<=hp (W.h b)+2):WI ks nc (m+1) {W with h:=upd W.h b y} :=
 ⟨a.nc_,lx (P:=fun k (h:HS)=>HJ ks nc k h) h fun k ξ=>a.hi k,a.po,Zp (Nat.add_le_add_left (zp0 b hy) _) (zs7 a.pl (by decide)),fun i hi=>⟨(a.co i hi).1,Z2 (a.co i hi).2⟩⟩
theorem zg4 (W:WS) (b:Bool):pot {W with h:=upd W.h b (W.h b).write,post:=W.post++(W.h b).laid,rows:=W.rows++(W.h b).fresh}=pot W:=by
 have e1:(W.post++(W.h b).laid).length+(W.rows++(W.h b).fresh).length=W.post.length+W.rows.length+hp (W.h b):=by rw[Zf,Zf,hp];omega
 have e0:hp (W.h b).write=0:=rfl
 show(W.post++(W.h b).laid).length+(W.rows++(W.h b).fresh).length+(hp (upd W.h b (W.h b).write false)+hp (upd W.h b (W.h b).write true))=_
 rw[e1]
 cases b
 ·show _+(hp (W.h false).write+hp (W.h true))=_;rw[e0,Nat.zero_add];exact Nat.add_assoc ..
 ·show _+(hp (W.h false)+hp (W.h true).write)=_;rw[e0,Nat.add_zero,Nat.add_assoc,Nat.add_comm (hp (W.h true))];rfl
theorem WI.write (a:WI ks nc m W) (b:Bool):WI ks nc m {W with h:=upd W.h b (W.h b).write,post:=W.post++(W.h b).laid,rows:=W.rows++(W.h b).fresh} :=
 ⟨a.nc_,lx (P:=fun k (h:HS)=>HJ ks nc k h) (a.hi b).write fun k ξ=>a.hi k,fun L q=>(Zt.1 q).elim (a.po L) ((a.hi b).la L),(zg4 W b).symm▸a.pl,a.co⟩
theorem WI.nudge (a:WI ks nc m W) (b:Bool) (k6:ks.length<=6):WI ks nc (m+1) {W with post:=W.post++(W.h b).nudge} :=
 a.setPost (fun L q=>(Zt.1 q).elim (a.po L) ((a.hi b).nudge.1 L)) (by rw[Zf];exact Nat.add_le_add_left (Zp (a.hi b).nudge.2 (Zp k6 (by decide))) _)
theorem WI.caller (a:WI ks nc m W) (i:Nat) {c:CS} (h1:∀ p,c.op=some p->p.1=1/\p.2.1∈ks) (h2:c.closed.length<=m+1):WI ks nc (m+1) {W with c:=yo W.c i c} :=
 ⟨a.nc_,a.hi,a.po,Zp a.pl (Nat.mul_le_mul_left 8 (Zw m)),fun j hj=>by
  show(∀ p,(if j=i then c else W.c j).op=some p->_)/\(if j=i then c else W.c j).closed.length<=m+1
  split
  ·exact⟨h1,h2⟩
  ·exact⟨(a.co j hj).1,Z2 (a.co j hj).2⟩⟩
theorem zh6 {L:Letter} (h:vx ks nc L):(∃ b,wg b L)\/∃ (i:Nat) (n t:Int),i < nc/\L=.answer i n t:=by
 cases L with
 | answer c n t=>obtain⟨i,hi,rfl⟩:=h;exact .inr ⟨i,n,t,hi,rfl⟩
 | call=>obtain⟨⟨b,rfl⟩,-⟩:=h;exact .inl ⟨b,rfl⟩
 | parcel=>obtain⟨⟨b,rfl⟩,-⟩:=h;exact .inl ⟨b,rfl⟩
 | taken=>obtain⟨⟨b,rfl⟩,-⟩:=h;exact .inl ⟨b,rfl⟩
set_option tactic.hygienic true in
theorem WI.bring {L:Letter}{l:List Letter} (a:WI ks nc m {W with post:=L::l}) (h6:nc<=6):WI ks nc (m+1) {Internal.bring W L with post:=l}/\WM W (Internal.bring W L):=by
 have hL:=a.po L (Zm ..)
 have hl:∀ L'∈l,vx ks nc L':=fun L' q=>a.po L' (Zk _ q)
 rcases zh6 hL with ⟨b,hb⟩ | ⟨i,n,t,hi,rfl⟩
 ·obtain⟨h1,h2,h3⟩:=(a.hi b).came h6 hL
  rw[vg hb]
  exact⟨WI.setPost (k:=0) (a.house b h1 h3) hl (Zw _),lx (P:=fun k (x:HS)=>CM (W.h k) x) h2 fun ξ ξ=>.refl _,fun ξ ξ h=>h,fun ξ=>rfl⟩
 ·obtain⟨h1,h2,h3⟩:=CC.came (W.c i) n t
  obtain⟨g1,g2⟩:=a.co i hi
  rw[mi]
  have hc:∀ j,CC (W.c j) (yo W.c i ((W.c i).came n t) j):=fun j=>by
   unfold yo
   split
   ·rename_i e;rw[e];exact⟨h1,h2,h3⟩
   ·exact⟨fun ξ h=>h,rfl,Zw _⟩
  exact⟨WI.setPost (k:=0) (a.caller i (fun p q=>g1 p (h1 p q)) (Zp h3 (Nat.succ_le_succ g2))) hl (Zw _),fun ξ=>.refl _,fun j=>(hc j).op,fun j=>(hc j).be⟩
theorem WI.brings (h6:nc<=6) (l2:List Letter):∀ (l1:List Letter) (W:WS) (m:Nat),WI ks nc m {W with post:=l1++l2}->WI ks nc (m+l1.length) {zx W l1 with post:=l2}/\WM W (zx W l1)
 | [],W,m,a=>⟨a,.refl W⟩
 | L::l,W,m,a=>by
  obtain⟨a1,w1⟩:=WI.bring (l:=l++l2) a h6
  obtain⟨a2,w2⟩:=WI.brings h6 l2 l (Internal.bring W L) (m+1) a1
  exact⟨Nat.succ_add_eq_add_succ m l.length▸a2,w1.trans w2⟩
theorem db (h6:nc<=6) {L:Letter}{l l3:List Letter} (h:L∈l) (a:WI ks nc m {W with post:=l++l3}):∃ l1 l2 m',WI ks nc m' {zx W l1 with post:=L::l2}/\WM W (zx W l1)/\WM (bring (zx W l1) L) (zx W l):=by
 obtain⟨l1,l2,rfl⟩:=List.append_of_mem h
 rw[Z3] at a
 obtain⟨a1,w1⟩:=WI.brings h6 (L::l2++l3) l1 W m a
 obtain⟨a2,w2⟩:=WI.bring (l:=l2++l3) a1 h6
 exact⟨l1,l2++l3,_,a1,w1,by rw[bg];exact(WI.brings h6 l3 l2 (Internal.bring (zx W l1) L) _ a2).2⟩
theorem dz {T a:Int}{ms:List qp} (nu:(W.h b).num=hn b) {r:Row} (hk:qb key (W.h b).known=some r):((qc ((bring W (.parcel (hn b) key T a ms)).h b).known key).st=.here\/(T<=r.turn/\qc ((bring W (.parcel (hn b) key T a ms)).h b).known key=r))/\Letter.taken (hn (!b)) key T∈((bring W (.parcel (hn b) key T a ms)).h b).laid:=by
 rw[vg (b:=b) (L:=.parcel (hn b) key T a ms) rfl]
 show((qc (upd W.h b _ b).known key).st=_\/_/\qc (upd W.h b _ b).known key=r)/\_∈(upd W.h b _ b).laid
 rw[vd,yu hk,nu,f6]
 refine⟨?_,Qa _ (Zq.2 rfl)⟩
 show(qc (if r.turn < T then qx key ⟨.here,T,a,ms⟩ (W.h b).known else (W.h b).known) key).st=.here\/(_/\qc (if r.turn < T then qx key ⟨.here,T,a,ms⟩ (W.h b).known else (W.h b).known) key=r)
 by_cases h:r.turn < T
 ·rw[Zg h,bo,Zg rfl];exact .inl rfl
 ·rw[Zh h,jn hk];exact .inr ⟨Int.not_lt.1 h,rfl⟩
set_option tactic.hygienic true in
theorem zi5 {T:Int}{r:Row} (hk:qb key (W.h b).known=some r):¬ ((qc ((bring W (.taken (hn b) key T)).h b).known key).st=.owes/\T=(qc ((bring W (.taken (hn b) key T)).h b).known key).turn+1):=by
 rw[vg (b:=b) (L:=.taken (hn b) key T) rfl]
 show ¬ ((qc (upd W.h b _ b).known key).st=.owes/\T=(qc (upd W.h b _ b).known key).turn+1)
 rw[vd,wl hk]
 split
 ·show ¬ ((qc (qx key ⟨.gone,r.turn,0,[]⟩ (W.h b).known) key).st=.owes/\_)
  rw[bo,Zg rfl];exact fun q=>nomatch q.1
 ·rename_i h;rw[jn hk];exact h
set_option tactic.hygienic true in
theorem zep {i:Nat}{n t:Int}{p:Int×Key×Internal.W} (h:((bring W (.answer i n t)).c i).op=some p):p.1≠n:=by
 rw[mi] at h
 have h:(if i=i then (W.c i).came n t else W.c i).op=some p:=h
 rw[Zg rfl] at h
 unfold CS.came at h
 split at h
 ·rename_i q hq
  split at h
  ·cases h
  ·rename_i hn
   rw[hq] at h
   cases h
   exact hn
 ·rename_i hq;rw[hq] at h;cases h
set_option tactic.hygienic true in
theorem zm0 {c n:Int}{w:Internal.W}{r:Row} (hk:qb key (W.h b).known=some r) (hs:r.st=.here) (hm:∀ p,yy c r.marks=some p->p.1<=n):∃ t,Letter.answer c n t∈((bring W (.call (hn b) c n key w)).h b).laid:=by
 rw[vg (b:=b) (L:=.call (hn b) c n key w) rfl]
 show ∃ t,_∈(upd W.h b _ b).laid
 rw[vd,bj hk,Zg hs]
 have fi:∃ t,Letter.answer c n t∈((W.h b).first c n key w r).laid:=⟨_,Qa _ (Zq.2 rfl)⟩
 unfold HS.called
 split
 ·rename_i p hp
  have:=hm p hp
  split
  ·rename_i hh;exact absurd hh (Int.not_lt.2 this)
  ·split
   ·exact⟨_,Qa _ (Zq.2 rfl)⟩
   ·exact fi
 ·exact fi
noncomputable def KO (ks:List Key) (W:WS):Prop:=∀ key∈ks,∃ b,(qc (W.h b).known key).st=.here\/((qc (W.h (!b)).known key).st=.owes/\(qc (W.h b).known key).turn<=(qc (W.h (!b)).known key).turn)
structure RD (ks:List Key) (nc m:Nat) (W:WS) (P2 Cl:List Letter):Prop where
 wk:WI ks nc m {W with post:=P2++Cl}
 nu:∀ b,∀ key∈ks,(qc (W.h b).known key).st=.owes->∃ a ms,Letter.parcel (hn (!b)) key ((qc (W.h b).known key).turn+1) a ms∈P2
 ca:∀ i,i < nc->∀ p,(W.c i).op=some p->∀ b,Letter.call (hn b) i p.1 p.2.1 p.2.2∈Cl
variable {P2 Cl:List Letter}
theorem CM.owe {x y:HS} (a:CM x y) (h:(qc y.known key).st=.owes):qc y.known key=qc x.known key:=(a.ro key).elim (fun q=>nomatch h.symm.trans q) fun q=>q.2.2 h
theorem CM.here {x y:HS} (a:CM x y) (h:(qc x.known key).st=.here):(qc y.known key).st=.here:=(a.ro key).elim id fun q=>absurd h q.2.1
theorem RD.owed (d:RD ks nc m W P2 Cl) (h6:nc<=6) (hk:key∈ks) (b:Bool) (ho:(qc ((zx W (P2++Cl)).h b).known key).st=.owes) :
  Letter.taken (hn b) key ((qc ((zx W (P2++Cl)).h b).known key).turn+1)∈((zx W (P2++Cl)).h (!b)).laid:=by
 have wk:WI ks nc m {W with post:=(P2++Cl)++[]}:=by rw[Z0];exact d.wk
 have e:=((WI.brings h6 [] (P2++Cl) W m wk).2.h b).owe ho
 rw[e] at ho ⊢
 obtain⟨a,ms,hp⟩:=d.nu b key hk ho
 obtain⟨l1,l2,m',a1,w1,w2⟩:=db h6 (Z6 _ hp) wk
 obtain⟨r,hr⟩:=(a1.hi (!b)).get hk
 have h2:=(dz (W:=zx W l1) (T:=(qc (W.h b).known key).turn+1) (a:=a) (ms:=ms) (a1.hi (!b)).nu hr).2
 rw[Bool.not_not] at h2
 exact(w2.h (!b)).la _ h2
theorem RD.here (d:RD ks nc m W P2 Cl) (h6:nc<=6) (ko:KO ks W) (hk:key∈ks):∃ b,(qc ((zx W P2).h b).known key).st=.here:=by
 obtain⟨b,h | ⟨ho,ht⟩⟩:=ko key hk
 ·exact⟨b,((WI.brings h6 Cl P2 W m d.wk).2.h b).here h⟩
 ·obtain⟨a,ms,hp⟩:=d.nu (!b) key hk ho
  rw[Bool.not_not] at hp
  obtain⟨l1,l2,m',a1,w1,w2⟩:=db h6 hp d.wk
  obtain⟨r,hr⟩:=(a1.hi b).get hk
  refine⟨b,(w2.h b).here ?_⟩
  rcases(dz (W:=zx W l1) (T:=(qc (W.h (!b)).known key).turn+1) (a:=a) (ms:=ms) (a1.hi b).nu hr).1 with h | ⟨h1,h2⟩
  ·exact h
  ·have q:=(w1.h b).ro key
   rw[jn hr] at q
   rw[h2]
   exact q.elim id fun q=>absurd (Int.le_trans (Int.le_trans h1 (Int.le_of_eq q.1)) ht) (Int.not_le.2 (Int.lt_succ _))
theorem RD.answered (d:RD ks nc m W P2 Cl) (h6:nc<=6) (ko:KO ks W) {i:Nat} (hi:i < nc) {p:Int×Key×Internal.W} (hp:((zx W (P2++Cl)).c i).op=some p):∃ b t,Letter.answer i p.1 t∈((zx W (P2++Cl)).h b).laid:=by
 obtain⟨km,w0⟩:=WI.brings h6 Cl P2 W m d.wk
 have km:WI ks nc (m+P2.length) {zx W P2 with post:=Cl++[]}:=by rw[Z0];exact km
 rw[bg] at hp ⊢
 have hp0:=(w0.trans (WI.brings h6 [] Cl (zx W P2) _ km).2).op i p hp
 obtain⟨hpn,hkey⟩:=(d.wk.co i hi).1 p hp0
 obtain⟨b,hb⟩:=d.here h6 ko hkey
 obtain⟨l1,l2,m',a1,w1,w2⟩:=db h6 (d.ca i hi p hp0 b) km
 obtain⟨r,hr⟩:=(a1.hi b).get hkey
 have hs:=(w1.h b).here hb
 rw[jn hr] at hs
 obtain⟨t,ht⟩:=zm0 (W:=zx (zx W P2) l1) (c:=i) (n:=p.1) (w:=p.2.2) hr hs fun q hq=>hpn▸((a1.hi b).mg hr).2 _ (o8 hq)
 exact⟨b,t,(w2.h b).la _ ht⟩
theorem RD.closes {l:List Letter} (h6:nc<=6) (a:WI ks nc m {W with post:=l}) {i:Nat} (ha:∀ p,(W.c i).op=some p->∃ t,Letter.answer i p.1 t∈l):((zx W l).c i).op=none:=by
 have a':WI ks nc m {W with post:=l++[]}:=by rw[Z0];exact a
 cases h:((zx W l).c i).op with
 | none=>rfl
 | some p =>
  obtain⟨t,ht⟩:=ha p ((WI.brings h6 [] l W m a').2.op i p h)
  obtain⟨l1,l2,m',a1,w1,w2⟩:=db h6 ht a'
  exact absurd rfl (zep (w2.op i p h))
theorem RD.ends {l:List Letter} (h6:nc<=6) (a:WI ks nc m {W with post:=l}) (hk:key∈ks) (b:Bool) (ha:(qc (W.h b).known key).st=.owes->Letter.taken (hn b) key ((qc (W.h b).known key).turn+1)∈l):(qc ((zx W l).h b).known key).st≠.owes:=fun ho=>by
 have a':WI ks nc m {W with post:=l++[]}:=by rw[Z0];exact a
 have e:=((WI.brings h6 [] l W m a').2.h b).owe ho
 obtain⟨l1,l2,m',a1,w1,w2⟩:=db h6 (ha (e▸ho)) a'
 obtain⟨r,hr⟩:=(a1.hi b).get hk
 have e2:=(w2.h b).owe ho
 refine zi5 (W:=zx W l1) (T:=(qc (W.h b).known key).turn+1) hr ⟨e2▸ho,?_⟩
 rw[<- e2,e]
end
end Internal
end
section
namespace Internal
structure DeedP (P:Prog):Prop where
 beg:P.fns 11=some f_Caller_begin
 cca:P.fns 13=some f_Caller_came
 nwi:∃ xc,P.fns 1=some (f_need_wish xc)
 cal:∃ xc,P.fns 45=some (f_World_call xc)
 aga:∃ xc,P.fns 46=some (f_World_again xc)
 han:P.fns 49=some f_World_hand
 twi:P.fns 50=some f_World_twice
 los:P.fns 51=some f_World_lose
 hom:P.fns 52=some f_World_home
 mov:∃ xc,P.fns 53=some (f_World_move xc)
 hmo:∃ xc,P.fns 26=some (f_House_move xc)
 wri:P.fns 55=some f_World_write
 hwr:P.fns 27=some f_House_write
 sle:P.fns 56=some f_World_sleep
 hsl:P.fns 28=some f_House_sleep
 nud:P.fns 57=some f_World_nudge
 hnu:P.fns 29=some f_House_nudge
 w5:P.meths 0 5=some 53
 w6:P.meths 0 6=some 55
 w8:P.meths 0 8=some 57
 w11:P.meths 0 11=some 59
 w17:P.meths 0 17=some 45
 w19:P.meths 0 19=some 47
 w21:P.meths 0 21=some 49
 w24:P.meths 0 24=some 52
 h5:P.meths 1 5=some 26
 h6:P.meths 1 6=some 27
 h7:P.meths 1 7=some 28
 h8:P.meths 1 8=some 29
 c2:P.meths 2 2=some 13
noncomputable def f_World_is_settled:Fn:=⟨1,["self","caller"],[.for_ (.inl (.loc 1)) false (.attr (.loc 0) 10) [.ite (.isC true (.meth (.loc 1) 11 []) .none) [.ret (some (.bool false))] []],.ret (some (.cmp (.bin .add (.prim .len [.meth (.sub (.attr (.loc 0) 9) (.int 0)) 1 []]) (.prim .len [.meth (.sub (.attr (.loc 0) 9) (.int 1)) 1 []])) .eq (.int 0)))]⟩
noncomputable def f_World_one_round:Fn:=⟨1,["self","house","caller","k"],[.for_ (.inl (.loc 1)) true (.int 2) [.expr (.meth (.loc 0) 6 [.loc 1])],.for_ (.inl (.loc 1)) true (.int 2) [.expr (.meth (.loc 0) 8 [.loc 1])],.for_ (.inl (.loc 2)) false (.attr (.loc 0) 10) [.ite (.isC true (.meth (.loc 2) 11 []) .none) [.expr (.bm .append (.attr (.loc 0) 11) [.meth (.loc 2) 10 [.int 0]]),.expr (.bm .append (.attr (.loc 0) 11) [.meth (.loc 2) 10 [.int 1]])] []],.for_ (.inl (.loc 3)) true (.prim .len [.attr (.loc 0) 11]) [.expr (.meth (.loc 0) 21 [.int 0])]]⟩
noncomputable def f_World_settle:Fn:=⟨1,["self","rounds"],[.assign 1 (.int 0),.while_ (.not (.meth (.loc 0) 26 [])) [.expr (.meth (.loc 0) 27 []),.assign 1 (.bin .add (.loc 1) (.int 1))],.ret (some (.loc 1))]⟩
structure SetP (P:Prog):Prop where
 iss:P.fns 62=some f_World_is_settled
 rou:P.fns 63=some f_World_one_round
 set:P.fns 64=some f_World_settle
 owe:P.fns 22=some f_House_owes
 w26:P.meths 0 26=some 62
 w27:P.meths 0 27=some 63
 w28:P.meths 0 28=some 64
noncomputable def zrg (W:WS):Prop:=(∀ i,i < W.nc->(W.c i).op=none)/\∀ b,(W.h b).owes=[]
noncomputable def Nil (_:Lbl):Prop:=False
theorem Fr.nw {s t:MS} (f:Fr Nil s t):Fr NW s t:=f.mono fun ξ q=>q.elim
theorem Fr.nwp {s t:MS} (f:Fr Nil s t):Fr NWp s t:=f.mono fun ξ q=>q.elim
noncomputable def wr (b:Bool) (W:WS):WS:={W with h:=upd W.h b (W.h b).write,post:=W.post++(W.h b).laid,rows:=W.rows++(W.h b).fresh}
noncomputable def nd (b:Bool) (W:WS):WS:={W with post:=W.post++(W.h b).nudge}
noncomputable def m8 (i:Nat):Option (Int×Key×W)->List Letter
 | some p=>[.call (hn false) i p.1 p.2.1 p.2.2,.call (hn true) i p.1 p.2.1 p.2.2]
 | none=>[]
noncomputable def jy (c:Nat->CS):Nat->List Letter
 | 0=>[]
 | n+1=>jy c n++m8 n (c n).op
noncomputable def wr2 (W:WS):WS:=wr true (wr false W)
noncomputable def p2 (W:WS):List Letter:=(nd true (nd false (wr2 W))).post
noncomputable def all (W:WS):List Letter:=p2 W++jy W.c W.nc
noncomputable def rnd (W:WS):WS:={zx (wr2 W) (all W) with post:=[]}
theorem p4 (c:Nat->CS):∀ j,(jy c j).length<=2*j
 | 0=>Zs _
 | j+1=>by
  show(jy c j++m8 j (c j).op).length<=2*j+2
  rw[Zf]
  exact Nat.add_le_add (p4 c j) (by cases (c j).op <;> exact Za rfl)
section
variable {ks:List Key}{nc m:Nat}{W:WS}
theorem o4 (a:WI ks nc m W):∀ j,j<=nc->∀ L∈jy W.c j,vx ks nc L
 | 0,_,L,q=>(nomatch q)
 | j+1,h,L,q=>by
  rcases Zt.1 (show L∈jy W.c j++m8 j (W.c j).op from q) with q | q
  ·exact o4 a j (Nat.le_of_succ_le h) L q
  ·cases hop:(W.c j).op with
   | none=>rw[hop] at q;exact(nomatch q)
   | some p =>
    rw[hop] at q
    obtain⟨h1,h2⟩:=(a.co j h).1 p hop
    have ok:∀ b,vx ks nc (.call (hn b) j p.1 p.2.1 p.2.2):=fun b=>⟨⟨b,rfl⟩,⟨j,h,rfl⟩,h2,Int.le_of_eq h1⟩
    rcases Zu.1 (show L∈[_,_] from q) with e | q
    ·rw[e];exact ok _
    ·rw[Zq.1 q];exact ok _
theorem fq {c:Nat->CS}{i:Nat}{p:Int×Key×Internal.W} (hp:(c i).op=some p) (b:Bool):∀ j,i < j->Letter.call (hn b) i p.1 p.2.1 p.2.2∈jy c j
 | 0,h=>absurd h (Nat.not_lt_zero i)
 | j+1,h=>by
  show _∈jy c j++m8 j (c j).op
  by_cases e:i=j
  ·subst e
   rw[hp]
   refine Qa _ ?_
   cases b
   ·exact Zm ..
   ·exact Zk _ (Zm ..)
  ·exact Z6 _ (fq hp b j (Nat.lt_of_le_of_ne (Nat.le_of_lt_succ h) e))
theorem WI.mono (a:WI ks nc m W) {k:Nat} (h:m<=k):WI ks nc k W:=⟨a.nc_,a.hi,a.po,Zp a.pl (Nat.mul_le_mul_left 8 h),fun i hi=>⟨(a.co i hi).1,Zp (a.co i hi).2 h⟩⟩
theorem zkj {α:Type} (a b:List α):a.length<=(a++b).length:=by rw[Zf];exact Nat.le_add_right _ _
theorem zox {n:Nat} (h6:nc<=6) (h:n<=2*nc):n<=8*2:=by omega
theorem WI.ready (a:WI ks nc m W) (k6:ks.length<=6) (h6:nc<=6):WI ks nc (m+4) {wr2 W with post:=all W}:=by
 have s1:WI ks nc (m+2) (nd true (nd false (wr2 W))):=(((a.write false).write true).nudge false k6).nudge true k6
 have e:=a.nc_
 exact s1.setPost (k:=2) (l:=all W) (fun L q=>(Zt.1 q).elim (s1.po L) (o4 a _ (Nat.le_of_eq e) L)) (by
  show(p2 W++jy W.c W.nc).length<=(p2 W).length+8*2
  rw[Zf]
  exact Nat.add_le_add_left (zox h6 (e▸p4 W.c W.nc)) _)
theorem zft (a:WI ks nc m {wr2 W with post:=all W}):(all W).length<=8*m:=Zp (Zp (Nat.le_add_right _ _) (Nat.le_add_right _ _)) a.pl
theorem WI.rnd (a:WI ks nc m W) (k6:ks.length<=6) (h6:nc<=6):WI ks nc (9*(m+4)) (Internal.rnd W)/\∀ i,((Internal.rnd W).c i).begun=(W.c i).begun:=by
 have r:=a.ready k6 h6
 have l:=zft r
 obtain⟨h1,h2⟩:=WI.brings h6 [] (all W) (wr2 W) (m+4) (by rw[Z0];exact r)
 exact⟨h1.mono (by omega),h2.be⟩
theorem d6 (W:WS) (b:Bool):((wr2 W).h b).known=(W.h b).known:=by cases b <;> rfl
theorem zf2 (W:WS) (b:Bool):∀ L∈(W.h b).laid,L∈all W:=fun L q=>by
 refine Z6 _ (Z6 _ (Z6 _ ?_))
 show L∈W.post++(W.h false).laid++(W.h true).laid
 cases b
 ·exact Z6 _ (Qa _ q)
 ·exact Qa _ q
theorem WI.rd (a:WI ks nc m W) (k6:ks.length<=6) (h6:nc<=6):RD ks nc (m+4) (wr2 W) (p2 W) (jy W.c W.nc) where
 wk:=a.ready k6 h6
 nu b key hk ho:=by
  have hin:∀ L∈((wr2 W).h b).nudge,L∈p2 W:=fun L q=>by
   show L∈(wr2 W).post++((wr2 W).h false).nudge++((wr2 W).h true).nudge
   cases b
   ·exact Z6 _ (Qa _ q)
   ·exact Qa _ q
  have w:=(a.write false).write true
  obtain⟨r,hr⟩:=(w.hi b).get hk
  have hr:qb key ((wr2 W).h b).known=some r:=hr
  have hn:((wr2 W).h b).num=hn b:=(w.hi b).nu
  have hw:((wr2 W).h b).written=((wr2 W).h b).known:=by cases b <;> rfl
  rw[jn hr] at ho ⊢
  refine⟨r.amt,r.marks,hin _ ?_⟩
  rw[<- f6,<- hn]
  exact Z1.2 ⟨(key,r),List.mem_filter.2 ⟨by rw[hw];exact vf hr,Zb ho⟩,rfl⟩
 ca i hi p hp b:=fq hp b _ (by rw[a.nc_];exact hi)
theorem zqb {b:Bool}{h:HS} (hi:HJ ks nc b h) (nd':ks.Nodup) (hk:∀ key∈ks,(qc h.known key).st≠.owes):h.owes=[]:=by
 rw[HS.owes]
 refine List.map_eq_nil_iff.2 (List.filter_eq_nil_iff.2 fun p hp q=>?_)
 have e:=wf (by rw[hi.hk];exact nd') hp
 exact hk p.1 (hi.hk▸Z1.2 ⟨p,hp,rfl⟩) (by rw[jn e];exact Za q)
theorem WI.two (a:WI ks nc m W) (ko:KO ks W) (nd':ks.Nodup) (k6:ks.length<=6) (h6:nc<=6):zrg (Internal.rnd (Internal.rnd W)):=by
 have d:=a.rd k6 h6
 have a1:=(a.rnd k6 h6).1
 have r1:=a1.ready k6 h6
 have a2:=(a1.rnd k6 h6).1
 have ko1:KO ks (wr2 W):=fun key hk=>by
  obtain⟨b,h⟩:=ko key hk
  exact⟨b,by rw[d6,d6];exact h⟩
 refine⟨fun i hi=>?_,fun b=>zqb (a2.hi b) nd' fun key hk=>?_⟩
 ·refine RD.closes h6 r1 fun p hp=>?_
  obtain⟨b,t,ht⟩:=d.answered h6 ko1 (a2.nc_▸hi) (p:=p) hp
  exact⟨t,zf2 (Internal.rnd W) b _ ht⟩
 ·refine RD.ends h6 r1 hk b fun ho=>?_
  rw[d6] at ho ⊢
  exact zf2 (Internal.rnd W) (!b) _ (d.owed h6 hk b ho)
noncomputable def rs (W:WS):Nat->WS
 | 0=>W
 | r+1=>rnd (rs W r)
theorem zvt (a:WI ks nc 13 W) (k6:ks.length<=6) (h6:nc<=6) {r:Nat} (h:r<=2):WI ks nc 1413 (rs W r)/\(r<=1->WI ks nc 153 (rs W r))/\∀ i,((rs W r).c i).begun=(W.c i).begun:=by
 obtain⟨b,eb⟩:=a.rnd k6 h6
 obtain⟨c,ec⟩:=b.rnd k6 h6
 match r with
 | 0=>exact⟨a.mono (by decide),fun ξ=>a.mono (by decide),fun ξ=>rfl⟩
 | 1=>exact⟨b.mono (by decide),fun ξ=>b,eb⟩
 | 2=>exact⟨c,fun q=>absurd q (by decide),fun i=>(ec i).trans (eb i)⟩
 | r+3=>exact absurd h (Nat.not_le.2 (Nat.le_add_left 3 r))
end
section
variable {P:Prog} (H:WorldP P) (HP:HouseP P) (D:DeedP P) (SP:SetP P) {s u:MS}{ks:List Key}{W:WS}{x:Bool->HIx}{nc m:Nat}
theorem ul (a:WI ks nc m W) (hm:m < 1000000) (b:Bool):W.post.length+(W.h b).laid.length<=16700000/\W.rows.length+(W.h b).fresh.length<=16700000:=by
 have h:=a.pl
 unfold pot hp at h
 cases b <;> constructor <;> omega
theorem hz (a:WI ks nc m W) (K:KeysFine ks) (hm:m < 1000000) (b:Bool):HZ (W.h b):=by
 obtain⟨l1,l2⟩:=ul a hm b
 have h1:=Qd List.length (a.hi b).hk
 have h2:=Qd List.length (a.hi b).hw
 rw[Zd] at h1 h2
 have k6:ks.length < 1000:=Z7 K.six (by decide)
 exact⟨Z7 (Zp (Nat.le_add_left _ _) l1) (by decide),Z7 (Zp (Nat.le_add_left _ _) l2) (by decide),h1▸k6,h2▸k6⟩
theorem WI.room (a:WI ks nc m W) (hm:m < 1000000):W.post.length < 16777000:=Z7 (Zp (Nat.le_add_right _ _) (ul a hm false).1) (by decide)
include H HP D
theorem d0 (n:Nat) {L:Letter}{W1:WS} (A:WAt u ks W1 x) (a:WI ks nc m W) (eh:W1.h=W.h) (ec:W1.c=W.c) (en:W1.nc=W.nc) (K:KeysFine ks) (h6:nc<=6) (hm:m < 1000000) (hL:vx ks nc L) :
  OkR (run P (n+4) 48 [.ref (1,0),z9 L] u) fun v t=>v=.none/\WAt t ks (bring W1 L) x/\Fr NWp u t:=by
 have house:∀ b k,wg b L->k∈ks->(∀ r,qb k (W.h b).known=some r->LOk (W.h b) L)->OkR (run P (n+4) 48 [.ref (1,0),z9 L] u) fun v t=>v=.none/\WAt t ks (bring W1 L) x/\Fr NWp u t:=fun b k h1 hk h2=>by
  obtain⟨r,hr⟩:=(a.hi b).get hk
  rw[vg h1]
  rw[<- eh] at h2 hr
  exact zce H HP n A h1 (eh▸hz a K hm b) (eh▸fun p hp=>((a.hi b).kk p hp).1) (h2 r hr)
 cases L with
 | answer c num told =>
  obtain⟨i,hi,rfl⟩:=hL
  rw[mi]
  exact ah H D.cca D.c2 n A (by rw[en,a.nc_];exact hi) num told (ec▸Z7 (a.co i hi).2 (Nat.lt_trans hm (by decide)))
 | call hh c n k w =>
  obtain⟨⟨b,rfl⟩,⟨i,hi,rfl⟩,hk,-⟩:=hL
  exact house b k rfl hk fun r hr=>⟨Int.natCast_nonneg i,Int.ofNat_lt.2 (Zi hi h6),r,hr⟩
 | parcel hh k T am ms=>obtain⟨⟨b,rfl⟩,hk,-⟩:=hL;exact house b k rfl hk fun r hr=>⟨r,hr⟩
 | taken hh k T=>obtain⟨⟨b,rfl⟩,hk⟩:=hL;exact house b k rfl hk fun r hr=>⟨r,hr⟩
theorem zgg (n:Nat) (A:WAt u ks W x) (a:WI ks nc m W) (K:KeysFine ks) (h6:nc<=6) (hm:m < 1000000) {p:Nat} (hp:p < W.post.length) :
  OkR (run P (n+5) 49 [.ref (1,0),.int p] u) fun v t=>v=.none/\WAt t ks (bring {W with post:=W.post.eraseIdx p} W.post[p]) x/\Fr NWp u t :=
 zg5 H D.han n A hp fun t At=>d0 H HP D n At a rfl rfl rfl K h6 hm (a.po _ (Qc hp))
theorem zm8 (n:Nat) (A:WAt u ks W x) (a:WI ks nc m W) (K:KeysFine ks) (h6:nc<=6) (hm:m < 1000000) {p:Nat} (hp:p < W.post.length) :
  OkR (run P (n+5) 50 [.ref (1,0),.int p] u) fun v t=>v=.none/\WAt t ks (bring W W.post[p]) x/\Fr NWp u t :=
 zda H D.twi n A hp (d0 H HP D n A a rfl rfl rfl K h6 hm (a.po _ (Qc hp)))
theorem zcu (n:Nat) (A:WAt u ks W x) (a:WI ks nc m W) (K:KeysFine ks) (hm:m < 1000000) (b:Bool):∃ t,run P (n+5) 57 [.ref (1,0),.int (hn b)] u=.ok .none t/\WAt t ks (nd b W) x/\Fr NWp u t :=
 zdz H HP D.hnu D.h8 D.nud (n+2) A b (hz a K hm b) (by rw[(a.hi b).hw];exact K.nd) (by have:=(a.hi b).nudge.2;have:=K.six;have:=(ul a hm b).1;omega)
theorem zax (n:Nat) (A:WAt u ks W x) (a:WI ks nc m W) (K:KeysFine ks) (hm:m < 1000000) (b:Bool):OkR (run P (n+5) 55 [.ref (1,0),.int (hn b)] u) fun v t=>v=.none/\(∃ x',WAt t ks (wr b W) x')/\Fr NWp u t :=
 zdi H HP D.hwr D.h6 D.wri (n+2) A b (hz a K hm b) (Zp (ul a hm b).1 (by decide)) (Zp (ul a hm b).2 (by decide))
omit H HP D
theorem zrb (a:WI ks nc m W) {key:Key} (hk:key∈ks):(jc W key=.none/\(W.h false).has key=false/\(W.h true).has key=false)\/∃ b r,jc W key=.int (hn b)/\qb key (W.h b).known=some r/\r.st=.here:=by
 have row:∀ b,(W.h b).has key=true->∃ r,qb key (W.h b).known=some r/\r.st=.here:=fun b h=>by
  obtain⟨r,hr⟩:=(a.hi b).get hk
  rw[HS.has,hr] at h
  exact⟨r,hr,Za h⟩
 cases c0:(W.h false).has key with
 | true =>
  obtain⟨r,h1,h2⟩:=row false c0
  exact .inr ⟨false,r,by rw[jc,Zg c0,(a.hi false).nu],h1,h2⟩
 | false =>
  cases c1:(W.h true).has key with
  | true =>
   obtain⟨r,h1,h2⟩:=row true c1
   exact .inr ⟨true,r,by rw[jc,c0,c1];show V.int (W.h true).num=_;rw[(a.hi true).nu],h1,h2⟩
  | false=>exact .inl ⟨by rw[jc,c0,c1];rfl,rfl,rfl⟩
theorem zg3 (more:Int):more.fmod 2=hn (decide (more.fmod 2=1)):=by
 obtain⟨h1,h2⟩:=qk more 2 (by decide)
 by_cases h:more.fmod 2=1
 ·rw[Zb h];exact h
 ·rw[Zc h];show _=(0:Int);omega
theorem z1l (k:Int) {N p:Nat} (h:0 < N) (e:k.fmod (N:Int)=p) (s:MS):yd .mod (.int k) (.int (N:Nat)) s=.ok (.int p) s:=by
 have h0:¬ ((N:Int)=0):=by omega
 show(if (N:Int)=0 then Res.stuck else Res.ok (V.int (k.fmod (N:Int))) s)=_
 rw[Zh h0,e]
noncomputable def zti (W:WS) (s:MS) (r:List Nat) (_:Option V) (t:MS):Prop:=s=t/\(∀ i∈r,i < W.nc)/\∀ i,i < W.nc->(W.c i).op=none\/i∈r
include H in
theorem zll (n:Nat) (A:WAt s ks W x) {i:Nat}{r:List Nat}{y:Option V} (h:zti W s (i::r) y s) {Q:Fl×Loc->MS->Prop} (kr:¬ zrg W->Q (.ret (.bool false),[some (.ref (1,0)),some (.ref (3,i))]) s) (kn:zti W s r (some (.ref (3,i))) s->Q (.next,[some (.ref (1,0)),some (.ref (3,i))]) s) :
  OkR (exs P (run P (n+2)) (n+2) [.ite (.isC true (.meth (.loc 1) 11 []) .none) [.ret (some (.bool false))] []] [some (.ref (1,0)),some (.ref (3,i))] s) Q:=by
 obtain⟨-,h1,h2⟩:=h
 have hi:=h1 i (Zm ..)
 have ea:=zt (P:=P) (a:=.loc 1) (es:=[]) (l:=[some (.ref (1,0)),some (.ref (3,i))]) (x:=.ref (3,i)) (vs:=[]) rfl ((zg (A.co i hi)).trans H.c11) rfl (x8 H (n+1) A hi)
 cases hop:(W.c i).op with
 | none =>
  rw[hop] at ea
  exact zo (t:=false) (uq (g:=true) (t:=true) ea (Zb rfl)) (zh (zv (kn ⟨rfl,fun j hj=>h1 j (Zk _ hj),fun j hj=>(h2 j hj).elim .inl fun q=>(Zu.1 q).elim (fun e=>.inl (e▸hop)) .inr⟩)))
 | some p =>
  rw[hop] at ea
  exact zo (t:=true) (uq (g:=true) (t:=false) ea (Zc nofun)) (zu rfl (kr fun q=>nomatch hop.symm.trans (q.1 i hi)))
include H HP in
theorem zq6 (SP:SetP P) (n:Nat) (A:WAt s ks W x) (K:KeysFine ks) (a:WI ks nc m W) (hm:m < 1000000) {z:Option V} :
  ∃ t,ev P (run P (n+2)) (.cmp (.bin .add (.prim .len [.meth (.sub (.attr (.loc 0) 9) (.int 0)) 1 []]) (.prim .len [.meth (.sub (.attr (.loc 0) 9) (.int 1)) 1 []])) .eq (.int 0)) [some (.ref (1,0)),z] s=.ok (.bool (decide (((W.h false).owes.length:Int)+((W.h true).owes.length:Int)=0))) t/\Fr Nil s t:=by
 have f0:Fr Nil s (s.new 14 (.list ((W.h false).owes.map .str))):=(Fr.refl _ _).new _ _
 have A0:=A.step f0.nw
 have nd:∀ b,((W.h b).known.map (·.1)).Nodup:=fun b=>by rw[(a.hi b).hk];exact K.nd
 have l:∀ (t:MS) (ks:List Key),zl8 (.ref (14,t.cnt 14)) (t.new 14 (.list (ks.map .str)))=.ok (.int (ks.length:Nat)) (t.new 14 (.list (ks.map .str))):=fun t ks=>(bc (qd (z5 _ _ _))).trans (by rw[Zd])
 exact⟨_,kq (y:=.int 0) (jo (xr (zf (zt (x:=.ref (2,hx false)) (vs:=[]) (pd (b:=false) A rfl rfl) ((zg (A.hh.at_ false).o).trans HP.mowes) rfl (nv HP rfl SP.owe (n+1) (A.hh.at_ false) (hz a K hm false) (nd false))) rfl) (l _ _)) (xr (zf (zt (x:=.ref (2,hx true)) (vs:=[]) (pd (b:=true) A0 rfl rfl) ((zg (A0.hh.at_ true).o).trans HP.mowes) rfl (nv HP rfl SP.owe (n+1) (A0.hh.at_ true) (hz a K hm true) (nd true))) rfl) (l _ _)) rfl) rfl rfl,f0.new _ _⟩
theorem two_nil {a b:List Key}:decide ((a.length:Int)+(b.length:Int)=0)=true↔a=[]/\b=[]:=by
 rw[decide_eq_true_iff,<- List.length_eq_zero_iff,<- List.length_eq_zero_iff];omega
include H HP SP in
theorem zbq (n:Nat) (A:WAt s ks W x) (K:KeysFine ks) (a:WI ks nc m W) (hm:m < 1000000) :
  OkR (run P (n+3) 62 [.ref (1,0)] s) fun v t=>∃ b:Bool,v=.bool b/\(b=true↔zrg W)/\Fr Nil s t:=by
 refine zj SP.iss rfl (ku (v:=.lst (jj W.nc)) (zn rfl (z3 A.o rfl)) rfl rfl (xb (fun (i:Nat)=>V.ref (3,i)) (fun z=>[some (.ref (1,0)),z]) (zti W s) (fun i r y t h=>⟨rfl,?_⟩) (fun y t h=>⟨rfl,?_⟩) (List.range W.nc) none s ⟨rfl,fun i hi=>List.mem_range.1 hi,fun i hi=>.inr (List.mem_range.2 hi)⟩))
 ·cases h.1
  exact zll H n A h (fun q=>⟨false,rfl,⟨fun q=>(nomatch q),fun z=>(q z).elim⟩,.refl _ _⟩) fun q=>⟨_,rfl,q⟩
 ·cases h.1
  rw[x9]
  obtain⟨t,e,f⟩:=zq6 H HP SP n A K a hm (z:=y)
  refine zu e ⟨_,rfl,two_nil.trans ⟨fun q=>⟨fun i hi=>(h.2.2 i hi).resolve_right fun z=>(nomatch z),fun b=>?_⟩,fun q=>⟨q.2 false,q.2 true⟩⟩,f⟩
  cases b
  ·exact q.1
  ·exact q.2
noncomputable abbrev kj (a b c:Option V):Loc:=[some (.ref (1,0)),a,b,c]
theorem zf6 {C:Calls}{n:Nat}{body r:List S}{z:Option V}{Q:Fl×Loc->MS->Prop}{R1 R2:MS->Prop}
  (h0:OkR (exs P C n body (kj (some (.int (hn false))) none none) s) fun p t=>p=(.next,kj (some (.int (hn false))) none none)/\R1 t)
  (h1:∀ t,R1 t->OkR (exs P C n body (kj (some (.int (hn true))) none none) t) fun p t=>p=(.next,kj (some (.int (hn true))) none none)/\R2 t)
  (k:∀ z t,R2 t->OkR (exs P C n r (kj z none none) t) Q):OkR (exs P C n (.for_ (.inl (.loc 1)) true (.int 2) body::r) (kj z none none) s) Q:=by
 refine ku (v:=.int 2) (s':=s) (xs:=[false,true].map fun b=>.int (hn b)) rfl rfl rfl (xb (fun b=>V.int (hn b)) (fun y=>kj y none none) (fun l ξ t=>(l=[false,true]/\t=s)\/(l=[true]/\R1 t)\/(l=[]/\R2 t)) (fun b l y t h=>⟨rfl,?_⟩) (fun y t h=>⟨rfl,?_⟩) _ _ _ (.inl ⟨rfl,rfl⟩))
 ·rcases h with ⟨e,rfl⟩ | ⟨e,q⟩ | ⟨e,-⟩
  ·cases e
   show OkR (exs P C n body (kj (some (.int (hn false))) none none) t) _
   refine qz h0 fun p t q=>?_
   rw[q.1];exact⟨_,rfl,.inr (.inl ⟨rfl,q.2⟩)⟩
  ·cases e
   show OkR (exs P C n body (kj (some (.int (hn true))) none none) t) _
   refine qz (h1 t q) fun p t q=>?_
   rw[q.1];exact⟨_,rfl,.inr (.inr ⟨rfl,q.2⟩)⟩
  ·cases e
 ·rcases h with ⟨e,-⟩ | ⟨e,-⟩ | ⟨-,q⟩
  ·cases e
  ·cases e
  ·exact k y t q
include H HP D
theorem sh (n:Nat) (A:WAt s ks W x) (a:WI ks nc m W) (K:KeysFine ks) (hm:m < 1000000) (b:Bool):OkR (exs P (run P (n+5)) (n+5) [.expr (.meth (.loc 0) 6 [.loc 1])] (kj (some (.int (hn b))) none none) s) fun p t=>p=(.next,kj (some (.int (hn b))) none none)/\(∃ x',WAt t ks (wr b W) x')/\Fr NWp s t :=
 jv (x3 (x:=.ref (1,0)) (vs:=[.int (hn b)]) rfl ((zg A.o).trans D.w6) rfl (zax H HP D n A a K hm b)) fun v u q=>zv ⟨rfl,q.2⟩
theorem znm (n:Nat) {r:List S}{Q:Fl×Loc->MS->Prop} (A:WAt s ks W x) (a:WI ks nc m W) (K:KeysFine ks) (hm:m < 1000000)
  (k:∀ z x' t,WAt t ks (wr2 W) x'->Fr NWp s t->OkR (exs P (run P (n+5)) (n+5) r (kj z none none) t) Q) :
  OkR (exs P (run P (n+5)) (n+5) (.for_ (.inl (.loc 1)) true (.int 2) [.expr (.meth (.loc 0) 6 [.loc 1])]::r) (kj none none none) s) Q :=
 zf6 (R1:=fun t=>(∃ x',WAt t ks (wr false W) x')/\Fr NWp s t) (R2:=fun t=>(∃ x',WAt t ks (wr2 W) x')/\Fr NWp s t) (sh H HP D n A a K hm false)
  (fun t ⟨⟨x1,A1⟩,f1⟩=>qz (sh H HP D n A1 (a.write false) K hm true) fun p u q=>⟨q.1,q.2.1,f1.trans q.2.2⟩) fun z t ⟨⟨x',A'⟩,f⟩=>k z x' t A' f
theorem tv (n:Nat) (A:WAt s ks W x) (a:WI ks nc m W) (K:KeysFine ks) (hm:m < 1000000) (b:Bool):OkR (exs P (run P (n+5)) (n+5) [.expr (.meth (.loc 0) 8 [.loc 1])] (kj (some (.int (hn b))) none none) s) fun p t=>p=(.next,kj (some (.int (hn b))) none none)/\WAt t ks (nd b W) x/\Fr NWp s t:=by
 obtain⟨u,e,q⟩:=zcu H HP D n A a K hm b
 exact qw (zt (x:=.ref (1,0)) (vs:=[.int (hn b)]) rfl ((zg A.o).trans D.w8) rfl e) (zv ⟨rfl,q⟩)
theorem znl (n:Nat) {r:List S}{Q:Fl×Loc->MS->Prop}{z:Option V} (A:WAt s ks W x) (a:WI ks nc m W) (K:KeysFine ks) (hm:m+1 < 1000000)
  (k:∀ z t,WAt t ks (nd true (nd false W)) x->Fr NWp s t->OkR (exs P (run P (n+5)) (n+5) r (kj z none none) t) Q) :
  OkR (exs P (run P (n+5)) (n+5) (.for_ (.inl (.loc 1)) true (.int 2) [.expr (.meth (.loc 0) 8 [.loc 1])]::r) (kj z none none) s) Q :=
 zf6 (R1:=fun t=>WAt t ks (nd false W) x/\Fr NWp s t) (R2:=fun t=>WAt t ks (nd true (nd false W)) x/\Fr NWp s t) (tv H HP D n A a K (Nat.lt_of_succ_lt hm) false)
  (fun t ⟨A1,f1⟩=>qz (tv H HP D n A1 (a.nudge false K.six) K hm true) fun p u q=>⟨q.1,q.2.1,f1.trans q.2.2⟩) fun z t ⟨A',f⟩=>k z t A' f
omit HP D
theorem sv (n:Nat) {r:List S}{Q:Fl×Loc->MS->Prop}{z:Option V}{i:Nat}{p:Int×Key×Internal.W} (b:Bool) (A:WAt u ks W x) (hi:i < W.nc) (hop:(W.c i).op=some p) (hl:W.post.length < 16777216)
  (k:∀ t,WAt t ks {W with post:=W.post++[.call (hn b) i p.1 p.2.1 p.2.2]} x->Fr NWp u t->OkR (exs P (run P (n+5)) (n+5) r (kj z (some (.ref (3,i))) none) t) Q) :
  OkR (exs P (run P (n+5)) (n+5) (.expr (.bm .append (.attr (.loc 0) 11) [.meth (.loc 2) 10 [.int (hn b)]])::r) (kj z (some (.ref (3,i))) none) u) Q:=by
 have l0:=ue H (n+4) A hi hop b
 refine qw (v:=.none) (ud (x:=.ref (9,0)) (vs:=[z9 (.call (hn b) i p.1 p.2.1 p.2.2)]) (s2:=u) (zn rfl (z3 A.o rfl)) (jz A.po) (zf (zt (x:=.ref (3,i)) (vs:=[.int (hn b)]) rfl ((zg (A.co i hi)).trans H.c10) rfl l0) rfl) (xg _ _ _ _ A.po (by rw[Zd];exact hl))) ?_
 exact k _ (A.post1 (.call (hn b) i p.1 p.2.1 p.2.2)) ((Fr.refl NWp u).put (l:=(9,0)) (Za (p:=9 < 11) rfl) _)
theorem zru (n:Nat) {r:List S}{Q:Fl×Loc->MS->Prop}{z:Option V}{i:Nat} (A:WAt u ks W x) (hi:i < W.nc) (hl:W.post.length < 16000000)
  (k:∀ t,WAt t ks {W with post:=W.post++m8 i (W.c i).op} x->Fr NWp u t->OkR (exs P (run P (n+5)) (n+5) r (kj z (some (.ref (3,i))) none) t) Q) :
  OkR (exs P (run P (n+5)) (n+5) (.ite (.isC true (.meth (.loc 2) 11 []) .none) [.expr (.bm .append (.attr (.loc 0) 11) [.meth (.loc 2) 10 [.int 0]]),.expr (.bm .append (.attr (.loc 0) 11) [.meth (.loc 2) 10 [.int 1]])] []::r) (kj z (some (.ref (3,i))) none) u) Q:=by
 have ea:ev P (run P (n+5)) (.meth (.loc 2) 11 []) (kj z (some (.ref (3,i))) none) u=.ok (opV (W.c i).op) u:=zt (x:=.ref (3,i)) (vs:=[]) rfl ((zg (A.co i hi)).trans H.c11) rfl (x8 H (n+4) A hi)
 cases hop:(W.c i).op with
 | none =>
  rw[hop] at ea k
  refine zo (t:=false) (s':=u) (uq (g:=true) (t:=true) ea (Zb rfl)) (zh (k u ?_ (.refl _ _)))
  rw[show W.post++m8 i none=W.post from Z0 _];exact A
 | some p =>
  rw[hop] at ea k
  refine zo (t:=true) (s':=u) (uq (g:=true) (t:=false) ea (Zc nofun)) ?_
  refine sv H n false A hi hop (Nat.lt_trans hl (by decide)) fun t A1 f1=>?_
  refine sv H n (W:={W with post:=W.post++[.call (hn false) i p.1 p.2.1 p.2.2]}) true A1 hi hop (by show(W.post++[_]).length < _;rw[Zf];exact Nat.lt_trans (Nat.succ_lt_succ hl) (by decide)) fun t2 A2 f2=>zh (k t2 ?_ (f1.trans f2))
  rw[show W.post++m8 i (some p)=W.post++[.call (hn false) i p.1 p.2.1 p.2.2]++[.call (hn true) i p.1 p.2.1 p.2.2] from (Z3 W.post [.call (hn false) i p.1 p.2.1 p.2.2] [.call (hn true) i p.1 p.2.1 p.2.2]).symm]
  exact A2
noncomputable def zxq (ks:List Key) (W:WS) (x:Bool->HIx) (s:MS) (r:List Nat) (_:Option V) (t:MS):Prop:=∃ i j,i+j=W.nc/\r=List.range' i j/\WAt t ks {W with post:=W.post++jy W.c i} x/\Fr NWp s t
omit H in
theorem zju {i j:Nat} (hz:W.post.length<=8000000) (h6:W.nc<=6) (hij:i+j=W.nc):(W.post++jy W.c i).length < 16000000:=by
 have:=p4 W.c i
 rw[Zf];omega
theorem zom (n:Nat) {r:List S}{Q:Fl×Loc->MS->Prop}{z:Option V} (A:WAt s ks W x) (hz:W.post.length<=8000000) (h6:W.nc<=6)
  (k:∀ y t,WAt t ks {W with post:=W.post++jy W.c W.nc} x->Fr NWp s t->OkR (exs P (run P (n+5)) (n+5) r (kj z y none) t) Q) :
  OkR (exs P (run P (n+5)) (n+5) (.for_ (.inl (.loc 2)) false (.attr (.loc 0) 10) [.ite (.isC true (.meth (.loc 2) 11 []) .none) [.expr (.bm .append (.attr (.loc 0) 11) [.meth (.loc 2) 10 [.int 0]]),.expr (.bm .append (.attr (.loc 0) 11) [.meth (.loc 2) 10 [.int 1]])] []]::r) (kj z none none) s) Q:=by
 refine ku (v:=.lst (jj W.nc)) (zn rfl (z3 A.o rfl)) rfl rfl (xb (fun (i:Nat)=>V.ref (3,i)) (fun y=>kj z y none) (zxq ks W x s) (fun v r y t q=>⟨rfl,?_⟩) (fun y t q=>⟨rfl,?_⟩) (List.range W.nc) none s ⟨0,W.nc,Nat.zero_add _,List.range_eq_range',by rw[show W.post++jy W.c 0=W.post from Z0 _];exact A,.refl _ _⟩)
 ·obtain⟨i,j,hij,hrem,At,f⟩:=q
  cases j with
  | zero=>cases hrem
  | succ j =>
  obtain⟨rfl,rfl⟩:=List.cons.inj (hrem:v::r=i::List.range' (i+1) j)
  refine zru H n (W:={W with post:=W.post++jy W.c v}) (i:=v) At (Zi (Nat.lt_add_of_pos_right (Nat.succ_pos j)) (Nat.le_of_eq hij)) (zju hz h6 hij) fun t2 A2 f2=>zv ⟨_,rfl,v+1,j,(Nat.succ_add_eq_add_succ v j).trans hij,rfl,?_,f.trans f2⟩
  rw[show W.post++jy W.c (v+1)=W.post++jy W.c v++m8 v (W.c v).op from (Z3 ..).symm]
  exact A2
 ·obtain⟨i,j,hij,hrem,At,f⟩:=q
  cases j with
  | succ j=>cases hrem
  | zero =>
   cases (show i=W.nc from hij)
   exact k y t At f
noncomputable def zwx (ks:List Key) (W:WS) (x:Bool->HIx) (s:MS) (l:List Letter) (r:List Nat) (_:Option V) (t:MS):Prop:=∃ l1 l2,l=l1++l2/\r.length=l2.length/\WAt t ks {zx W l1 with post:=l2} x/\Fr NWp s t
omit H in
theorem zhb {l l1 l2:List Letter} (e:l=l1++l2) (hm:m+l.length < 1000000):m+l1.length < 1000000:=by
 rw[e,Zf,<- Nat.add_assoc] at hm;exact Z7 (Nat.le_add_right _ _) hm
omit H in
theorem zew (W:WS) (L:Letter) (l:List Letter):bring {W with post:=l} L={bring W L with post:=l}:=by cases L <;> rfl
include HP D
theorem zlu (n:Nat) {l:List Letter}{Q:Fl×Loc->MS->Prop}{z y:Option V} (A:WAt s ks {W with post:=l} x) (a:WI ks nc m {W with post:=l}) (K:KeysFine ks) (h6:nc<=6) (hm:m+l.length < 1000000)
  (k:∀ c t,WAt t ks {zx W l with post:=[]} x->Fr NWp s t->Q (.next,kj z y c) t) :
  OkR (exs P (run P (n+5)) (n+5) [.for_ (.inl (.loc 3)) true (.prim .len [.attr (.loc 0) 11]) [.expr (.meth (.loc 0) 21 [.int 0])]] (kj z y none) s) Q:=by
 have hll:(l.length:Int)<=1000000:=Int.ofNat_le.2 (Nat.le_of_lt (Z7 (Nat.le_add_left _ _) hm))
 refine ku (v:=.int (l.length:Nat)) (s':=s) (xs:=(List.range l.length).map fun (k:Nat)=>V.int k) (xr (zf (zn rfl (z3 A.o rfl)) rfl) ((bc (qd A.po)).trans (by rw[Zd]))) ((j9 s _ (Int.natCast_nonneg _) (Int.le_trans hll (by decide))).trans (by rw[Int.toNat_natCast])) rfl
  (xb (fun (k:Nat)=>V.int k) (fun c=>kj z y c) (zwx ks W x s l) (fun v r c t q=>⟨rfl,?_⟩) (fun c t q=>⟨rfl,?_⟩) (List.range l.length) none s ⟨[],l,rfl,Zx,A,.refl _ _⟩)
 ·obtain⟨l1,l2,e,hrem,At,f⟩:=q
  cases l2 with
  | nil=>cases hrem
  | cons L l2 =>
  have a1:=(WI.brings h6 (L::l2) l1 W m (by rw[<- e];exact a)).1
  refine jv (x3 (x:=.ref (1,0)) (vs:=[.int 0]) (s2:=t) rfl ((zg At.o).trans D.w21) rfl (zgg H HP D n (p:=0) At a1 K h6 (zhb e hm) (Nat.succ_pos _))) fun ξ u q=>zv ⟨_,rfl,l1++[L],l2,by rw[e,Z3];rfl,Nat.succ.inj hrem,?_,f.trans q.2.2⟩
  rw[bg]
  exact zew (zx W l1) L l2▸q.2.1
 ·obtain⟨l1,l2,e,hrem,At,f⟩:=q
  cases l2 with
  | cons=>cases hrem
  | nil =>
   cases e.trans (Z0 _)
   exact k c t At f
include SP
theorem zis (n:Nat) (A:WAt s ks W x) (K:KeysFine ks) (a:WI ks nc 153 W) (h6:nc<=6) :
  OkR (run P (n+6) 63 [.ref (1,0)] s) fun v t=>v=.none/\(∃ x',WAt t ks (rnd W) x')/\Fr NWp s t:=by
 have rdy:=a.ready K.six h6
 have hl:=zft rdy
 refine zj SP.rou rfl ?_
 refine znm H HP D n A a K (by decide) fun z x' t A1 f1=>?_
 refine znl H HP D n A1 ((a.write false).write true) K (by decide) fun z2 t2 A2 f2=>?_
 refine zom H n A2 (Zp (Zp (zkj (p2 W) (jy W.c W.nc)) hl) (by decide)) (a.nc_▸h6:W.nc<=6) fun y t3 A3 f3=>?_
 exact zlu H HP D n (W:=wr2 W) (l:=all W) A3 rdy K h6 (Z7 (Nat.add_le_add_left hl _) (by decide)) fun c t4 A4 f4=>⟨rfl,⟨x',A4⟩,((f1.trans f2).trans f3).trans f4⟩
omit H HP D SP in
noncomputable def z0s (ks:List Key) (nc:Nat) (W:WS) (s:MS) (_:V) (t:MS):Prop :=
 Fr NWp s t/\∃ W' x',WAt t ks W' x'/\WI ks nc 1413 W'/\zrg W'/\∀ i,(W'.c i).begun=(W.c i).begun
omit H HP D SP in
noncomputable def z0t (ks:List Key) (W:WS) (s:MS) (k:Nat) (L:Loc) (t:MS):Prop :=
 ∃ (r:Nat) (x':Bool->HIx),k+r=2/\L=[some (.ref (1,0)),some (.int r)]/\WAt t ks (rs W r) x'/\Fr NWp s t
theorem zd9 (n:Nat) (A:WAt s ks W x) (K:KeysFine ks) (a:WI ks nc 13 W) (ko:KO ks W) (h6:nc<=6) :
  OkR (run P (n+8) 64 [.ref (1,0)] s) (z0s ks nc W s):=by
 refine zj SP.set rfl ?_
 refine zk (v:=.int 0) (s':=s) rfl rfl ?_
 rw[uu,zbo]
 refine sw (z0t ks W s) ?_ (n+7) 2 _ _ (Nat.le_add_left _ _) ⟨0,x,rfl,rfl,A,.refl _ _⟩
 rintro k L t ⟨r,x',hk,rfl,At,f⟩
 obtain⟨w1,w2,w3⟩:=zvt a K.six h6 (r:=r) (hk▸Nat.le_add_left _ _)
 obtain⟨v,t',e1,b,rfl,hb,f1⟩:=q9 (zbq H HP SP (n+4) At K w1 (by decide))
 refine u4 (jt (zt (x:=.ref (1,0)) (vs:=[]) (s2:=t) rfl ((zg At.o).trans SP.w26) rfl e1)) ⟨!b,rfl,?_⟩
 have At':=At.step f1.nw
 have f2:=f.trans f1.nwp
 cases b with
 | true =>
  rw[Zh (by decide),x9]
  exact zu (v:=.int r) (s':=t') rfl ⟨f2,_,x',At',w1,hb.1 rfl,w3⟩
 | false =>
  rw[Zg (by decide)]
  cases k with
  | zero =>
   rw[Nat.zero_add] at hk
   subst hk
   exact nomatch hb.2 (a.two ko K.nd K.six h6)
  | succ k =>
   have hr:r<=1:=Nat.le_of_succ_le_succ (Zp (Nat.le_add_left _ k) (Nat.le_of_eq ((Nat.succ_add_eq_add_succ k r).symm.trans hk)))
   refine⟨Nat.succ_pos _,jv (x3 (x:=.ref (1,0)) (vs:=[]) (s2:=t') rfl ((zg At'.o).trans SP.w27) rfl (zis H HP D SP (n+1) At' K (w2 hr) h6)) ?_⟩
   rintro v u ⟨rfl,⟨x2,A2⟩,f3⟩
   exact zk (v:=.int ((r+1:Nat):Int)) (s':=u) rfl rfl (zv ⟨r+1,x2,(Nat.succ_add_eq_add_succ k r).symm.trans hk,rfl,A2,f2.trans f3⟩)
end
end Internal
end
section
namespace Internal.L09
open Internal
noncomputable def wd:Fn:=⟨3,["self","number","keys","key"],[.setattr (.loc 0) 0 (.loc 1),.setattr (.loc 0) 4 (.dictM 4 [] []),.for_ (.inl (.loc 3)) false (.loc 2) [.setitem (.attr (.loc 0) 4) (.loc 3) (.tup [.str [104,101,114,101],.int 0,.int 0,.tup []]),.ite (.cmp (.loc 1) .ne (.int 0)) [.setitem (.attr (.loc 0) 4) (.loc 3) (.tup [.str [103,111,110,101],.neg (.int 1),.int 0,.tup []])] []],.setattr (.loc 0) 5 (.dictC 5 (.attr (.loc 0) 4)),.setattr (.loc 0) 6 (.lstM 6 []),.setattr (.loc 0) 7 (.lstM 7 [])]⟩
noncomputable def ye:Fn:=⟨5,["self","caller","number","key","wish","one","mark","pair","marks",""],[.assign 5 (.sub (.attr (.loc 0) 4) (.loc 3)),.for_ (.inl (.loc 6)) false (.sub (.loc 5) (.int 3)) [.ite (.and [.cmp (.sub (.loc 6) (.int 0)) .eq (.loc 1),.cmp (.sub (.loc 6) (.int 1)) .gt (.loc 2)]) [.ret none] [],.ite (.and [.cmp (.sub (.loc 6) (.int 0)) .eq (.loc 1),.cmp (.sub (.loc 6) (.int 1)) .eq (.loc 2)]) [.expr (.bm .append (.attr (.loc 0) 6) [.tup [.str [97,110,115,119,101,114],.loc 1,.loc 2,.sub (.loc 6) (.int 2)]]),.ret none] []],.assign 7 (.call 2 [.sub (.loc 5) (.int 2),.loc 4]),.assign 8 (.bin .add (.comp none 9 false (.sub (.loc 5) (.int 3)) (some (.cmp (.sub (.loc 9) (.int 0)) .ne (.loc 1))) (.loc 9)) (.lst [.tup [.loc 1,.loc 2,.sub (.loc 7) (.int 1)]])),.setitem (.attr (.loc 0) 4) (.loc 3) (.tup [.str [104,101,114,101],.sub (.loc 5) (.int 1),.sub (.loc 7) (.int 0),.prim .tuple1 [.prim .sorted [.loc 8]]]),.expr (.bm .append (.attr (.loc 0) 6) [.tup [.str [97,110,115,119,101,114],.loc 1,.loc 2,.sub (.loc 7) (.int 1)]]),.expr (.bm .append (.attr (.loc 0) 7) [.tup [.loc 1,.loc 2,.loc 3,.loc 4,.sub (.loc 7) (.int 1)]])]⟩
noncomputable def we:Fn:=⟨3,["self","keys","callers",""],[.expr (.call 5 [.loc 1,.loc 2]),.setattr (.loc 0) 8 (.prim .list1 [.loc 1]),.setattr (.loc 0) 9 (.lst [.new 1 [.int 0,.loc 1],.new 1 [.int 1,.loc 1]]),.setattr (.loc 0) 10 (.comp none 3 true (.loc 2) none (.new 2 [.loc 3])),.setattr (.loc 0) 11 (.lstM 9 []),.setattr (.loc 0) 12 (.lstM 10 [])]⟩
noncomputable def sm:Fn:=⟨7,["_law_world","_law_way","_law_caller","_law_house","_law_key_here","_law_wish_here","_law_place"],[.ite (.cmp (.loc 1) .eq (.int 0)) [.retX (.meth (.loc 0) 17 [.loc 2,.loc 3,.loc 4,.loc 5])] [],.ite (.cmp (.loc 1) .eq (.int 1)) [.retX (.meth (.loc 0) 18 [.loc 2,.loc 3])] [],.ite (.cmp (.loc 1) .eq (.int 2)) [.retX (.meth (.loc 0) 0 [.loc 3,.loc 4])] [],.ite (.cmp (.loc 1) .eq (.int 3)) [.retX (.meth (.loc 0) 5 [.loc 4])] [],.ite (.cmp (.loc 1) .eq (.int 4)) [.retX (.meth (.loc 0) 24 [.loc 4])] [],.ite (.cmp (.loc 1) .eq (.int 5)) [.retX (.meth (.loc 0) 6 [.loc 3])] [],.ite (.cmp (.loc 1) .eq (.int 6)) [.retX (.meth (.loc 0) 7 [.loc 3])] [],.ite (.cmp (.loc 1) .eq (.int 7)) [.retX (.meth (.loc 0) 8 [.loc 3])] [],.ite (.cmp (.loc 1) .eq (.int 8)) [.retX (.meth (.loc 0) 11 [.loc 2])] [],.ite (.cmp (.loc 1) .eq (.int 9)) [.retX (.meth (.loc 0) 12 [.loc 2])] [],.ite (.cmp (.loc 1) .eq (.int 10)) [.retX (.meth (.loc 0) 1 [.loc 3])] [],.ite (.cmp (.loc 1) .eq (.int 11)) [.retX (.meth (.loc 0) 21 [.loc 6])] [],.ite (.cmp (.loc 1) .eq (.int 12)) [.retX (.meth (.loc 0) 22 [.loc 6])] [],.retX (.meth (.loc 0) 23 [.loc 6])]⟩
noncomputable def dx:Fn:=⟨3,["_law_world","_law_way","_law_args","e","_law_some"],[.tryX (.call 120 [.loc 0,.loc 1,.sub (.loc 2) (.int 0),.sub (.loc 2) (.int 1),.sub (.loc 2) (.int 2),.sub (.loc 2) (.int 3),.sub (.loc 2) (.int 4)]) 80 (some 3) [.assign 4 (.lst [.isX (.loc 3) 105,.isX (.loc 3) 117,.isX (.loc 3) 129,.isX (.loc 3) 141]),.assign 4 (.bin .add (.loc 4) (.lst [.isX (.loc 3) 153,.isX (.loc 3) 165,.isX (.loc 3) 177,.isX (.loc 3) 189])),.ret (some (.bin .add (.loc 4) (.lst [.isX (.loc 3) 93,.isX (.loc 3) 0])))],.ret (some (.bin .mul (.lst [.bool false]) (.int 10)))]⟩
noncomputable def w7:Fn:=⟨2,["_law_cell","_law_many","_law_far"],[.assign 2 (.bin .mod (.bin .fdiv (.loc 0) (.int 24)) (.bin .pow (.int 10) (.int 30))),.ite (.cmp (.bin .mod (.loc 0) (.int 3)) .lt (.int 2)) [.ret (some (.bin .mod (.bin .fdiv (.loc 0) (.int 3)) (.prim .max2 [.int 1,.loc 1])))] [],.ret (some (.sub (.lst [.bin .sub (.neg (.int 1)) (.loc 2),.loc 1,.bin .add (.loc 1) (.loc 2),.bool true,.bool false,.none,.str [48],.lst [.int 0]]) (.bin .mod (.bin .fdiv (.loc 0) (.int 3)) (.int 8))))]⟩
noncomputable def p9:Fn:=⟨2,["_law_cell","_law_keys_here","_law_one"],[.ite (.cmp (.bin .mod (.loc 0) (.int 3)) .lt (.int 2)) [.ret (some (.sub (.loc 1) (.bin .mod (.bin .fdiv (.loc 0) (.int 3)) (.prim .len [.loc 1]))))] [],.assign 2 (.sub (.loc 1) (.bin .mod (.bin .fdiv (.loc 0) (.int 30)) (.prim .len [.loc 1]))),.ret (some (.sub (.lst [.str [],.none,.int 0,.lst [.loc 2],.tup [.loc 2],.bin .add (.loc 2) (.str [120]),.bin .add (.str [120]) (.loc 2),.bm .upper (.loc 2) [],.bool true,.dictM 60 [] []]) (.bin .mod (.bin .fdiv (.loc 0) (.int 3)) (.int 10))))]⟩
noncomputable def tb:Fn:=⟨1,["_law_cell","_law_far","_law_some"],[.assign 1 (.bin .add (.bin .add (.bin .pow (.int 10) (.int 30)) (.int 1)) (.bin .mod (.bin .fdiv (.loc 0) (.int 24)) (.bin .pow (.int 10) (.int 40)))),.assign 2 (.lst [.none,.tup [],.tup [.str [103,101,116],.int 1],.tup [.str [115,101,116]],.tup [.str [97,100,100]],.tup [.str [115,101,116],.bool true],.tup [.str [97,100,100],.bool false],.tup [.str [115,101,116],.none],.tup [.str [97,100,100],.str [49]]]),.assign 2 (.bin .add (.loc 2) (.lst [.tup [.str [115,101,116],.loc 1],.tup [.str [97,100,100],.loc 1],.tup [.str [115,101,116],.neg (.loc 1)],.tup [.str [97,100,100],.neg (.loc 1)],.tup [.str [115,101,116],.int 1,.int 2],.tup [.str [103,101,116],.tup []],.lst [.str [103,101,116]]])),.assign 2 (.bin .add (.loc 2) (.lst [.lst [.str [115,101,116],.int 1],.str [103,101,116],.int 5,.tup [.str [71,101,116]],.tup [.str [116,97,107,101],.int 1],.tup [.int 1,.int 2],.tup [.tup [.str [103,101,116]]],.tup [.str [115,101,116],.tup [.int 1]]])),.ret (some (.sub (.loc 2) (.bin .mod (.loc 0) (.int 24))))]⟩
noncomputable def mn:Fn:=⟨2,["_law_thing","_law_many"],[.ret (some (.and [.isinst (.loc 0) [.int],.not (.isinst (.loc 0) [.bool]),.cmp2 (.int 0) .le (.loc 0) .lt (.loc 1)]))]⟩
noncomputable def rg:Fn:=⟨5,["_law_way","_law_args","_law_keys_here","_law_asked","_law_known","_law_caller","_law_house","_law_key_here","_law_wish_here","_law_place"],[.unpack [.loc 5,.loc 6,.loc 7,.loc 8,.loc 9] (.loc 1),.ite (.and [.cmp (.loc 0) .isin (.tup [.int 0,.int 1,.int 8,.int 9]),.not (.call 125 [.loc 5,.prim .len [.loc 3]])]) [.ret (some (.int 0))] [],.ite (.and [.cmp (.loc 0) .isin (.tup [.int 0,.int 1,.int 2,.int 5,.int 6,.int 7,.int 10]),.not (.call 125 [.loc 6,.int 2])]) [.ret (some (.int 1))] [],.ite (.and [.cmp (.loc 0) .isin (.tup [.int 0,.int 2,.int 3,.int 4]),.or [.not (.isinst (.loc 7) [.str]),.cmp (.loc 7) .notin (.loc 2)]]) [.ret (some (.int 2))] [],.ite (.and [.cmp (.loc 0) .eq (.int 0),.sub (.loc 4) (.int 2)]) [.ret (some (.int 3))] [],.ite (.and [.cmp (.loc 0) .eq (.int 0),.sub (.loc 3) (.loc 5)]) [.ret (some (.int 4))] [],.ite (.and [.cmp (.loc 0) .eq (.int 1),.not (.sub (.loc 3) (.loc 5))]) [.ret (some (.int 5))] [],.ite (.and [.cmp (.loc 0) .eq (.int 3),.cmp (.loc 7) .eq (.sub (.loc 4) (.int 0))]) [.ret (some (.int 6))] [],.ite (.and [.cmp (.loc 0) .gt (.int 10),.not (.call 125 [.loc 9,.sub (.loc 4) (.int 1)])]) [.ret (some (.int 7))] [],.ret (some (.neg (.int 1)))]⟩
noncomputable def m7:Fn:=⟨3,["_law_world","_law_keys_here","_law_callers","_law_found","_law_caller","_law_key_here"],[.assign 3 (.lstM 49 [.meth (.loc 0) 19 [],.meth (.loc 0) 25 [],.meth (.loc 0) 1 [.int 0],.meth (.loc 0) 1 [.int 1]]),.for_ (.inl (.loc 4)) true (.loc 2) [.expr (.bm .append (.loc 3) [.tup [.meth (.loc 0) 11 [.loc 4],.meth (.loc 0) 12 [.loc 4]]])],.for_ (.inl (.loc 5)) false (.loc 1) [.expr (.bm .append (.loc 3) [.tup [.meth (.loc 0) 24 [.loc 5],.meth (.loc 0) 0 [.int 0,.loc 5],.meth (.loc 0) 0 [.int 1,.loc 5]]])],.ret (some (.loc 3))]⟩
noncomputable def f_law:Fn:=⟨1,["_law_script","_law_first","_law_keys_here","_law_callers","_law_world","_law_asked","_law_caller","_law_known","_law_way","_law_wish_here","_law_args","_law_due_here","_law_before","_law_said_here",""],[.assign 1 (.call 100 [.loc 0,.int 0]),.assign 2 (.call 103 [.bin .add (.bin .add (.bin .sub (.loc 1) (.bin .mod (.loc 1) (.int 6))) (.int 1)) (.bin .mod (.loc 1) (.int 5))]),.assign 3 (.bin .add (.int 1) (.bin .mod (.call 100 [.loc 0,.int 1]) (.int 6))),.assign 4 (.new 0 [.prim .list1 [.loc 2],.loc 3]),.assign 5 (.lstM 35 []),.for_ (.inl (.loc 6)) true (.loc 3) [.expr (.bm .append (.loc 5) [.cmp (.bin .mod (.bin .fdiv (.bin .fdiv (.call 100 [.loc 0,.int 1]) (.int 6)) (.sub (.lst [.int 1,.int 2,.int 4,.int 8,.int 16,.int 32]) (.loc 6))) (.int 2)) .eq (.int 1)]),.ite (.sub (.loc 5) (.loc 6)) [.expr (.meth (.loc 4) 17 [.loc 6,.bin .mod (.loc 6) (.int 2),.sub (.loc 2) (.bin .mod (.loc 6) (.prim .len [.loc 2])),.tup [.str [103,101,116]]])] []],.assign 7 (.lstM 38 [.none,.prim .len [.meth (.loc 4) 19 []],.cmp (.bin .mod (.call 100 [.loc 0,.int 3]) (.int 3)) .eq (.int 1)]),.ite (.cmp (.bin .mod (.call 100 [.loc 0,.int 2]) (.int 2)) .eq (.int 1)) [.expr (.meth (.loc 4) 5 [.sub (.loc 2) (.int 0)]),.setitem (.loc 7) (.int 0) (.sub (.loc 2) (.int 0))] [],.assign 8 (.sub (.lst [.int 0,.int 1,.int 2,.int 3,.int 4,.int 5,.int 6,.int 7,.int 8,.int 9,.int 10,.int 11,.int 12,.int 13,.int 0,.int 0,.int 0,.int 1,.int 3,.int 11]) (.bin .mod (.bin .fdiv (.call 100 [.loc 0,.int 2]) (.int 2)) (.int 20))),.assign 9 (.call 102 [.call 100 [.loc 0,.int 6]]),.ite (.sub (.loc 7) (.int 2)) [.assign 9 (.call 124 [.call 100 [.loc 0,.int 6]])] [],.assign 10 (.lst [.call 122 [.call 100 [.loc 0,.int 4],.loc 3],.call 122 [.call 100 [.loc 0,.int 5],.int 2]]),.assign 10 (.bin .add (.loc 10) (.lst [.call 123 [.call 100 [.loc 0,.int 7],.loc 2],.loc 9,.call 122 [.call 100 [.loc 0,.int 8],.sub (.loc 7) (.int 1)]])),.assign 11 (.call 126 [.loc 8,.loc 10,.loc 2,.loc 5,.loc 7]),.assign 12 (.call 127 [.loc 4,.loc 2,.loc 3]),.assign 13 (.call 121 [.loc 4,.loc 8,.loc 10]),.ite (.cmp (.loc 11) .lt (.int 0)) [.ret (some (.cmp (.loc 13) .eq (.bin .mul (.lst [.bool false]) (.int 10))))] [],.ite (.or [.cmp (.loc 13) .ne (.comp none 14 true (.int 10) none (.or [.cmp (.loc 14) .eq (.loc 11),.cmp (.loc 14) .eq (.int 9)])),.cmp (.call 127 [.loc 4,.loc 2,.loc 3]) .ne (.loc 12)]) [.ret (some (.bool false))] [],.expr (.meth (.loc 4) 28 []),.for_ (.inl (.loc 6)) true (.loc 3) [.ite (.cmp (.meth (.loc 4) 17 [.loc 6,.int 0,.sub (.loc 2) (.int 0),.tup [.str [103,101,116]]]) .ne (.bin .add (.int 1) (.prim .int1 [.sub (.loc 5) (.loc 6)]))) [.ret (some (.bool false))] []],.ret (some (.bool true))]⟩
noncomputable def fnl:List (Nat×Fn):=[(0,Internal.f_is_whole),(1,(Internal.f_need_wish 141)),(2,Internal.f_done),(4,Internal.f_is_key),(5,(Internal.f_need_world 93)),(10,Internal.f_Caller_init),(11,Internal.f_Caller_begin),(12,Internal.f_Caller_letter),(13,Internal.f_Caller_came),(14,Internal.f_Caller_asking),(15,Internal.f_Caller_answers),(20,wd),(21,Internal.f_House_has),(22,Internal.f_House_owes),(23,Internal.f_House_came),(24,ye),(25,Internal.f_House_parcel),(26,(Internal.f_House_move 177)),(27,Internal.f_House_write),(28,Internal.f_House_sleep),(29,Internal.f_House_nudge),(40,we),(41,(Internal.f_World_need_caller 105)),(42,(Internal.f_World_need_house 117)),(43,(Internal.f_World_need_key 129)),(44,(Internal.f_World_need_place 189)),(45,(Internal.f_World_call 153)),(46,(Internal.f_World_again 165)),(47,Internal.f_World_letters),(48,Internal.f_World_brought),(49,Internal.f_World_hand),(50,Internal.f_World_twice),(51,Internal.f_World_lose),(52,Internal.f_World_home),(53,(Internal.f_World_move 177)),(54,Internal.f_World_has),(55,Internal.f_World_write),(56,Internal.f_World_sleep),(57,Internal.f_World_nudge),(58,Internal.f_World_ledger),(59,Internal.f_World_asking),(60,Internal.f_World_answers),(61,Internal.f_World_owes),(62,Internal.f_World_is_settled),(63,Internal.f_World_one_round),(64,Internal.f_World_settle),(100,Internal.f_cell),(102,Internal.f_wish),(103,Internal.f_keys),(118,f_law),(120,sm),(121,dx),(122,w7),(123,p9),(124,tb),(125,mn),(126,rg),(127,m7)]
noncomputable def mel:List ((Nat×Nat)×Nat):=[((2,9),11),((2,10),12),((2,2),13),((2,11),14),((2,12),15),((1,0),21),((1,1),22),((1,2),23),((1,3),24),((1,4),25),((1,5),26),((1,6),27),((1,7),28),((1,8),29),((0,13),41),((0,14),42),((0,15),43),((0,16),44),((0,17),45),((0,18),46),((0,19),47),((0,20),48),((0,21),49),((0,22),50),((0,23),51),((0,24),52),((0,5),53),((0,0),54),((0,6),55),((0,7),56),((0,8),57),((0,25),58),((0,11),59),((0,12),60),((0,1),61),((0,26),62),((0,27),63),((0,28),64)]
noncomputable def inl:List (Nat×(Nat×Nat)):=[(2,3,10),(1,2,20),(0,1,40)]
noncomputable def fnn:List (Nat×Qf):=[(0,"is_whole"),(1,"need_wish"),(2,"done"),(4,"is_key"),(5,"need_world"),(100,"_law_cell_at"),(102,"_law_wish"),(103,"_law_keys"),(118,"law"),(120,"_law_act"),(121,"_law_said"),(122,"_law_count"),(123,"_law_key"),(124,"_law_odd"),(125,"_law_there"),(126,"_law_due"),(127,"_law_state")]
noncomputable def xbl:List (Nat×List Nat):=[(80,[80,0]),(93,[93,80,0]),(105,[105,80,0]),(117,[117,80,0]),(129,[129,80,0]),(141,[141,80,0]),(153,[153,80,0]),(165,[165,80,0]),(177,[177,80,0]),(189,[189,80,0])]
noncomputable def xsl:List (Qf×Nat):=[("MoveError",80),("BadWorld",93),("NoCaller",105),("NoHouse",117),("NoKey",129),("BadWish",141),("Busy",153),("Idle",165),("NotHere",177),("NoLetter",189)]
noncomputable abbrev zif:Nat:=141
noncomputable def xfl:List Nat:=[15,14,21,26,29,22,28,27,46,60,59,45,49,54,52,51,53,41,42,43,44,57,61,56,50,55,120,1]
noncomputable def xml:List Nat:=[0,1,5,6,7,8,11,12,13,14,15,16,17,18,21,22,23,24]
noncomputable def qfl:List Nat:=[]
noncomputable def prog:Prog:=⟨fun f=>fnl.lookup f,fun c m=>mel.lookup (c,m),fun c=>inl.lookup c,fun c=>(xbl.lookup c).getD []⟩
end Internal.L09
end
section
namespace Internal.L09
open Internal
theorem hHP:HouseP prog:=⟨rfl,rfl,rfl,rfl,rfl,rfl,rfl,rfl,rfl,rfl,rfl⟩
theorem wp:WorldP prog:=⟨rfl,⟨_,rfl⟩,⟨_,rfl⟩,⟨_,rfl⟩,⟨_,rfl⟩,rfl,rfl,rfl,rfl,rfl,rfl,rfl,rfl,rfl,rfl,rfl⟩
theorem dp:DeedP prog:=⟨rfl,rfl,⟨_,rfl⟩,⟨_,rfl⟩,⟨_,rfl⟩,rfl,rfl,rfl,rfl,⟨_,rfl⟩,⟨_,rfl⟩,rfl,rfl,rfl,rfl,rfl,rfl,rfl,rfl,rfl,rfl,rfl,rfl,rfl,rfl,rfl,rfl,rfl,rfl,rfl⟩
theorem sp:SetP prog:=⟨rfl,rfl,rfl,rfl,rfl,rfl,rfl⟩
theorem p3:prog.fns 100=some f_cell:=rfl
theorem ztp:prog.fns 103=some f_keys:=rfl
theorem zuo:prog.fns 102=some f_wish:=rfl
section
variable {s:MS}{C:Calls}{l:Loc}{a b c:E}{n f:Nat}{r:List S}{k:Nat}{vs:List V}{fn:Fn}{t:MS}
noncomputable def CV (cv:V):Prop:=(∃ i,cv=.int i)\/(∃ b,cv=.bool b)\/cv=.none\/(∃ x,cv=.str x)\/∃ l,cv=.lst l
noncomputable def yf (v:V) (N:Nat):Prop:=∃ i:Nat,i < N/\v=.int i
theorem zuf (n:Nat) {v:V} (h:CV v) (s:MS):(∃ i,v=.int i/\run prog (n+1) 0 [v] s=.ok (.bool true) s)\/(run prog (n+1) 0 [v] s=.ok (.bool false) s/\∀ i,v≠.int i):=by
 rcases h with ⟨i,rfl⟩ | ⟨i,rfl⟩ | rfl | ⟨i,rfl⟩ | ⟨i,rfl⟩
 ·exact .inl ⟨i,rfl,z4 (zj wp.whole rfl (zu rfl ⟨rfl,rfl⟩))⟩
 ·exact .inr ⟨z4 (zj wp.whole rfl (zu rfl ⟨rfl,rfl⟩)),nofun⟩
 ·exact .inr ⟨z4 (zj wp.whole rfl (zu rfl ⟨rfl,rfl⟩)),nofun⟩
 ·exact .inr ⟨z4 (zj wp.whole rfl (zu rfl ⟨rfl,rfl⟩)),nofun⟩
 ·exact .inr ⟨z4 (zj wp.whole rfl (zu rfl ⟨rfl,rfl⟩)),nofun⟩
theorem zmn {x y z:Int} (ha:ev prog C a l s=.ok (.int x) s) (hb:ev prog C b l s=.ok (.int y) s) (hc:ev prog C c l s=.ok (.int z) s):ev prog C (.cmp2 a .le b .lt c) l s=.ok (.bool (decide (x<=y)&&decide (y < z))) s:=by
 rw[gw,ha]
 show Res.bind (ev prog C b l s) _=_
 rw[hb]
 show(if decide (x<=y)=true then (ev prog C c l s).bind fun z s=>cmpOp .lt (.int y) z s else .ok (.bool false) s)=_
 rw[hc]
 cases decide (x<=y) <;> rfl
theorem beq {p q:Bool} (h:p=true↔q=true):p=q:=by
 cases p <;> cases q
 ·rfl
 ·exact(h.2 rfl)
 ·exact(h.1 rfl).symm
 ·rfl
theorem oy {i:Int}{N:Nat}{p:Bool} (h:p=true↔yf (.int i) N):(decide ((0:Int)<=i)&&decide (i < N))=p:=beq ⟨fun q=>by
 obtain⟨h1,h2⟩:=Zj.1 q
 have h1:=Za h1
 have h2:=Za h2
 exact h.2 ⟨i.toNat,by omega,by rw[Int.toNat_of_nonneg h1]⟩,fun q=>by
 obtain⟨j,hj,e⟩:=h.1 q
 cases e
 rw[Zb (Int.natCast_nonneg j),Zb (Int.ofNat_lt.2 hj)];rfl⟩
theorem ux {v:V}{N:Nat}{p:Bool} (h:p=true↔yf v N) (hv:∀ i,v≠.int i):p=false:=by
 cases p with
 | false=>rfl
 | true=>obtain⟨j,-,e⟩:=h.1 rfl;exact absurd e (hv _)
theorem zeo (n:Nat) {v:V}{N:Nat}{p:Bool} (hv:CV v) (h1:ev prog (run prog (n+1)) a l s=.ok v s) (hc:ev prog (run prog (n+1)) c l s=.ok (.int N) s) (hp:p=true↔yf v N) :
  ev prog (run prog (n+1)) (.or [.not (.call 0 [a]),.not (.cmp2 (.int 0) .le a .lt c)]) l s=.ok (.bool (!p)) s:=by
 rcases zuf n hv s with ⟨i,rfl,e⟩ | ⟨e,hn⟩
 ·rw[<- oy hp]
  exact yk (jt (t:=true) (qh (zf h1 rfl) e)) (y0 (jt (zmn (x:=0) rfl h1 hc)))
 ·rw[ux hp hn]
  exact zsg (jt (t:=false) (qh (zf h1 rfl) e))
theorem ml (n:Nat) {v:V}{N:Nat}{p:Bool} (hv:CV v) (hp:p=true↔yf v N) (s:MS):run prog (n+1) 125 [v,.int N] s=.ok (.bool p) s:=by
 refine z4 (zj (fn:=mn) rfl rfl (zu (v:=.bool p) (s':=s) ?_ ⟨rfl,rfl⟩))
 rcases hv with ⟨i,rfl⟩ | ⟨i,rfl⟩ | rfl | ⟨i,rfl⟩ | ⟨i,rfl⟩
 ·rw[<- oy hp]
  exact vr (s1:=s) rfl (vr (s1:=s) rfl (yl (zmn rfl rfl rfl)))
 ·rw[ux hp nofun];rfl
 ·rw[ux hp nofun];rfl
 ·rw[ux hp nofun];rfl
 ·rw[ux hp nofun];rfl
noncomputable def Nd (p:Bool) (c:Nat) (s:MS):Res V:=match p with
 | true=>.ok .none s
 | false=>.exc c s
theorem zav {nm:List Qf}{np:Nat}{p:Bool} (hf:prog.fns f=some ⟨np,nm,[.ite c [.raise k] []]⟩) (hl:vs.length=np) (hc:ev prog (run prog n) c (vs.map some++List.replicate (nm.length-np) none) s=.ok (.bool (!p)) s):run prog (n+1) f vs s=Nd p k s:=by
 rw[zak hf hl]
 show Res.bind (exs prog (run prog n) n [.ite c [.raise k] []] (vs.map some++List.replicate (nm.length-np) none) s) _=_
 rw[qg,u7,hc]
 cases p <;> rfl
section
variable {ks:List Key}{W:WS}{x:Bool->HIx}{v:V}{p:Bool}
theorem zaj (n:Nat) (A:WAt s ks W x) (hv:CV v) (hp:p=true↔yf v W.nc):run prog (n+2) 41 [.ref (1,0),v] s=Nd p 105 s :=
 zav (nm:=["self","caller"]) rfl rfl (zeo n hv rfl ((xr (zf (zn rfl (z3 A.o rfl)) rfl) rfl).trans (by rw[uo])) hp)
theorem bz (n:Nat) (hv:CV v) (hp:p=true↔yf v 2):run prog (n+2) 42 [.ref (1,0),v] s=Nd p 117 s :=
 zav (nm:=["self","house"]) rfl rfl (zeo n hv rfl rfl hp)
theorem zdj (n:Nat) (A:WAt s ks W x) (hv:CV v) (hp:p=true↔yf v W.post.length):run prog (n+2) 44 [.ref (1,0),v] s=Nd p 189 s :=
 zav (nm:=["self","place"]) rfl rfl (zeo n hv rfl (xr (zf (zn rfl (z3 A.o rfl)) rfl) ((bc (qd A.po)).trans (by rw[Zd]))) hp)
noncomputable def KV (s:MS) (v:V):Prop:=(∃ x,v=.str x)\/∃ g,g≠Tag.str/\((∀ s,bt s v=some g)\/∃ j,v=.ref (60,j)/\(j < s.cnt 60/\s.heap (60,j)=some (.dict []))/\g=.dict)
noncomputable def KIn (v:V) (ks:List Key):Prop:=∃ x∈ks,v=.str x
theorem KV.step {F:Lbl->Prop} (h:KV s v) (f:Fr F s t) (hF:∀ j,¬ F (60,j)):KV t v :=
 h.imp id fun ⟨g,h1,h2⟩=>⟨g,h1,h2.imp id fun ⟨j,e,q,e2⟩=>⟨j,e,⟨Zi q.1 (f.2 60),(f.1 (60,j) q.1 (hF j)).trans q.2⟩,e2⟩⟩
theorem KV.tag (h:KV s v):(∃ x,v=.str x)\/∃ g,g≠Tag.str/\bt s v=some g:=by
 rcases h with h | ⟨g,h,h1 | ⟨j,rfl,h1,rfl⟩⟩
 ·exact .inl h
 ·exact .inr ⟨g,h,h1 s⟩
 ·refine .inr ⟨_,h,?_⟩
  show(match s.heap (60,j) with | some (.list _)=>some Tag.list | some (.dict _)=>some Tag.dict | _=>none)=_
  rw[h1.2]
theorem zqk {g:Tag} (h:g≠.str):yr g .str=some false:=by cases g <;> first | rfl | exact absurd rfl h
theorem zf4 {key:Key} (s:MS):∀ ks:List Key,vin s (.str key) (ks.map .str)=some (decide (key∈ks))
 | []=>rfl
 | k::ks=>by
  show(match some (decide (k=key)),vin s (.str key) (ks.map .str) with | some p,some q=>some (p||q) | _,_=>none)=_
  rw[zf4 s ks]
  show some (decide (k=key)||decide (key∈ks))=_
  by_cases e:k=key
  ·rw[Zb e,Zb (show key∈k::ks from e▸Zm ..)];rfl
  ·rw[Zc e]
   show some (decide (key∈ks))=_
   by_cases h:key∈ks
   ·rw[Zb h,Zb (Zk _ h)]
   ·rw[Zc h,Zc fun q=>(Zu.1 q).elim (fun z=>e z.symm) h]
theorem zgi (hv:KV s v) (h1:ev prog C a l s=.ok v s) (hc:ev prog C c l s=.ok (.lst (ks.map .str)) s) (hp:p=true↔KIn v ks):ev prog C (.or [.not (.isinst a [.str]),.cmp a .notin c]) l s=.ok (.bool (!p)) s:=by
 rcases hv.tag with ⟨y,rfl⟩ | ⟨g,hg,ht⟩
 ·have e:decide (y∈ks)=p:=beq ⟨fun q=>hp.2 ⟨y,Za q,rfl⟩,fun q=>by obtain⟨z,hz,e⟩:=hp.1 q;cases e;exact Zb hz⟩
  refine yk (jt (t:=true) (za6 h1 rfl)) (y0 (kq h1 hc ?_))
  show okB s ((vin s (.str y) (ks.map .str)).map (!·))=_
  rw[zf4,e];rfl
 ·have e:p=false:=by
   cases p with
   | false=>rfl
   | true =>
    obtain⟨z,-,e⟩:=hp.1 rfl
    subst e;cases ht;exact absurd rfl hg
  rw[e]
  exact zsg (jt (t:=false) (za6 h1 (z0l ht (zqk hg))))
theorem az (n:Nat) (A:WAt s ks W x) (hv:KV s v) (hp:p=true↔KIn v ks):run prog (n+1) 43 [.ref (1,0),v] s=Nd p 129 s :=
 zav (nm:=["self","key"]) rfl rfl (zgi hv rfl (zn rfl (z3 A.o rfl)) hp)
end
noncomputable def Bad (v:V):Prop:=∀ n s,run prog (n+2) 1 [v] s=.exc zif s
theorem vo (hf:prog.fns f=some fn) (hl:vs.length=fn.np) (h:exs prog (run prog n) n fn.body (vs.map some++List.replicate (fn.names.length-fn.np) none) s=.exc k t):run prog (n+1) f vs s=.exc k t:=by
 rw[zak hf hl,h]
 rfl
theorem zb0 {b1:List S} (hc:ev prog C c l s=.ok (.bool false) s) (h:exs prog C n r l s=.exc k t):exs prog C n (.ite c b1 []::r) l s=.exc k t:=by
 rw[qg,u7,hc];exact h
theorem fy {b2:List S} (hc:ev prog C c l s=.ok (.bool true) s):exs prog C n (.ite c [.raise k] b2::r) l s=.exc k s:=by
 rw[qg,u7,hc];rfl
theorem zva {i:Int}{p q:Bool} (ha:ev prog C a l s=.ok (.int i) s) (h1:decide (-big<=i)=p) (h2:decide (i<=big)=q) :
  ev prog C (.not (.cmp2 (.neg (.gint "GREATEST" 1000000000000000000000000000000)) .le a .le (.gint "GREATEST" 1000000000000000000000000000000))) l s=.ok (.bool (!(p&&q))) s:=by
 refine jt ?_
 rw[gw]
 show Res.bind (ev prog C a l s) _=_
 rw[ha]
 show(if decide (-big<=i)=true then Res.ok (V.bool (decide (i<=big))) s else Res.ok (V.bool false) s)=_
 rw[h1,h2]
 cases p <;> rfl
noncomputable abbrev nw0:E:=.or [.not (.isinst (.loc 0) [.tuple]),.cmp (.prim .len [.loc 0]) .lt (.int 1),.not (.isinst (.sub (.loc 0) (.int 0)) [.str])]
noncomputable abbrev nw1:E:=.and [.cmp (.sub (.loc 0) (.int 0)) .eq (.str [103,101,116]),.cmp (.prim .len [.loc 0]) .eq (.int 1)]
noncomputable abbrev nw2:E:=.or [.cmp (.sub (.loc 0) (.int 0)) .notin (.tup [.str [115,101,116],.str [97,100,100]]),.cmp (.prim .len [.loc 0]) .ne (.int 2),.not (.call 0 [.sub (.loc 0) (.int 1)])]
theorem zaz {v:V} (h:∀ C s,ev prog C nw0 [some v] s=.ok (.bool true) s):Bad v:=fun n s=>vo (fn:=Internal.f_need_wish 141) rfl rfl (fy (h _ s))
theorem lg {l:List V} (h0:∀ C s,ev prog C nw0 [some (.tup l)] s=.ok (.bool false) s) (h1:∀ C s,ev prog C nw1 [some (.tup l)] s=.ok (.bool false) s) (h2:∀ n s,ev prog (run prog (n+1)) nw2 [some (.tup l)] s=.ok (.bool true) s):Bad (.tup l) :=
 fun n s=>vo (fn:=Internal.f_need_wish 141) rfl rfl (zb0 (h0 _ s) (zb0 (h1 _ s) (fy (h2 n s))))
theorem lp (x:List Nat) (hx:x=[115,101,116]\/x=[97,100,100]) (i:Int) (p q:Bool) (h1:decide (-big<=i)=p) (h2:decide (i<=big)=q) (h:(!(p&&q))=true):Bad (.tup [.str x,.int i]):=by
 have e:=fun C s=>zva (C:=C) (a:=.sub (.loc 0) (.int 1)) (l:=[some (.tup [.str x,.int i])]) (s:=s) (i:=i) rfl h1 h2
 rw[h] at e
 rcases hx with rfl | rfl
 ·exact fun n s=>vo (fn:=Internal.f_need_wish 141) rfl rfl (zb0 rfl (zb0 rfl (zb0 rfl (fy (e _ s)))))
 ·exact fun n s=>vo (fn:=Internal.f_need_wish 141) rfl rfl (zb0 rfl (zb0 rfl (zb0 rfl (fy (e _ s)))))
noncomputable def zez (far:Int):List V:=[.none,.tup [],.tup [.str [103,101,116],.int 1],.tup [.str [115,101,116]],.tup [.str [97,100,100]],.tup [.str [115,101,116],.bool true],.tup [.str [97,100,100],.bool false],.tup [.str [115,101,116],.none],.tup [.str [97,100,100],.str [49]],
 .tup [.str [115,101,116],.int far],.tup [.str [97,100,100],.int far],.tup [.str [115,101,116],.int (-far)],.tup [.str [97,100,100],.int (-far)],.tup [.str [115,101,116],.int 1,.int 2],.tup [.str [103,101,116],.tup []],.lst [.str [103,101,116]],
 .lst [.str [115,101,116],.int 1],.str [103,101,116],.int 5,.tup [.str [71,101,116]],.tup [.str [116,97,107,101],.int 1],.tup [.int 1,.int 2],.tup [.tup [.str [103,101,116]]],.tup [.str [115,101,116],.tup [.int 1]]]
theorem zp {α:Type}{p:α->Prop}{x:α}{l:List α} (h1:p x) (h2:∀ y∈l,p y):∀ y∈x::l,p y:=fun y hy=>(Zu.1 hy).elim (fun e=>e▸h1) (h2 y)
theorem zqj (far:Int) (h:big < far):∀ v∈zez far,Bad v:=by
 have f0:(0:Int) < big:=by decide
 have f1:decide (-big<=far)=true:=Zb (by omega)
 have f2:decide (far<=big)=false:=Zc (by omega)
 have f3:decide (-big<=-far)=false:=Zc (by omega)
 refine zp (zaz fun ξ ξ=>rfl) (zp (zaz fun ξ ξ=>rfl) (zp (lg (fun ξ ξ=>rfl) (fun ξ ξ=>rfl) fun ξ ξ=>rfl) (zp (lg (fun ξ ξ=>rfl) (fun ξ ξ=>rfl) fun ξ ξ=>rfl) (zp (lg (fun ξ ξ=>rfl) (fun ξ ξ=>rfl) fun ξ ξ=>rfl)
  (zp (lg (fun ξ ξ=>rfl) (fun ξ ξ=>rfl) fun ξ ξ=>rfl) (zp (lg (fun ξ ξ=>rfl) (fun ξ ξ=>rfl) fun ξ ξ=>rfl) (zp (lg (fun ξ ξ=>rfl) (fun ξ ξ=>rfl) fun ξ ξ=>rfl) (zp (lg (fun ξ ξ=>rfl) (fun ξ ξ=>rfl) fun ξ ξ=>rfl)
  (zp (lp _ (.inl rfl) _ _ _ f1 f2 rfl) (zp (lp _ (.inr rfl) _ _ _ f1 f2 rfl) (zp (lp _ (.inl rfl) _ _ _ f3 rfl (by rfl)) (zp (lp _ (.inr rfl) _ _ _ f3 rfl (by rfl))
  (zp (lg (fun ξ ξ=>rfl) (fun ξ ξ=>rfl) fun ξ ξ=>rfl) (zp (lg (fun ξ ξ=>rfl) (fun ξ ξ=>rfl) fun ξ ξ=>rfl) (zp (zaz fun ξ ξ=>rfl) (zp (zaz fun ξ ξ=>rfl) (zp (zaz fun ξ ξ=>rfl) (zp (zaz fun ξ ξ=>rfl)
  (zp (lg (fun ξ ξ=>rfl) (fun ξ ξ=>rfl) fun ξ ξ=>rfl) (zp (lg (fun ξ ξ=>rfl) (fun ξ ξ=>rfl) fun ξ ξ=>rfl) (zp (zaz fun ξ ξ=>rfl) (zp (zaz fun ξ ξ=>rfl) (zp (lg (fun ξ ξ=>rfl) (fun ξ ξ=>rfl) fun ξ ξ=>rfl) nofun)))))))))))))))))))))))
noncomputable def zgl (c:Int):Int:=1000000000000000000000000000000+1+(c.fdiv 24).fmod 10000000000000000000000000000000000000000
theorem zqy (c:Int):big < zgl c:=by
 have:=(qk (c.fdiv 24) 10000000000000000000000000000000000000000 (by decide)).1
 show(1000000000000000000000000000000:Int) < 1000000000000000000000000000000+1+_
 omega
theorem zp3 (n:Nat) (c:Int) (s:MS):∃ v,Bad v/\run prog (n+1) 124 [.int c] s=.ok v s:=by
 obtain⟨h1,h2⟩:=qk c 24 (by decide)
 have h3:(c.fmod 24).toNat < (zez (zgl c)).length:=by show _ < 24;omega
 refine⟨_,zqj _ (zqy c) _ (Qc h3),z4 (zj (fn:=tb) rfl rfl ?_)⟩
 refine zk (v:=.int (zgl c)) (s':=s) rfl rfl ?_
 generalize zgl c=far at h3
 refine zk (v:=.lst ((zez far).take 9)) (s':=s) rfl rfl (zk (v:=.lst ((zez far).take 16)) (s':=s) rfl rfl (zk (v:=.lst (zez far)) (s':=s) rfl rfl ?_))
 exact zu (q6 (x:=.lst (zez far)) (y:=.int (c.fmod 24)) (s1:=s) (s2:=s) rfl rfl (zuv (zez far) _ s h1 (by show _ < ((24:Nat):Int);exact h2))) ⟨rfl,rfl⟩
noncomputable def cu (N far:Int):List V:=[.int (-1-far),.int N,.int (N+far),.bool true,.bool false,.none,.str [48],.lst [.int 0]]
theorem zno (N far:Int):∀ v∈cu N far,CV v :=
 zp (.inl ⟨_,rfl⟩) (zp (.inl ⟨_,rfl⟩) (zp (.inl ⟨_,rfl⟩) (zp (.inr (.inl ⟨_,rfl⟩)) (zp (.inr (.inl ⟨_,rfl⟩)) (zp (.inr (.inr (.inl rfl))) (zp (.inr (.inr (.inr (.inl ⟨_,rfl⟩)))) (zp (.inr (.inr (.inr (.inr ⟨_,rfl⟩)))) nofun)))))))
theorem zq9 (N:Int):¬ (if (1:Int) < N then N else 1)=0:=by split <;> omega
theorem pr (n:Nat) (c N:Int) (s:MS):∃ v,CV v/\run prog (n+1) 122 [.int c,.int N] s=.ok v s:=by
 by_cases h:c.fmod 3 < 2
 ·exact⟨_,.inl ⟨_,rfl⟩,z4 (zj (fn:=w7) rfl rfl (zk (v:=.int ((c.fdiv 24).fmod 1000000000000000000000000000000)) (s':=s) rfl rfl (zo (t:=true) (Qd (fun q=>Res.ok (V.bool q) s) (Zb h)) (zu (v:=.int ((c.fdiv 3).fmod (if (1:Int) < N then N else 1))) (s':=s) (Zh (zq9 N)) ⟨rfl,rfl⟩))))⟩
 ·obtain⟨q,hq,eq⟩:=w4 (c.fdiv 3) (N:=8) (by decide)
  refine⟨_,zno N ((c.fdiv 24).fmod 1000000000000000000000000000000) _ (Qc (show q < (cu N ((c.fdiv 24).fmod 1000000000000000000000000000000)).length from hq)),z4 (zj (fn:=w7) rfl rfl (zk (v:=.int ((c.fdiv 24).fmod 1000000000000000000000000000000)) (s':=s) rfl rfl (zo (t:=false) (Qd (fun q=>Res.ok (V.bool q) s) (Zc h)) (zh ?_))))⟩
  exact zu (q6 (x:=.lst (cu N ((c.fdiv 24).fmod 1000000000000000000000000000000))) (y:=.int q) (m6 (vs:=cu N ((c.fdiv 24).fmod 1000000000000000000000000000000)) rfl rfl) (jo (x:=.int (c.fdiv 3)) (y:=.int 8) rfl rfl (Qd (fun q=>Res.ok (V.int q) s) eq)) (yh (a:=.lst (cu N ((c.fdiv 24).fmod 1000000000000000000000000000000))) (k:=true) rfl q hq)) ⟨rfl,rfl⟩
noncomputable def zre (o:Key) (j:Nat):List V:=[.str [],.none,.int 0,.lst [.str o],.tup [.str o],.str (o++[120]),.str ([120]++o),.str (o.map (·-32)),.bool true,.ref (60,j)]
theorem zsn (o:Key):∀ v∈zre o (s.cnt 60),KV (s.new 60 (.dict [])) v :=
 zp (.inl ⟨_,rfl⟩) (zp (.inr ⟨.none,nofun,.inl fun ξ=>rfl⟩) (zp (.inr ⟨.int,nofun,.inl fun ξ=>rfl⟩) (zp (.inr ⟨.list,nofun,.inl fun ξ=>rfl⟩) (zp (.inr ⟨.tuple,nofun,.inl fun ξ=>rfl⟩) (zp (.inl ⟨_,rfl⟩) (zp (.inl ⟨_,rfl⟩) (zp (.inl ⟨_,rfl⟩) (zp (.inr ⟨.bool,nofun,.inl fun ξ=>rfl⟩) (zp (.inr ⟨.dict,nofun,.inr ⟨_,rfl,⟨by rw[uj];exact Zy _,z5 _ _ _⟩,rfl⟩⟩) nofun)))))))))
theorem zw1 {o:Key} (h:KeyFine o):uv .upper (.str o) [] s=.ok (.str (o.map (·-32))) s:=by
 show(if (o.all (fun c=>decide (97<=c)&&decide (c<=122))&&decide (o.length<=1000))=true then Res.ok (V.str (o.map (·-32))) s else .stuck)=_
 exact Zg (Zj.2 ⟨Zv.2 fun c hc=>Zj.2 ⟨Zb (h.abc c hc).1,Zb (h.abc c hc).2⟩,Zb (Zp h.eig (by decide))⟩)
theorem znv {ks:List Key}{q:Nat} (hq:q < ks.length) (s:MS):getItem (.lst (ks.map .str)) (.int q) s=.ok (.str ks[q]) s :=
 (yh (a:=.lst (ks.map .str)) (k:=true) (s:=s) rfl q (by rw[Zd];exact hq)).trans (by rw[List.getElem_map])
theorem ae {ks:List Key} (K:KeysFine ks) (i:Int):∃ q:Nat,∃ hq:q < ks.length,∀ {C l e s}{g:E},ev prog C e l s=.ok (.int i) s->ev prog C g l s=.ok (.lst (ks.map .str)) s->ev prog C (.sub g (.bin .mod e (.prim .len [g]))) l s=.ok (.str (ks[q]'hq)) s:=by
 obtain⟨q,hq,eq⟩:=w4 i K.pos
 exact⟨q,hq,fun he hg=>q6 hg (jo (y:=.int ks.length) he (xr (zf hg rfl) (by rw[<- Zd (f:=V.str)];rfl)) (z1l i K.pos eq _)) (znv hq _)⟩
theorem zos {ks:List Key} (K:KeysFine ks) (n:Nat) (c:Int) (s:MS):OkR (run prog (n+1) 123 [.int c,.lst (ks.map .str)] s) fun v t=>KV t v/\Fr Nil s t:=by
 by_cases h:c.fmod 3 < 2
 ·obtain⟨q,hq,e⟩:=ae K (c.fdiv 3)
  exact zj (fn:=p9) rfl rfl (zo (t:=true) (Qd (fun q=>Res.ok (V.bool q) s) (Zb h)) (zu (e rfl rfl) ⟨.inl ⟨_,rfl⟩,.refl _ _⟩))
 ·obtain⟨q,hq,e⟩:=ae K (c.fdiv 30)
  have hf:=K.all _ (Qc hq)
  refine zj (fn:=p9) rfl rfl (zo (t:=false) (Qd (fun q=>Res.ok (V.bool q) s) (Zc h)) (zh (zk (e rfl rfl) rfl ?_)))
  generalize ks[q]=o at hf
  obtain⟨j,hj,eq⟩:=w4 (c.fdiv 3) (N:=10) (by decide)
  have hl:o.length<=100:=Zp hf.eig (by decide)
  have e5:yd .add (.str o) (.str [120]) s=.ok (.str (o++[120])) s:=zcq _ _ _ (Zp (Nat.add_le_add_right hl 1) (by decide))
  have e6:yd .add (.str [120]) (.str o) s=.ok (.str ([120]++o)) s:=zcq _ _ _ (Zp (Nat.add_le_add_left hl 1) (by decide))
  refine zu (q6 (x:=.lst (zre o (s.cnt 60))) (y:=.int j) (s1:=s.new 60 (.dict [])) (s2:=s.new 60 (.dict [])) (m6 (vs:=zre o (s.cnt 60)) (zf (s1:=s) rfl (zf (s1:=s) rfl (zf (s1:=s) rfl (zf (s1:=s) rfl (zf (s1:=s) rfl (zf (s1:=s) (jo rfl rfl e5) (zf (s1:=s) (jo rfl rfl e6) (zf (s1:=s) (ud (x:=.str o) (vs:=[]) rfl rfl rfl (zw1 hf)) (zf (s1:=s) rfl (zf rfl rfl)))))))))) rfl) (jo (x:=.int (c.fdiv 3)) (y:=.int 10) rfl rfl (Qd (fun q=>Res.ok (V.int q) _) eq)) (yh (a:=.lst (zre o (s.cnt 60))) (k:=true) rfl j hj)) ⟨zsn o _ (Qc hj),(Fr.refl _ _).new _ _⟩
end
end Internal.L09
end
section
namespace Internal.L09
open Internal
noncomputable def first:Nat->List Bool->Int
 | _,[]=>-1
 | i,true::_=>i
 | i,false::r=>first (i+1) r
noncomputable def ym (s:MS) (d:Int) (r:Res V):Prop:=Out r (fun ξ ξ=>d=-1) fun c t=>t=s/\∃ j:Nat,j < 8/\d=j/\c=105+12*j
section
variable {s t:MS}{C:Calls}{l:Loc}{e a:E}{n f k i:Nat}{r:List S}{v x:V}{vs:List V}{d:Int}
theorem jq {q:Res V}{c:Nat} (j:Nat) (h:q=.exc c s) (hj:j < 8) (hd:d=j) (hc:c=105+12*j):ym s d q:=by
 rw[h];exact⟨rfl,j,hj,hd,hc⟩
theorem zf3 {q:Res V}{Q:V->MS->Prop} (h:OkR q Q) (hd:d=-1):ym s d q:=zd3 (qz h fun ξ ξ ξ=>hd)
theorem zac {q:Res V} (h:q=.ok v t) (hd:d=-1):ym s d q:=by rw[h];exact hd
theorem bv {es:List E} (h1:ev prog C a l s=.ok x s) (h0:jr prog x k s=some f) (h2:evL prog C es l s=.ok vs s):evQ prog C (.meth a k es) l s=C f (x::vs) s:=by
 rw[pe,h1]
 show(match jr prog x k s with | some f=>_ | none=>_)=_
 rw[h0]
 show Res.bnd (evL prog C es l s) _=_
 rw[h2];rfl
theorem zf7 {es:List E} (h2:evL prog C es l s=.ok vs s):evQ prog C (.call f es) l s=C f vs s:=by
 rw[du,h2];rfl
theorem v4 (h:evQ prog C e l s=.exc k t):exs prog C n (.exprX e::r) l s=.exc k t:=by rw[qg,um,h];rfl
theorem j0 (h:evQ prog C e l s=.ok v s) (h2:exs prog C n r l s=.exc k t):exs prog C n (.exprX e::r) l s=.exc k t:=by rw[qg,um,h];exact h2
theorem zhp (h:evQ prog C e l s=.exc k t):exs prog C n (.assignX i e::r) l s=.exc k t:=by rw[qg,yj,h];rfl
theorem zhq (h:evQ prog C e l s=.ok v s) (hi:decide (i < l.length)=true) (h2:exs prog C n r (l.set i (some v)) s=.exc k t):exs prog C n (.assignX i e::r) l s=.exc k t:=by
 rw[qg,yj,h]
 show Res.bind (if i < l.length then _ else _) _=_
 rw[Zg (Za hi)];exact h2
section
variable {ks:List Key}{W:WS}{y:Bool->HIx}{nc:Nat}
theorem zgy {f m g c:Nat}{nm:List Qf}{r:List S}{v:V} (hf:prog.fns f=some ⟨2,nm,.exprX (.meth (.loc 0) m [.loc 1])::r⟩) (hm:prog.meths 0 m=some g) (A:WAt s ks W y) (e:run prog n g [.ref (1,0),v] s=.exc c s):run prog (n+1) f [.ref (1,0),v] s=.exc c s :=
 vo hf rfl (v4 ((bv (x:=.ref (1,0)) (vs:=[v]) rfl ((zg A.o).trans hm) rfl).trans e))
theorem ou {f m g c j:Nat}{nm:List Qf}{r:List S}{v:V}{p:Bool}{Q:V->MS->Prop} (D:Bool->Int) (hf:prog.fns f=some ⟨2,nm,.exprX (.meth (.loc 0) m [.loc 1])::r⟩) (hm:prog.meths 0 m=some g) (A:WAt s ks W y) (e:run prog n g [.ref (1,0),v] s=Nd p c s) (hT:D true=-1) (hF:D false=j) (hj:j < 8) (hc:c=105+12*j)
  (ok:p=true->OkR (run prog (n+1) f [.ref (1,0),v] s) Q):ym s (D p) (run prog (n+1) f [.ref (1,0),v] s):=by
 cases p with
 | true=>exact zf3 (ok rfl) hT
 | false=>exact jq j (zgy hf hm A e) hj hF hc
theorem b9 {v:V} (h:yf v 2):∃ b,v=.int (hn b):=by
 obtain⟨j,hj,rfl⟩:=h
 exact match j,hj with
 | 0,_=>⟨false,rfl⟩
 | 1,_=>⟨true,rfl⟩
theorem zv7 {o:Option (Int×Key×Internal.W)} (h:false=o.isSome):o=none:=by
 cases o with
 | none=>rfl
 | some p=>cases h
theorem zty {o:Option (Int×Key×Internal.W)} (h:true=o.isSome):∃ p,o=some p:=by
 cases o with
 | none=>cases h
 | some p=>exact⟨p,rfl⟩
structure F9 (s:MS) (ks:List Key) (nc:Nat) (W:WS) (y:Bool->HIx) (a1 a2 ak aw a5:V) (tc th tk odd ask mv tp:Bool):Prop where
 A:WAt s ks W y
 R:WI ks nc 13 W
 K:KeysFine ks
 h6:nc<=6
 c1:CV a1
 c2:CV a2
 ck:KV s ak
 c5:CV a5
 tc:tc=true↔yf a1 W.nc
 th:th=true↔yf a2 2
 tk:tk=true↔KIn ak ks
 w0:odd=false->∃ w,aw=wv w/\WOk w
 w1:odd=true->Bad aw
 ask:∀ i:Nat,i < W.nc->a1=.int i->ask=(W.c i).op.isSome
 mv:∀ key,key∈ks->ak=.str key->(mv=true↔jc W key=.none)
 tp:tp=true↔yf a5 W.post.length
variable {a1 a2 ak aw a5:V}{tc th tk odd ask mv tp:Bool}
noncomputable abbrev fff:List Bool:=[false,false,false]
theorem zoo {C:Calls}{l:Loc}{i:Nat}{g:Bool} (n:Nat) (A:WAt s ks W y) (hi:i < W.nc) (h0:ev prog (run prog (n+1)) (.loc 0) l s=.ok (.ref (1,0)) s) (h1:ev prog (run prog (n+1)) (.loc 1) l s=.ok (.int i) s):ev prog (run prog (n+1)) (.isC g (.meth (.sub (.attr (.loc 0) 10) (.loc 1)) 11 []) .none) l s=.ok (.bool ((!(W.c i).op.isSome) != g)) s:=by
 refine uq (zt (ef A hi h0 h1) ((zg (A.co i hi)).trans wp.c11) rfl (x8 wp n A hi)) ?_
 cases (W.c i).op with
 | none=>exact Zb rfl
 | some p=>exact Zc nofun
noncomputable abbrev dC (p:Bool):Int:=first 0 ((!p)::false::false::false::false::fff)
noncomputable abbrev dH (p:Bool):Int:=first 0 (false::(!p)::false::false::false::fff)
noncomputable abbrev dK (p:Bool):Int:=first 0 (false::false::(!p)::false::false::fff)
noncomputable abbrev dP (p:Bool):Int:=first 0 (false::false::false::false::false::[false,false,!p])
section
variable (F:F9 s ks nc W y a1 a2 ak aw a5 tc th tk odd ask mv tp)
include F
theorem F9.room:W.post.length < 16777000:=F.R.room (by decide)
theorem F9.hz (b:Bool):HZ (W.h b):=Internal.hz F.R F.K (by decide) b
theorem zk8 (n:Nat):ym s (first 0 ((!tc)::(!th)::(!tk)::odd::ask::fff)) (run prog (n+3) 45 [.ref (1,0),a1,a2,ak,aw] s):=by
 have e1:evQ prog (run prog (n+2)) (.meth (.loc 0) 13 [.loc 1]) [some (.ref (1,0)),some a1,some a2,some ak,some aw,none] s=_:=(bv (x:=.ref (1,0)) (vs:=[a1]) rfl ((zg F.A.o).trans wp.m13) rfl).trans (zaj n F.A F.c1 F.tc)
 have e2:evQ prog (run prog (n+2)) (.meth (.loc 0) 14 [.loc 2]) [some (.ref (1,0)),some a1,some a2,some ak,some aw,none] s=_:=(bv (x:=.ref (1,0)) (vs:=[a2]) rfl ((zg F.A.o).trans wp.m14) rfl).trans (bz n F.c2 F.th)
 have e3:evQ prog (run prog (n+2)) (.meth (.loc 0) 15 [.loc 3]) [some (.ref (1,0)),some a1,some a2,some ak,some aw,none] s=_:=(bv (x:=.ref (1,0)) (vs:=[ak]) rfl ((zg F.A.o).trans wp.m15) rfl).trans (az (n+1) F.A F.ck F.tk)
 have e4:evQ prog (run prog (n+2)) (.call 1 [.loc 4]) [some (.ref (1,0)),some a1,some a2,some ak,some aw,none] s=run prog (n+2) 1 [aw] s:=zf7 rfl
 cases tc with
 | false=>exact jq 0 (vo (fn:=Internal.f_World_call 153) rfl rfl (v4 e1)) (by decide) rfl rfl
 | true=>cases th with
  | false=>exact jq 1 (vo (fn:=Internal.f_World_call 153) rfl rfl (j0 e1 (v4 e2))) (by decide) rfl rfl
  | true=>cases tk with
   | false=>exact jq 2 (vo (fn:=Internal.f_World_call 153) rfl rfl (j0 e1 (j0 e2 (v4 e3)))) (by decide) rfl rfl
   | true=>cases odd with
    | true=>exact jq 3 (vo (fn:=Internal.f_World_call 153) rfl rfl (j0 e1 (j0 e2 (j0 e3 (v4 (e4.trans (F.w1 rfl n s))))))) (by decide) rfl rfl
    | false =>
     obtain⟨w,rfl,hw⟩:=F.w0 rfl
     obtain⟨yc,hf1⟩:=dp.nwi
     have hne:=zbg wp hf1 n w hw s
     obtain⟨i,hi,rfl⟩:=F.tc.1 rfl
     have ha:=F.ask i hi rfl
     cases ask with
     | true =>
      have eo:=zoo (g:=true) (C:=run prog (n+2)) (l:=[some (.ref (1,0)),some (.int i),some a2,some ak,some (wv w),none]) (n+1) F.A hi rfl rfl
      rw[<- ha] at eo
      exact jq 4 (vo (fn:=Internal.f_World_call 153) rfl rfl (j0 e1 (j0 e2 (j0 e3 (j0 (e4.trans hne) (fy eo)))))) (by decide) rfl rfl
     | false =>
      obtain⟨b,rfl⟩:=b9 (F.th.1 rfl)
      obtain⟨key,hk,rfl⟩:=F.tk.1 rfl
      obtain⟨xc,hf⟩:=dp.cal
      obtain⟨u,e,-⟩:=tq wp dp.beg hf1 hf n F.A hi b hk hne (zv7 ha) F.room
      exact zac e rfl
theorem zg6 (n:Nat):ym s (first 0 ((!tc)::(!th)::false::false::false::[!ask,false,false])) (run prog (n+3) 46 [.ref (1,0),a1,a2] s):=by
 have e1:evQ prog (run prog (n+2)) (.meth (.loc 0) 13 [.loc 1]) [some (.ref (1,0)),some a1,some a2] s=_:=(bv (x:=.ref (1,0)) (vs:=[a1]) rfl ((zg F.A.o).trans wp.m13) rfl).trans (zaj n F.A F.c1 F.tc)
 have e2:evQ prog (run prog (n+2)) (.meth (.loc 0) 14 [.loc 2]) [some (.ref (1,0)),some a1,some a2] s=_:=(bv (x:=.ref (1,0)) (vs:=[a2]) rfl ((zg F.A.o).trans wp.m14) rfl).trans (bz n F.c2 F.th)
 cases tc with
 | false=>exact jq 0 (vo (fn:=Internal.f_World_again 165) rfl rfl (v4 e1)) (by decide) rfl rfl
 | true=>cases th with
  | false=>exact jq 1 (vo (fn:=Internal.f_World_again 165) rfl rfl (j0 e1 (v4 e2))) (by decide) rfl rfl
  | true =>
   obtain⟨i,hi,rfl⟩:=F.tc.1 rfl
   have ha:=F.ask i hi rfl
   cases ask with
   | false =>
    have eo:=zoo (g:=false) (C:=run prog (n+2)) (l:=[some (.ref (1,0)),some (.int i),some a2]) (n+1) F.A hi rfl rfl
    rw[<- ha] at eo
    exact jq 5 (vo (fn:=Internal.f_World_again 165) rfl rfl (j0 e1 (j0 e2 (fy eo)))) (by decide) rfl rfl
   | true =>
    obtain⟨b,rfl⟩:=b9 (F.th.1 rfl)
    obtain⟨p,hp⟩:=zty ha
    obtain⟨xc,hf⟩:=dp.aga
    obtain⟨u,e,-⟩:=zfe wp hf n F.A hi b hp F.room
    exact zac e rfl
theorem zqe (n:Nat):ym s (first 0 (false::(!th)::(!tk)::false::false::fff)) (run prog (n+3) 54 [.ref (1,0),a2,ak] s):=by
 have e1:evQ prog (run prog (n+2)) (.meth (.loc 0) 14 [.loc 1]) [some (.ref (1,0)),some a2,some ak] s=_:=(bv (x:=.ref (1,0)) (vs:=[a2]) rfl ((zg F.A.o).trans wp.m14) rfl).trans (bz n F.c2 F.th)
 have e2:evQ prog (run prog (n+2)) (.meth (.loc 0) 15 [.loc 2]) [some (.ref (1,0)),some a2,some ak] s=_:=(bv (x:=.ref (1,0)) (vs:=[ak]) rfl ((zg F.A.o).trans wp.m15) rfl).trans (az (n+1) F.A F.ck F.tk)
 cases th with
 | false=>exact jq 1 (vo (fn:=Internal.f_World_has) rfl rfl (v4 e1)) (by decide) rfl rfl
 | true=>cases tk with
  | false=>exact jq 2 (vo (fn:=Internal.f_World_has) rfl rfl (j0 e1 (v4 e2))) (by decide) rfl rfl
  | true =>
   obtain⟨b,rfl⟩:=b9 (F.th.1 rfl)
   obtain⟨key,hk,rfl⟩:=F.tk.1 rfl
   exact zac (n5 wp hHP rfl n F.A b hk) rfl
theorem zqq (n:Nat) {key:Key} (hk:key∈ks) {b:Bool}{r:Row} (hv:jc W key=.int (hn b)) (hr:qb key (W.h b).known=some r) (hs:r.st=.here):OkR (run prog (n+5) 53 [.ref (1,0),.str key] s) fun v t=>v=.none/\WAt t ks {W with h:=upd W.h b ((W.h b).move key r)} y/\Fr NWp s t:=by
 obtain⟨xc,e1⟩:=dp.mov
 obtain⟨yc,e2⟩:=dp.hmo
 exact si wp hHP e2 dp.hom dp.w24 dp.h5 e1 (n+1) F.A hk b hv (F.hz b) hr hs
theorem zlf (n:Nat):ym s (first 0 (false::false::(!tk)::false::false::[false,mv,false])) (run prog (n+5) 53 [.ref (1,0),ak] s):=by
 have e1:evQ prog (run prog (n+4)) (.meth (.loc 0) 24 [.loc 1]) [some (.ref (1,0)),some ak,none] s=run prog (n+4) 52 [.ref (1,0),ak] s:=bv (x:=.ref (1,0)) (vs:=[ak]) rfl ((zg F.A.o).trans dp.w24) rfl
 cases tk with
 | false=>exact jq 2 (vo (fn:=Internal.f_World_move 177) rfl rfl (zhp (e1.trans (zgy (nm:=["self","key","house"]) rfl rfl F.A (az (n+2) F.A F.ck F.tk))))) (by decide) rfl rfl
 | true =>
  obtain⟨key,hk,rfl⟩:=F.tk.1 rfl
  have hv:=F.mv key hk rfl
  cases mv with
  | true =>
   have e2:=gn wp hHP rfl (n+1) F.A hk
   rw[hv.1 rfl] at e2
   exact jq 6 (vo (fn:=Internal.f_World_move 177) rfl rfl (zhq (e1.trans e2) rfl (fy (uq (g:=false) (t:=true) rfl (Zb rfl))))) (by decide) rfl rfl
  | false =>
   rcases zrb F.R hk with ⟨h,-⟩ | ⟨b,r,h1,h2,h3⟩
   ·exact nomatch hv.2 h
   ·exact zf3 (zqq F n hk h1 h2 h3) rfl
theorem zkt (n:Nat):ym s (dK tk) (run prog (n+3) 52 [.ref (1,0),ak] s) :=
 ou (j:=2) dK (nm:=["self","key","house"]) rfl rfl F.A (az (n+1) F.A F.ck F.tk) rfl rfl (by decide) rfl (Q:=fun ξ ξ=>True) fun h=>by
  obtain⟨key,hk,rfl⟩:=F.tk.1 h
  exact u4 (gn wp hHP rfl n F.A hk) trivial
theorem zig (n:Nat):ym s (dH th) (run prog (n+5) 55 [.ref (1,0),a2] s) :=
 ou (j:=1) dH (nm:=["self","house","found"]) rfl rfl F.A (bz (n+2) F.c2 F.th) rfl rfl (by decide) rfl (Q:=fun ξ ξ=>True) fun h=>by
  obtain⟨b,rfl⟩:=b9 (F.th.1 h)
  exact qz (zax wp hHP dp n F.A F.R F.K (by decide) b) fun ξ ξ ξ=>trivial
theorem zit (n:Nat):ym s (dH th) (run prog (n+5) 56 [.ref (1,0),a2] s) :=
 ou (j:=1) dH (nm:=["self","house"]) rfl rfl F.A (bz (n+2) F.c2 F.th) rfl rfl (by decide) rfl (Q:=fun ξ ξ=>True) fun h=>by
  obtain⟨b,rfl⟩:=b9 (F.th.1 h)
  exact qz (zc7 wp hHP dp.hsl dp.h7 dp.sle (n+2) F.A b (F.hz b)) fun ξ ξ ξ=>trivial
theorem ziw (n:Nat):ym s (dH th) (run prog (n+5) 57 [.ref (1,0),a2] s) :=
 ou (j:=1) dH (nm:=["self","house"]) rfl rfl F.A (bz (n+2) F.c2 F.th) rfl rfl (by decide) rfl (Q:=fun ξ ξ=>True) fun h=>by
  obtain⟨b,rfl⟩:=b9 (F.th.1 h)
  obtain⟨t,e,-⟩:=zcu wp hHP dp n F.A F.R F.K (by decide) b
  exact u4 e trivial
theorem F9.nd (b:Bool):((W.h b).known.map (·.1)).Nodup:=by rw[(F.R.hi b).hk];exact F.K.nd
theorem zmc (n:Nat):ym s (dH th) (run prog (n+3) 61 [.ref (1,0),a2] s) :=
 ou (j:=1) dH (nm:=["self","house"]) rfl rfl F.A (bz n F.c2 F.th) rfl rfl (by decide) rfl (Q:=fun ξ ξ=>True) fun h=>by
  obtain⟨b,rfl⟩:=b9 (F.th.1 h)
  exact u4 (pq wp hHP rfl rfl n F.A b (F.hz b) (F.nd b)) trivial
theorem zde (n:Nat):ym s (dC tc) (run prog (n+3) 59 [.ref (1,0),a1] s) :=
 ou (j:=0) dC (nm:=["self","caller"]) rfl rfl F.A (zaj n F.A F.c1 F.tc) rfl rfl (by decide) rfl (Q:=fun ξ ξ=>True) fun h=>by
  obtain⟨i,hi,rfl⟩:=F.tc.1 h
  exact u4 (mu wp rfl n F.A hi) trivial
theorem zch (n:Nat):ym s (dC tc) (run prog (n+3) 60 [.ref (1,0),a1] s) :=
 ou (j:=0) dC (nm:=["self","caller"]) rfl rfl F.A (zaj n F.A F.c1 F.tc) rfl rfl (by decide) rfl (Q:=fun ξ ξ=>True) fun h=>by
  obtain⟨i,hi,rfl⟩:=F.tc.1 h
  exact u4 (g6 wp rfl rfl rfl n F.A hi) trivial
theorem zlr (n:Nat):ym s (dP tp) (run prog (n+5) 49 [.ref (1,0),a5] s) :=
 ou (j:=7) dP (nm:=["self","place"]) rfl rfl F.A (zdj (n+2) F.A F.c5 F.tp) rfl rfl (by decide) rfl (Q:=fun ξ ξ=>True) fun h=>by
  obtain⟨i,hi,rfl⟩:=F.tp.1 h
  exact qz (zgg wp hHP dp n F.A F.R F.K F.h6 (by decide) hi) fun ξ ξ ξ=>trivial
theorem zhn (n:Nat):ym s (dP tp) (run prog (n+5) 50 [.ref (1,0),a5] s) :=
 ou (j:=7) dP (nm:=["self","place"]) rfl rfl F.A (zdj (n+2) F.A F.c5 F.tp) rfl rfl (by decide) rfl (Q:=fun ξ ξ=>True) fun h=>by
  obtain⟨i,hi,rfl⟩:=F.tp.1 h
  exact qz (zm8 wp hHP dp n F.A F.R F.K F.h6 (by decide) hi) fun ξ ξ ξ=>trivial
theorem znr (n:Nat):ym s (dP tp) (run prog (n+5) 51 [.ref (1,0),a5] s) :=
 ou (j:=7) dP (nm:=["self","place"]) rfl rfl F.A (zdj (n+2) F.A F.c5 F.tp) rfl rfl (by decide) rfl (Q:=fun ξ ξ=>True) fun h=>by
  obtain⟨i,hi,rfl⟩:=F.tp.1 h
  obtain⟨t,e,-⟩:=zmv wp dp.los (n+2) F.A hi
  exact u4 e trivial
end
noncomputable def ztq:Nat->List E->List S
 | _,[]=>[]
 | _,[e]=>[.retX e]
 | j,e::e'::r=>.ite (.cmp (.loc 1) .eq (.int j)) [.retX e] []::ztq (j+1) (e'::r)
noncomputable def zs2:List E:=[.meth (.loc 0) 17 [.loc 2,.loc 3,.loc 4,.loc 5],.meth (.loc 0) 18 [.loc 2,.loc 3],.meth (.loc 0) 0 [.loc 3,.loc 4],.meth (.loc 0) 5 [.loc 4],.meth (.loc 0) 24 [.loc 4],.meth (.loc 0) 6 [.loc 3],.meth (.loc 0) 7 [.loc 3],.meth (.loc 0) 8 [.loc 3],.meth (.loc 0) 11 [.loc 2],.meth (.loc 0) 12 [.loc 2],.meth (.loc 0) 1 [.loc 3],.meth (.loc 0) 21 [.loc 6],.meth (.loc 0) 22 [.loc 6],.meth (.loc 0) 23 [.loc 6]]
theorem z01 {w j k:Nat} (h:w=j+(k+1)):¬ (w:Int)=j:=by omega
theorem zt8 {w j k:Nat} (h:w=j+(k+1)):w=j+1+k:=by rw[h,Nat.add_assoc,Nat.add_comm 1 k]
theorem zf5 {L:Loc}{X:Nat->MS->Prop}{Q:Fl×Loc->MS->Prop}{w:Nat} (hw:∀ j:Nat,ev prog C (.cmp (.loc 1) .eq (.int j)) L s=.ok (.bool (decide ((w:Int)=j))) s):∀ (es:List E) (j k:Nat) (e:E),es[k]?=some e->w=j+k->Out (evQ prog C e L s) (fun v s=>Q (.ret v,L) s) X->Out (exs prog C n (ztq j es) L s) Q X
 | [],_,_,_,h,_,_=>nomatch h
 | [a],j,k,e,h,hk,q=>by
  cases k with
  | zero=>cases h;exact zgk q
  | succ k=>exact nomatch h
 | a::b::r,j,k,e,h,hk,q=>by
  have h1:=hw j
  cases k with
  | zero =>
   cases h
   rw[Zb (by rw[hk];rfl)] at h1
   exact zsc (t:=true) h1 (zgk q)
  | succ k =>
   rw[Zc (z01 hk)] at h1
   exact zsc (t:=false) h1 (zuj (zf5 hw (b::r) (j+1) k e h (zt8 hk) q))
theorem jg {n w f k:Nat}{d:Int}{es:List E}{vs:List V} (A:WAt s ks W y) (hw:zs2[w]?=some (.meth (.loc 0) k es)) (hm:prog.meths 0 k=some f) (he:evL prog (run prog n) es [some (.ref (1,0)),some (.int w),some a1,some a2,some ak,some aw,some a5] s=.ok vs s) (h:ym s d (run prog n f (.ref (1,0)::vs) s)):ym s d (run prog (n+1) 120 [.ref (1,0),.int w,a1,a2,ak,aw,a5] s):=by
 refine zq3 (fn:=sm) rfl rfl ?_
 show Out (exs prog (run prog n) n (ztq 0 zs2) [some (.ref (1,0)),some (.int w),some a1,some a2,some ak,some aw,some a5] s) _ _
 refine zf5 (fun j=>rfl) zs2 0 w _ hw (Nat.zero_add w).symm ?_
 rw[bv (x:=.ref (1,0)) rfl ((zg A.o).trans hm) he];exact h
end
end
end Internal.L09
end
section
namespace Internal.L09
open Internal
noncomputable def zct (w:Int):List Int->Bool
 | []=>false
 | i::r=>decide (i=w)||zct w r
noncomputable def zs0 (w:Int) (tc th tk odd ask mv tp:Bool):Int:=first 0 [zct w [0,1,8,9]&&!tc,zct w [0,1,2,5,6,7,10]&&!th,zct w [0,2,3,4]&&!tk,decide (w=0)&&odd,decide (w=0)&&ask,decide (w=1)&&!ask,decide (w=3)&&mv,decide (10 < w)&&!tp]
section
variable {s t:MS}{C:Calls}{l:Loc}{e a b c:E}{n f k i:Nat}{r:List S}{v x:V}{vs:List V}{d:Int}{p q:Bool}
theorem uk {L:Loc}{i:Nat}{ps:List Bool} (hc:ev prog C c L s=.ok (.bool p) s) (k:p=false->OkR (exs prog C n r L s) fun q t=>flV q.1=.int (first (i+1) ps)/\t=s):OkR (exs prog C n (.ite c [.ret (some (.int i))] []::r) L s) fun q t=>flV q.1=.int (first i (p::ps))/\t=s:=by
 cases p with
 | false=>exact zo (t:=false) hc (zh (k rfl))
 | true=>exact zo (t:=true) hc (zu (v:=.int i) (s':=s) rfl ⟨rfl,rfl⟩)
theorem u3 (h1:ev prog C a l s=.ok (.bool p) s) (h2:p=true->ev prog C b l s=.ok (.bool q) s):ev prog C (.and [a,b]) l s=.ok (.bool (p&&q)) s:=by
 cases p with
 | false=>exact p6 h1
 | true=>exact vr h1 (yl (h2 rfl))
section
variable {ks:List Key}{W:WS}{y:Bool->HIx}{nc:Nat}{a1 a2 ak aw a5:V}{tc th tk odd ask mv tp:Bool}
structure D9 (s:MS) (ks:List Key) (W:WS) (a1 ak:V) (odd ask mv:Bool) (asked:List Bool) (kv:V) (j8:Nat):Prop where
 h35:s.heap (35,0)=some (.list (asked.map .bool))
 h38:s.heap (38,j8)=some (.list [kv,.int W.post.length,.bool odd])
 l:asked.length=W.nc
 ask:∀ i (h:i < asked.length),a1=.int i->asked[i]=ask
 mv:∀ key,key∈ks->ak=.str key->cmpOp .eq (.str key) kv s=.ok (.bool mv) s
noncomputable abbrev zqr (w j8:Nat) (a1 a2 ak aw a5:V) (ks:List Key):Loc:=[some (.int w),some (.lst [a1,a2,ak,aw,a5]),some (.lst (ks.map .str)),some (.ref (35,0)),some (.ref (38,j8)),some a1,some a2,some ak,some aw,some a5]
theorem zs4 {w j:Nat} (h:decide ((w:Int)=j)=true):w=j:=by have:=Za h;omega
theorem zgo {w:Nat} (hw:zct w [0,1,8,9]=true) (h:(zct w [0,1,8,9]&&!tc)=false):tc=true:=by
 rw[hw] at h
 cases tc with
 | true=>rfl
 | false=>exact nomatch h
theorem zo5 {w:Nat} (hw:zct w [0,2,3,4]=true) (h:(zct w [0,2,3,4]&&!tk)=false):tk=true:=by
 rw[hw] at h
 cases tk with
 | true=>rfl
 | false=>exact nomatch h
variable {asked:List Bool}{kv:V}{j8:Nat}
theorem zoq {w:Nat} (F:F9 s ks nc W y a1 a2 ak aw a5 tc th tk odd ask mv tp) (D:D9 s ks W a1 ak odd ask mv asked kv j8) (h:tc=true):ev prog C (.sub (.loc 3) (.loc 5)) (zqr w j8 a1 a2 ak aw a5 ks) s=.ok (.bool ask) s:=by
 obtain⟨i,hi,rfl⟩:=F.tc.1 h
 have hl:i < asked.length:=by rw[D.l];exact hi
 refine q6 (x:=.ref (35,0)) (y:=.int i) (s1:=s) (s2:=s) rfl rfl ((yh (qd D.h35) i (by rw[Zd];exact hl)).trans ?_)
 rw[List.getElem_map,D.ask i hl rfl]
theorem n3 {w:Nat} (D:D9 s ks W a1 ak odd ask mv asked kv j8) (j:Nat) (hj:j < 3):ev prog C (.sub (.loc 4) (.int j)) (zqr w j8 a1 a2 ak aw a5 ks) s=.ok ([kv,.int W.post.length,.bool odd][j]'hj) s :=
 q6 (x:=.ref (38,j8)) (y:=.int j) (s1:=s) (s2:=s) rfl rfl (yh (qd D.h38) j hj)
theorem zqh (n:Nat) {w:Nat} (F:F9 s ks nc W y a1 a2 ak aw a5 tc th tk odd ask mv tp) (D:D9 s ks W a1 ak odd ask mv asked kv j8):run prog (n+2) 126 [.int w,.lst [a1,a2,ak,aw,a5],.lst (ks.map .str),.ref (35,0),.ref (38,j8)] s=.ok (.int (zs0 w tc th tk odd ask mv tp)) s:=by
 refine z4 (zj (fn:=rg) rfl rfl (zj0 (l':=zqr w j8 a1 a2 ak aw a5 ks) (s':=s) rfl rfl ?_))
 have lenA:ev prog (run prog (n+1)) (.prim .len [.loc 3]) (zqr w j8 a1 a2 ak aw a5 ks) s=.ok (.int W.nc) s:=xr (vs:=[.ref (35,0)]) (s1:=s) rfl ((bc (qd D.h35)).trans (by rw[Zd,D.l]))
 refine uk (i:=0) (u3 rfl fun ξ=>jt (qh (zf (v:=a1) rfl (zf lenA rfl)) (ml n F.c1 F.tc s))) fun h0=>?_
 refine uk (i:=1) (u3 rfl fun ξ=>jt (qh (vs:=[a2,.int (2:Nat)]) rfl (ml n F.c2 F.th s))) fun h1=>?_
 refine uk (i:=2) (u3 rfl fun ξ=>zgi F.ck rfl rfl F.tk) fun h2=>?_
 refine uk (i:=3) (u3 rfl fun ξ=>n3 D 2 (by decide)) fun h3=>?_
 refine uk (i:=4) (u3 rfl fun h=>zoq F D (zgo (w:=w) (by rw[zs4 (j:=0) h];rfl) h0)) fun h4=>?_
 refine uk (i:=5) (u3 rfl fun h=>jt (zoq F D (zgo (w:=w) (by rw[zs4 (j:=1) h];rfl) h0))) fun h5=>?_
 refine uk (i:=6) (u3 rfl fun h=>?_) fun h6=>?_
 ·obtain⟨key,hk,e⟩:=F.tk.1 (zo5 (w:=w) (by rw[zs4 (j:=3) h];rfl) h2)
  exact kq (x:=.str key) (s1:=s) (Qd (fun q=>Res.ok q s) e) (n3 D 0 (by decide)) (D.mv key hk e)
 refine uk (i:=7) (u3 rfl fun ξ=>jt (qh (zf (v:=a5) rfl (zf (n3 D 1 (by decide)) rfl)) (ml n F.c5 F.tp s))) fun h7=>?_
 exact zu (v:=.int (-1)) (s':=s) rfl ⟨rfl,rfl⟩
theorem xo {P:Nat->Prop}{n:Nat} (h:∀ w,w < n->P w) (hn:P n):∀ w,w < n+1->P w:=fun w hw=>(Nat.lt_succ_iff_lt_or_eq.1 hw).elim (h w) fun e=>e▸hn
theorem zka {P:Nat->Prop}:∀ w,w < 0->P w:=fun w hw=>absurd hw (Nat.not_lt_zero w)
theorem zj9 (n:Nat) (F:F9 s ks nc W y a1 a2 ak aw a5 tc th tk odd ask mv tp):∀ w:Nat,w < 14->ym s (zs0 w tc th tk odd ask mv tp) (run prog (n+6) 120 [.ref (1,0),.int w,a1,a2,ak,aw,a5] s) :=
 xo (xo (xo (xo (xo (xo (xo (xo (xo (xo (xo (xo (xo (xo zka
  (jg (w:=0) F.A rfl rfl rfl (zk8 F (n+2))))
  (jg (w:=1) F.A rfl rfl rfl (zg6 F (n+2))))
  (jg (w:=2) F.A rfl rfl rfl (zqe F (n+2))))
  (jg (w:=3) F.A rfl rfl rfl (zlf F n)))
  (jg (w:=4) F.A rfl rfl rfl (zkt F (n+2))))
  (jg (w:=5) F.A rfl rfl rfl (zig F n)))
  (jg (w:=6) F.A rfl rfl rfl (zit F n)))
  (jg (w:=7) F.A rfl rfl rfl (ziw F n)))
  (jg (w:=8) F.A rfl rfl rfl (zde F (n+2))))
  (jg (w:=9) F.A rfl rfl rfl (zch F (n+2))))
  (jg (w:=10) F.A rfl rfl rfl (zmc F (n+2))))
  (jg (w:=11) F.A rfl rfl rfl (zlr F n)))
  (jg (w:=12) F.A rfl rfl rfl (zhn F n)))
  (jg (w:=13) F.A rfl rfl rfl (znr F n))
noncomputable def zmj (j:Int):V->V
 | .int k=>.bool (decide (k=j)||decide (k=9))
 | v=>v
noncomputable def oz (j:Int):List V:=((List.range 10).map fun (k:Nat)=>V.int k).map (zmj j)
noncomputable def isB (c k:Nat):V:=.bool ((prog.excBase c).contains k)
theorem zwy {c:Nat} (hc:(prog.excBase c).contains c=true) (h:ev prog C e l s=.ok (.exc c) s) (k:Nat):ev prog C (.isX e k) l s=.ok (isB c k) s:=by
 rw[zly,h];exact Zg hc
noncomputable def isL (c:Nat):List V:=[isB c 105,isB c 117,isB c 129,isB c 141,isB c 153,isB c 165,isB c 177,isB c 189,isB c 93,isB c 0]
theorem zpt (n:Nat) {c:Nat} (hc:(prog.excBase c).contains c=true) {x0 x1 x2:V}:∃ l2,exs prog C n [.assign 4 (.lst [.isX (.loc 3) 105,.isX (.loc 3) 117,.isX (.loc 3) 129,.isX (.loc 3) 141]),.assign 4 (.bin .add (.loc 4) (.lst [.isX (.loc 3) 153,.isX (.loc 3) 165,.isX (.loc 3) 177,.isX (.loc 3) 189])),.ret (some (.bin .add (.loc 4) (.lst [.isX (.loc 3) 93,.isX (.loc 3) 0])))] [some x0,some x1,some x2,some (.exc c),none] s=.ok (.ret (.lst (isL c)),l2) s:=by
 have i:∀ (k:Nat) (z:Option V),ev prog C (.isX (.loc 3) k) [some x0,some x1,some x2,some (.exc c),z] s=.ok (isB c k) s:=fun k z=>zwy hc rfl k
 have h:OkR (exs prog C n [.assign 4 (.lst [.isX (.loc 3) 105,.isX (.loc 3) 117,.isX (.loc 3) 129,.isX (.loc 3) 141]),.assign 4 (.bin .add (.loc 4) (.lst [.isX (.loc 3) 153,.isX (.loc 3) 165,.isX (.loc 3) 177,.isX (.loc 3) 189])),.ret (some (.bin .add (.loc 4) (.lst [.isX (.loc 3) 93,.isX (.loc 3) 0])))] [some x0,some x1,some x2,some (.exc c),none] s) fun p t=>p.1=.ret (.lst (isL c))/\t=s :=
  zk (m6 (zf (i _ _) (zf (i _ _) (zf (i _ _) (zf (i _ _) rfl)))) rfl) rfl (zk (v:=.lst ((isL c).take 8)) (jo (x:=.lst ((isL c).take 4)) rfl (m6 (zf (i _ _) (zf (i _ _) (zf (i _ _) (zf (i _ _) rfl)))) rfl) rfl) rfl (zu (v:=.lst (isL c)) (jo (x:=.lst ((isL c).take 8)) rfl (m6 (zf (i _ _) (zf (i _ _) rfl)) rfl) rfl) ⟨rfl,rfl⟩))
 obtain⟨⟨g,l2⟩,t,e,h1,rfl⟩:=q9 h
 cases h1
 exact⟨l2,e⟩
theorem cls:∀ j:Nat,j < 8->((prog.excBase (105+12*j)).contains (105+12*j)=true/\(prog.excBase (105+12*j)).contains 80=true)/\isL (105+12*j)=oz j :=
 xo (xo (xo (xo (xo (xo (xo (xo zka ⟨⟨rfl,rfl⟩,rfl⟩) ⟨⟨rfl,rfl⟩,rfl⟩) ⟨⟨rfl,rfl⟩,rfl⟩) ⟨⟨rfl,rfl⟩,rfl⟩) ⟨⟨rfl,rfl⟩,rfl⟩) ⟨⟨rfl,rfl⟩,rfl⟩) ⟨⟨rfl,rfl⟩,rfl⟩) ⟨⟨rfl,rfl⟩,rfl⟩
noncomputable def noL:List V:=(List.replicate 10 [V.bool false]).flatten
theorem znw (n:Nat) {w:Nat}{d:Int} (h:ym s d (run prog n 120 [.ref (1,0),.int w,a1,a2,ak,aw,a5] s)):OkR (run prog (n+1) 121 [.ref (1,0),.int w,.lst [a1,a2,ak,aw,a5]] s) fun v t=>(d=-1/\v=.lst noL)\/(t=s/\∃ j:Nat,j < 8/\d=j/\v=.lst (oz j)):=by
 refine zj (fn:=dx) rfl rfl ?_
 have eq:evQ prog (run prog n) (.call 120 [.loc 0,.loc 1,.sub (.loc 2) (.int 0),.sub (.loc 2) (.int 1),.sub (.loc 2) (.int 2),.sub (.loc 2) (.int 3),.sub (.loc 2) (.int 4)]) [some (.ref (1,0)),some (.int w),some (.lst [a1,a2,ak,aw,a5]),none,none] s=run prog n 120 [.ref (1,0),.int w,a1,a2,ak,aw,a5] s:=zf7 rfl
 rcases zln h with ⟨v,t,e,hd⟩ | ⟨c,t,e,rfl,j,hj,hd,rfl⟩
 ·exact zl7 (eq.trans e) (zu (v:=.lst noL) (s':=t) rfl (.inl ⟨hd,rfl⟩))
 ·obtain⟨⟨h1,h2⟩,h3⟩:=cls j hj
  obtain⟨l2,e2⟩:=zpt (C:=run prog n) (s:=t) n (c:=105+12*j) h1 (x0:=.ref (1,0)) (x1:=.int w) (x2:=.lst [a1,a2,ak,aw,a5])
  exact zrc (eq.trans e) (by rw[h1,h2];rfl) e2 (.inr ⟨rfl,j,hj,hd,by rw[<- h3];rfl⟩)
theorem zhs (n:Nat) {j:Nat}{L:Loc} (h13:ev prog C (.loc 13) L s=.ok (.lst (oz j)) s) (hb:∀ k:Nat,ev prog C (.or [.cmp (.loc 14) .eq (.loc 11),.cmp (.loc 14) .eq (.int 9)]) (L.set 14 (some (.int k))) s=.ok (zmj j (.int k)) s):ev prog C (.cmp (.loc 13) .ne (.comp none 14 true (.int 10) none (.or [.cmp (.loc 14) .eq (.loc 11),.cmp (.loc 14) .eq (.int 9)]))) L s=.ok (.bool false) s:=by
 have hc:=w9 s s true (.int 10) 14 (ev prog C (.or [.cmp (.loc 14) .eq (.loc 11),.cmp (.loc 14) .eq (.int 9)])) L (zmj j) rfl ((List.range 10).map fun (k:Nat)=>V.int k) [] (fun v hv=>by
  obtain⟨k,-,rfl⟩:=Z1.1 hv
  exact hb k) (by decide)
 refine kq h13 (b6 (src:=.int 10) (s1:=s) rfl (j9 s 10 (by decide) (by decide)) hc) ?_
 show okB s ((veq s 12 (.lst (oz j)) (.lst ([]++oz j))).map (!·))=_
 rw[List.nil_append,zrp s 11 (oz j) fun v hv=>by
  obtain⟨u,hu,rfl⟩:=Z1.1 hv
  obtain⟨k,-,rfl⟩:=Z1.1 hu
  show some ((decide ((k:Int)=j)||decide ((k:Int)=9)) == (decide ((k:Int)=j)||decide ((k:Int)=9)))=_
  rw[BEq.rfl]]
 rfl
end
end
end Internal.L09
end
section
namespace Internal.L09
open Internal
section
variable {s t:MS}{C:Calls}{l:Loc}{e a b c:E}{n f k i:Nat}{r:List S}{v x:V}{vs:List V}{p q:Bool}
structure Snap (k j:Nat) (l:List V) (t:MS):Prop where
 h:t.heap (k,j)=some (.list l)
 c:j < t.cnt k
theorem Snap.new (t:MS) (k:Nat) (l:List V):Snap k (t.cnt k) l (t.new k (.list l)):=⟨z5 _ _ _,by rw[uj];exact Zy _⟩
theorem Snap.step {F:Lbl->Prop}{k j:Nat}{l:List V}{t t':MS} (a:Snap k j l t) (f:Fr F t t') (hF:¬ F (k,j)):Snap k j l t':=⟨(f.1 (k,j) a.c hF).trans a.h,Zi a.c (f.2 k)⟩
theorem Snap.nil {k j:Nat}{l:List V} (a:Snap k j l s) (f:Fr Nil s t):Snap k j l t:=a.step f fun q=>q
set_option genCtorIdx true in
inductive Sh where
 | lst (l:List V)
 | pair (a:V) (l:List V)
 | flat (v:V)
noncomputable def Sh.Is (s:MS):Sh->V->Prop
 | .lst l,v=>∃ k j,v=.ref (k,j)/\k < 49/\Snap k j l s
 | .pair a l,v=>∃ k j,v=.tup [a,.ref (k,j)]/\k < 49/\Snap k j l s
 | .flat u,v=>v=u
noncomputable def Sh.Ok (s:MS):Sh->Prop
 | .lst l=>∀ x∈l,veq s 10 x x=some true
 | .pair a l=>veq s 10 a a=some true/\∀ x∈l,veq s 9 x x=some true
 | .flat u=>veq s 11 u u=some true
theorem Sh.Is.mono {h:Sh} (g:∀ k j l,k < 49->Snap k j l s->Snap k j l t) (a:h.Is s v):h.Is t v:=by
 cases h with
 | flat u=>exact a
 | lst l=>obtain⟨k,j,e,h1,h2⟩:=a;exact⟨k,j,e,h1,g k j l h1 h2⟩
 | pair a l=>obtain⟨k,j,e,h1,h2⟩:=a;exact⟨k,j,e,h1,g k j l h1 h2⟩
theorem zc {f:V->V->Option Bool}{x y:V}{la lb:List V}{p q:Bool} (h1:f x y=some p) (h2:qm f la lb=some q):qm f (x::la) (y::lb)=some (p&&q):=by
 show(match f x y,qm f la lb with | some p,some q=>some (p&&q) | _,_=>none)=_
 rw[h1,h2]
theorem ew {a b:V}{la lb:List V} (n:Nat) (ha:zr s a=some (true,la)) (hb:zr s b=some (true,lb)) (hl:la.length=lb.length) (h:qm (veq s n) la lb=some true):veq s (n+1) a b=some true:=by
 show(match zr s a,zr s b with | some p,some q=>if p.1=q.1 then (if p.1=true/\p.2.length≠q.2.length then some false else qm (veq s n) p.2 q.2) else some false | some _,none=>xt b | none,some _=>xt a | none,none=>ma a b)=_
 rw[ha,hb]
 show(if true=true then (if true=true/\la.length≠lb.length then some false else qm (veq s n) la lb) else some false)=_
 rw[Zg rfl,Zh fun q=>q.2 hl]
 exact h
theorem Sh.same {h:Sh}{v u:V} (ok:h.Ok s) (a:h.Is s v) (b:h.Is s u):veq s 11 v u=some true:=by
 cases h with
 | flat w=>cases a;cases b;exact ok
 | lst l =>
  obtain⟨k,j,rfl,-,h1⟩:=a
  obtain⟨k',j',rfl,-,h2⟩:=b
  exact ew 10 (qd h1.h) (qd h2.h) rfl (uz _ _ ok)
 | pair a l =>
  obtain⟨k,j,rfl,-,h1⟩:=a
  obtain⟨k',j',rfl,-,h2⟩:=b
  show qm (veq s 10) [a,.ref (k,j)] [a,.ref (k',j')]=some (true&&(true&&true))
  exact zc ok.1 (zc (ew 9 (qd h1.h) (qd h2.h) rfl (uz _ _ ok.2)) rfl)
noncomputable def ShAll (s:MS):List Sh->List V->Prop
 | [],[]=>True
 | h::hs,v::vs=>h.Is s v/\ShAll s hs vs
 | _,_=>False
theorem ShAll.len:∀ {hs:List Sh}{vs:List V},ShAll s hs vs->vs.length=hs.length
 | [],[],_=>rfl
 | _::hs,_::vs,a=>Qd (·+1) (ShAll.len (hs:=hs) (vs:=vs) a.2)
 | [],_::_,a=>a.elim
 | _::_,[],a=>a.elim
theorem ShAll.mono (g:∀ k j l,k < 49->Snap k j l s->Snap k j l t):∀ {hs:List Sh}{vs:List V},ShAll s hs vs->ShAll t hs vs
 | [],[],_=>trivial
 | _::hs,_::vs,a=>⟨a.1.mono g,ShAll.mono g (hs:=hs) (vs:=vs) a.2⟩
 | [],_::_,a=>a.elim
 | _::_,[],a=>a.elim
theorem ShAll.snoc {h:Sh}{v:V} (b:h.Is s v):∀ {hs:List Sh}{vs:List V},ShAll s hs vs->ShAll s (hs++[h]) (vs++[v])
 | [],[],_=>⟨b,trivial⟩
 | _::hs,_::vs,a=>⟨a.1,ShAll.snoc b (hs:=hs) (vs:=vs) a.2⟩
 | [],_::_,a=>a.elim
 | _::_,[],a=>a.elim
theorem ShAll.zip:∀ {hs:List Sh}{vs us:List V},ShAll s hs vs->ShAll s hs us->(∀ h∈hs,h.Ok s)->qm (veq s 11) vs us=some true
 | [],[],[],_,_,_=>rfl
 | h::hs,v::vs,u::us,a,b,ok=>zc (p:=true) (q:=true) (Sh.same (ok h (Zm ..)) a.1 b.1) (ShAll.zip (hs:=hs) (vs:=vs) (us:=us) a.2 b.2 fun x hx=>ok x (Zk _ hx))
 | [],_::_,_,a,_,_=>a.elim
 | [],[],_::_,_,b,_=>b.elim
 | _::_,[],_,a,_,_=>a.elim
 | _::_,_::_,[],_,b,_=>b.elim
variable {ks:List Key}{W:WS}{y:Bool->HIx}{nc:Nat}
structure StI (s:MS) (ks:List Key) (W:WS) (y:Bool->HIx) (hs:List Sh) (j:Nat) (t:MS):Prop where
 A:WAt t ks W y
 q:∃ vs,Snap 49 j vs t/\ShAll t hs vs
 f:Fr Nil s t
 j:s.cnt 49<=j
variable {hs:List Sh}{j:Nat}
theorem StI.new (a:StI s ks W y hs j t) (k:Nat) (o:MObj):StI s ks W y hs j (t.new k o):=by
 have f:Fr Nil t (t.new k o):=(Fr.refl _ _).new _ _
 obtain⟨vs,h1,h2⟩:=a.q
 exact⟨a.A.step f.nw,⟨vs,h1.nil f,h2.mono fun ξ ξ ξ ξ q=>q.nil f⟩,a.f.trans f,a.j⟩
theorem StI.add (a:StI s ks W y hs j t) {h:Sh}{v:V} (b:h.Is t v) (hl:hs.length < 1000):∃ t',uv .append (.ref (49,j)) [v] t=.ok .none t'/\StI s ks W y (hs++[h]) j t':=by
 obtain⟨vs,h1,h2⟩:=a.q
 refine⟨_,xg t (49,j) vs v h1.h (by rw[h2.len];exact Nat.lt_trans hl (by decide)),a.A.step ((Fr.refl NW t).put (l:=(49,j)) (Za (p:=11<=49) rfl) _),⟨vs++[v],⟨zl _ _ _,h1.c⟩,(h2.snoc b).mono fun k i l hk q=>⟨(zm (zd (Z9 hk))).trans q.h,q.c⟩⟩,cn a.f a.j _,a.j⟩
theorem StI.ok (a:StI s ks W y hs j t):zdo .append (.ref (49,j)) t=true:=by
 obtain⟨vs,h1,h2⟩:=a.q
 exact jz h1.h
noncomputable def shC (W:WS) (i:Nat):Sh:=.pair (opV (W.c i).op) ((W.c i).closed.map wx)
noncomputable def shK (W:WS) (key:Key):Sh:=.flat (.tup [jc W key,.bool ((W.h false).has key),.bool ((W.h true).has key)])
noncomputable def sh0 (W:WS):List Sh:=[.lst (W.post.map z9),.lst (W.rows.map vy),.lst ((W.h false).owes.map .str),.lst ((W.h true).owes.map .str)]
noncomputable def al (W:WS) (ks:List Key) (nc:Nat):List Sh:=sh0 W++(List.range nc).map (shC W)++ks.map (shK W)
noncomputable abbrev zb1 (ks:List Key) (nc:Nat) (a b c:Option V):Loc:=[some (.ref (1,0)),some (.lst (ks.map .str)),some (.int nc),a,b,c]
theorem zij (n:Nat) {i:Nat} (hi:i < W.nc) (a:StI s ks W y hs j t) (hl:hs.length < 1000) {c:Option V}:∃ t',ev prog (run prog (n+3)) (.bm .append (.loc 3) [.tup [.meth (.loc 0) 11 [.loc 4],.meth (.loc 0) 12 [.loc 4]]]) (zb1 ks nc (some (.ref (49,j))) (some (.int i)) c) t=.ok .none t'/\StI s ks W y (hs++[shC W i]) j t':=by
 have e2:=g6 wp rfl rfl rfl n a.A hi
 have a2:=a.new 13 (.list ((W.c i).closed.map wx))
 have q2:=Snap.new t 13 ((W.c i).closed.map wx)
 generalize t.new 13 (.list ((W.c i).closed.map wx))=u at e2 a2 q2
 obtain⟨t',e3,a3⟩:=a2.add (h:=shC W i) ⟨13,t.cnt 13,rfl,by decide,q2⟩ hl
 exact⟨t',ud (x:=.ref (49,j)) (s1:=t) rfl a.ok (zf (m4 (zf (zt (x:=.ref (1,0)) (vs:=[.int i]) (s1:=t) (s2:=t) rfl ((zg a.A.o).trans dp.w11) rfl (mu wp rfl n a.A hi)) (zf (zt (x:=.ref (1,0)) (vs:=[.int i]) (s1:=t) (s2:=t) rfl (zg a.A.o) rfl e2) rfl)) rfl) rfl) e3,a3⟩
theorem zta (n:Nat) {key:Key} (hk:key∈ks) (a:StI s ks W y hs j t) (hl:hs.length < 1000) {b:Option V}:∃ t',ev prog (run prog (n+3)) (.bm .append (.loc 3) [.tup [.meth (.loc 0) 24 [.loc 5],.meth (.loc 0) 0 [.int 0,.loc 5],.meth (.loc 0) 0 [.int 1,.loc 5]]]) (zb1 ks nc (some (.ref (49,j))) b (some (.str key))) t=.ok .none t'/\StI s ks W y (hs++[shK W key]) j t':=by
 obtain⟨t',e3,a3⟩:=a.add (h:=shK W key) rfl hl
 exact⟨t',ud (x:=.ref (49,j)) (s1:=t) rfl a.ok (zf (m4 (zf (zt (x:=.ref (1,0)) (vs:=[.str key]) (s1:=t) (s2:=t) rfl ((zg a.A.o).trans dp.w24) rfl (gn wp hHP rfl n a.A hk)) (zf (zt (x:=.ref (1,0)) (vs:=[.int (hn false),.str key]) (s1:=t) (s2:=t) rfl (zg a.A.o) rfl (n5 wp hHP rfl n a.A false hk)) (zf (zt (x:=.ref (1,0)) (vs:=[.int (hn true),.str key]) (s1:=t) (s2:=t) rfl (zg a.A.o) rfl (n5 wp hHP rfl n a.A true hk)) rfl))) rfl) rfl) e3,a3⟩
theorem zj4 {k:Nat}{es:List E}{vs:List V}{s1:MS} (h1:evL prog C es l s=.ok vs s1) (hn:decide (vs.length<=ze)=true):ev prog C (.lstM k es) l s=.ok (.ref (k,s1.cnt k)) (s1.new k (.list vs)):=by
 rw[zfh,h1];exact Zg (Za hn)
theorem nq {α β:Type}{f:α->β}{xs d r:List α}{x:α} (e:xs=d++x::r):xs=(d++[x])++r:=by rw[e,Z3];rfl
theorem zlk {α:Type}{xs d r:List α}{x:α} (e:xs=d++x::r):d.length < xs.length:=by rw[e,Zf];exact Nat.lt_add_of_pos_right (Nat.succ_pos _)
theorem nk (t:MS) (h6:nc<=6):zz t true (.int nc)=some ((List.range nc).map fun (i:Nat)=>V.int i):=(j9 t nc (Int.natCast_nonneg nc) (Int.ofNat_le.2 (Zp h6 (by decide)))).trans (by rw[Int.toNat_natCast])
theorem zu4 {d:Nat} (h:d < nc) (h6:nc<=6):4+d < 1000:=by omega
theorem zy8 {d k:Nat} (h:d < k) (hk:k<=6) (h6:nc<=6):4+nc+d < 1000:=by omega
theorem tm (n:Nat) (A:WAt s ks W y) (w:WI ks nc 13 W) (K:KeysFine ks) (h6:nc<=6):OkR (run prog (n+4) 127 [.ref (1,0),.lst (ks.map .str),.int nc] s) fun v t=>∃ j,v=.ref (49,j)/\StI s ks W y (al W ks nc) j t:=by
 have nd:∀ b,((W.h b).known.map (·.1)).Nodup:=fun b=>by rw[(w.hi b).hk];exact K.nd
 refine zj (fn:=m7) rfl rfl ?_
 have f1:Fr Nil s (s.new 11 (.list (W.post.map z9))):=(Fr.refl _ _).new _ _
 have q1:=Snap.new s 11 (W.post.map z9)
 have e1:=pk wp rfl (n+2) A
 generalize s.new 11 (.list (W.post.map z9))=s1 at f1 q1 e1
 have A1:=A.step f1.nw
 have f2:Fr Nil s1 (s1.new 12 (.list (W.rows.map vy))):=(Fr.refl _ _).new _ _
 have q2:=Snap.new s1 12 (W.rows.map vy)
 have e2:=za5 wp rfl (n+2) A1
 generalize s1.new 12 (.list (W.rows.map vy))=s2 at f2 q2 e2
 have A2:=A1.step f2.nw
 have f3:Fr Nil s2 (s2.new 14 (.list ((W.h false).owes.map .str))):=(Fr.refl _ _).new _ _
 have q3:=Snap.new s2 14 ((W.h false).owes.map .str)
 have e3:=pq wp hHP rfl rfl n A2 false (hz w K (by decide) false) (nd false)
 generalize s2.new 14 (.list ((W.h false).owes.map .str))=s3 at f3 q3 e3
 have A3:=A2.step f3.nw
 have f4:Fr Nil s3 (s3.new 14 (.list ((W.h true).owes.map .str))):=(Fr.refl _ _).new _ _
 have q4:=Snap.new s3 14 ((W.h true).owes.map .str)
 have e4:=pq wp hHP rfl rfl n A3 true (hz w K (by decide) true) (nd true)
 generalize s3.new 14 (.list ((W.h true).owes.map .str))=s4 at f4 q4 e4
 have A4:=A3.step f4.nw
 have f5:Fr Nil s4 (s4.new 49 (.list [.ref (11,s.cnt 11),.ref (12,s1.cnt 12),.ref (14,s2.cnt 14),.ref (14,s3.cnt 14)])):=(Fr.refl _ _).new _ _
 have q5:=Snap.new s4 49 [.ref (11,s.cnt 11),.ref (12,s1.cnt 12),.ref (14,s2.cnt 14),.ref (14,s3.cnt 14)]
 have ev0:ev prog (run prog (n+3)) (.lstM 49 [.meth (.loc 0) 19 [],.meth (.loc 0) 25 [],.meth (.loc 0) 1 [.int 0],.meth (.loc 0) 1 [.int 1]]) (zb1 ks nc none none none) s=.ok (.ref (49,s4.cnt 49)) (s4.new 49 (.list [.ref (11,s.cnt 11),.ref (12,s1.cnt 12),.ref (14,s2.cnt 14),.ref (14,s3.cnt 14)])) :=
  zj4 (zf (zt (x:=.ref (1,0)) (vs:=[]) (s1:=s) (s2:=s) rfl ((zg A.o).trans dp.w19) rfl e1) (zf (zt (x:=.ref (1,0)) (vs:=[]) (s1:=s1) (s2:=s1) rfl (zg A1.o) rfl e2) (zf (zt (x:=.ref (1,0)) (vs:=[.int (hn false)]) (s1:=s2) (s2:=s2) rfl (zg A2.o) rfl e3) (zf (zt (x:=.ref (1,0)) (vs:=[.int (hn true)]) (s1:=s3) (s2:=s3) rfl (zg A3.o) rfl e4) rfl)))) rfl
 have f14:=((f1.trans f2).trans f3).trans f4
 have S0:StI s ks W y (sh0 W) (s4.cnt 49) (s4.new 49 (.list [.ref (11,s.cnt 11),.ref (12,s1.cnt 12),.ref (14,s2.cnt 14),.ref (14,s3.cnt 14)])) :=
  ⟨A4.step f5.nw,⟨_,q5,⟨_,_,rfl,by decide,(((q1.nil f2).nil f3).nil f4).nil f5⟩,⟨_,_,rfl,by decide,((q2.nil f3).nil f4).nil f5⟩,⟨_,_,rfl,by decide,(q3.nil f4).nil f5⟩,⟨_,_,rfl,by decide,q4.nil f5⟩,trivial⟩,f14.trans f5,f14.2 49⟩
 refine zk ev0 rfl ?_
 generalize s4.new 49 (.list [.ref (11,s.cnt 11),.ref (12,s1.cnt 12),.ref (14,s2.cnt 14),.ref (14,s3.cnt 14)])=u at S0
 generalize s4.cnt 49=j at S0
 clear ev0 f5 q5 e1 e2 e3 e4 q1 q2 q3 q4 f1 f2 f3 f4 f14 A1 A2 A3 A4
 show OkR (exs prog _ _ _ (zb1 ks nc (some (.ref (49,j))) none none) u) _
 refine ku (v:=.int nc) (s':=u) rfl (nk u h6) rfl (xb (fun (i:Nat)=>V.int i) (fun b=>zb1 ks nc (some (.ref (49,j))) b none) (fun r ξ t=>∃ d,List.range nc=d++r/\StI s ks W y (sh0 W++d.map (shC W)) j t) (fun i r b t h=>⟨rfl,?_⟩) (fun b t h=>⟨rfl,?_⟩) (List.range nc) none u ⟨[],rfl,S0⟩)
 ·obtain⟨d,hd,h⟩:=h
  have hi:i < nc:=List.mem_range.1 (by rw[hd];exact Qa _ (Zm ..))
  have hl:=zlk hd
  rw[Zx] at hl
  obtain⟨t',e,h'⟩:=zij n (w.nc_.symm▸hi) h (by rw[Zf,Zd];exact zu4 hl h6) (nc:=nc) (c:=none)
  show OkR (exs prog _ _ _ (zb1 ks nc (some (.ref (49,j))) (some (.int i)) none) t) _
  refine qw e (zv ⟨_,rfl,d++[i],nq (f:=shC W) hd,?_⟩)
  rw[Qb,<- Z3];exact h'
 ·obtain⟨d,hd,h⟩:=h
  rw[Z0] at hd
  subst hd
  rw[x9]
  refine ku (v:=.lst (ks.map .str)) (s':=t) rfl rfl rfl (xb V.str (fun c=>zb1 ks nc (some (.ref (49,j))) b c) (fun r ξ t=>∃ d,ks=d++r/\StI s ks W y (sh0 W++(List.range nc).map (shC W)++d.map (shK W)) j t) (fun key r c t h=>⟨rfl,?_⟩) (fun c t h=>⟨rfl,?_⟩) ks none t ⟨[],rfl,by rw[List.map_nil,Z0];exact h⟩)
  ·obtain⟨d,hd,h⟩:=h
   have hk:key∈ks:=by rw[hd];exact Qa _ (Zm ..)
   have hl:=zlk hd
   obtain⟨t',e,h'⟩:=zta n hk h (by rw[Zf,Zf,Zd,Zd,Zx];exact zy8 hl K.six h6) (nc:=nc) (b:=b)
   show OkR (exs prog _ _ _ (zb1 ks nc (some (.ref (49,j))) b (some (.str key))) t) _
   refine qw e (zv ⟨_,rfl,d++[key],nq (f:=shK W) hd,?_⟩)
   rw[Qb,<- Z3];exact h'
  ·obtain⟨d,hd,h⟩:=h
   rw[Z0] at hd
   subst hd
   rw[x9]
   exact zu (v:=.ref (49,j)) (s':=t) rfl ⟨j,rfl,h⟩
theorem j3 (d:Nat) (i:Int):veq s (d+1) (.int i) (.int i)=some true:=Qd some (Zb rfl)
theorem ww (d:Nat) (k:Key):veq s (d+1) (.str k) (.str k)=some true:=Qd some (Zb rfl)
theorem zmh (d:Nat) (b:Bool):veq s (d+1) (.bool b) (.bool b)=some true:=by cases b <;> rfl
theorem q_w (d:Nat) (w:Internal.W):veq s (d+2) (wv w) (wv w)=some true:=by
 cases w with
 | get=>rfl
 | set i =>
  show qm (veq s (d+1)) [.str _,.int i] [.str _,.int i]=some (true&&(true&&true))
  exact zc (ww d _) (zc (j3 d i) rfl)
 | add i =>
  show qm (veq s (d+1)) [.str _,.int i] [.str _,.int i]=some (true&&(true&&true))
  exact zc (ww d _) (zc (j3 d i) rfl)
theorem ztd (d:Nat) (r:LRow):veq s (d+3) (vy r) (vy r)=some true:=zc (j3 _ _) (zc (j3 _ _) (zc (ww _ _) (zc (q_w d _) (zc (j3 _ _) rfl))))
theorem z0r (d:Nat) (o:Option (Int×Key×Internal.W)):veq s (d+3) (opV o) (opV o)=some true:=by
 cases o with
 | none=>rfl
 | some p=>exact zc (j3 _ _) (zc (ww _ _) (zc (q_w d _) rfl))
theorem zzq (d:Nat) (p:Int×Int):veq s (d+2) (wx p) (wx p)=some true:=by
 show qm (veq s (d+1)) [.int p.1,.int p.2] [.int p.1,.int p.2]=some (true&&(true&&true))
 exact zc (j3 _ _) (zc (j3 _ _) rfl)
theorem zo6 (d:Nat) (ms:List qp):veq s (d+3) (kz ms) (kz ms)=some true:=zpm s _ _ fun v hv=>by
 obtain⟨m,-,rfl⟩:=ub hv
 show qm (veq s (d+1)) [.int m.1,.int m.2.1,.int m.2.2] [.int m.1,.int m.2.1,.int m.2.2]=some (true&&(true&&(true&&true)))
 exact zc (j3 _ _) (zc (j3 _ _) (zc (j3 _ _) rfl))
theorem zzj (d:Nat) (L:Letter):veq s (d+4) (z9 L) (z9 L)=some true:=by
 cases L with
 | call h c n k w=>exact zc (ww _ _) (zc (j3 _ _) (zc (j3 _ _) (zc (j3 _ _) (zc (ww _ _) (zc (q_w (d+1) _) rfl)))))
 | parcel h k t a ms=>exact zc (ww _ _) (zc (j3 _ _) (zc (ww _ _) (zc (j3 _ _) (zc (j3 _ _) (zc (zo6 d _) rfl)))))
 | taken h k t=>exact zc (ww _ _) (zc (j3 _ _) (zc (ww _ _) (zc (la:=[]) (lb:=[]) (q:=true) (j3 (s:=s) (d+2) _) rfl)))
 | answer c n t=>exact zc (ww _ _) (zc (j3 _ _) (zc (j3 _ _) (zc (la:=[]) (lb:=[]) (q:=true) (j3 (s:=s) (d+2) _) rfl)))
theorem zt6 (d:Nat) (key:Key):veq s (d+1) (jc W key) (jc W key)=some true:=by
 unfold jc
 split
 ·exact j3 _ _
 ·split
  ·exact j3 _ _
  ·rfl
theorem zgm {α:Type}{f:α->V} (d:Nat) (h:∀ x,veq s d (f x) (f x)=some true) (l:List α):∀ x∈l.map f,veq s d x x=some true:=fun v hv=>by
 obtain⟨x,-,rfl⟩:=ub hv
 exact h x
theorem zh3:∀ h∈al W ks nc,h.Ok s:=fun h hh=>by
 rcases Zt.1 hh with hh | hh
 ·rcases Zt.1 hh with hh | hh
  ·have o1:Sh.Ok s (.lst (W.post.map z9)):=zgm 10 (zzj 6) _
   have o2:Sh.Ok s (.lst (W.rows.map vy)):=zgm 10 (ztd 7) _
   have o3:∀ b,Sh.Ok s (.lst ((W.h b).owes.map .str)):=fun b=>zgm 10 (ww 9) _
   exact zp (p:=Sh.Ok s) o1 (zp o2 (zp (o3 false) (zp (l:=[]) (o3 true) fun ξ q=>nomatch q))) h hh
  ·obtain⟨i,-,rfl⟩:=Z1.1 hh
   exact⟨z0r 7 _,zgm 9 (zzq 7) _⟩
 ·obtain⟨key,-,rfl⟩:=Z1.1 hh
  show qm (veq s 10) [jc W key,.bool _,.bool _] [jc W key,.bool _,.bool _]=some (true&&(true&&(true&&true)))
  exact zc (zt6 9 key) (zc (zmh 9 _) (zc (zmh 9 _) rfl))
theorem ze5 {j j':Nat}{u:MS} (a:StI s ks W y (al W ks nc) j t) (b:StI t ks W y (al W ks nc) j' u):cmpOp .ne (.ref (49,j')) (.ref (49,j)) u=.ok (.bool false) u:=by
 obtain⟨vs,h1,h2⟩:=a.q
 obtain⟨us,g1,g2⟩:=b.q
 have h2:=h2.mono fun ξ ξ ξ ξ q=>q.nil b.f
 show okB u ((veq u 12 (.ref (49,j')) (.ref (49,j))).map (!·))=_
 rw[ew 11 (qd g1.h) (qd (h1.nil b.f).h) (g2.len.trans h2.len.symm) (g2.zip h2 zh3)]
 rfl
end
end Internal.L09
end
section
namespace Internal.L09
open Internal
theorem dec (P:Prop):∃ p:Bool,p=true↔P:=by
 by_cases h:P
 ·exact⟨true,fun ξ=>h,fun ξ=>rfl⟩
 ·exact⟨false,fun q=>(nomatch q),fun q=>absurd q h⟩
noncomputable def b2i (b:Bool):Int:=if b then 1 else 0
section
variable {s t u:MS}{C:Calls}{n i:Nat}{r:List S}{ks:List Key}{W:WS}{y:Bool->HIx}{nc:Nat}{Q:Fl×Loc->MS->Prop}
noncomputable abbrev yx (l:List Int) (fi:Int) (ks:List Key) (nc:Nat) (a6 a7 a8 a9 a10 a11 a12 a13:Option V):Loc:=[some (.lst (l.map .int)),some (.int fi),some (.lst (ks.map .str)),some (.int nc),some (.ref (1,0)),some (.ref (35,0)),a6,a7,a8,a9,a10,a11,a12,a13,none]
noncomputable abbrev iq (l:List Int) (fi:Int) (ks:List Key) (nc:Nat) (a6:Option V):Loc:=yx l fi ks nc a6 none none none none none none none
noncomputable def zgj (W:WS) (i:Nat) (key:Key) (b:Bool):WS:={W with c:=yo W.c i ⟨(W.c i).begun+1,some ((W.c i).begun+1,key,.get),(W.c i).closed⟩,post:=W.post++[.call (hn b) i ((W.c i).begun+1) key .get]}
theorem zfr (n:Nat) (A:WAt s ks W y) (hi:i < W.nc) (hl:W.post.length < 16777000) (ho:(W.c i).op=none) {key:Key} (hk:key∈ks) (b:Bool) :
  ∃ u,run prog (n+3) 45 [.ref (1,0),.int i,.int (hn b),.str key,wv .get] s=.ok (.int ((W.c i).begun+1)) u/\WAt u ks (zgj W i key b) y/\Fr NWp s u:=by
 obtain⟨yc,hf1⟩:=dp.nwi
 obtain⟨xc,hf⟩:=dp.cal
 exact tq wp dp.beg hf1 hf n A hi b hk (zbg wp hf1 n .get trivial s) ho hl
theorem zrn {m:Nat} (a:WI ks nc m W) (hi:i < nc) (h0:W.c i=c0) {key:Key} (hk:key∈ks) (b:Bool):WI ks nc (m+2) (zgj W i key b) :=
 WI.setPost (k:=1) (a.caller i (c:=⟨(W.c i).begun+1,some ((W.c i).begun+1,key,.get),(W.c i).closed⟩) (fun p hp=>by cases hp;rw[h0];exact⟨rfl,hk⟩) (by rw[h0];exact Nat.zero_le _)) (vm a.po (show vx ks nc (.call (hn b) i ((W.c i).begun+1) key .get) from ⟨⟨b,rfl⟩,⟨i,hi,rfl⟩,hk,by rw[h0];exact Int.le_refl _⟩)) (by rw[Zf];exact Nat.add_le_add_left (Za (p:=1<=8) rfl) _)
theorem zsv (W:WS) (i:Nat) (key:Key) (b:Bool):(zgj W i key b).c i=⟨(W.c i).begun+1,some ((W.c i).begun+1,key,.get),(W.c i).closed⟩:=Zg rfl
theorem zal (W:WS) {i j:Nat} (h:j≠i) (key:Key) (b:Bool):(zgj W i key b).c j=W.c j:=Zh h
noncomputable def zxc (W:WS) (asked:List Bool):Prop:=∀ i b,asked[i]?=some b->(W.c i).op.isSome=b/\(W.c i).begun=b2i b
structure B9 (ks:List Key) (nc d:Nat) (W:WS) (y:Bool->HIx) (asked:List Bool) (t:MS):Prop where
 A:WAt t ks W y
 R:WI ks nc (2*d) W
 h:W.h=(W0 ks nc).h
 l:asked.length=d
 c:zxc W asked
 z:∀ i,d<=i->W.c i=c0
 q:Snap 35 0 (asked.map .bool) t
theorem gz {α:Type}{a b:α}:∀ {l:List α}{i:Nat},(l++[a])[i]?=some b->(i≠l.length/\l[i]?=some b)\/(i=l.length/\b=a)
 | [],0,h=>.inr ⟨rfl,(Option.some.inj h).symm⟩
 | [],i+1,h=>nomatch h
 | x::l,0,h=>.inl ⟨(Nat.succ_ne_zero _).symm,h⟩
 | x::l,i+1,h=>(gz (l:=l) (i:=i) h).imp (fun q=>⟨fun e=>q.1 (Nat.succ.inj e),q.2⟩) fun q=>⟨Qd (·+1) q.1,q.2⟩
theorem zu6 {d:Nat} (hd:d < nc) (h6:nc<=6):2*d < 1000000:=by omega
theorem z0o (h6:nc<=6):2*nc<=12:=Nat.mul_le_mul_left 2 h6
noncomputable def pw:List Int:=[1,2,4,8,16,32]
theorem z0g:∀ p∈pw,(0:Int) < p/\p < 18446744073709551616:=by decide
theorem zt7 (n:Nat) (l:List Int) {d:Nat} (hd:d < 6) (L:Loc) (h0:∀ t,ev prog (run prog (n+1)) (.loc 0) L t=.ok (.lst (l.map .int)) t) (h6:∀ t,ev prog (run prog (n+1)) (.loc 6) L t=.ok (.int d) t):∃ b,∀ t,ev prog (run prog (n+1)) (.cmp (.bin .mod (.bin .fdiv (.bin .fdiv (.call 100 [.loc 0,.int 1]) (.int 6)) (.sub (.lst [.int 1,.int 2,.int 4,.int 8,.int 16,.int 32]) (.loc 6))) (.int 2)) .eq (.int 1)) L t=.ok (.bool b) t:=by
 have hp:=z0g _ (Qc (show d < pw.length from hd))
 have e:∀ t:MS,getItem (.lst (pw.map .int)) (.int d) t=.ok (.int (pw[d]'hd)) t:=fun t=>(yh (a:=.lst (pw.map .int)) (k:=true) (s:=t) rfl d (by rw[Zd];exact hd)).trans (by rw[List.getElem_map];rfl)
 generalize pw[d]'hd=p at hp e
 exact⟨_,fun t=>kq (x:=.int (((l.getD 1 0).fdiv 6 / p).fmod 2)) (s1:=t) (jo (x:=.int ((l.getD 1 0).fdiv 6 / p)) (s1:=t) (jo (x:=.int ((l.getD 1 0).fdiv 6)) (s1:=t) (jo (x:=.int (l.getD 1 0)) (s1:=t) (qh (vs:=[.lst (l.map .int),.int 1]) (zf (h0 t) rfl) (tz p3 n l t)) rfl rfl) (q6 (x:=.lst (pw.map .int)) (s1:=t) rfl (h6 t) (e t)) (ztt _ p t hp.1 hp.2)) rfl rfl) rfl rfl⟩
theorem zst (nd:ks.Nodup) (nc:Nat):WI ks nc 0 (W0 ks nc):=⟨rfl,fun b=>HJ.new nd b,fun L q=>(nomatch q),Zs _,fun i ξ=>⟨fun p q=>(nomatch q),Zs _⟩⟩
theorem zlo (n:Nat) (K:KeysFine ks) (h6:nc<=6) {d:Nat} (hd:d < nc) {asked:List Bool} (b:B9 ks nc d W y asked t) {l:List Int}{fi:Int} (k:∀ t' W' asked',B9 ks nc (d+1) W' y asked' t'->Q (.next,iq l fi ks nc (some (.int d))) t') :
  OkR (exs prog (run prog (n+3)) (n+3) [.expr (.bm .append (.loc 5) [.cmp (.bin .mod (.bin .fdiv (.bin .fdiv (.call 100 [.loc 0,.int 1]) (.int 6)) (.sub (.lst [.int 1,.int 2,.int 4,.int 8,.int 16,.int 32]) (.loc 6))) (.int 2)) .eq (.int 1)]),.ite (.sub (.loc 5) (.loc 6)) [.expr (.meth (.loc 4) 17 [.loc 6,.bin .mod (.loc 6) (.int 2),.sub (.loc 2) (.bin .mod (.loc 6) (.prim .len [.loc 2])),.tup [.str [103,101,116]]])] []] (iq l fi ks nc (some (.int d))) t) Q:=by
 obtain⟨bit,eb⟩:=zt7 (n+2) l (Zi hd h6) (iq l fi ks nc (some (.int d))) (fun ξ=>rfl) fun ξ=>rfl
 have hl:(asked.map V.bool).length=d:=by rw[Zd,b.l]
 have ea:=xg t (35,0) (asked.map .bool) (.bool bit) b.q.h (by rw[hl];exact Zi hd (Zp h6 (by decide)))
 have f1:Fr NW t (t.put (35,0) (.list (asked.map .bool++[.bool bit]))):=(Fr.refl _ _).put (l:=(35,0)) (Za (p:=11<=35) rfl) _
 have q1:Snap 35 0 ((asked++[bit]).map .bool) (t.put (35,0) (.list (asked.map .bool++[.bool bit]))):=⟨by rw[Qb];exact zl _ _ _,b.q.c⟩
 refine qw (ud (x:=.ref (35,0)) (s1:=t) rfl (jz b.q.h) (zf (eb t) rfl) ea) ?_
 generalize t.put (35,0) (.list (asked.map .bool++[.bool bit]))=t1 at f1 q1
 have A1:=b.A.step f1
 have hz:=b.z d (Zs _)
 have hl1:(asked++[bit]).length=d+1:=by rw[Zf,b.l];rfl
 have e2:ev prog (run prog (n+3)) (.sub (.loc 5) (.loc 6)) (iq l fi ks nc (some (.int d))) t1=.ok (.bool bit) t1:=by
  refine q6 (x:=.ref (35,0)) (y:=.int d) (s1:=t1) (s2:=t1) rfl rfl ((yh (qd q1.h) d (by rw[Zd,hl1];exact Zy _)).trans ?_)
  congr 1
  rw[List.getElem_map]
  have:∀ x,(asked++[bit])[d]?=some x->x=bit:=fun x hx=>by
   rcases gz hx with ⟨h,-⟩ | ⟨-,h⟩
   ·exact absurd b.l.symm h
   ·exact h
  exact Qd V.bool (this _ (Zl _))
 cases bit with
 | false =>
  refine zo (t:=false) e2 (zh (zv (k t1 W (asked++[false]) ⟨A1,b.R.mono (Nat.mul_le_mul_left 2 (Zw d)),b.h,hl1,fun i x hx=>?_,fun i hi=>b.z i (Nat.le_of_succ_le hi),q1⟩)))
  rcases gz hx with ⟨-,h⟩ | ⟨e,rfl⟩
  ·exact b.c i x h
  ·rw[e.trans b.l,hz];exact⟨rfl,rfl⟩
 | true =>
  obtain⟨q,hq,ek⟩:=ae K (d:Int)
  obtain⟨u,ec,Au,fu⟩:=zfr n A1 (b.R.nc_.symm▸hd) (b.R.room (zu6 hd h6)) (by rw[hz];rfl) (Qc hq) (decide ((d:Int).fmod 2=1))
  have eh:ev prog (run prog (n+3)) (.bin .mod (.loc 6) (.int 2)) (iq l fi ks nc (some (.int d))) t1=.ok (.int (hn (decide ((d:Int).fmod 2=1)))) t1:=Qd (fun q=>Res.ok (V.int q) t1) (zg3 (d:Int))
  refine zo (t:=true) e2 (qw (zt (x:=.ref (1,0)) (vs:=[.int d,.int (hn (decide ((d:Int).fmod 2=1))),.str ks[q],wv .get]) (s1:=t1) (s2:=t1) rfl ((zg A1.o).trans dp.w17) (zf (v:=.int d) rfl (zf eh (zf (ek rfl rfl) rfl))) ec) (zh (zv (k u _ (asked++[true]) ⟨Au,zrn b.R hd hz (Qc hq) _,b.h,hl1,fun i x hx=>?_,fun i hi=>?_,q1.step fu (Za (p:=¬ 35 < 11) rfl)⟩))))
  ·rcases gz hx with ⟨h1,h⟩ | ⟨e,rfl⟩
   ·rw[zal W (b.l▸h1)];exact b.c i x h
   ·rw[e.trans b.l,zsv,hz];exact⟨rfl,rfl⟩
  ·rw[zal W (Nat.ne_of_gt hi)];exact b.z i (Nat.le_of_succ_le hi)
theorem zb9 {key:Key}{r:Row}:∀ {ks:List Key},key∈ks->qb key (ks.map fun k=>(k,r))=some r
 | a::ks,h=>by
  rw[Zz,qb]
  by_cases e:a=key
  ·rw[Zg e]
  ·rw[Zh e];exact zb9 ((Zu.1 h).resolve_left fun q=>e q.symm)
theorem cr (nd:ks.Nodup) (h:W.h=(W0 ks nc).h) {key:Key} (hk:key∈ks) (b:Bool):qb key (W.h b).known=some (v6 (hn b)):=by
 rw[h]
 show qb key (HS.new (hn b) ks).known=_
 rw[mf _ nd];exact zb9 hk
theorem o9:(v6 (hn false)).st=.here:=by unfold v6;rfl
theorem zwm:¬ (v6 (hn true)).st=.here:=by unfold v6;decide
theorem da {x:HS}{key:Key}{r:Row} (h:qb key x.known=some r):x.has key=decide (r.st=.here):=by rw[HS.has,h]
noncomputable def MvI (W:WS) (ks:List Key) (kv:V):Prop:=∀ key,key∈ks->∃ b:Bool,(b=true↔jc W key=.none)/\∀ s,cmpOp .eq (.str key) kv s=.ok (.bool b) s
theorem zpk (nd:ks.Nodup) (h:W.h=(W0 ks nc).h):MvI W ks .none:=fun key hk=>⟨false,⟨fun q=>(nomatch q),fun q=>by
 rw[jc,da (cr nd h hk false),Zb o9,Zg rfl] at q;cases q⟩,fun ξ=>rfl⟩
theorem zpq (nd:ks.Nodup) (h:W.h=(W0 ks nc).h) {k0:Key} (hk0:k0∈ks):MvI {W with h:=upd W.h false ((W.h false).move k0 (v6 (hn false)))} ks (.str k0):=fun key hk=>by
 have e0:qb key ((W.h false).move k0 (v6 (hn false))).known=if key=k0 then some {v6 (hn false) with st:=.owes} else qb key (W.h false).known:=p0 k0 key _ _
 refine⟨decide (key=k0),?_,fun ξ=>rfl⟩
 have e1:jc {W with h:=upd W.h false ((W.h false).move k0 (v6 (hn false)))} key=if ((W.h false).move k0 (v6 (hn false))).has key then .int (W.h false).num else if (W.h true).has key then .int (W.h true).num else .none:=rfl
 rw[e1]
 by_cases e:key=k0
 ·rw[Zg e] at e0
  rw[da e0,da (cr nd h hk true),Zc (show ¬ St.owes=St.here from nofun),Zc zwm]
  exact⟨fun ξ=>rfl,fun ξ=>Zb e⟩
 ·rw[Zh e] at e0
  rw[da (e0.trans (cr nd h hk false)),Zb o9,Zg rfl]
  exact⟨fun q=>absurd (Za q) e,fun q=>nomatch q⟩
theorem zrj (nd:ks.Nodup) (h:W.h=(W0 ks nc).h):KO ks W:=fun key hk=>⟨false,.inl (by rw[jn (cr nd h hk false)];exact o9)⟩
theorem zq2 (nd:ks.Nodup) (h:W.h=(W0 ks nc).h) {k0:Key} (hk0:k0∈ks):KO ks {W with h:=upd W.h false ((W.h false).move k0 (v6 (hn false)))}:=fun key hk=>by
 have e0:qc ((W.h false).move k0 (v6 (hn false))).known key=if key=k0 then {v6 (hn false) with st:=.owes} else qc (W.h false).known key:=bo _ k0 key _
 by_cases e:key=k0
 ·refine⟨true,.inr ?_⟩
  show(qc ((W.h false).move k0 (v6 (hn false))).known key).st=.owes/\(qc (W.h true).known key).turn<=(qc ((W.h false).move k0 (v6 (hn false))).known key).turn
  rw[e0,Zg e,jn (cr nd h hk true)]
  exact⟨rfl,by unfold v6;decide⟩
 ·refine⟨false,.inl ?_⟩
  show(qc ((W.h false).move k0 (v6 (hn false))).known key).st=.here
  rw[e0,Zh e,jn (cr nd h hk false)];exact o9
theorem zpj (x:HS) (key:Key) (r:Row):hp (x.move key r)<=hp x+2:=by
 show(x.laid++[xx x.num key r]).length+x.fresh.length<=x.laid.length+x.fresh.length+2
 rw[Zf,Nat.add_right_comm];exact Zw _
structure Mid (ks:List Key) (nc:Nat) (W:WS) (y:Bool->HIx) (asked:List Bool) (kv:V) (odd:Bool) (j8:Nat) (t:MS):Prop where
 A:WAt t ks W y
 R:WI ks nc 13 W
 l:asked.length=nc
 c:zxc W asked
 q:Snap 35 0 (asked.map .bool) t
 q8:Snap 38 j8 [kv,.int W.post.length,.bool odd] t
 mv:MvI W ks kv
 ko:KO ks W
theorem Mid.nil {asked:List Bool}{kv:V}{odd:Bool}{j8:Nat} (a:Mid ks nc W y asked kv odd j8 s) (f:Fr Nil s t):Mid ks nc W y asked kv odd j8 t:=⟨a.A.step f.nw,a.R,a.l,a.c,a.q.nil f,a.q8.nil f,a.mv,a.ko⟩
theorem zjk (n:Nat) (K:KeysFine ks) (h6:nc<=6) {asked:List Bool} (b:B9 ks nc nc W y asked t) {l:List Int}{fi:Int}{a6:Option V} (k:∀ t' W' kv odd j8,Mid ks nc W' y asked kv odd j8 t'->OkR (exs prog (run prog (n+5)) (n+5) r (yx l fi ks nc a6 (some (.ref (38,j8))) none none none none none none) t') Q) :
  OkR (exs prog (run prog (n+5)) (n+5) (.assign 7 (.lstM 38 [.none,.prim .len [.meth (.loc 4) 19 []],.cmp (.bin .mod (.call 100 [.loc 0,.int 3]) (.int 3)) .eq (.int 1)])::.ite (.cmp (.bin .mod (.call 100 [.loc 0,.int 2]) (.int 2)) .eq (.int 1)) [.expr (.meth (.loc 4) 5 [.sub (.loc 2) (.int 0)]),.setitem (.loc 7) (.int 0) (.sub (.loc 2) (.int 0))] []::r) (iq l fi ks nc a6) t) Q:=by
 have R:=b.R.mono (z0o h6)
 have el:=pk wp rfl (n+4) b.A
 have f1:Fr Nil t (t.new 11 (.list (W.post.map z9))):=(Fr.refl _ _).new _ _
 have q1:=Snap.new t 11 (W.post.map z9)
 generalize t.new 11 (.list (W.post.map z9))=t1 at el f1 q1
 have ec:ev prog (run prog (n+5)) (.cmp (.bin .mod (.call 100 [.loc 0,.int 3]) (.int 3)) .eq (.int 1)) (iq l fi ks nc a6) t1=.ok (.bool (decide ((l.getD 3 0).fmod 3=1))) t1:=kq (x:=.int ((l.getD 3 0).fmod 3)) (s1:=t1) (jo (x:=.int (l.getD 3 0)) (s1:=t1) (qh (vs:=[.lst (l.map .int),.int 3]) rfl (wy p3 (n+4) l 3 t1)) rfl rfl) rfl rfl
 generalize decide ((l.getD 3 0).fmod 3=1)=odd at ec
 have f2:Fr Nil t1 (t1.new 38 (.list [.none,.int W.post.length,.bool odd])):=(Fr.refl _ _).new _ _
 have q2:=Snap.new t1 38 [.none,.int W.post.length,.bool odd]
 refine zk (v:=.ref (38,t1.cnt 38)) (s':=t1.new 38 (.list [.none,.int W.post.length,.bool odd])) (zj4 (vs:=[.none,.int W.post.length,.bool odd]) (zf (s1:=t) rfl (zf (xr (zf (zt (x:=.ref (1,0)) (vs:=[]) (s1:=t) (s2:=t) rfl ((zg b.A.o).trans dp.w19) rfl el) rfl) ((bc (qd q1.h)).trans (by rw[Zd]))) (zf ec rfl))) rfl) rfl ?_
 generalize t1.new 38 (.list [.none,.int W.post.length,.bool odd])=t2 at f2 q2
 generalize t1.cnt 38=j8 at q2
 have f12:=f1.trans f2
 have A2:=b.A.step f12.nw
 show OkR (exs prog _ _ _ (yx l fi ks nc a6 (some (.ref (38,j8))) none none none none none none) t2) _
 have em:ev prog (run prog (n+5)) (.cmp (.bin .mod (.call 100 [.loc 0,.int 2]) (.int 2)) .eq (.int 1)) (yx l fi ks nc a6 (some (.ref (38,j8))) none none none none none none) t2=.ok (.bool (decide ((l.getD 2 0).fmod 2=1))) t2:=kq (x:=.int ((l.getD 2 0).fmod 2)) (s1:=t2) (jo (x:=.int (l.getD 2 0)) (s1:=t2) (qh (vs:=[.lst (l.map .int),.int 2]) rfl (zhj p3 (n+4) l t2)) rfl rfl) rfl rfl
 cases hb:decide ((l.getD 2 0).fmod 2=1) with
 | false =>
  rw[hb] at em
  exact zo (t:=false) em (zh (k t2 W .none odd j8 ⟨A2,R.mono (by decide),b.l,b.c,b.q.nil f12,q2,zpk K.nd b.h,zrj K.nd b.h⟩))
 | true =>
  rw[hb] at em
  have hk0:ks[0]'K.pos∈ks:=Qc K.pos
  have ek:∀ u,ev prog (run prog (n+5)) (.sub (.loc 2) (.int 0)) (yx l fi ks nc a6 (some (.ref (38,j8))) none none none none none none) u=.ok (.str (ks[0]'K.pos)) u:=fun u=>q6 (x:=.lst (ks.map .str)) (y:=.int (0:Nat)) (s1:=u) (s2:=u) rfl rfl (znv K.pos u)
  generalize ks[0]'K.pos=k0 at hk0 ek
  obtain⟨xc,e1⟩:=dp.mov
  obtain⟨yc,e2⟩:=dp.hmo
  have hr:=cr K.nd b.h hk0 false
  have hv:jc W k0=.int (hn false):=by rw[jc,da hr,Zb o9,Zg rfl,(R.hi false).nu]
  refine zo (t:=true) em (jv (x3 (x:=.ref (1,0)) (vs:=[.str k0]) (s1:=t2) (s2:=t2) rfl ((zg A2.o).trans dp.w5) (zf (ek t2) rfl) (si wp hHP e2 dp.hom dp.w24 dp.h5 e1 (n+1) A2 hk0 false hv (hz R K (by decide) false) hr o9)) ?_)
  rintro v u ⟨rfl,Au,fu⟩
  have q3:=q2.step fu (Za (p:=¬ 38 < 11) rfl)
  refine x4 (ek u) (s2:=u) (s3:=u) rfl rfl (zae u (38,j8) _ 0 _ q3.h (by decide) (by show(0:Int) < ((3:Nat):Int);decide)) (zh (k _ _ (.str k0) odd j8 ⟨Au.step ((Fr.refl NW u).put (l:=(38,j8)) (Za (p:=11<=38) rfl) _),R.house false ((R.hi false).move hr hk0) (zpj _ _ _),b.l,b.c,?_,⟨zl _ _ _,q3.c⟩,zpq K.nd b.h hk0,zq2 K.nd b.h hk0⟩))
  have q35:=(b.q.nil f12).step fu (Za (p:=¬ 35 < 11) rfl)
  exact⟨(zm (zd (by decide))).trans q35.h,q35.c⟩
noncomputable def wayL:List Nat:=[0,1,2,3,4,5,6,7,8,9,10,11,12,13,0,0,0,1,3,11]
theorem zts:∀ w∈wayL,w < 14:=by decide
theorem zpr {q:Nat} (hq:q < 20) (s:MS):getItem (.lst (wayL.map fun (w:Nat)=>.int w)) (.int q) s=.ok (.int ((wayL[q]'hq:Nat):Int)) s :=
 (yh (a:=.lst (wayL.map fun (w:Nat)=>.int w)) (k:=true) (s:=s) rfl q (by rw[Zd];exact hq)).trans (by rw[List.getElem_map];rfl)
theorem wi (n k:Nat) {l:List Int}{L:Loc} (h0:ev prog (run prog (n+1)) (.loc 0) L t=.ok (.lst (l.map .int)) t):ev prog (run prog (n+1)) (.call 100 [.loc 0,.int k]) L t=.ok (.int (l.getD k 0)) t:=qh (zf h0 rfl) (wy p3 n l k t)
noncomputable def zr8 (odd:Bool) (aw:V):Prop:=(odd=false->∃ w,aw=wv w/\WOk w)/\(odd=true->Bad aw)
variable {asked:List Bool}{kv:V}{odd:Bool}{j8:Nat}{l:List Int}{fi:Int}{a6:Option V}
theorem zo3 (n:Nat) (k:∀ w:Nat,w < 14->OkR (exs prog (run prog (n+8)) (n+8) (f_law.body.drop 9) (yx l fi ks nc a6 (some (.ref (38,j8))) (some (.int w)) none none none none none) t) Q) :
  OkR (exs prog (run prog (n+8)) (n+8) (f_law.body.drop 8) (yx l fi ks nc a6 (some (.ref (38,j8))) none none none none none none) t) Q:=by
 obtain⟨q,hq,eq⟩:=w4 ((l.getD 2 0).fdiv 2) (N:=20) (by decide)
 exact zk (q6 (x:=.lst (wayL.map fun (w:Nat)=>.int w)) (y:=.int q) (s1:=t) (s2:=t) rfl (jo (x:=.int ((l.getD 2 0).fdiv 2)) (y:=.int 20) (s1:=t) (jo (x:=.int (l.getD 2 0)) (y:=.int 2) (s1:=t) (wi (n+7) 2 rfl) rfl rfl) rfl (Qd (fun q=>Res.ok (V.int q) t) eq)) (zpr hq t)) rfl (k _ (zts _ (Qc hq)))
theorem znt (n:Nat) {w:Nat} (M:Mid ks nc W y asked kv odd j8 t) (k:∀ aw,zr8 odd aw->OkR (exs prog (run prog (n+8)) (n+8) (f_law.body.drop 11) (yx l fi ks nc a6 (some (.ref (38,j8))) (some (.int w)) (some aw) none none none none) t) Q) :
  OkR (exs prog (run prog (n+8)) (n+8) (f_law.body.drop 9) (yx l fi ks nc a6 (some (.ref (38,j8))) (some (.int w)) none none none none none) t) Q:=by
 refine zk (qh (zf (wi (n+7) 6 rfl) rfl) (znh zuo (n+7) (l.getD 6 0) t)) rfl ?_
 have e2:∀ a9,ev prog (run prog (n+8)) (.sub (.loc 7) (.int 2)) (yx l fi ks nc a6 (some (.ref (38,j8))) (some (.int w)) a9 none none none none) t=.ok (.bool odd) t:=fun a9=>q6 (x:=.ref (38,j8)) (y:=.int (2:Nat)) (s1:=t) (s2:=t) rfl rfl (yh (qd M.q8.h) 2 (Za (p:=2 < 3) rfl))
 cases odd with
 | false=>exact zo (t:=false) (e2 _) (zh (k _ ⟨fun ξ=>⟨_,rfl,zo8 _⟩,fun q=>nomatch q⟩))
 | true =>
  obtain⟨v,hv,e⟩:=zp3 (n+7) (l.getD 6 0) t
  exact zo (t:=true) (e2 _) (zk (qh (zf (wi (n+7) 6 rfl) rfl) e) rfl (zh (k v ⟨fun q=>(nomatch q),fun ξ=>hv⟩)))
theorem zlb (n:Nat) {w:Nat}{aw:V} (M:Mid ks nc W y asked kv odd j8 t) (K:KeysFine ks) (k:∀ t' a1 a2 ak a5,CV a1->CV a2->KV t' ak->CV a5->Fr Nil t t'->OkR (exs prog (run prog (n+8)) (n+8) (f_law.body.drop 13) (yx l fi ks nc a6 (some (.ref (38,j8))) (some (.int w)) (some aw) (some (.lst [a1,a2,ak,aw,a5])) none none none) t') Q) :
  OkR (exs prog (run prog (n+8)) (n+8) (f_law.body.drop 11) (yx l fi ks nc a6 (some (.ref (38,j8))) (some (.int w)) (some aw) none none none none) t) Q:=by
 obtain⟨a1,h1,e1⟩:=pr (n+7) (l.getD 4 0) nc t
 obtain⟨a2,h2,e2⟩:=pr (n+7) (l.getD 5 0) 2 t
 obtain⟨ak,t',e3,h3,f⟩:=q9 (zos K (n+7) (l.getD 7 0) t)
 obtain⟨a5,h5,e5⟩:=pr (n+7) (l.getD 8 0) W.post.length t'
 have q8:=M.q8.nil f
 refine zk (v:=.lst [a1,a2]) (s':=t) (m6 (zf (qh (zf (wi (n+7) 4 rfl) (zf (v:=.int nc) rfl rfl)) e1) (zf (qh (zf (wi (n+7) 5 rfl) (zf (v:=.int 2) rfl rfl)) e2) rfl)) rfl) rfl ?_
 refine zk (v:=.lst [a1,a2,ak,aw,a5]) (s':=t') (jo (x:=.lst [a1,a2]) (y:=.lst [ak,aw,a5]) (s1:=t) (s2:=t') rfl (m6 (zf (qh (zf (wi (n+7) 7 rfl) (zf (v:=.lst (ks.map .str)) rfl rfl)) e3) (zf (v:=aw) rfl (zf (qh (zf (wi (n+7) 8 rfl) (zf (v:=.int W.post.length) ?_ rfl)) e5) rfl))) rfl) rfl) rfl ?_
 ·exact q6 (x:=.ref (38,j8)) (y:=.int (1:Nat)) (s1:=t') (s2:=t') rfl rfl (yh (qd q8.h) 1 (Za (p:=1 < 3) rfl))
 ·exact k t' a1 a2 ak a5 h1 h2 h3 h5 f
theorem ztc (M:Mid ks nc W y asked kv odd j8 t) (hn:W.nc=nc) (a1:V):∃ ask,(∀ i:Nat,i < W.nc->a1=.int i->ask=(W.c i).op.isSome)/\∀ i (h:i < asked.length),a1=.int i->asked[i]=ask:=by
 by_cases h:yf a1 nc
 ·obtain⟨i,hi,rfl⟩:=h
  have hl:i < asked.length:=by rw[M.l];exact hi
  have e:=M.c i _ (Zl hl)
  have inj:∀ j:Nat,V.int (i:Int)=.int j->j=i:=fun j q=>by
   have q:∀ {a b:Int},V.int a=.int b->a=b:=fun e=>by cases e;rfl
   exact(Int.ofNat.inj (q ‹_›)).symm
  exact⟨asked[i],fun j ξ q=>by rw[inj j q];exact e.1.symm,fun j hj q=>by cases inj j q;rfl⟩
 ·exact⟨false,fun i hi e=>absurd ⟨i,hn▸hi,e⟩ h,fun i hi e=>absurd ⟨i,M.l▸hi,e⟩ h⟩
theorem zu9 (M:MvI W ks kv) (ak:V):∃ mv:Bool,(∀ key,key∈ks->ak=.str key->(mv=true↔jc W key=.none))/\∀ key,key∈ks->ak=.str key->∀ s,cmpOp .eq (.str key) kv s=.ok (.bool mv) s:=by
 by_cases h:KIn ak ks
 ·obtain⟨key,hk,rfl⟩:=h
  obtain⟨b,h1,h2⟩:=M key hk
  exact⟨b,fun j ξ q=>by cases q;exact h1,fun j ξ q=>by cases q;exact h2⟩
 ·exact⟨false,fun key hk e=>absurd ⟨key,hk,e⟩ h,fun key hk e=>absurd ⟨key,hk,e⟩ h⟩
structure End9 (ks:List Key) (nc:Nat) (asked:List Bool) (r:List Nat) (W:WS) (y:Bool->HIx) (t:MS):Prop where
 A:WAt t ks W y
 n:W.nc=nc
 m:W.post.length+r.length<=20000
 c:∀ i∈r,i < nc/\(W.c i).op=none/\∃ b,asked[i]?=some b/\(W.c i).begun=b2i b
 nd:r.Nodup
 q:Snap 35 0 (asked.map .bool) t
noncomputable abbrev zsj:List S:=[.ite (.cmp (.meth (.loc 4) 17 [.loc 6,.int 0,.sub (.loc 2) (.int 0),.tup [.str [103,101,116]]]) .ne (.bin .add (.int 1) (.prim .int1 [.sub (.loc 5) (.loc 6)]))) [.ret (some (.bool false))] []]
theorem zmm (n:Nat) (K:KeysFine ks) (h6:nc<=6) {rr:List Nat}{a7 a8 a9 a10 a11 a12 a13:Option V} (E:End9 ks nc asked (i::rr) W y t) (k:∀ t' W',End9 ks nc asked rr W' y t'->Q (.next,yx l fi ks nc (some (.int i)) a7 a8 a9 a10 a11 a12 a13) t'):OkR (exs prog (run prog (n+3)) (n+3) zsj (yx l fi ks nc (some (.int i)) a7 a8 a9 a10 a11 a12 a13) t) Q:=by
 obtain⟨hi,ho,b,hb,hg⟩:=E.c i (Zm ..)
 obtain⟨u,ec,Au,fu⟩:=zfr n E.A (E.n.symm▸hi) (Z7 (Zp (Nat.le_add_right _ _) E.m) (by decide)) ho (Qc K.pos) false
 have q:=E.q.step fu (Za (p:=¬ 35 < 11) rfl)
 have hl:i < asked.length:=(List.getElem?_eq_some_iff.1 hb).1
 have eb:ev prog (run prog (n+3)) (.sub (.loc 5) (.loc 6)) (yx l fi ks nc (some (.int i)) a7 a8 a9 a10 a11 a12 a13) u=.ok (.bool b) u:=q6 (x:=.ref (35,0)) (y:=.int i) (s1:=u) (s2:=u) rfl rfl ((yh (qd q.h) i (by rw[Zd];exact hl)).trans (by rw[List.getElem_map,(List.getElem?_eq_some_iff.1 hb).2]))
 have ek:ev prog (run prog (n+3)) (.sub (.loc 2) (.int 0)) (yx l fi ks nc (some (.int i)) a7 a8 a9 a10 a11 a12 a13) t=.ok (.str (ks[0]'K.pos)) t:=q6 (x:=.lst (ks.map .str)) (y:=.int (0:Nat)) (s1:=t) (s2:=t) rfl rfl (znv K.pos t)
 refine zo (t:=false) (s':=u) (kq (x:=.int ((W.c i).begun+1)) (y:=.int (1+b2i b)) (s1:=u) (s2:=u) (zt (x:=.ref (1,0)) (vs:=[.int i,.int (hn false),.str (ks[0]'K.pos),wv .get]) (s1:=t) (s2:=t) rfl ((zg E.A.o).trans dp.w17) (zf (v:=.int i) (s1:=t) rfl (zf (v:=.int (hn false)) (s1:=t) rfl (zf ek rfl))) ec) (jo (x:=.int 1) (y:=.int (b2i b)) (s1:=u) (s2:=u) rfl (xr (zf eb rfl) rfl) rfl) ?_) (zh (zv (k u _ ⟨Au,E.n,Zp (Nat.le_of_eq ((Qd (·+rr.length) (Zf ..)).trans (Nat.succ_add_eq_add_succ _ _))) E.m,fun j hj=>?_,(List.nodup_cons.1 E.nd).2,q⟩)))
 ·rw[zv3,hg,Zb (Int.add_comm _ _)];rfl
 ·obtain⟨h1,h2⟩:=E.c j (Zk _ hj)
  have hne:j≠i:=fun e=>(List.nodup_cons.1 E.nd).1 (e▸hj)
  rw[zal W hne];exact⟨h1,h2⟩
theorem zop (n:Nat) (K:KeysFine ks) (h6:nc<=6) {a7 a8 a9 a10 a11 a12 a13:Option V} (E:End9 ks nc asked (List.range nc) W y t) (k:∀ L t',Q (.ret (.bool true),L) t'):OkR (exs prog (run prog (n+8)) (n+8) (f_law.body.drop 19) (yx l fi ks nc a6 a7 a8 a9 a10 a11 a12 a13) t) Q:=by
 show OkR (exs prog _ _ (.for_ (.inl (.loc 6)) true (.loc 3) zsj::[.ret (some (.bool true))]) _ t) _
 refine ku (v:=.int nc) (s':=t) rfl (nk t h6) rfl (xb (fun (i:Nat)=>V.int i) (fun a6=>yx l fi ks nc a6 a7 a8 a9 a10 a11 a12 a13) (fun r ξ t=>∃ W,End9 ks nc asked r W y t) (fun i r b t h=>⟨rfl,?_⟩) (fun b t h=>⟨rfl,?_⟩) (List.range nc) a6 t ⟨W,E⟩)
 ·obtain⟨W,h⟩:=h
  exact zmm (n+5) K h6 h fun t' W' h'=>⟨_,rfl,W',h'⟩
 ·rw[x9]
  exact zu (v:=.bool true) (s':=t) rfl (k _ _)
theorem zmx (n:Nat) {w:Nat}{a1 a2 ak aw a5:V} (M:Mid ks nc W y asked kv odd j8 t) (K:KeysFine ks) (h6:nc<=6) (hw:w < 14) (hi:zr8 odd aw) (h1:CV a1) (h2:CV a2) (hk:KV t ak) (h5:CV a5) (k:∀ L t',Q (.ret (.bool true),L) t'):OkR (exs prog (run prog (n+8)) (n+8) (f_law.body.drop 13) (yx l fi ks nc a6 (some (.ref (38,j8))) (some (.int w)) (some aw) (some (.lst [a1,a2,ak,aw,a5])) none none none) t) Q:=by
 have R:=M.R
 have hnc:=R.nc_
 obtain⟨tc,htc⟩:=dec (yf a1 W.nc)
 obtain⟨th,hth⟩:=dec (yf a2 2)
 obtain⟨tk,htk⟩:=dec (KIn ak ks)
 obtain⟨tp,htp⟩:=dec (yf a5 W.post.length)
 obtain⟨ask,ha1,ha2⟩:=ztc M hnc a1
 obtain⟨mv,hv1,hv2⟩:=zu9 M.mv ak
 have F:∀ s,WAt s ks W y->KV s ak->F9 s ks nc W y a1 a2 ak aw a5 tc th tk odd ask mv tp:=fun s A q=>⟨A,R,K,h6,h1,h2,q,h5,htc,hth,htk,hi.1,hi.2,ha1,hv1,htp⟩
 have D:D9 t ks W a1 ak odd ask mv asked kv j8:=⟨M.q.h,M.q8.h,M.l.trans hnc.symm,ha2,fun key hk e=>hv2 key hk e t⟩
 refine zk (qh (vs:=[.int w,.lst [a1,a2,ak,aw,a5],.lst (ks.map .str),.ref (35,0),.ref (38,j8)]) rfl (zqh (n+6) (F t M.A hk) D)) rfl ?_
 obtain⟨v,t1,e1,j,rfl,S1⟩:=q9 (tm (n+4) M.A R K h6)
 refine zk (qh (vs:=[.ref (1,0),.lst (ks.map .str),.int nc]) rfl e1) rfl ?_
 have sa:=zj9 (n+1) (F t1 S1.A (hk.step S1.f fun ξ q=>q)) w hw
 clear F D
 generalize zs0 w tc th tk odd ask mv tp=d at sa
 obtain⟨v,t2,e2,h⟩:=q9 (znw (n+7) sa)
 refine zk (qh (vs:=[.ref (1,0),.int w,.lst [a1,a2,ak,aw,a5]]) rfl e2) rfl ?_
 show OkR (exs prog _ _ _ (yx l fi ks nc a6 (some (.ref (38,j8))) (some (.int w)) (some aw) (some (.lst [a1,a2,ak,aw,a5])) (some (.int d)) (some (.ref (49,j))) (some v)) t2) _
 rcases h with ⟨rfl,rfl⟩ | ⟨rfl,i,hi8,rfl,rfl⟩
 ·exact zo (t:=true) (s':=t2) rfl (zu (v:=.bool true) (s':=t2) rfl (k _ _))
 ·obtain⟨v,t3,e3,j',rfl,S2⟩:=q9 (tm (n+4) S1.A R K h6)
  refine zo (t:=false) (s':=t2) (Qd (fun q=>Res.ok (V.bool q) t2) (Zc (Int.not_lt.2 (Int.natCast_nonneg i)))) (zh ?_)
  refine zo (t:=false) (s':=t3) (yk (zhs n (j:=i) rfl fun k=>zy6 (s1:=t2) rfl fun ξ=>rfl) (y0 (kq (x:=.ref (49,j')) (y:=.ref (49,j)) (s1:=t3) (s2:=t3) (qh (vs:=[.ref (1,0),.lst (ks.map .str),.int nc]) rfl e3) rfl (ze5 S1 S2)))) (zh ?_)
  refine jv (x3 (x:=.ref (1,0)) (vs:=[]) (s1:=t3) (s2:=t3) rfl (zg S2.A.o) rfl (zd9 wp hHP dp sp n S2.A K R M.ko h6)) ?_
  rintro v u ⟨fu,W',y',A',R',hS,hb⟩
  have hnc':=R'.nc_
  exact zop n K h6 ⟨A',hnc',by rw[Zx];exact Zp (Nat.add_le_add (Zp (Zp (Nat.le_add_right _ _) (Nat.le_add_right _ _)) R'.pl) h6) (by decide),fun i hi=>⟨List.mem_range.1 hi,hS.1 i (by rw[hnc'];exact List.mem_range.1 hi),_,Zl (by rw[M.l];exact List.mem_range.1 hi),(hb i).trans (M.c i _ (Zl _)).2⟩,List.nodup_range,((M.q.nil S1.f).nil S2.f).step fu (Za (p:=¬ 35 < 11) rfl)⟩ k
end
theorem law_ok (n:Nat) (l:List Int):OkR (run prog (n+9) 118 [.lst (l.map .int)] st0) fun v ξ=>v=.bool true:=by
 refine zj (fn:=f_law) rfl rfl ?_
 refine zk (qh (vs:=[.lst (l.map .int),.int 0]) rfl (zjr p3 (n+7) l st0)) rfl ?_
 generalize l.getD 0 0=fi
 refine zk (qh (vs:=[.int (fi-fi.fmod 6+1+fi.fmod 5)]) rfl (ziy ztp (n+7) _ st0)) rfl ?_
 have K:=zjb (fi-fi.fmod 6+1+fi.fmod 5)
 generalize dy (fi-fi.fmod 6+1+fi.fmod 5)=ks at K
 obtain⟨k0,hk0,ek⟩:=w4 (l.getD 1 0) (N:=6) (by decide)
 have e1:ev prog (run prog (n+8)) (.bin .add (.int 1) (.bin .mod (.call 100 [.loc 0,.int 1]) (.int 6))) [some (.lst (l.map .int)),some (.int fi),some (.lst (ks.map .str)),none,none,none,none,none,none,none,none,none,none,none,none] st0=.ok (.int (1+k0:Nat)) st0 :=
  jo (x:=.int 1) (y:=.int (l.getD 1 0 |>.fmod 6)) rfl (jo (x:=.int (l.getD 1 0)) (qh (vs:=[.lst (l.map .int),.int 1]) rfl (tz p3 (n+7) l st0)) rfl rfl) (Qd (fun q=>Res.ok (V.int q) st0) (by rw[show(6:Int)=((6:Nat):Int) from rfl,ek];omega))
 have h1:1<=1+k0:=by omega
 have h6:1+k0<=6:=by omega
 generalize 1+k0=nc at e1 h1 h6
 refine zk e1 rfl ?_
 refine zeq (zsy (vs:=[.lst (ks.map .str),.int nc]) (s1:=st0) rfl (zdb wp hHP rfl rfl rfl rfl rfl rfl rfl (n+5) K h1 h6 fun k hk=>rfl)) rfl ?_
 rintro v s2 ⟨rfl,⟨x,a2⟩,-,ck⟩
 have c35:s2.cnt 35=0:=ck 35 (by decide)
 refine zk (v:=.ref (35,s2.cnt 35)) (s':=s2.new 35 (.list [])) rfl rfl ?_
 have b0:B9 ks nc 0 (W0 ks nc) x [] (s2.new 35 (.list [])):=⟨a2.step ((Fr.refl _ _).new _ _),zst K.nd nc,rfl,rfl,fun i b h=>(nomatch h),fun i ξ=>rfl,c35▸Snap.new _ _ _⟩
 rw[c35]
 generalize s2.new 35 (.list [])=t at b0
 show OkR (exs prog _ _ _ (iq l fi ks nc none) t) _
 refine ku (v:=.int nc) (s':=t) rfl (nk t h6) rfl (xb (fun (i:Nat)=>V.int i) (fun a6=>iq l fi ks nc a6) (fun r ξ t=>∃ d W asked,d+r.length=nc/\r=List.range' d r.length/\B9 ks nc d W x asked t) (fun i r b t h=>⟨rfl,?_⟩) (fun b t h=>⟨rfl,?_⟩) (List.range nc) none t ⟨0,_,[],by rw[Zx,Nat.zero_add],by rw[Zx];exact List.range_eq_range',b0⟩)
 ·obtain⟨d,W,asked,hd,hr,B⟩:=h
  rw[Z4] at hd hr
  rw[List.range'_succ] at hr
  obtain⟨rfl,hr⟩:=List.cons.inj hr
  exact zlo (n+5) K h6 (hd▸Nat.lt_add_of_pos_right (Nat.succ_pos _)) B fun t' W' asked' B'=>⟨_,rfl,i+1,W',asked',(Nat.succ_add_eq_add_succ i _).trans hd,hr,B'⟩
 ·obtain⟨d,W,asked,hd,-,B⟩:=h
  rw[List.length_nil,Nat.add_zero] at hd
  subst hd
  rw[x9]
  exact zjk (n+3) K h6 B fun t' W' kv odd j8 M=>zo3 n fun w hw=>znt n M fun aw hi=>zlb n M K fun t'' a1 a2 ak a5 c1 c2 c3 c5 f=>zmx n (M.nil f) K h6 hw hi c1 c2 c3 c5 fun ξ ξ=>rfl
end Internal.L09
end
section
set_option tactic.hygienic true
open PySem PySem.W PyProof.Rows
set_option maxRecDepth 100000
set_option maxHeartbeats 8000000
namespace Internal.L09
noncomputable abbrev p:Program:=PySem.Challenge.rw_uf030007_09.row.prog
noncomputable def bd:List Stmt:=PySem.Challenge.pw_uf030007_09.main.body
noncomputable def zq (l:List Stmt) (i:Nat):Arguments×List Stmt×Scope:=match l[i]? with
 | some (.FunctionDef _ a b _ _ _ s _ _ _)=>(a,b,s)
 | _=>default
noncomputable def zi (l:List Stmt) (i:Nat):List Stmt:=match l[i]? with
 | some (.ClassDef _ _ _ b _ _ _ _ _ _ _)=>b
 | _=>[]
noncomputable def view:Program:={PySem.Challenge.pw_uf030007_09 with main:={PySem.Challenge.pw_uf030007_09.main with body:=([1,3,4,5,6,7,8,9,10,11,12,14,15,16,17,19,21,22,23,24,25,26,28,29,30,31,32,33,34,35,36,37,38,39]:List Nat).filterMap fun i=>bd[i]?}}
noncomputable def tE:Obj:={cls:=.type "tuple",data:=.seq #[]}
noncomputable def nE:Obj:={cls:=.none,data:=.fields #[]}
noncomputable def gO (n q:String) (f:Arguments×List Stmt×Scope):Obj:={cls:=.none,data:=.func {name:=Str.ofString n,qualname:=Str.ofString q,params:=f.1,body:=.stmts f.2.1,scope:=f.2.2,globals:=0,closure:=[],defaults:=.none,kwdefaults:=.none}}
noncomputable def fO (n q:String) (f:Arguments×List Stmt×Scope) (m:String) (t c:Nat):Obj:={cls:=.type "function",data:=.func {name:=Str.ofString n,qualname:=Str.ofString q,params:=f.1,body:=.stmts f.2.1,scope:=f.2.2,globals:=3,closure:=[],defaults:=.none,kwdefaults:=.none,pyModule:=.str (Str.ofString m) t,code:=.ref c}}
noncomputable def cfO (n q:String) (t k:Nat) (l na:Int) (a b c d e:Value):Obj:={cls:=.type "code",data:=.fields #[.str (Str.ofString n) t,.str (Str.ofString q) (t+1),.str "/claim/cut.py" (t+2),.int l 0,.int na 0,.int 0 0,.int 0 0,.int 3 0,a,.bool true,.int 181 0,b,.none,c,d,e,.int k 0,.int l 0,.str "/claim/cut.py" (k+1)]}
noncomputable def cO (n q:String) (t a k:Nat) (l na:Int):Obj:=cfO n q t k l na (.ref a) (.ref (a+1)) (.ref (a+2)) (.ref (a+3)) (.ref (a+4))
noncomputable def kO (n q:String) (t a k:Nat) (l na:Int):Obj:=cfO n q t k l na (.ref a) (.ref (a+1)) .none .none (.ref (a+2))
noncomputable def tSs:Nat->List String->List Value
 | _,[]=>[]
 | t,x::l=>.str (Str.ofString x) t::tSs (t+1) l
noncomputable def tS (t:Nat) (l:List String):Obj:={cls:=.type "tuple",data:=.seq ⟨tSs t l⟩}
noncomputable def eV (P:Params) (k:String) (t:Nat) (v:Value):DictEntry:={hash:=PyData.keyHash P (Str.ofString k),key:=.str (Str.ofString k) t,val:=v}
noncomputable def eR (P:Params) (k:String) (t a:Nat):DictEntry:=eV P k t (.ref a)
noncomputable def eS (P:Params) (k:String) (t:Nat) (x:String) (u:Nat):DictEntry:=eV P k t (.str (Str.ofString x) u)
noncomputable def dE (n:Nat) (l:List DictEntry):Obj:={cls:=.type "dict",data:=.dict ⟨l⟩ n}
noncomputable def pOs:List (Int×Int×Nat)->List Value
 | []=>[]
 | (x,y,z)::l=>.int x 0::.int y 0::.ref z::pOs l
noncomputable def pO (l:List (Int×Int×Nat)):Obj:={cls:=.none,data:=.fields ⟨pOs l⟩}
noncomputable def bfO (s:String) (v:Value):Obj:={cls:=.type "builtin_function_or_method",data:=.fields #[.builtin s,v]}
noncomputable def prO:Obj:=bfO "type.__prepare__" (.type "type")
noncomputable def isO (a:Nat):Obj:=bfO "object.__init_subclass__" (.ref a)
noncomputable def suO (a:Nat):Obj:={cls:=.type "super",data:=.fields #[.ref a,.ref a,.ref a]}
noncomputable def trO:Obj:={cls:=.type "tuple",data:=.seq #[.ref 80]}
noncomputable def frO (a b:Nat) (m:String) (t:Nat):Obj:={cls:=.type "frame",slots:=#[some (.ref a),some (.ref 3),some (.ref b),none,some (.str (Str.ofString m) t),none,some (.ref 0)]}
noncomputable def clO (n:String) (t:Nat) (l:Int) (a:Nat):Obj:={cls:=.type "code",data:=.fields #[.str (Str.ofString n) t,.str (Str.ofString n) (t+1),.str "/claim/cut.py" (t+2),.int l 0,.int 0 0,.int 0 0,.int 0 0,.int 0 0,.ref a,.bool false,.int 181 0,.ref (a+1),.none,.none,.none,.none,.int (t+3:Nat) 0,.int l 0,.str "/claim/cut.py" (t+4)]}
noncomputable def xcO (n:String) (a t:Nat):Obj:={cls:=.type "type",data:=.cls {name:=Str.ofString n,bases:=[.ref 80],mro:=[.ref (a+9),.ref 80,.type "ValueError",.type "Exception",.type "BaseException",.type "object"],ns:=a+8,qualname:=Str.ofString n},slots:=#[some (.ref a),none,some (.str (Str.ofString n) t),some (.str (Str.ofString n) (t+8)),some (.builtin "ValueError.__new__"),some (.bool true)]}
noncomputable def meO (l:List Value):Obj:={cls:=.type "type",data:=.cls {name:=Str.ofString "MoveError",bases:=[.type "ValueError"],mro:=[.ref 80,.type "ValueError",.type "Exception",.type "BaseException",.type "object"],ns:=79,qualname:=Str.ofString "MoveError",subclasses:=l},slots:=#[some (.ref 71),none,some (.str "MoveError" 264),some (.str "MoveError" 272),some (.builtin "ValueError.__new__"),some (.bool true)]}
noncomputable def d1O (P:Params) (n:String) (t:Nat) (l:Int) (a:Nat):Obj:=dE 4 [eS P "__module__" t "movehouse.errors" 262,eS P "__qualname__" (t+2) n (t+1),eV P "__firstlineno__" (t+4) (.int l (t+3)),eR P "__static_attributes__" (t+5) a]
noncomputable def d2O (P:Params) (t:Nat) (l:Int) (a:Nat):Obj:=dE 2 [eS P "__module__" t "movehouse.errors" 262,eV P "__firstlineno__" (t+4) (.int l (t+3)),eR P "__static_attributes__" (t+5) a,eV P "__doc__" (t+6) .none]
noncomputable def hp (P:Params):List Obj:=(boot_heap P).objs.toList
noncomputable def o13 (P:Params):Obj:={cls:=.type "code",data:=.fields #[.str "<module>" 182,.str "<module>" 183,.str "/claim/cut.py" 184,.int 1 0,.int 0 0,.int 0 0,.int 0 0,.int 0 0,.ref 11,.bool false,.int 181 0,.ref 12,.none,.none,.none,.none,.int 185 0,.int 1 0,.str "/claim/cut.py" 186]}
noncomputable def hpa (P:Params):List Obj:=(hp P)++[tE,nE,o13 P,frO 13 3 "__main__" 164]
noncomputable def Sa (w:World) (os:OsState):Shared:=⟨⟨⟨hpa w.params⟩,{ }⟩,#[],{ },187,os⟩
noncomputable def hpb (P:Params):List Obj:=(hpa P)
noncomputable def Sb (w:World) (os:OsState):Shared:=⟨⟨⟨hpb w.params⟩,{ }⟩,#[],{ },187,os⟩
noncomputable def env:Env:={scope:=p.main.scope,locals:=mainNs,globals:=mainNs,cells:=[],code:=Value.ref 13,frame:=some 14}
noncomputable def q:Pos:={line:=0,col:=0,endLine:=0,endCol:=0}
noncomputable def l0:List Stmt:=((behindTheImports p).drop 0).take 3
noncomputable def l1:List Stmt:=((behindTheImports p).drop 3).take 2
noncomputable def l2:List Stmt:=((behindTheImports p).drop 5).take 2
noncomputable def l3:List Stmt:=((behindTheImports p).drop 7).take 2
noncomputable def l4:List Stmt:=((behindTheImports p).drop 9).take 2
noncomputable def l5:List Stmt:=((behindTheImports p).drop 11).take 4
noncomputable def l6:List Stmt:=((behindTheImports p).drop 15).take 4
noncomputable def l7:List Stmt:=((behindTheImports p).drop 19).take 1
noncomputable def l8:List Stmt:=((behindTheImports p).drop 20).take 6
noncomputable def l9:List Stmt:=((behindTheImports p).drop 26).take 1
noncomputable def l10:List Stmt:=((behindTheImports p).drop 27).take 13
noncomputable def r11:List Stmt:=[]
noncomputable def r10:List Stmt:=l10++r11
noncomputable def r9:List Stmt:=l9++r10
noncomputable def r8:List Stmt:=l8++r9
noncomputable def r7:List Stmt:=l7++r8
noncomputable def r6:List Stmt:=l6++r7
noncomputable def r5:List Stmt:=l5++r6
noncomputable def r4:List Stmt:=l4++r5
noncomputable def r3:List Stmt:=l3++r4
noncomputable def r2:List Stmt:=l2++r3
noncomputable def r1:List Stmt:=l1++r2
noncomputable def r0:List Stmt:=l0++r1
noncomputable def cd:Code:=.body r0 env
noncomputable def zz0 (P:Params):List DictEntry:=[eS P "__name__" 165 "movehouse.errors" 262,eV P "__doc__" 166 .none,eV P "__package__" 167 .none,eV P "__loader__" 168 (.builtin "__main__.__loader__#opaque"),eV P "__spec__" 169 .none,eR P "__annotations__" 170 6,eR P "__builtins__" 171 4,eS P "__file__" 173 "/claim/cut.py" 172,eV P "__cached__" 174 .none,eR P "Caller" 261 66]
noncomputable def o17 (P:Params):Obj:=dE 10 [eS P "__module__" 196 "movehouse.callers" 187,eS P "__qualname__" 198 "Caller" 197,eV P "__firstlineno__" 200 (.int 2 199),eR P "__init__" 208 28,eR P "begin" 217 35,eR P "letter" 226 42,eR P "came" 235 49,eR P "asking" 242 56,eR P "answers" 249 63,eR P "__static_attributes__" 254 64]
noncomputable def o20 (P:Params):Obj:=clO "Caller" 191 2 18
noncomputable def o27 (P:Params):Obj:=cO "__init__" "Caller.__init__" 201 22 206 4 2
noncomputable def o28 (P:Params):Obj:=fO "__init__" "Caller.__init__" (zq (zi bd 1) 0) "movehouse.callers" 187 27
noncomputable def o34 (P:Params):Obj:=cO "begin" "Caller.begin" 209 29 215 10 3
noncomputable def o35 (P:Params):Obj:=fO "begin" "Caller.begin" (zq (zi bd 1) 1) "movehouse.callers" 187 34
noncomputable def o41 (P:Params):Obj:=cO "letter" "Caller.letter" 218 36 224 15 2
noncomputable def o42 (P:Params):Obj:=fO "letter" "Caller.letter" (zq (zi bd 1) 2) "movehouse.callers" 187 41
noncomputable def o48 (P:Params):Obj:=cO "came" "Caller.came" 227 43 233 19 3
noncomputable def o49 (P:Params):Obj:=fO "came" "Caller.came" (zq (zi bd 1) 3) "movehouse.callers" 187 48
noncomputable def o55 (P:Params):Obj:=cO "asking" "Caller.asking" 236 50 240 24 1
noncomputable def o56 (P:Params):Obj:=fO "asking" "Caller.asking" (zq (zi bd 1) 4) "movehouse.callers" 187 55
noncomputable def o62 (P:Params):Obj:=cO "answers" "Caller.answers" 243 57 247 27 1
noncomputable def o63 (P:Params):Obj:=fO "answers" "Caller.answers" (zq (zi bd 1) 5) "movehouse.callers" 187 62
noncomputable def o65 (P:Params):Obj:=dE 4 [eS P "__module__" 196 "movehouse.callers" 187,eV P "__firstlineno__" 200 (.int 2 199),eR P "__init__" 208 28,eR P "begin" 217 35,eR P "letter" 226 42,eR P "came" 235 49,eR P "asking" 242 56,eR P "answers" 249 63,eR P "__static_attributes__" 254 64,eR P "__dict__" 256 67,eR P "__weakref__" 258 68,eV P "__doc__" 259 .none]
noncomputable def o66 (P:Params):Obj:={cls:=.type "type",data:=.cls {name:=Str.ofString "Caller",bases:=[.type "object"],mro:=[.ref 66,.type "object"],ns:=65,qualname:=Str.ofString "Caller"},slots:=#[none,none,some (.str "Caller" 189),some (.str "Caller" 197),some (.builtin "object.__new__"),some (.bool true)]}
noncomputable def hp0 (P:Params):List Obj:=(((hpb P).set 3 (dE 10 (zz0 P))).set 12 (pO [(2,0,20)]))++[tE,prO,o17 P,tE,pO [(4,4,27),(10,4,34),(15,4,41),(19,4,48),(24,4,55),(27,4,62)],o20 P,frO 20 17 "movehouse.callers" 187,tE,nE,tS 204 ["self","number"],tE,gO "__init__" "Caller.__init__" (zq (zi bd 1) 0),o27 P,o28 P,tE,nE,tS 212 ["self","key","wish"],tE,gO "begin" "Caller.begin" (zq (zi bd 1) 1),o34 P,o35 P,tE,nE,tS 221 ["self","house","call"],tE,gO "letter" "Caller.letter" (zq (zi bd 1) 2),o41 P,o42 P,tE,nE,tS 230 ["self","number","told"],tE,gO "came" "Caller.came" (zq (zi bd 1) 3),o48 P,o49 P,tE,nE,tS 239 ["self"],tE,gO "asking" "Caller.asking" (zq (zi bd 1) 4),o55 P,o56 P,tE,nE,tS 246 ["self"],tE,gO "answers" "Caller.answers" (zq (zi bd 1) 5),o62 P,o63 P,tS 250 ["begun","closed","number","open_call"],o65 P,o66 P,{cls:=.type "getset_descriptor",data:=.fields #[.str "__dict__" 255,.ref 66,.builtin "function.__dict__",.builtin "function.__dict__#set"]},{cls:=.type "getset_descriptor",data:=.fields #[.str "__weakref__" 257,.ref 66,.builtin "ExceptionGroup.__weakref__",.none]},suO 66,isO 66]
noncomputable def S0 (w:World) (os:OsState):Shared:=⟨⟨⟨hp0 w.params⟩,{ }⟩,#[],{ },264,os⟩
noncomputable def zvk (P:Params):List DictEntry:=(zz0 P)++[eR P "MoveError" 281 80,eR P "BadWorld" 297 93]
noncomputable def o73 (P:Params):Obj:=d1O P "MoveError" 271 30 78
noncomputable def o76 (P:Params):Obj:=clO "MoveError" 266 30 74
noncomputable def o79 (P:Params):Obj:=dE 3 [eS P "__module__" 271 "movehouse.errors" 262,eV P "__firstlineno__" 275 (.int 30 274),eR P "__static_attributes__" 276 78,eR P "__weakref__" 278 81,eV P "__doc__" 279 .none]
noncomputable def o86 (P:Params):Obj:=d1O P "BadWorld" 289 32 91
noncomputable def o89 (P:Params):Obj:=clO "BadWorld" 284 32 87
noncomputable def o92 (P:Params):Obj:=d2O P 289 32 91
noncomputable def o93 (P:Params):Obj:=xcO "BadWorld" 84 282
noncomputable def hp1 (P:Params):List Obj:=(((hp0 P).set 3 (dE 12 (zvk P))).set 12 (pO [(2,0,20),(30,0,76),(32,0,89)]))++[{cls:=.type "tuple",data:=.seq #[.type "ValueError"]},prO,o73 P,tE,nE,o76 P,frO 76 73 "movehouse.errors" 262,tE,o79 P,meO [.ref 93],{cls:=.type "getset_descriptor",data:=.fields #[.str "__weakref__" 277,.ref 80,.builtin "ExceptionGroup.__weakref__",.none]},suO 80,isO 80,trO,prO,o86 P,tE,nE,o89 P,frO 89 86 "movehouse.errors" 262,tE,o92 P,o93 P,suO 93,isO 93]
noncomputable def S1 (w:World) (os:OsState):Shared:=⟨⟨⟨hp1 w.params⟩,{ }⟩,#[],{ },298,os⟩
noncomputable def zvy (P:Params):List DictEntry:=(zvk P)++[eR P "NoCaller" 313 105,eR P "NoHouse" 329 117]
noncomputable def o98 (P:Params):Obj:=d1O P "NoCaller" 305 34 103
noncomputable def zyw (P:Params):Obj:=clO "NoCaller" 300 34 99
noncomputable def zyd (P:Params):Obj:=d2O P 305 34 103
noncomputable def zvw (P:Params):Obj:=xcO "NoCaller" 96 298
noncomputable def zy5 (P:Params):Obj:=d1O P "NoHouse" 321 36 115
noncomputable def zve (P:Params):Obj:=clO "NoHouse" 316 36 111
noncomputable def zyn (P:Params):Obj:=d2O P 321 36 115
noncomputable def zwg (P:Params):Obj:=xcO "NoHouse" 108 314
noncomputable def hp2 (P:Params):List Obj:=((((hp1 P).set 3 (dE 14 (zvy P))).set 12 (pO [(2,0,20),(30,0,76),(32,0,89),(34,0,101),(36,0,113)])).set 80 (meO [.ref 93,.ref 105,.ref 117]))++[trO,prO,o98 P,tE,nE,zyw P,frO 101 98 "movehouse.errors" 262,tE,zyd P,zvw P,suO 105,isO 105,trO,prO,zy5 P,tE,nE,zve P,frO 113 110 "movehouse.errors" 262,tE,zyn P,zwg P,suO 117,isO 117]
noncomputable def S2 (w:World) (os:OsState):Shared:=⟨⟨⟨hp2 w.params⟩,{ }⟩,#[],{ },330,os⟩
noncomputable def zx6 (P:Params):List DictEntry:=(zvy P)++[eR P "NoKey" 345 129,eR P "BadWish" 361 141]
noncomputable def zwr (P:Params):Obj:=d1O P "NoKey" 337 38 127
noncomputable def zxg (P:Params):Obj:=clO "NoKey" 332 38 123
noncomputable def zx8 (P:Params):Obj:=d2O P 337 38 127
noncomputable def zuw (P:Params):Obj:=xcO "NoKey" 120 330
noncomputable def zxa (P:Params):Obj:=d1O P "BadWish" 353 40 139
noncomputable def zxk (P:Params):Obj:=clO "BadWish" 348 40 135
noncomputable def zz3 (P:Params):Obj:=d2O P 353 40 139
noncomputable def zwa (P:Params):Obj:=xcO "BadWish" 132 346
noncomputable def hp3 (P:Params):List Obj:=((((hp2 P).set 3 (dE 16 (zx6 P))).set 12 (pO [(2,0,20),(30,0,76),(32,0,89),(34,0,101),(36,0,113),(38,0,125),(40,0,137)])).set 80 (meO [.ref 93,.ref 105,.ref 117,.ref 129,.ref 141]))++[trO,prO,zwr P,tE,nE,zxg P,frO 125 122 "movehouse.errors" 262,tE,zx8 P,zuw P,suO 129,isO 129,trO,prO,zxa P,tE,nE,zxk P,frO 137 134 "movehouse.errors" 262,tE,zz3 P,zwa P,suO 141,isO 141]
noncomputable def S3 (w:World) (os:OsState):Shared:=⟨⟨⟨hp3 w.params⟩,{ }⟩,#[],{ },362,os⟩
noncomputable def zzy (P:Params):List DictEntry:=(zx6 P)++[eR P "Busy" 377 153,eR P "Idle" 393 165]
noncomputable def zx4 (P:Params):Obj:=d1O P "Busy" 369 42 151
noncomputable def zvv (P:Params):Obj:=clO "Busy" 364 42 147
noncomputable def zwh (P:Params):Obj:=d2O P 369 42 151
noncomputable def zxz (P:Params):Obj:=xcO "Busy" 144 362
noncomputable def zzu (P:Params):Obj:=d1O P "Idle" 385 44 163
noncomputable def zy0 (P:Params):Obj:=clO "Idle" 380 44 159
noncomputable def zvd (P:Params):Obj:=d2O P 385 44 163
noncomputable def zxb (P:Params):Obj:=xcO "Idle" 156 378
noncomputable def hp4 (P:Params):List Obj:=((((hp3 P).set 3 (dE 18 (zzy P))).set 12 (pO [(2,0,20),(30,0,76),(32,0,89),(34,0,101),(36,0,113),(38,0,125),(40,0,137),(42,0,149),(44,0,161)])).set 80 (meO [.ref 93,.ref 105,.ref 117,.ref 129,.ref 141,.ref 153,.ref 165]))++[trO,prO,zx4 P,tE,nE,zvv P,frO 149 146 "movehouse.errors" 262,tE,zwh P,zxz P,suO 153,isO 153,trO,prO,zzu P,tE,nE,zy0 P,frO 161 158 "movehouse.errors" 262,tE,zvd P,zxb P,suO 165,isO 165]
noncomputable def S4 (w:World) (os:OsState):Shared:=⟨⟨⟨hp4 w.params⟩,{ }⟩,#[],{ },394,os⟩
noncomputable def zwt (P:Params):List DictEntry:=((zzy P).set 0 (eS P "__name__" 165 "movehouse.desk" 426))++[eR P "NotHere" 409 177,eR P "NoLetter" 425 189,eV P "GREATEST" 431 (.int 1000000000000000000000000000000 430)]
noncomputable def o80 (P:Params):Obj:=meO [.ref 93,.ref 105,.ref 117,.ref 129,.ref 141,.ref 153,.ref 165,.ref 177,.ref 189]
noncomputable def zu3 (P:Params):Obj:=d1O P "NotHere" 401 46 175
noncomputable def zzz (P:Params):Obj:=clO "NotHere" 396 46 171
noncomputable def zyg (P:Params):Obj:=d2O P 401 46 175
noncomputable def zzv (P:Params):Obj:=xcO "NotHere" 168 394
noncomputable def zxl (P:Params):Obj:=d1O P "NoLetter" 417 48 187
noncomputable def zxy (P:Params):Obj:=clO "NoLetter" 412 48 183
noncomputable def zvf (P:Params):Obj:=d2O P 417 48 187
noncomputable def zxt (P:Params):Obj:=xcO "NoLetter" 180 410
noncomputable def hp5 (P:Params):List Obj:=((((hp4 P).set 3 (dE 21 (zwt P))).set 12 (pO [(2,0,20),(30,0,76),(32,0,89),(34,0,101),(36,0,113),(38,0,125),(40,0,137),(42,0,149),(44,0,161),(46,0,173),(48,0,185)])).set 80 (o80 P))++[trO,prO,zu3 P,tE,nE,zzz P,frO 173 170 "movehouse.errors" 262,tE,zyg P,zzv P,suO 177,isO 177,trO,prO,zxl P,tE,nE,zxy P,frO 185 182 "movehouse.errors" 262,tE,zvf P,zxt P,suO 189,isO 189]
noncomputable def S5 (w:World) (os:OsState):Shared:=⟨⟨⟨hp5 w.params⟩,{ }⟩,#[],{ },432,os⟩
noncomputable def zz2 (P:Params):List DictEntry:=((zwt P).set 0 (eS P "__name__" 165 "movehouse.houses" 454))++[eR P "is_whole" 438 198,eR P "need_wish" 445 205,eR P "done" 453 212]
noncomputable def zxp (P:Params):Obj:=cO "is_whole" "is_whole" 432 192 436 52 1
noncomputable def zwi (P:Params):Obj:=fO "is_whole" "is_whole" (zq bd 15) "movehouse.desk" 426 197
noncomputable def z0h (P:Params):Obj:=cO "need_wish" "need_wish" 439 199 443 54 1
noncomputable def zxn (P:Params):Obj:=fO "need_wish" "need_wish" (zq bd 16) "movehouse.desk" 426 204
noncomputable def z0a (P:Params):Obj:=cO "done" "done" 446 206 451 63 2
noncomputable def zu0 (P:Params):Obj:=fO "done" "done" (zq bd 17) "movehouse.desk" 426 211
noncomputable def hp6 (P:Params):List Obj:=(((hp5 P).set 3 (dE 24 (zz2 P))).set 12 (pO [(2,0,20),(30,0,76),(32,0,89),(34,0,101),(36,0,113),(38,0,125),(40,0,137),(42,0,149),(44,0,161),(46,0,173),(48,0,185),(52,0,197),(54,0,204),(63,0,211)]))++[tE,nE,tS 435 ["thing"],tE,gO "is_whole" "is_whole" (zq bd 15),zxp P,zwi P,tE,nE,tS 442 ["wish"],tE,gO "need_wish" "need_wish" (zq bd 16),z0h P,zxn P,tE,nE,tS 449 ["amount","wish"],tE,gO "done" "done" (zq bd 17),z0a P,zu0 P]
noncomputable def S6 (w:World) (os:OsState):Shared:=⟨⟨⟨hp6 w.params⟩,{ }⟩,#[],{ },456,os⟩
noncomputable def zys (P:Params):List DictEntry:=(zz2 P)++[eR P "House" 558 286]
noncomputable def z0m (P:Params):Obj:=dE 14 [eS P "__module__" 463 "movehouse.houses" 454,eS P "__qualname__" 465 "House" 464,eV P "__firstlineno__" 467 (.int 70 466),eR P "__init__" 477 226,eR P "has" 485 233,eR P "owes" 491 238,eR P "came" 500 245,eR P "called" 506 250,eR P "parcel" 515 257,eR P "move" 524 264,eR P "write" 532 271,eR P "sleep" 539 278,eR P "nudge" 545 283,eR P "__static_attributes__" 551 284]
noncomputable def zz9 (P:Params):Obj:=clO "House" 458 70 216
noncomputable def zyr (P:Params):Obj:=cO "__init__" "House.__init__" 468 220 475 72 3
noncomputable def zxj (P:Params):Obj:=fO "__init__" "House.__init__" (zq (zi bd 19) 0) "movehouse.houses" 454 225
noncomputable def zy4 (P:Params):Obj:=cO "has" "House.has" 478 227 483 83 2
noncomputable def zyp (P:Params):Obj:=fO "has" "House.has" (zq (zi bd 19) 1) "movehouse.houses" 454 232
noncomputable def zy2 (P:Params):Obj:=kO "owes" "House.owes" 486 234 489 86 1
noncomputable def zx1 (P:Params):Obj:=fO "owes" "House.owes" (zq (zi bd 19) 2) "movehouse.houses" 454 237
noncomputable def zw2 (P:Params):Obj:=cO "came" "House.came" 492 239 498 89 2
noncomputable def zzb (P:Params):Obj:=fO "came" "House.came" (zq (zi bd 19) 3) "movehouse.houses" 454 244
noncomputable def zvx (P:Params):Obj:=kO "called" "House.called" 501 246 504 102 5
noncomputable def z0e (P:Params):Obj:=fO "called" "House.called" (zq (zi bd 19) 4) "movehouse.houses" 454 249
noncomputable def zv1 (P:Params):Obj:=cO "parcel" "House.parcel" 507 251 513 116 3
noncomputable def zyb (P:Params):Obj:=fO "parcel" "House.parcel" (zq (zi bd 19) 5) "movehouse.houses" 454 256
noncomputable def zzn (P:Params):Obj:=cO "move" "House.move" 516 258 522 119 2
noncomputable def zwv (P:Params):Obj:=fO "move" "House.move" (zq (zi bd 19) 6) "movehouse.houses" 454 263
noncomputable def zyq (P:Params):Obj:=cO "write" "House.write" 525 265 530 126 1
noncomputable def zz4 (P:Params):Obj:=fO "write" "House.write" (zq (zi bd 19) 7) "movehouse.houses" 454 270
noncomputable def zyf (P:Params):Obj:=cO "sleep" "House.sleep" 533 272 537 133 1
noncomputable def zzo (P:Params):Obj:=fO "sleep" "House.sleep" (zq (zi bd 19) 8) "movehouse.houses" 454 277
noncomputable def zzp (P:Params):Obj:=kO "nudge" "House.nudge" 540 279 543 138 1
noncomputable def zx0 (P:Params):Obj:=fO "nudge" "House.nudge" (zq (zi bd 19) 9) "movehouse.houses" 454 282
noncomputable def zzx (P:Params):Obj:=dE 4 [eS P "__module__" 463 "movehouse.houses" 454,eV P "__firstlineno__" 467 (.int 70 466),eR P "__init__" 477 226,eR P "has" 485 233,eR P "owes" 491 238,eR P "came" 500 245,eR P "called" 506 250,eR P "parcel" 515 257,eR P "move" 524 264,eR P "write" 532 271,eR P "sleep" 539 278,eR P "nudge" 545 283,eR P "__static_attributes__" 551 284,eR P "__dict__" 553 287,eR P "__weakref__" 555 288,eV P "__doc__" 556 .none]
noncomputable def zvh (P:Params):Obj:={cls:=.type "type",data:=.cls {name:=Str.ofString "House",bases:=[.type "object"],mro:=[.ref 286,.type "object"],ns:=285,qualname:=Str.ofString "House"},slots:=#[none,none,some (.str "House" 456),some (.str "House" 464),some (.builtin "object.__new__"),some (.bool true)]}
noncomputable def hp7 (P:Params):List Obj:=(((hp6 P).set 3 (dE 25 (zys P))).set 12 (pO [(2,0,20),(30,0,76),(32,0,89),(34,0,101),(36,0,113),(38,0,125),(40,0,137),(42,0,149),(44,0,161),(46,0,173),(48,0,185),(52,0,197),(54,0,204),(63,0,211),(70,0,218)]))++[tE,prO,z0m P,tE,pO [(72,4,225),(83,4,232),(86,4,237),(89,4,244),(102,4,249),(116,4,256),(119,4,263),(126,4,270),(133,4,277),(138,4,282)],zz9 P,frO 218 215 "movehouse.houses" 454,tE,nE,tS 471 ["self","number","keys","key"],tE,gO "__init__" "House.__init__" (zq (zi bd 19) 0),zyr P,zxj P,tE,nE,tS 481 ["self","key"],tE,gO "has" "House.has" (zq (zi bd 19) 1),zy4 P,zyp P,tE,nE,gO "owes" "House.owes" (zq (zi bd 19) 2),zy2 P,zx1 P,tE,nE,tS 495 ["self","letter","one"],tE,gO "came" "House.came" (zq (zi bd 19) 3),zw2 P,zzb P,tE,nE,gO "called" "House.called" (zq (zi bd 19) 4),zvx P,z0e P,tE,nE,tS 510 ["self","key","one"],tE,gO "parcel" "House.parcel" (zq (zi bd 19) 5),zv1 P,zyb P,tE,nE,tS 519 ["self","key","one"],tE,gO "move" "House.move" (zq (zi bd 19) 6),zzn P,zwv P,tE,nE,tS 528 ["self","found"],tE,gO "write" "House.write" (zq (zi bd 19) 7),zyq P,zz4 P,tE,nE,tS 536 ["self"],tE,gO "sleep" "House.sleep" (zq (zi bd 19) 8),zyf P,zzo P,tE,nE,gO "nudge" "House.nudge" (zq (zi bd 19) 9),zzp P,zx0 P,tS 546 ["fresh","known","laid","number","written"],zzx P,zvh P,{cls:=.type "getset_descriptor",data:=.fields #[.str "__dict__" 552,.ref 286,.builtin "function.__dict__",.builtin "function.__dict__#set"]},{cls:=.type "getset_descriptor",data:=.fields #[.str "__weakref__" 554,.ref 286,.builtin "ExceptionGroup.__weakref__",.none]},suO 286,isO 286]
noncomputable def S7 (w:World) (os:OsState):Shared:=⟨⟨⟨hp7 w.params⟩,{ }⟩,#[],{ },559,os⟩
noncomputable def zxr (P:Params):List DictEntry:=((zys P).set 0 (eS P "__name__" 165 "movehouse.world" 559))++[eS P "LETTERS" 562 "abcdefghijklmnopqrstuvwxyz" 561,eV P "MOST" 564 (.int 6 563),eV P "LONGEST" 566 (.int 8 565),eR P "is_key" 574 297,eR P "need_world" 583 304]
noncomputable def zyj (P:Params):Obj:=cO "is_key" "is_key" 567 291 572 144 1
noncomputable def zux (P:Params):Obj:=fO "is_key" "is_key" (zq bd 24) "movehouse.world" 559 296
noncomputable def zzr (P:Params):Obj:=cO "need_world" "need_world" 575 298 581 151 2
noncomputable def zw7 (P:Params):Obj:=fO "need_world" "need_world" (zq bd 25) "movehouse.world" 559 303
noncomputable def hp8 (P:Params):List Obj:=(((hp7 P).set 3 (dE 30 (zxr P))).set 12 (pO [(2,0,20),(30,0,76),(32,0,89),(34,0,101),(36,0,113),(38,0,125),(40,0,137),(42,0,149),(44,0,161),(46,0,173),(48,0,185),(52,0,197),(54,0,204),(63,0,211),(70,0,218),(144,0,296),(151,0,303)]))++[tE,nE,tS 570 ["thing","sign"],tE,gO "is_key" "is_key" (zq bd 24),zyj P,zux P,tE,nE,tS 578 ["keys","callers","k"],tE,gO "need_world" "need_world" (zq bd 25),zzr P,zw7 P]
noncomputable def S8 (w:World) (os:OsState):Shared:=⟨⟨⟨hp8 w.params⟩,{ }⟩,#[],{ },584,os⟩
noncomputable def zy1 (P:Params):List DictEntry:=(zxr P)++[eR P "World" 815 487]
noncomputable def zzw (P:Params):Obj:=dE 29 [eS P "__module__" 591 "movehouse.world" 559,eS P "__qualname__" 593 "World" 592,eV P "__firstlineno__" 595 (.int 159 594),eR P "__init__" 601 316,eR P "need_caller" 609 323,eR P "need_house" 617 330,eR P "need_key" 625 337,eR P "need_place" 633 344,eR P "call" 645 351,eR P "again" 654 358,eR P "letters" 661 365,eR P "brought" 669 372,eR P "hand" 677 379,eR P "twice" 685 386,eR P "lose" 693 393,eR P "home" 702 400,eR P "move" 711 407,eR P "has" 720 414,eR P "write" 729 421,eR P "sleep" 737 428,eR P "nudge" 745 435,eR P "ledger" 752 442,eR P "asking" 760 449,eR P "answers" 768 456,eR P "owes" 776 463,eR P "is_settled" 784 470,eR P "one_round" 794 477,eR P "settle" 802 484,eR P "__static_attributes__" 808 485]
noncomputable def zxf (P:Params):Obj:=clO "World" 586 159 308
noncomputable def zv4 (P:Params):Obj:=kO "__init__" "World.__init__" 596 312 599 161 3
noncomputable def zu2 (P:Params):Obj:=fO "__init__" "World.__init__" (zq (zi bd 26) 0) "movehouse.world" 559 315
noncomputable def z0b (P:Params):Obj:=cO "need_caller" "World.need_caller" 602 317 607 169 2
noncomputable def zw3 (P:Params):Obj:=fO "need_caller" "World.need_caller" (zq (zi bd 26) 1) "movehouse.world" 559 322
noncomputable def zyx (P:Params):Obj:=cO "need_house" "World.need_house" 610 324 615 173 2
noncomputable def zxi (P:Params):Obj:=fO "need_house" "World.need_house" (zq (zi bd 26) 2) "movehouse.world" 559 329
noncomputable def zws (P:Params):Obj:=cO "need_key" "World.need_key" 618 331 623 177 2
noncomputable def zwo (P:Params):Obj:=fO "need_key" "World.need_key" (zq (zi bd 26) 3) "movehouse.world" 559 336
noncomputable def zvo (P:Params):Obj:=cO "need_place" "World.need_place" 626 338 631 181 2
noncomputable def zvq (P:Params):Obj:=fO "need_place" "World.need_place" (zq (zi bd 26) 4) "movehouse.world" 559 343
noncomputable def zzd (P:Params):Obj:=cO "call" "World.call" 634 345 643 185 5
noncomputable def zyy (P:Params):Obj:=fO "call" "World.call" (zq (zi bd 26) 5) "movehouse.world" 559 350
noncomputable def zwj (P:Params):Obj:=cO "again" "World.again" 646 352 652 196 3
noncomputable def zvg (P:Params):Obj:=fO "again" "World.again" (zq (zi bd 26) 6) "movehouse.world" 559 357
noncomputable def zw0 (P:Params):Obj:=cO "letters" "World.letters" 655 359 659 203 1
noncomputable def zwb (P:Params):Obj:=fO "letters" "World.letters" (zq (zi bd 26) 7) "movehouse.world" 559 364
noncomputable def zvs (P:Params):Obj:=cO "brought" "World.brought" 662 366 667 206 2
noncomputable def zv2 (P:Params):Obj:=fO "brought" "World.brought" (zq (zi bd 26) 8) "movehouse.world" 559 371
noncomputable def zvp (P:Params):Obj:=cO "hand" "World.hand" 670 373 675 212 2
noncomputable def zzm (P:Params):Obj:=fO "hand" "World.hand" (zq (zi bd 26) 9) "movehouse.world" 559 378
noncomputable def zxx (P:Params):Obj:=cO "twice" "World.twice" 678 380 683 216 2
noncomputable def zze (P:Params):Obj:=fO "twice" "World.twice" (zq (zi bd 26) 10) "movehouse.world" 559 385
noncomputable def z0n (P:Params):Obj:=cO "lose" "World.lose" 686 387 691 220 2
noncomputable def zvm (P:Params):Obj:=fO "lose" "World.lose" (zq (zi bd 26) 11) "movehouse.world" 559 392
noncomputable def zyk (P:Params):Obj:=cO "home" "World.home" 694 394 700 224 2
noncomputable def zxv (P:Params):Obj:=fO "home" "World.home" (zq (zi bd 26) 12) "movehouse.world" 559 399
noncomputable def zvr (P:Params):Obj:=cO "move" "World.move" 703 401 709 231 2
noncomputable def zy9 (P:Params):Obj:=fO "move" "World.move" (zq (zi bd 26) 13) "movehouse.world" 559 406
noncomputable def zz5 (P:Params):Obj:=cO "has" "World.has" 712 408 718 237 3
noncomputable def zx7 (P:Params):Obj:=fO "has" "World.has" (zq (zi bd 26) 14) "movehouse.world" 559 413
noncomputable def zyz (P:Params):Obj:=cO "write" "World.write" 721 415 727 242 2
noncomputable def zz8 (P:Params):Obj:=fO "write" "World.write" (zq (zi bd 26) 15) "movehouse.world" 559 420
noncomputable def z0j (P:Params):Obj:=cO "sleep" "World.sleep" 730 422 735 248 2
noncomputable def zzk (P:Params):Obj:=fO "sleep" "World.sleep" (zq (zi bd 26) 16) "movehouse.world" 559 427
noncomputable def zw5 (P:Params):Obj:=cO "nudge" "World.nudge" 738 429 743 252 2
noncomputable def z0c (P:Params):Obj:=fO "nudge" "World.nudge" (zq (zi bd 26) 17) "movehouse.world" 559 434
noncomputable def zww (P:Params):Obj:=cO "ledger" "World.ledger" 746 436 750 256 1
noncomputable def zxe (P:Params):Obj:=fO "ledger" "World.ledger" (zq (zi bd 26) 18) "movehouse.world" 559 441
noncomputable def zw4 (P:Params):Obj:=cO "asking" "World.asking" 753 443 758 259 2
noncomputable def zzf (P:Params):Obj:=fO "asking" "World.asking" (zq (zi bd 26) 19) "movehouse.world" 559 448
noncomputable def zyl (P:Params):Obj:=cO "answers" "World.answers" 761 450 766 263 2
noncomputable def zvz (P:Params):Obj:=fO "answers" "World.answers" (zq (zi bd 26) 20) "movehouse.world" 559 455
noncomputable def zzg (P:Params):Obj:=cO "owes" "World.owes" 769 457 774 267 2
noncomputable def zxo (P:Params):Obj:=fO "owes" "World.owes" (zq (zi bd 26) 21) "movehouse.world" 559 462
noncomputable def zvu (P:Params):Obj:=cO "is_settled" "World.is_settled" 777 464 782 271 1
noncomputable def zu7 (P:Params):Obj:=fO "is_settled" "World.is_settled" (zq (zi bd 26) 22) "movehouse.world" 559 469
noncomputable def zwq (P:Params):Obj:=cO "one_round" "World.one_round" 785 471 792 277 1
noncomputable def zx2 (P:Params):Obj:=fO "one_round" "World.one_round" (zq (zi bd 26) 23) "movehouse.world" 559 476
noncomputable def zwe (P:Params):Obj:=cO "settle" "World.settle" 795 478 800 289 1
noncomputable def zxw (P:Params):Obj:=fO "settle" "World.settle" (zq (zi bd 26) 24) "movehouse.world" 559 483
noncomputable def zzs (P:Params):Obj:=dE 4 [eS P "__module__" 591 "movehouse.world" 559,eV P "__firstlineno__" 595 (.int 159 594),eR P "__init__" 601 316,eR P "need_caller" 609 323,eR P "need_house" 617 330,eR P "need_key" 625 337,eR P "need_place" 633 344,eR P "call" 645 351,eR P "again" 654 358,eR P "letters" 661 365,eR P "brought" 669 372,eR P "hand" 677 379,eR P "twice" 685 386,eR P "lose" 693 393,eR P "home" 702 400,eR P "move" 711 407,eR P "has" 720 414,eR P "write" 729 421,eR P "sleep" 737 428,eR P "nudge" 745 435,eR P "ledger" 752 442,eR P "asking" 760 449,eR P "answers" 768 456,eR P "owes" 776 463,eR P "is_settled" 784 470,eR P "one_round" 794 477,eR P "settle" 802 484,eR P "__static_attributes__" 808 485,eR P "__dict__" 810 488,eR P "__weakref__" 812 489,eV P "__doc__" 813 .none]
noncomputable def zwp (P:Params):Obj:={cls:=.type "type",data:=.cls {name:=Str.ofString "World",bases:=[.type "object"],mro:=[.ref 487,.type "object"],ns:=486,qualname:=Str.ofString "World"},slots:=#[none,none,some (.str "World" 584),some (.str "World" 592),some (.builtin "object.__new__"),some (.bool true)]}
noncomputable def hp9 (P:Params):List Obj:=(((hp8 P).set 3 (dE 31 (zy1 P))).set 12 (pO [(2,0,20),(30,0,76),(32,0,89),(34,0,101),(36,0,113),(38,0,125),(40,0,137),(42,0,149),(44,0,161),(46,0,173),(48,0,185),(52,0,197),(54,0,204),(63,0,211),(70,0,218),(144,0,296),(151,0,303),(159,0,310)]))++[tE,prO,zzw P,tE,pO [(161,4,315),(169,4,322),(173,4,329),(177,4,336),(181,4,343),(185,4,350),(196,4,357),(203,4,364),(206,4,371),(212,4,378),(216,4,385),(220,4,392),(224,4,399),(231,4,406),(237,4,413),(242,4,420),(248,4,427),(252,4,434),(256,4,441),(259,4,448),(263,4,455),(267,4,462),(271,4,469),(277,4,476),(289,4,483)],zxf P,frO 310 307 "movehouse.world" 559,tE,nE,gO "__init__" "World.__init__" (zq (zi bd 26) 0),zv4 P,zu2 P,tE,nE,tS 605 ["self","caller"],tE,gO "need_caller" "World.need_caller" (zq (zi bd 26) 1),z0b P,zw3 P,tE,nE,tS 613 ["self","house"],tE,gO "need_house" "World.need_house" (zq (zi bd 26) 2),zyx P,zxi P,tE,nE,tS 621 ["self","key"],tE,gO "need_key" "World.need_key" (zq (zi bd 26) 3),zws P,zwo P,tE,nE,tS 629 ["self","place"],tE,gO "need_place" "World.need_place" (zq (zi bd 26) 4),zvo P,zvq P,tE,nE,tS 637 ["self","caller","house","key","wish","number"],tE,gO "call" "World.call" (zq (zi bd 26) 5),zzd P,zyy P,tE,nE,tS 649 ["self","caller","house"],tE,gO "again" "World.again" (zq (zi bd 26) 6),zwj P,zvg P,tE,nE,tS 658 ["self"],tE,gO "letters" "World.letters" (zq (zi bd 26) 7),zw0 P,zwb P,tE,nE,tS 665 ["self","letter"],tE,gO "brought" "World.brought" (zq (zi bd 26) 8),zvs P,zv2 P,tE,nE,tS 673 ["self","place"],tE,gO "hand" "World.hand" (zq (zi bd 26) 9),zvp P,zzm P,tE,nE,tS 681 ["self","place"],tE,gO "twice" "World.twice" (zq (zi bd 26) 10),zxx P,zze P,tE,nE,tS 689 ["self","place"],tE,gO "lose" "World.lose" (zq (zi bd 26) 11),z0n P,zvm P,tE,nE,tS 697 ["self","key","house"],tE,gO "home" "World.home" (zq (zi bd 26) 12),zyk P,zxv P,tE,nE,tS 706 ["self","key","home"],tE,gO "move" "World.move" (zq (zi bd 26) 13),zvr P,zy9 P,tE,nE,tS 715 ["self","house","key"],tE,gO "has" "World.has" (zq (zi bd 26) 14),zz5 P,zx7 P,tE,nE,tS 724 ["self","house","found"],tE,gO "write" "World.write" (zq (zi bd 26) 15),zyz P,zz8 P,tE,nE,tS 733 ["self","house"],tE,gO "sleep" "World.sleep" (zq (zi bd 26) 16),z0j P,zzk P,tE,nE,tS 741 ["self","house"],tE,gO "nudge" "World.nudge" (zq (zi bd 26) 17),zw5 P,z0c P,tE,nE,tS 749 ["self"],tE,gO "ledger" "World.ledger" (zq (zi bd 26) 18),zww P,zxe P,tE,nE,tS 756 ["self","caller"],tE,gO "asking" "World.asking" (zq (zi bd 26) 19),zw4 P,zzf P,tE,nE,tS 764 ["self","caller"],tE,gO "answers" "World.answers" (zq (zi bd 26) 20),zyl P,zvz P,tE,nE,tS 772 ["self","house"],tE,gO "owes" "World.owes" (zq (zi bd 26) 21),zzg P,zxo P,tE,nE,tS 780 ["self","caller"],tE,gO "is_settled" "World.is_settled" (zq (zi bd 26) 22),zvu P,zu7 P,tE,nE,tS 788 ["self","house","caller","k"],tE,gO "one_round" "World.one_round" (zq (zi bd 26) 23),zwq P,zx2 P,tE,nE,tS 798 ["self","rounds"],tE,gO "settle" "World.settle" (zq (zi bd 26) 24),zwe P,zxw P,tS 803 ["all_keys","callers","houses","post","rows"],zzs P,zwp P,{cls:=.type "getset_descriptor",data:=.fields #[.str "__dict__" 809,.ref 487,.builtin "function.__dict__",.builtin "function.__dict__#set"]},{cls:=.type "getset_descriptor",data:=.fields #[.str "__weakref__" 811,.ref 487,.builtin "ExceptionGroup.__weakref__",.none]},suO 487,isO 487]
noncomputable def S9 (w:World) (os:OsState):Shared:=⟨⟨⟨hp9 w.params⟩,{ }⟩,#[],{ },816,os⟩
noncomputable def zw8 (P:Params):List DictEntry:=((zy1 P).set 0 (eS P "__name__" 165 "law_uf030007_09" 816))++[eR P "_law_cell_at" 825 498,eR P "_law_wish" 833 505,eR P "_law_keys" 839 510,eR P "_law_act" 852 517,eR P "_law_said" 863 524,eR P "_law_count" 872 531,eR P "_law_key" 881 538,eR P "_law_odd" 890 545,eR P "_law_there" 898 552,eR P "_law_due" 914 559,eR P "_law_state" 926 566,eR P "law" 932 571]
noncomputable def o3 (P:Params):Obj:=dE 43 (zw8 P)
noncomputable def zxh (P:Params):Obj:=cO "_law_cell_at" "_law_cell_at" 818 492 823 296 2
noncomputable def zu5 (P:Params):Obj:=fO "_law_cell_at" "_law_cell_at" (zq bd 28) "law_uf030007_09" 816 497
noncomputable def zxs (P:Params):Obj:=cO "_law_wish" "_law_wish" 826 499 831 300 1
noncomputable def zyi (P:Params):Obj:=fO "_law_wish" "_law_wish" (zq bd 29) "law_uf030007_09" 816 504
noncomputable def zy3 (P:Params):Obj:=kO "_law_keys" "_law_keys" 834 506 837 305 1
noncomputable def zv8 (P:Params):Obj:=fO "_law_keys" "_law_keys" (zq bd 30) "law_uf030007_09" 816 509
noncomputable def zwu (P:Params):Obj:=cO "_law_act" "_law_act" 840 511 850 315 7
noncomputable def z0p (P:Params):Obj:=fO "_law_act" "_law_act" (zq bd 31) "law_uf030007_09" 816 516
noncomputable def zz1 (P:Params):Obj:=cO "_law_said" "_law_said" 853 518 861 343 3
noncomputable def zu1 (P:Params):Obj:=fO "_law_said" "_law_said" (zq bd 32) "law_uf030007_09" 816 523
noncomputable def z0d (P:Params):Obj:=cO "_law_count" "_law_count" 864 525 870 351 2
noncomputable def zus (P:Params):Obj:=fO "_law_count" "_law_count" (zq bd 33) "law_uf030007_09" 816 530
noncomputable def zw9 (P:Params):Obj:=cO "_law_key" "_law_key" 873 532 879 356 2
noncomputable def z0k (P:Params):Obj:=fO "_law_key" "_law_key" (zq bd 34) "law_uf030007_09" 816 537
noncomputable def zuy (P:Params):Obj:=cO "_law_odd" "_law_odd" 882 539 888 361 1
noncomputable def zzl (P:Params):Obj:=fO "_law_odd" "_law_odd" (zq bd 35) "law_uf030007_09" 816 544
noncomputable def zza (P:Params):Obj:=cO "_law_there" "_law_there" 891 546 896 367 2
noncomputable def zw6 (P:Params):Obj:=fO "_law_there" "_law_there" (zq bd 36) "law_uf030007_09" 816 551
noncomputable def z0f (P:Params):Obj:=cO "_law_due" "_law_due" 899 553 912 369 5
noncomputable def zwf (P:Params):Obj:=fO "_law_due" "_law_due" (zq bd 37) "law_uf030007_09" 816 558
noncomputable def zvc (P:Params):Obj:=cO "_law_state" "_law_state" 915 560 924 388 3
noncomputable def zyv (P:Params):Obj:=fO "_law_state" "_law_state" (zq bd 38) "law_uf030007_09" 816 565
noncomputable def zx9 (P:Params):Obj:=kO "law" "law" 927 567 930 395 1
noncomputable def zx3 (P:Params):Obj:=fO "law" "law" (zq bd 39) "law_uf030007_09" 816 570
noncomputable def zwc (P:Params):List Obj:=(((hp9 P).set 3 (o3 P)).set 12 (pO [(2,0,20),(30,0,76),(32,0,89),(34,0,101),(36,0,113),(38,0,125),(40,0,137),(42,0,149),(44,0,161),(46,0,173),(48,0,185),(52,0,197),(54,0,204),(63,0,211),(70,0,218),(144,0,296),(151,0,303),(159,0,310),(296,0,497),(300,0,504),(305,0,509),(315,0,516),(343,0,523),(351,0,530),(356,0,537),(361,0,544),(367,0,551),(369,0,558),(388,0,565),(395,0,570)]))++[tE,nE,tS 821 ["_law_script","_law_k"],tE,gO "_law_cell_at" "_law_cell_at" (zq bd 28),zxh P,zu5 P,tE,nE,tS 829 ["_law_cell","_law_number"],tE,gO "_law_wish" "_law_wish" (zq bd 29),zxs P,zyi P,tE,nE,gO "_law_keys" "_law_keys" (zq bd 30),zy3 P,zv8 P,tE,nE,tS 843 ["_law_world","_law_way","_law_caller","_law_house","_law_key_here","_law_wish_here","_law_place"],tE,gO "_law_act" "_law_act" (zq bd 31),zwu P,z0p P,tE,nE,tS 856 ["_law_world","_law_way","_law_args","e","_law_some"],tE,gO "_law_said" "_law_said" (zq bd 32),zz1 P,zu1 P,tE,nE,tS 867 ["_law_cell","_law_many","_law_far"],tE,gO "_law_count" "_law_count" (zq bd 33),z0d P,zus P,tE,nE,tS 876 ["_law_cell","_law_keys_here","_law_one"],tE,gO "_law_key" "_law_key" (zq bd 34),zw9 P,z0k P,tE,nE,tS 885 ["_law_cell","_law_far","_law_some"],tE,gO "_law_odd" "_law_odd" (zq bd 35),zuy P,zzl P,tE,nE,tS 894 ["_law_thing","_law_many"],tE,gO "_law_there" "_law_there" (zq bd 36),zza P,zw6 P,tE,nE,tS 902 ["_law_way","_law_args","_law_keys_here","_law_asked","_law_known","_law_caller","_law_house","_law_key_here","_law_wish_here","_law_place"],tE,gO "_law_due" "_law_due" (zq bd 37),z0f P,zwf P,tE,nE,tS 918 ["_law_world","_law_keys_here","_law_callers","_law_found","_law_caller","_law_key_here"],tE,gO "_law_state" "_law_state" (zq bd 38),zvc P,zyv P,tE,nE,gO "law" "law" (zq bd 39),zx9 P,zx3 P]
noncomputable def S10 (w:World) (os:OsState):Shared:=⟨⟨⟨zwc w.params⟩,{ }⟩,#[],{ },933,os⟩
noncomputable def hpf (P:Params):List Obj:=(zwc P)
noncomputable def Sf (w:World) (os:OsState):Shared:=⟨⟨⟨hpf w.params⟩,{ }⟩,#[],{ },933,os⟩
noncomputable def K (P:Params):Frag :=
 [(2,boot_o_2 P),(3,o3 P),(13,o13 P),(17,o17 P),(20,o20 P),(27,o27 P),(28,o28 P),(34,o34 P),(35,o35 P),(41,o41 P),(42,o42 P),(48,o48 P),(49,o49 P),(55,o55 P),(56,o56 P),(62,o62 P),(63,o63 P),(65,o65 P),(66,o66 P),(73,o73 P),(76,o76 P),(79,o79 P),(80,o80 P),(86,o86 P),(89,o89 P),(92,o92 P),(93,o93 P),(98,o98 P),(101,zyw P),(104,zyd P),(105,zvw P),(110,zy5 P),(113,zve P),(116,zyn P),(117,zwg P),(122,zwr P),(125,zxg P),(128,zx8 P),(129,zuw P),(134,zxa P),(137,zxk P),(140,zz3 P),(141,zwa P),(146,zx4 P),(149,zvv P),(152,zwh P),(153,zxz P),(158,zzu P),(161,zy0 P),(164,zvd P),(165,zxb P),(170,zu3 P),(173,zzz P),(176,zyg P),(177,zzv P),(182,zxl P),(185,zxy P),(188,zvf P),(189,zxt P),(197,zxp P),(198,zwi P),(204,z0h P),(205,zxn P),(211,z0a P),(212,zu0 P),(215,z0m P),(218,zz9 P),(225,zyr P),(226,zxj P),(232,zy4 P),(233,zyp P),(237,zy2 P),(238,zx1 P),(244,zw2 P),(245,zzb P),(249,zvx P),(250,z0e P),(256,zv1 P),(257,zyb P),(263,zzn P),(264,zwv P),(270,zyq P),(271,zz4 P),(277,zyf P),(278,zzo P),(282,zzp P),(283,zx0 P),(285,zzx P),(286,zvh P),(296,zyj P),(297,zux P),(303,zzr P),(304,zw7 P),(307,zzw P),(310,zxf P),(315,zv4 P),(316,zu2 P),(322,z0b P),(323,zw3 P),(329,zyx P),(330,zxi P),(336,zws P),(337,zwo P),(343,zvo P),(344,zvq P),(350,zzd P),(351,zyy P),(357,zwj P),(358,zvg P),(364,zw0 P),(365,zwb P),(371,zvs P),(372,zv2 P),(378,zvp P),(379,zzm P),(385,zxx P),(386,zze P),(392,z0n P),(393,zvm P),(399,zyk P),(400,zxv P),(406,zvr P),(407,zy9 P),(413,zz5 P),(414,zx7 P),(420,zyz P),(421,zz8 P),(427,z0j P),(428,zzk P),(434,zw5 P),(435,z0c P),(441,zww P),(442,zxe P),(448,zw4 P),(449,zzf P),(455,zyl P),(456,zvz P),(462,zzg P),(463,zxo P),(469,zvu P),(470,zu7 P),(476,zwq P),(477,zx2 P),(483,zwe P),(484,zxw P),(486,zzs P),(487,zwp P),(497,zxh P),(498,zu5 P),(504,zxs P),(505,zyi P),(509,zy3 P),(510,zv8 P),(516,zwu P),(517,z0p P),(523,zz1 P),(524,zu1 P),(530,z0d P),(531,zus P),(537,zw9 P),(538,z0k P),(544,zuy P),(545,zzl P),(551,zza P),(552,zw6 P),(558,z0f P),(559,zwf P),(565,zvc P),(566,zyv P),(570,zx9 P),(571,zx3 P)]
noncomputable def asL:List Addr:=[2,3,13,17,20,27,28,34,35,41,42,48,49,55,56,62,63,65,66,73,76,79,80,86,89,92,93,98,101,104,105,110,113,116,117,122,125,128,129,134,137,140,141,146,149,152,153,158,161,164,165,170,173,176,177,182,185,188,189,197,198,204,205,211,212,215,218,225,226,232,233,237,238,244,245,249,250,256,257,263,264,270,271,277,278,282,283,285,286,296,297,303,304,307,310,315,316,322,323,329,330,336,337,343,344,350,351,357,358,364,365,371,372,378,379,385,386,392,393,399,400,406,407,413,414,420,421,427,428,434,435,441,442,448,449,455,456,462,463,469,470,476,477,483,484,486,487,497,498,504,505,509,510,516,517,523,524,530,531,537,538,544,545,551,552,558,559,565,566,570,571]
noncomputable def H:Hook:=kHook K asL (fun ξ=>by kernel_rfl)
theorem zxd (w:World) (os:OsState):topGo treeTable p w 11 (some (Value.ref 6)) 12 ⟨boot_heap w.params,#[],boot_drawn,boot_toks,os⟩ (topStub p)=some (Sa w os,⟨denote treeTable cd,cd,{line:=0,col:=0,endLine:=0,endCol:=0},[topFrame q]⟩):=by kernel_rfl
theorem zvb (w:World) (os:OsState):segRun treeTable p w 11 (some (Value.ref 6)) 1 1 (Sa w os) (blockOf r0 env cd {line:=0,col:=0,endLine:=0,endCol:=0} [topFrame q])=some (.next,Sb w os,cd,{line:=0,col:=0,endLine:=0,endCol:=0}):=by kernel_rfl
theorem t0 (w:World) (os:OsState):segRun treeTable p w 11 (some (Value.ref 6)) 1 405 (Sb w os) (piecesOf l0 env cd {line:=0,col:=0,endLine:=0,endCol:=0} [topFrame q])=some (.next,S0 w os,cd,{line:=29,col:=0,endLine:=29,endCol:=8}):=by kernel_rfl
theorem t1 (w:World) (os:OsState):segRun treeTable p w 11 (some (Value.ref 6)) 1 400 (S0 w os) (piecesOf l1 env cd {line:=29,col:=0,endLine:=29,endCol:=8} [topFrame q])=some (.next,S1 w os,cd,{line:=32,col:=0,endLine:=33,endCol:=8}):=by kernel_rfl
theorem t2 (w:World) (os:OsState):segRun treeTable p w 11 (some (Value.ref 6)) 1 427 (S1 w os) (piecesOf l2 env cd {line:=32,col:=0,endLine:=33,endCol:=8} [topFrame q])=some (.next,S2 w os,cd,{line:=36,col:=0,endLine:=37,endCol:=8}):=by kernel_rfl
theorem t3 (w:World) (os:OsState):segRun treeTable p w 11 (some (Value.ref 6)) 1 427 (S2 w os) (piecesOf l3 env cd {line:=36,col:=0,endLine:=37,endCol:=8} [topFrame q])=some (.next,S3 w os,cd,{line:=40,col:=0,endLine:=41,endCol:=8}):=by kernel_rfl
theorem t4 (w:World) (os:OsState):segRun treeTable p w 11 (some (Value.ref 6)) 1 427 (S3 w os) (piecesOf l4 env cd {line:=40,col:=0,endLine:=41,endCol:=8} [topFrame q])=some (.next,S4 w os,cd,{line:=44,col:=0,endLine:=45,endCol:=8}):=by kernel_rfl
theorem t5 (w:World) (os:OsState):segRun treeTable p w 11 (some (Value.ref 6)) 1 451 (S4 w os) (piecesOf l5 env cd {line:=44,col:=0,endLine:=45,endCol:=8} [topFrame q])=some (.next,S5 w os,cd,{line:=51,col:=0,endLine:=51,endCol:=8}):=by kernel_rfl
theorem t6 (w:World) (os:OsState):segRun treeTable p w 11 (some (Value.ref 6)) 1 98 (S5 w os) (piecesOf l6 env cd {line:=51,col:=0,endLine:=51,endCol:=8} [topFrame q])=some (.next,S6 w os,cd,{line:=69,col:=0,endLine:=69,endCol:=8}):=by kernel_rfl
theorem t7 (w:World) (os:OsState):segRun treeTable p w 11 (some (Value.ref 6)) 1 507 (S6 w os) (piecesOf l7 env cd {line:=69,col:=0,endLine:=69,endCol:=8} [topFrame q])=some (.next,S7 w os,cd,{line:=70,col:=0,endLine:=139,endCol:=110}):=by kernel_rfl
theorem t8 (w:World) (os:OsState):segRun treeTable p w 11 (some (Value.ref 6)) 1 98 (S7 w os) (piecesOf l8 env cd {line:=70,col:=0,endLine:=139,endCol:=110} [topFrame q])=some (.next,S8 w os,cd,{line:=151,col:=0,endLine:=158,endCol:=51}):=by kernel_rfl
theorem t9 (w:World) (os:OsState):segRun treeTable p w 11 (some (Value.ref 6)) 1 1000 (S8 w os) (piecesOf l9 env cd {line:=151,col:=0,endLine:=158,endCol:=51} [topFrame q])=some (.next,S9 w os,cd,{line:=159,col:=0,endLine:=294,endCol:=21}):=by kernel_rfl
theorem t10 (w:World) (os:OsState):segRun treeTable p w 11 (some (Value.ref 6)) 1 385 (S9 w os) (piecesOf l10 env cd {line:=159,col:=0,endLine:=294,endCol:=21} [topFrame q])=some (.next,S10 w os,cd,{line:=395,col:=0,endLine:=426,endCol:=15}):=by kernel_rfl
theorem zya (w:World) (os:OsState):topRun treeTable p w 11 (some (Value.ref 6)) 2 (S10 w os) ⟨doneF .next,cd,{line:=395,col:=0,endLine:=426,endCol:=15},[topFrame q]⟩=some (Sf w os):=by kernel_rfl
theorem zyt (w:World) (os:OsState):topRun treeTable p w 11 (some (Value.ref 6)) (12+(1+(405+(400+(427+(427+(427+(451+(98+(507+(98+(1000+(385+(2)))))))))))))) ⟨boot_heap w.params,#[],boot_drawn,boot_toks,os⟩ (topStub p)=some (Sf w os) :=
 go_top (zxd w os) (piece_block (zvb w os) (piece_app (l:=l0) (rest:=r1) (t0 w os) (piece_app (l:=l1) (rest:=r2) (t1 w os) (piece_app (l:=l2) (rest:=r3) (t2 w os) (piece_app (l:=l3) (rest:=r4) (t3 w os) (piece_app (l:=l4) (rest:=r5) (t4 w os) (piece_app (l:=l5) (rest:=r6) (t5 w os) (piece_app (l:=l6) (rest:=r7) (t6 w os) (piece_app (l:=l7) (rest:=r8) (t7 w os) (piece_app (l:=l8) (rest:=r9) (t8 w os) (piece_app (l:=l9) (rest:=r10) (t9 w os) (piece_app (l:=l10) (rest:=r11) (t10 w os) (piece_nil (zya w os))))))))))))))
theorem lft:LeftO p view [Str.ofString "GREATEST"] (fun s=>xlAt view [(Str.ofString "GREATEST",.int 1000000000000000000000000000000)] s&&recOk (RowW.records PySem.Challenge.rw_uf030007_09.row.toRowW) s) (Hook.obs H) (Hook.val H) 9954 :=
 LeftO.of_pieces (H₀:=boot_heap) (H₁:=fun P=>⟨⟨hpf P⟩,{ }⟩) (boot_open (by kernel_rfl) (by kernel_rfl) (fun ξ=>by kernel_rfl)) (fun w=>by kernel_rfl) zyt (by kernel_rfl) (fun w=>by kernel_rfl)
end Internal.L09
end

section
set_option tactic.hygienic true
open PySem PySem.W PyProof.Rows
set_option maxRecDepth 100000
set_option maxHeartbeats 8000000
namespace Internal.L09
noncomputable def nm : Names where
  fn f := (fnn.lookup f).getD Str.empty
  cls c := (["World", "House", "Caller"] : List Qf)[c]?.getD Str.empty
  meth m := (["has", "owes", "came", "called", "parcel", "move", "write", "sleep", "nudge", "begin", "letter", "asking", "answers", "need_caller", "need_house", "need_key", "need_place", "call", "again", "letters", "brought", "hand", "twice", "lose", "home", "ledger", "is_settled", "one_round", "settle"] : List Qf)[m]?.getD Str.empty
  attr := xz
  exc c := (["MoveError", "BadWorld", "NoCaller", "NoHouse", "NoKey", "BadWish", "Busy", "Idle", "NotHere", "NoLetter"] : List Qf)[c]?.getD Str.empty
  gi := [("GREATEST", 1000000000000000000000000000000), ("MOST", 6), ("LONGEST", 8)]
  gs := [("LETTERS", [97, 98, 99, 100, 101, 102, 103, 104, 105, 106, 107, 108, 109, 110, 111, 112, 113, 114, 115, 116, 117, 118, 119, 120, 121, 122])]
  xs := xsl
  xf f := xfl.contains f
  xm k := xml.contains k
  qf f := qfl.contains f
noncomputable def tab : Tab := ⟨[(0, 198), (1, 205), (2, 212), (4, 297), (5, 304), (100, 498), (102, 505), (103, 510), (118, 571), (120, 517), (121, 524), (122, 531), (123, 538), (124, 545), (125, 552), (126, 559), (127, 566), (11, 35), (12, 42), (13, 49), (14, 56), (15, 63), (21, 233), (22, 238), (23, 245), (24, 250), (25, 257), (26, 264), (27, 271), (28, 278), (29, 283), (41, 323), (42, 330), (43, 337), (44, 344), (45, 351), (46, 358), (47, 365), (48, 372), (49, 379), (50, 386), (51, 393), (52, 400), (53, 407), (54, 414), (55, 421), (56, 428), (57, 435), (58, 442), (59, 449), (60, 456), (61, 463), (62, 470), (63, 477), (64, 484), (10, 28), (20, 226), (40, 316)], [(0, 487), (1, 286), (2, 66)], fnl, mel, inl, xbl⟩
noncomputable abbrev pg := PySem.Challenge.rw_uf030007_09.row.prog
theorem ckGa : noRoadLSs {strict := !(importedModules pg.main.body).all cThrough.contains, foot := none, bare := (["vars", "dir", "locals"] : List Str).filter (readsOut pg pg.main.body)} pg.main.body = true := by kernel_rfl
theorem ckGr : PySem.Challenge.rw_uf030007_09.row.wellSaid = true := by delta OpenRow.wellSaid OpenRow.partSaid looksOpen;rw [ckGa];kernel_rfl
theorem ckGw : PySem.Challenge.rw_uf030007_09.wellSaid = true := by delta OpenLaw.wellSaid;rw [ckGr];kernel_rfl
end Internal.L09
open Internal in
theorem PySem.Challenge.cw_uf030007_09_holds : PySem.Challenge.rw_uf030007_09.Holds := by
  refine holds_law L09.ckGw fun said => ?_
  refine holds_open (q := L09.view) (loose := [Str.ofString "GREATEST"]) (Xt := fun s => xlAt L09.view [(Str.ofString "GREATEST", .int 1000000000000000000000000000000)] s&&recOk (RowW.records PySem.Challenge.rw_uf030007_09.row.toRowW) s) (XP := XL L09.view [(Str.ofString "GREATEST", .int 1000000000000000000000000000000)]) (Yf := Hook.obs L09.H) (Ya := Hook.val L09.H) (YP := Hook.says L09.H) (N := 9954) L09.lft (Hook.of L09.H) (Hook.keeps L09.H) (fun s e => xl_of s (Zj.mp e).1) XL.keeps (by rfl) (by rfl) (by rfl) (fun s e => recFacts_of (Zj.mp e).2) (by rfl) (by first | assumption | decide +kernel) (by decide +kernel) ⟨rfl, rfl, rfl, rfl, rfl, by decide +kernel⟩ ?hw ?hc
  case hw => w_witness2
  intro w s₀ s₁ mg mb G Y fa o pm cd doc dV kV ho hd hcd hD hmg hg args vals as hpre hlay hrd hwl hlo
  have KX := kIn_of Y
  clear ho hd hcd hD
  refine Ground.open G ?_
  intro T B D TE TW
  wrow_args hpre hlay hrd hwl hlo
  refine enter_call ?_
  rename_i ns hs h0 hlay hx1 hx2 a1 a2 la vs a3 hL ra w1 r0 hI rr hc1 hc2
  have hlen : ns.length <= 63 := by omega
  have hbits : ∀ i ∈ ns, intBits i <= 1048576 := zn2 hlay
  have S := zq5 (T := L09.tab) (N := L09.nm) (prog := PySem.Challenge.rw_uf030007_09.row.prog) (w := w) rfl KX T.g T.b T.builtins T.nolimit (by kernel_rfl) (by kernel_rfl) (by kernel_rfl) (by kernel_rfl) (by kernel_rfl) (zuz KX (topRead_of T) (by kernel_rfl)) (by kernel_rfl) (by kernel_rfl) (by kernel_rfl)
  have hfa : fa = 571 := by
    have e := sr KX T.g (by kernel_rfl) (Str.ofString "law")
    have e3 := hmg.symm.trans (e.trans (b := ua _ _) (c := some (Value.ref 571)) (by kernel_rfl))
    cases e3;rfl
  subst hfa
  obtain⟨v, st', hrun, rfl⟩ := q9 (L09.law_ok 10 ns)
  cases w1 with
  | list hz _ =>
    rename_i vs' _
    have hvs : vs' = vs := by
      obtain⟨o, h1, h2, n, h3⟩ := hL
      rw[hz] at h1
      cases h1
      simp at h3;exact h3.1
    subst hvs
    refine zio S (by kernel_rfl) (by intro G C n H;kernel_rfl) (by intro G C n H;kernel_rfl) (by intro G C n H;kernel_rfl) (n := 19) (law := 118) ⟨fun ξ => rfl, by decide, by decide⟩ rfl hz hlen hI hrun fun s' hk hos hgens => GoodW.toG ?_
    refine⟨.inl ⟨.bool true, .bool true, [], rfl, raisesW_false (by wrow_none_raised), ?_, ?_, fun ξ => ⟨List.nodup_nil, fun a h => by cases h⟩⟩, hk, hos, hgens.trans hg⟩
    · constructor
    · wrow_post
end
