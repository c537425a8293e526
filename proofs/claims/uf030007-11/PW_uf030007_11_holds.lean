import PyProof.Rows.All
import Wide.All
import OpenK.AllK
import Wide.FinOn
import Lean
import PySem.Challenge.RW_uf030007_11

set_option Elab.async false
set_option autoImplicit false
set_option linter.all false
set_option genInjectivity false
set_option genSizeOf false
set_option backward.match.sparseCases false
set_option backward.eqns.nonrecursive false
set_option bootstrap.genMatcherCode false
set_option genCtorIdx false
set_option tactic.hygienic false

open _root_ renaming of_decide_eq_true->Za,decide_eq_true->Zb,decide_eq_false->Zc,if_pos->Zg,if_neg->Zh,congrArg->Qd,Option->Xc,List->Xd,decide_eq_true_eq->Xj,beq_iff_eq->Xl,beq_eq_false_iff_ne->Xp,if_false->Xq
open List renaming length_map->Zd,length_append->Zf,mem_cons_of_mem->Zk,getElem?_eq_getElem->Zl,mem_cons_self->Zm,mem_singleton->Zq,mem_append->Zt,mem_cons->Zu,all_eq_true->Zv,length_range->Zx,map_cons->Zz,append_nil->Z0,mem_map->Z1,append_assoc->Z3,length_cons->Z4,mem_append_left->Z6,mem_append_right->Qa,map_append->Qb,getElem_mem->Qc,map_map->Qg,mem_range->Qj,nodup_append->Qt,nodup_cons->Qu,nodup_nil->Qv,map_id->Q1,length_eq_zero_iff->Q2,mem_filter->Q3,range_eq_range'->Q6,contains_iff_mem->Q7,getElem_map->Q9,cons.inj->Jd,lookup_cons->Jj,length_take->Jk,replicate->Jp,getElem?_map->Jq,length_drop->Js,getElem?_append_right->Ju,nil_append->Jv,map_congr_left->Jw,filterMap_cons->Jx,getElem?_cons_succ->Jy,getD_eq_getElem?_getD->J1,getElem?_eq_some_iff->J3,getElem?_append_left->J4,range->Xr
open PySem renaming wpAny_bind->Ze,wpAny_pure->Zr,wpAny_holding->Ja,wpAny_standAt->Jb,Shared->Xa,Value->Xb,Around->Xe,OsState->Xf,Params->Xg,DictEntry->Xh,wpAny_Call_ofName->Xi,wpAny_truthy_bool->Xk,wpAny->Xn,wpAny_execs_cons->Xo,Expr->Xu,Str->Xv
open Nat renaming lt_of_lt_of_le->Zi,eq_of_beq_eq_true->Zo,le_trans->Zp,le_refl->Zs,le_succ->Zw,lt_succ_self->Zy,le_succ_of_le->Z2,lt_of_le_of_lt->Z7,ne_of_lt->Z9,lt_trans->Qe,le_of_eq->Qf,add_le_add_left->Qh,succ_add_eq_add_succ->Qk,zero_le->Ql,ne_of_gt->Qm,le_of_lt->Qn,succ_le_succ->Qp,le_add_right->Qr,le_add_left->Qs,succ_pos->Q5,le_of_succ_le->Q8,not_lt->Jf,zero_add->Jo,not_lt_zero->J0,lt_add_of_pos_right->J7
open Bool renaming and_eq_true_iff->Zj,false_ne_true->Z8,and_eq_true->Qq,or_eq_true_iff->Q4,not_not->Jc,false_eq_true->Jl,not_eq_true'->Jn
open PySem.Heap renaming get?_push_of_some->Zn,get?_push_size->Z5,lt_size->Jr,SameBut->J8
open Int renaming natCast_nonneg->Qi,le_trans->Qo,ofNat_le->Qw,ofNat_lt->Qx,toNat_natCast->Qy,le_of_eq->Qz,le_refl->Q0,not_lt->Jg
open Option renaming some.inj->Je,isSome_iff_exists->Jh,map_eq_some_iff->Jm,isNone_iff_eq_none->J2
open Classical renaming propDecidable->Ji
open Array renaming getElem?_toList->Jt
open PySem.F renaming plainAttrs_list->Jz
open PySem.Builtin.Slice renaming slicePlaces->J5
open PySem.Builtin.Tuple renaming tupleExact->J6
open PySem.Obj renaming mapSeq->J9
open PyProof.Rows renaming seqObj->Xm
section
namespace Internal
variable {r:Prop}
variable{P Q:Prop}
theorem zn(h:P/\Q)(k:P->Q->r):r:=k h.1 h.2
variable{R:Prop}
theorem xg(h:P/\Q/\R)(k:P->Q->R->r):r:=k h.1 h.2.1 h.2.2
theorem zjy{T:Prop}(h:P/\Q/\R/\T)(k:P->Q->R->T->r):r:=k h.1 h.2.1 h.2.2.1 h.2.2.2
theorem z35{T U W X Y Z:Prop}(h:P/\Q/\R/\T/\U/\W/\X/\Y/\Z)(k:P->Q->R->T->U->W->X->Y->Z->r):r:=k h.1 h.2.1 h.2.2.1 h.2.2.2.1 h.2.2.2.2.1 h.2.2.2.2.2.1 h.2.2.2.2.2.2.1 h.2.2.2.2.2.2.2.1 h.2.2.2.2.2.2.2.2
theorem zr{A:Sort _}{P:A->Prop}(h:∃a,P a)(k:∀a,P a->r):r:=h.elim λa h=>k a h
theorem zd{A:Sort _}{P Q:A->Prop}(h:∃a,P a/\Q a)(k:∀a,P a->Q a->r):r:=h.elim λa h=>k a h.1 h.2
theorem jj{A:Sort _}{P Q R:A->Prop}(h:∃a,P a/\Q a/\R a)(k:∀a,P a->Q a->R a->r):r:=h.elim λa h=>k a h.1 h.2.1 h.2.2
theorem zu8{A:Sort _}{P Q R T:A->Prop}(h:∃a,P a/\Q a/\R a/\T a)(k:∀a,P a->Q a->R a->T a->r):r:=h.elim λa h=>k a h.1 h.2.1 h.2.2.1 h.2.2.2
theorem z36{A:Sort _}{P Q R T U:A->Prop}(h:∃a,P a/\Q a/\R a/\T a/\U a)(k:∀a,P a->Q a->R a->T a->U a->r):r:=h.elim λa h=>k a h.1 h.2.1 h.2.2.1 h.2.2.2.1 h.2.2.2.2
theorem ij{A B:Sort _}{P:A->B->Prop}(h:∃a b,P a b)(k:∀a b,P a b->r):r:=h.elim λa h=>h.elim λb h=>k a b h
theorem zf{A B:Sort _}{P Q:A->B->Prop}(h:∃a b,P a b/\Q a b)(k:∀a b,P a b->Q a b->r):r:=h.elim λa h=>h.elim λb h=>k a b h.1 h.2
theorem jz{A B:Sort _}{P Q R:A->B->Prop}(h:∃a b,P a b/\Q a b/\R a b)(k:∀a b,P a b->Q a b->R a b->r):r:=h.elim λa h=>h.elim λb h=>k a b h.1 h.2.1 h.2.2
theorem qo{A B:Sort _}{P Q R T:A->B->Prop}(h:∃a b,P a b/\Q a b/\R a b/\T a b)(k:∀a b,P a b->Q a b->R a b->T a b->r):r:=h.elim λa h=>h.elim λb h=>k a b h.1 h.2.1 h.2.2.1 h.2.2.2
theorem wz{A B:Sort _}{P Q R T U:A->B->Prop}(h:∃a b,P a b/\Q a b/\R a b/\T a b/\U a b)(k:∀a b,P a b->Q a b->R a b->T a b->U a b->r):r:=h.elim λa h=>h.elim λb h=>k a b h.1 h.2.1 h.2.2.1 h.2.2.2.1 h.2.2.2.2
theorem bp{A B C:Sort _}{P Q:A->B->C->Prop}(h:∃a b c,P a b c/\Q a b c)(k:∀a b c,P a b c->Q a b c->r):r:=h.elim λa h=>h.elim λb h=>h.elim λc h=>k a b c h.1 h.2
theorem gy{A B C:Sort _}{P Q R:A->B->C->Prop}(h:∃a b c,P a b c/\Q a b c/\R a b c)(k:∀a b c,P a b c->Q a b c->R a b c->r):r:=h.elim λa h=>h.elim λb h=>h.elim λc h=>k a b c h.1 h.2.1 h.2.2
theorem zbf{A B C:Sort _}{P Q R T:A->B->C->Prop}(h:∃a b c,P a b c/\Q a b c/\R a b c/\T a b c)(k:∀a b c,P a b c->Q a b c->R a b c->T a b c->r):r:=h.elim λa h=>h.elim λb h=>h.elim λc h=>k a b c h.1 h.2.1 h.2.2.1 h.2.2.2
theorem zjz{A B C:Sort _}{P Q R T U:A->B->C->Prop}(h:∃a b c,P a b c/\Q a b c/\R a b c/\T a b c/\U a b c)(k:∀a b c,P a b c->Q a b c->R a b c->T a b c->U a b c->r):r:=h.elim λa h=>h.elim λb h=>h.elim λc h=>k a b c h.1 h.2.1 h.2.2.1 h.2.2.2.1 h.2.2.2.2
theorem zrz{A B C:Sort _}{P Q R T U W:A->B->C->Prop}(h:∃a b c,P a b c/\Q a b c/\R a b c/\T a b c/\U a b c/\W a b c)(k:∀a b c,P a b c->Q a b c->R a b c->T a b c->U a b c->W a b c->r):r:=h.elim λa h=>h.elim λb h=>h.elim λc h=>k a b c h.1 h.2.1 h.2.2.1 h.2.2.2.1 h.2.2.2.2.1 h.2.2.2.2.2
theorem z37{A B C D:Sort _}{P Q R:A->B->C->D->Prop}(h:∃a b c d,P a b c d/\Q a b c d/\R a b c d)(k:∀a b c d,P a b c d->Q a b c d->R a b c d->r):r:=h.elim λa h=>h.elim λb h=>h.elim λc h=>h.elim λd h=>k a b c d h.1 h.2.1 h.2.2
theorem zu9{A B C D:Sort _}{P Q R T:A->B->C->D->Prop}(h:∃a b c d,P a b c d/\Q a b c d/\R a b c d/\T a b c d)(k:∀a b c d,P a b c d->Q a b c d->R a b c d->T a b c d->r):r:=h.elim λa h=>h.elim λb h=>h.elim λc h=>h.elim λd h=>k a b c d h.1 h.2.1 h.2.2.1 h.2.2.2
theorem zva{A B C D:Sort _}{P Q R T U W:A->B->C->D->Prop}(h:∃a b c d,P a b c d/\Q a b c d/\R a b c d/\T a b c d/\U a b c d/\W a b c d)(k:∀a b c d,P a b c d->Q a b c d->R a b c d->T a b c d->U a b c d->W a b c d->r):r:=h.elim λa h=>h.elim λb h=>h.elim λc h=>h.elim λd h=>k a b c d h.1 h.2.1 h.2.2.1 h.2.2.2.1 h.2.2.2.2.1 h.2.2.2.2.2
theorem z38{A B C D F:Sort _}{P:A->B->C->D->F->Prop}(h:∃a b c d f,P a b c d f)(k:∀a b c d f,P a b c d f->r):r:=h.elim λa h=>h.elim λb h=>h.elim λc h=>h.elim λd h=>h.elim λf h=>k a b c d f h
theorem z39{A B C D F:Sort _}{P Q R T U:A->B->C->D->F->Prop}(h:∃a b c d f,P a b c d f/\Q a b c d f/\R a b c d f/\T a b c d f/\U a b c d f)(k:∀a b c d f,P a b c d f->Q a b c d f->R a b c d f->T a b c d f->U a b c d f->r):r:=h.elim λa h=>h.elim λb h=>h.elim λc h=>h.elim λd h=>h.elim λf h=>k a b c d f h.1 h.2.1 h.2.2.1 h.2.2.2.1 h.2.2.2.2
theorem zr0{A B C D F:Sort _}{P Q R T U W X Y:A->B->C->D->F->Prop}(h:∃a b c d f,P a b c d f/\Q a b c d f/\R a b c d f/\T a b c d f/\U a b c d f/\W a b c d f/\X a b c d f/\Y a b c d f)(k:∀a b c d f,P a b c d f->Q a b c d f->R a b c d f->T a b c d f->U a b c d f->W a b c d f->X a b c d f->Y a b c d f->r):r:=h.elim λa h=>h.elim λb h=>h.elim λc h=>h.elim λd h=>h.elim λf h=>k a b c d f h.1 h.2.1 h.2.2.1 h.2.2.2.1 h.2.2.2.2.1 h.2.2.2.2.2.1 h.2.2.2.2.2.2.1 h.2.2.2.2.2.2.2
theorem zvb{A B C D F:Sort _}{P Q R T U W X Y Z:A->B->C->D->F->Prop}(h:∃a b c d f,P a b c d f/\Q a b c d f/\R a b c d f/\T a b c d f/\U a b c d f/\W a b c d f/\X a b c d f/\Y a b c d f/\Z a b c d f)(k:∀a b c d f,P a b c d f->Q a b c d f->R a b c d f->T a b c d f->U a b c d f->W a b c d f->X a b c d f->Y a b c d f->Z a b c d f->r):r:=h.elim λa h=>h.elim λb h=>h.elim λc h=>h.elim λd h=>h.elim λf h=>k a b c d f h.1 h.2.1 h.2.2.1 h.2.2.2.1 h.2.2.2.2.1 h.2.2.2.2.2.1 h.2.2.2.2.2.2.1 h.2.2.2.2.2.2.2.1 h.2.2.2.2.2.2.2.2
end Internal
end
section
namespace Internal
noncomputable abbrev Lbl:=Nat×Nat
set_option genCtorIdx true in
inductive V where
 |none
 |bool (b:Bool)
 |int (i:Int)
 |str (s:Xd Nat)
 |tup (l:Xd V)
 |lst (l:Xd V)
 |ref (l:Lbl)
 |exc (c:Nat)
noncomputable instance:DecidableEq V:=λa b=>Ji (a=b)
noncomputable abbrev TK:=Int×(Xd Nat ⊕ Int)
set_option genCtorIdx true in
inductive MObj where
 |list (l:Xd V)
 |dict (l:Xd (V×V))
 |tdict (l:Xd (TK×V))
 |inst (c:Nat) (as:Xd (Nat×V))
noncomputable instance:DecidableEq MObj:=λa b=>Ji (a=b)
structure MS where
 heap:Lbl->Xc MObj
 cnt:Nat->Nat
 wr:Nat
set_option genCtorIdx true in
inductive Res(α:Type) where
 |ok (a:α) (s:MS)
 |exc (c:Nat) (s:MS)
 |stuck
variable{α:Type}{s:MS}{P:Prop}
theorem zb{a:α}(e:(Res.stuck:Res α)=.ok a s):P:=by cases e
theorem za{a:α}(e:(none:Xc α)=some a):P:=by cases e
theorem qi(e:false=true):P:=by cases e
theorem zjg(e:true=false):P:=by cases e
noncomputable def Res.bind{α β:Type}:Res α->(α->MS->Res β)->Res β
 |.ok a s,f=>f a s
 |.exc c s,_=>.exc c s
 |.stuck,_=>.stuck
noncomputable def Res.bnd{α β:Type}:Res α->(α->MS->Res β)->Res β
 |.ok a s,f=>f a s
 |_,_=>.stuck
noncomputable def MS.put(s:MS)(l:Lbl)(o:MObj):MS:={s with heap:=λx=>if x=l then some o else s.heap x,wr:=s.wr+1}
noncomputable def MS.new(s:MS)(k:Nat)(o:MObj):MS:={s with heap:=λx=>if x=(k,s.cnt k) then some o else s.heap x,cnt:=λj=>if j=k then s.cnt k+1 else s.cnt j}
set_option genCtorIdx true in
inductive Bop where|add|sub|mul|fdiv|mod|pow
set_option genCtorIdx true in
inductive Cop where|eq|ne|lt|le|gt|ge|isin|notin
inductive Kind where|int|bool|str|list|tuple|valueError|cls (c:Nat)
set_option genCtorIdx true in
inductive Prim where|len|max2|int1|sorted|tuple1|list1|all1
set_option genCtorIdx true in
inductive Bm where|append|extend|pop|insert|count|get|join|upper
inductive E where
 |none
 |bool (b:Bool)
 |int (i:Int)
 |str (s:Xd Nat)
 |loc (i:Nat)
 |gint (x:Xv) (i:Int)
 |gstr (x:Xv) (s:Xd Nat)
 |neg (a:E)
 |not (a:E)
 |and (l:Xd E)
 |or (l:Xd E)
 |bin (o:Bop) (a b:E)
 |cmp (a:E) (o:Cop) (b:E)
 |cmp2 (a:E) (o:Cop) (b:E) (o2:Cop) (c:E)
 |isC (neg:Bool) (a:E) (c:V)
 |tup (l:Xd E)
 |lst (l:Xd E)
 |lstM (k:Nat) (l:Xd E)
 |dictM (k:Nat) (ks:Xd (Xd Nat)) (vs:Xd E)
 |sub (a b:E)
 |slice (a:E) (lo hi:Xc E)
 |attr (a:E) (i:Nat)
 |call (f:Nat) (l:Xd E)
 |meth (a:E) (m:Nat) (l:Xd E)
 |new (c:Nat) (l:Xd E)
 |isinst (a:E) (ks:Xd Kind)
 |prim (p:Prim) (l:Xd E)
 |listM (k:Nat) (a:E)
 |dictC (k:Nat) (a:E)
 |bm (m:Bm) (a:E) (l:Xd E)
 |comp (M:Xc Nat) (slot:Nat) (range:Bool) (it:E) (cond:Xc E) (elt:E)
inductive T where
 |loc (i:Nat)
 |item (a b:E)
inductive S where
 |expr (e:E)
 |assign (i:Nat) (e:E)
 |setattr (a:E) (i:Nat) (e:E)
 |setitem (a b e:E)
 |unpack (ts:Xd T) (e:E)
 |ite (c:E) (b1 b2:Xd S)
 |for_ (ts:T ⊕ Xd T) (range:Bool) (it:E) (body:Xd S)
 |while_ (c:E) (body:Xd S)
 |ret (e:Xc E)
 |raise (c:Nat)
 |exprX (e:E)
 |assignX (i:Nat) (e:E)
 |tryB (b:Xd S) (hs:Xd (Nat×E))
structure Fn where
 np:Nat
 names:Xd Xv
 body:Xd S
noncomputable abbrev Loc:=Xd (Xc V)
structure Prog where
 fns:Nat->Xc Fn
 meths:Nat->Nat->Xc Nat
 inits:Nat->Xc (Nat×Nat)   -- class: kind of its labels,its __init__
 excBase:Nat->Xd Nat           -- classes that an exception class is under (itself too)
set_option genCtorIdx true in
inductive Fl where
 |next
 |ret (v:V)
noncomputable def z4(s:MS):V->Xc (Bool×Xd V)
 |.tup l=>some (false,l)
 |.lst l=>some (true,l)
 |.ref r=>match s.heap r with
  |some (.list l)=>some (true,l)
  |_=>Option.none
 |_=>Option.none
noncomputable def xj(f:V->V->Xc Bool):Xd V->Xd V->Xc Bool
 | [],[]=>some true
 |x::la,y::lb=>match f x y,xj f la lb with
  |some p,some q=>some (p&&q)
  |_,_=>Option.none
 | [],_::_=>some false
 |_::_,[]=>some false
noncomputable def vh:V->Xc Bool
 |.none=>some false
 |.bool _=>some false
 |.int _=>some false
 |.str _=>some false
 |_=>Option.none
noncomputable def fy(a b:V):Xc Bool:=match a with
 |.none=>(match b with|.none=>some true|.bool _=>some false|.int _=>some false|.str _=>some false|_=>Option.none)
 |.bool x=>(match b with|.none=>some false|.bool y=>some (x==y)|.str _=>some false|_=>Option.none)
 |.int x=>(match b with|.none=>some false|.int y=>some (decide (x=y))|.str _=>some false|_=>Option.none)
 |.str x=>(match b with|.none=>some false|.bool _=>some false|.int _=>some false|.str y=>some (decide (x=y))|_=>Option.none)
 |_=>Option.none
noncomputable def veq(s:MS):Nat->V->V->Xc Bool
 |0,_,_=>Option.none
 |n+1,a,b =>
  match z4 s a,z4 s b with
  |some p,some q=>if p.1=q.1 then (if p.1=true/\p.2.length≠q.2.length then some false else xj (veq s n) p.2 q.2) else some false
  |some _,Option.none=>vh b
  |.none,some _=>vh a
  |.none,Option.none=>fy a b
noncomputable def kq:Nat:=12
noncomputable def zi:Nat:=2 ^ 24
noncomputable def V.isKey:V->Bool
 |.str _=>true
 |_=>false
noncomputable def sr(a b:V):Bool:=match a with
 |.str x=>(match b with|.str y=>decide (x=y)|_=>false)
 |_=>false
noncomputable def js(k:V):Xd (V×V)->Xc V
 | []=>Option.none
 |(a,v)::r=>if sr a k then some v else js k r
noncomputable def fx(k v:V):Xd (V×V)->Xd (V×V)
 | []=>[(k,v)]
 |(a,w)::r=>if sr a k then (a,v)::r else (a,w)::fx k v r
noncomputable def ym(k:Nat):Xd (Nat×V)->Xc V
 | []=>Option.none
 |(a,v)::r=>if a=k then some v else ym k r
noncomputable def mt(k:Nat)(v:V):Xd (Nat×V)->Xd (Nat×V)
 | []=>[(k,v)]
 |(a,w)::r=>if a=k then (a,v)::r else (a,w)::mt k v r
noncomputable def idx(i:Int)(n:Nat):Xc Nat :=
 if 0<=i then (if i<n then some i.toNat else Option.none) else (if 0<=i+n then some (i+n).toNat else Option.none)
noncomputable def vin(s:MS)(x:V):Xd V->Xc Bool
 | []=>some false
 |y::r=>match veq s kq y x,vin s x r with
  |some p,some q=>some (p||q)
  |_,_=>Option.none
noncomputable def okV(s:MS)(o:Xc V):Res V:=match o with
 |some v=>.ok v s
 |.none=>.stuck
noncomputable def okB(s:MS)(o:Xc Bool):Res V:=match o with
 |some b=>.ok (.bool b) s
 |.none=>.stuck
noncomputable def intBits(i:Int):Nat:=if i=0 then 0 else i.natAbs.log2+1
noncomputable def zaw(a b:Int):Bool:=intBits a<=64||intBits b<=64||intBits a+intBits b<=134217728
noncomputable def zcs(a b:V)(s:MS):Res V :=
 match z4 s a,z4 s b with
 |some p,some q=>if p.1=q.1/\p.2.length+q.2.length<=zi then .ok (if p.1 then .lst (p.2++q.2) else .tup (p.2++q.2)) s else .stuck
 |_,_=>.stuck
noncomputable def iy(a b:V)(f:Int->Int->Res V):Res V:=match a with
 |.int x=>(match b with|.int y=>f x y|_=>.stuck)
 |_=>.stuck
noncomputable def zwv(a b:V)(f:Xd Nat->Xd Nat->Res V):Res V:=match a with
 |.str x=>(match b with|.str y=>f x y|_=>.stuck)
 |_=>.stuck
noncomputable def uh(o:Bop)(a b:V)(s:MS):Res V :=
 match o with
 |.add=>(match a with
  |.int _=>iy a b λx y=>.ok (.int (x+y)) s
  |.str _=>zwv a b λx y=>if x.length+y.length<=zi then .ok (.str (x++y)) s else .stuck
  |_=>zcs a b s)
 |.sub=>iy a b λx y=>.ok (.int (x-y)) s
 |.mul=>iy a b λx y=>if zaw x y then .ok (.int (x*y)) s else .stuck
 |.fdiv=>iy a b λx y=>if y=0\/64<intBits y then .stuck else .ok (.int (x.fdiv y)) s
 |.mod=>iy a b λx y=>if y=0 then .stuck else .ok (.int (x.fmod y)) s
 |.pow=>iy a b λx y=>if 0<=y/\(intBits x:Int)*y<=134217728 then .ok (.int (x ^ y.toNat)) s else .stuck
variable{a b:V}
theorem zsv{v:V}{f:Int->Int->Res V}(h:iy a b f=.ok v s):∃x y,a=.int x/\b=.int y/\f x y=.ok v s:=by
 cases a with
 |int x=>cases b with
  |int y=>exact⟨x,y,rfl,rfl,h⟩
  |_=>exact zb h
 |_=>exact zb h
theorem zt7{v:V}{f:Xd Nat->Xd Nat->Res V}(h:zwv a b f=.ok v s):∃x y,a=.str x/\b=.str y/\f x y=.ok v s:=by
 cases a with
 |str x=>cases b with
  |str y=>exact⟨x,y,rfl,rfl,h⟩
  |_=>exact zb h
 |_=>exact zb h
variable{c:Prop}{s':MS}
theorem zou[Decidable c]{v:V}(h:(if c then Res.ok a s else .stuck)=.ok v s'):c/\a=v/\s=s':=by
 by_cases hc:c
 .rw[Zg hc]at h;cases h;exact⟨hc,rfl,rfl⟩
 .rw[Zh hc]at h;exact zb h
variable{β:Type}
theorem zci{o:Xc (Bool×Xd V)}{f:Bool×Xd V->Res β}{y:β}(e:(match o with|some p=>f p|.none=>.stuck)=.ok y s):∃p,o=some p/\f p=.ok y s:=by
 cases o with
 |none=>exact zb e
 |some p=>exact⟨p,rfl,e⟩
theorem zg5{o:Xc (Lbl×Xd V)}{f:Lbl×Xd V->Res β}{y:β}(e:(match o with|some p=>f p|.none=>.stuck)=.ok y s):∃p,o=some p/\f p=.ok y s:=by
 cases o with
 |none=>exact zb e
 |some p=>exact⟨p,rfl,e⟩
theorem zwf{o:Xc (Lbl×Xd (V×V))}{f:Lbl×Xd (V×V)->Res β}{y:β}(e:(match o with|some p=>f p|.none=>.stuck)=.ok y s):∃p,o=some p/\f p=.ok y s:=by
 cases o with
 |none=>exact zb e
 |some p=>exact⟨p,rfl,e⟩
theorem zwg{o:Xc (Nat)}{f:Nat->Res β}{y:β}(e:(match o with|some p=>f p|.none=>.stuck)=.ok y s):∃p,o=some p/\f p=.ok y s:=by
 cases o with
 |none=>exact zb e
 |some p=>exact⟨p,rfl,e⟩
theorem zwi{o:Xc (V)}{f:V->Res β}{y:β}(e:(match o with|some p=>f p|.none=>.stuck)=.ok y s):∃p,o=some p/\f p=.ok y s:=by
 cases o with
 |none=>exact zb e
 |some p=>exact⟨p,rfl,e⟩
theorem zwh{o:Xc (Xd Nat)}{f:Xd Nat->Res β}{y:β}(e:(match o with|some p=>f p|.none=>.stuck)=.ok y s):∃p,o=some p/\f p=.ok y s:=by
 cases o with
 |none=>exact zb e
 |some p=>exact⟨p,rfl,e⟩
theorem zch{o:Xc (Xd V)}{f:Xd V->Res β}{y:β}(e:(match o with|some p=>f p|.none=>.stuck)=.ok y s):∃p,o=some p/\f p=.ok y s:=by
 cases o with
 |none=>exact zb e
 |some p=>exact⟨p,rfl,e⟩
theorem xu[Decidable c]{x:Res β}{y:β}(e:(if c then x else .stuck)=.ok y s):c/\x=.ok y s:=by
 by_cases h:c
 .rw[Zg h]at e;exact⟨h,e⟩
 .rw[Zh h]at e;exact zb e
theorem xh{a b:β}(e:Res.ok a s=.ok b s'):b=a/\s'=s:=by cases e;exact⟨rfl,rfl⟩
variable{X:V}
theorem zjj{f:Lbl->Res β}{y:β}(e:(match X with|.ref r=>f r|_=>.stuck)=.ok y s):∃r,X=.ref r/\f r=.ok y s:=by
 cases X with
 |ref r=>exact⟨r,rfl,e⟩
 |_=>exact zb e
theorem zcb{f:Xd V->Res β}{y:β}(e:(match X with|.lst r=>f r|_=>.stuck)=.ok y s):∃r,X=.lst r/\f r=.ok y s:=by
 cases X with
 |lst r=>exact⟨r,rfl,e⟩
 |_=>exact zb e
theorem zsw{f:Int->Res β}{y:β}(e:(match X with|.int r=>f r|_=>.stuck)=.ok y s):∃r,X=.int r/\f r=.ok y s:=by
 cases X with
 |int r=>exact⟨r,rfl,e⟩
 |_=>exact zb e
theorem znm{f:Bool->Res β}{y:β}(e:(match X with|.bool r=>f r|_=>.stuck)=.ok y s):∃r,X=.bool r/\f r=.ok y s:=by
 cases X with
 |bool r=>exact⟨r,rfl,e⟩
 |_=>exact zb e
theorem zjo{f:Xd Nat->Res β}{y:β}(e:(match X with|.str r=>f r|_=>.stuck)=.ok y s):∃r,X=.str r/\f r=.ok y s:=by
 cases X with
 |str r=>exact⟨r,rfl,e⟩
 |_=>exact zb e
variable{Z:V}{st st':MS}
theorem ol{o:Xc V}(h:okV st o=.ok Z st'):o=some Z/\st'=st:=by
 cases o with
 |none=>exact zb h
 |some b=>cases h;exact⟨rfl,rfl⟩
theorem ly{o:Xc Bool}(h:okB st o=.ok Z st'):∃b,o=some b/\Z=.bool b/\st'=st:=by
 cases o with
 |none=>exact zb h
 |some b=>cases h;exact⟨b,rfl,rfl,rfl⟩
noncomputable def cmpOp(o:Cop)(a b:V)(s:MS):Res V :=
 match o with
 |.eq=>okB s (veq s kq a b)
 |.ne=>okB s ((veq s kq a b).map (!·))
 |.lt=>match a,b with|.int x,.int y=>.ok (.bool (decide (x<y))) s|_,_=>.stuck
 |.le=>match a,b with|.int x,.int y=>.ok (.bool (decide (x<=y))) s|_,_=>.stuck
 |.gt=>match a,b with|.int x,.int y=>.ok (.bool (decide (y<x))) s|_,_=>.stuck
 |.ge=>match a,b with|.int x,.int y=>.ok (.bool (decide (y<=x))) s|_,_=>.stuck
 |.isin=>okB s (memb a b s)
 |.notin=>okB s ((memb a b s).map (!·))
where
 memb (a b:V) (s:MS):Xc Bool :=
  match z4 s b with
  |some (_,l)=>vin s a l
  |.none=>match b with
   |.str y=>match a with|.str [c]=>some (decide (c∈y))|_=>Option.none
   |.ref r=>match s.heap r with
    |some (.dict l)=>if a.isKey then some (js a l).isSome else Option.none
    |_=>Option.none
   |_=>Option.none
noncomputable def getItem(a b:V)(s:MS):Res V :=
 match b with
 |.int i=>match a with
  |.str x=>if x.length<=zi then okV s ((idx i x.length).bind λj=>(x[j]?).map λc=>.str [c]) else .stuck
  |a=>match z4 s a with
   |some (_,l)=>okV s ((idx i l.length).bind λj=>l[j]?)
   |.none=>.stuck
 |b=>match a with
  |.ref r=>match s.heap r with
   |some (.dict l)=>if b.isKey then okV s (js b l) else .stuck
   |_=>.stuck
  |_=>.stuck
noncomputable def yb(a:V)(s:MS):Xc (Lbl×Xd V) :=
 match a with
 |.ref r=>match s.heap r with
  |some (.list l)=>some (r,l)
  |_=>Option.none
 |_=>Option.none
noncomputable def dictAt(a:V)(s:MS):Xc (Lbl×Xd (V×V)) :=
 match a with
 |.ref r=>match s.heap r with
  |some (.dict l)=>some (r,l)
  |_=>Option.none
 |_=>Option.none
noncomputable def setItem(a b v:V)(s:MS):Res Unit :=
 match dictAt a s with
  |some p=>if b.isKey/\p.2.length<zi then .ok () (s.put p.1 (.dict (fx b v p.2))) else .stuck
  |.none=>.stuck
noncomputable def vp(d:Nat):Xc V->Xc Nat
 |.none=>some d
 |some (.int i)=>if 0<=i then some i.toNat else Option.none
 |_=>Option.none
noncomputable def vi(a:V)(lo hi:Xc V)(s:MS):Res V :=
 match a with
 |.str x=>match vp 0 lo,vp x.length hi with
  |some i,some j=>if x.length<=zi then .ok (.str ((x.take j).drop i)) s else .stuck
  |_,_=>.stuck
 |a=>match z4 s a with
  |some (true,l)=>match vp 0 lo,vp l.length hi with
   |some i,some j=>.ok (.lst ((l.take j).drop i)) s
   |_,_=>.stuck
  |some (false,l)=>match vp 0 lo,vp l.length hi with
   |some i,some j=>if ((l.take j).drop i).length<l.length then .ok (.tup ((l.take j).drop i)) s else .stuck
   |_,_=>.stuck
  |.none=>.stuck
noncomputable def getAttr(a:V)(i:Nat)(s:MS):Res V :=
 match a with
 |.ref r=>match s.heap r with
  |some (.inst _ as)=>okV s (ym i as)
  |_=>.stuck
 |_=>.stuck
noncomputable def setAttr(a:V)(i:Nat)(v:V)(s:MS):Res Unit :=
 match a with
 |.ref r=>match s.heap r with
  |some (.inst c as)=>if as.length<1000 then .ok () (s.put r (.inst c (mt i v as))) else .stuck
  |_=>.stuck
 |_=>.stuck
set_option genCtorIdx true in
inductive Tag where|none|bool|int|str|tuple|list|dict
noncomputable def ma(s:MS):V->Xc Tag
 |.none=>some .none
 |.bool _=>some .bool
 |.int _=>some .int
 |.str _=>some .str
 |.tup _=>some .tuple
 |.lst _=>some .list
 |.ref r=>match s.heap r with
  |some (.list _)=>some .list
  |some (.dict _)=>some .dict
  |_=>Option.none
 |.exc _=>Option.none
noncomputable def u9(g:Tag):Kind->Xc Bool
 |.int=>some (match g with|.int|.bool=>true|_=>false)
 |.bool=>some (match g with|.bool=>true|_=>false)
 |.str=>some (match g with|.str=>true|_=>false)
 |.tuple=>some (match g with|.tuple=>true|_=>false)
 |.list=>some (match g with|.list=>true|_=>false)
 |.valueError=>Option.none
 |.cls _=>Option.none
noncomputable def b6(P:Prog)(s:MS)(v:V)(k:Kind):Xc Bool :=
 match v with
 |.exc d=>match k with
  |.valueError=>some true
  |.cls c=>some ((P.excBase d).contains c)
  |_=>Option.none
 |v=>match ma s v with
  |some g=>u9 g k
  |.none=>Option.none
noncomputable def kf(P:Prog)(s:MS)(v:V):Xd Kind->Xc Bool
 | []=>some false
 |k::r=>match b6 P s v k with
  |some true=>some true
  |some false=>kf P s v r
  |.none=>Option.none
noncomputable def allTrue:Xd V->Xc Bool
 | []=>some true
 |.bool b::r=>(allTrue r).map (b&&·)
 |_::_=>Option.none
noncomputable def jo:V->Xc Int
 |.tup (.int x::_)=>some x
 |_=>Option.none
noncomputable def rising:Xd Int->Bool
 |x::y::r=>decide (x<y)&&rising (y::r)
 |_=>true
noncomputable def vj(x:Int):Xd Int->Nat
 | []=>0
 |k::r=>if x<k then 0 else vj x r+1
noncomputable def uv(m pos:Nat):Xd Nat:=Xr pos++m::(Xr (m-pos)).map (pos+·)
noncomputable def x9(l:Xd V):Xc (Xd V) :=
 match l.reverse with
 | []=>some []
 |v::r=>match jo v,(r.reverse).mapM jo with
  |some x,some ks=>if rising ks&&!ks.contains x&&decide (l.length<=6) then some ((uv ks.length (vj x ks)).map λi=>l.getD i .none) else Option.none
  |_,_=>Option.none
noncomputable def zo6(v:V)(s:MS):Res V :=
 match v with
 |.str x=>if x.length<=zi then .ok (.int x.length) s else .stuck
 |v=>match z4 s v with
  |some p=>.ok (.int p.2.length) s
  |.none=>.stuck
noncomputable def za3(p:Prim)(v:V)(s:MS):Res V :=
 match p with
 |.len=>zo6 v s
 |.int1=>match v with
  |.bool b=>.ok (.int (if b then 1 else 0)) s
  |_=>.stuck
 |.tuple1=>match z4 s v with
  |some p=>.ok (.tup p.2) s
  |.none=>.stuck
 |.list1=>match z4 s v with
  |some p=>.ok (.lst p.2) s
  |.none=>.stuck
 |.all1=>match v with
  |.lst l=>okB s (allTrue l)
  |_=>.stuck
 |.sorted=>match v with
  |.lst l=>match x9 l with
   |some m=>.ok (.lst m) s
   |.none=>.stuck
  |_=>.stuck
 |_=>.stuck
noncomputable def z3p(p:Prim)(v w:V)(s:MS):Res V :=
 match p with
 |.max2=>match v,w with
  |.int x,.int y=>.ok (.int (if x<y then y else x)) s
  |_,_=>.stuck
 |_=>.stuck
noncomputable def prim(p:Prim)(l:Xd V)(s:MS):Res V :=
 match l with
 | [v]=>za3 p v s
 | [v,w]=>z3p p v w s
 |_=>.stuck
noncomputable def uz:Xd V->Xc (Xd Nat)
 | []=>some []
 |.str x::r=>(uz r).map (x++·)
 |_=>Option.none
noncomputable def bm0(m:Bm)(a:V)(s:MS):Res V :=
 match m with
 |.upper=>match a with
  |.str x=>if x.all (λc=>decide (97<=c)&&decide (c<=122))&&decide (x.length<=1000) then .ok (.str (x.map (·-32))) s else .stuck
  |_=>.stuck
 |_=>.stuck
noncomputable def bm1(m:Bm)(a v:V)(s:MS):Res V :=
 match m with
 |.append=>match yb a s with
  |some p=>if p.2.length<zi then .ok .none (s.put p.1 (.list (p.2++[v]))) else .stuck
  |.none=>.stuck
 |.extend=>match yb a s with
  |some p=>match z4 s v with
   |some q=>if p.2.length+q.2.length<=zi then .ok .none (s.put p.1 (.list (p.2++q.2))) else .stuck
   |.none=>.stuck
  |.none=>.stuck
 |.pop=>match yb a s with
  |some p=>match v with
   |.int i=>match idx i p.2.length with
    |some j=>match p.2[j]? with
     |some v=>.ok v (s.put p.1 (.list (p.2.eraseIdx j)))
     |.none=>.stuck
    |.none=>.stuck
   |_=>.stuck
  |.none=>.stuck
 |.join=>match a with
  |.str x0=>match x0 with
   | []=>match v with
    |.lst l=>match uz l with
     |some x=>if x.length<=zi then .ok (.str x) s else .stuck
     |.none=>.stuck
    |_=>.stuck
   |_::_=>.stuck
  |_=>.stuck
 |_=>.stuck
noncomputable def bm2(m:Bm)(a v w:V)(s:MS):Res V :=
 match m with
 |_=>.stuck
noncomputable def mu(m:Bm)(a:V)(l:Xd V)(s:MS):Res V :=
 match l with
 | []=>bm0 m a s
 | [v]=>bm1 m a v s
 | [v,w]=>bm2 m a v w s
 |_=>.stuck
noncomputable def z8(s:MS)(range:Bool)(v:V):Xc (Xd V) :=
 match range with
 |true=>match v with
  |.int n=>if -1000<=n/\n<=zi then some ((Xr n.toNat).map λ(i:Nat)=>.int i) else Option.none
  |_=>Option.none
 |false=>match v with
  |.str x=>if x.all (λc=>decide (c<128)) then some (x.map λc=>.str [c]) else Option.none
  |v=>match dictAt v s with
   |some p=>some (p.2.map (·.1))
   |.none=>(z4 s v).map (·.2)
noncomputable def stays(s₀ s:MS)(range:Bool)(v:V):Bool :=
 match range,v with
 |false,.ref r=>decide (s₀.heap r=s.heap r)&&((dictAt v s₀).isNone||decide (s₀.wr=s.wr))
 |_,_=>true
noncomputable abbrev Calls:=Nat->Xd V->MS->Res V
noncomputable def yw:V->MS->Res Bool
 |.bool b,s=>.ok b s
 |_,_=>.stuck
noncomputable def xb(P:Prog)(C:Calls)(c:Nat)(vs:Xd V)(s:MS):Res V :=
 match P.inits c with
 |some (k,f)=>(C f (.ref (k,s.cnt k)::vs) (s.new k (.inst c []))).bind λr s'=>match r with
  |.none=>.ok (.ref (k,s.cnt k)) s'
  |_=>.stuck
 |.none=>.stuck
noncomputable def xx(P:Prog)(a:V)(m:Nat)(s:MS):Xc Nat :=
 match a with
 |.ref r=>match s.heap r with
  |some (.inst c _)=>P.meths c m
  |_=>Option.none
 |_=>Option.none
noncomputable def zj9(m:Bm)(a:V)(s:MS):Bool :=
 match m with
 |.count=>match a with|.lst _=>true|_=>false
 |.join=>match a with|.str _=>true|_=>false
 |.upper=>match a with|.str _=>true|_=>false
 |.get=>(dictAt a s).isSome
 |_=>(yb a s).isSome
noncomputable def compLoop(s₀:MS)(range:Bool)(src:V)(slot:Nat)(cond:Xc (Loc->MS->Res V))(elt:Loc->MS->Res V)(loc:Loc):Xd V->Xd V->MS->Res (Xd V)
 |acc,[],s=>if stays s₀ s range src then .ok acc s else .stuck
 |acc,x::r,s =>
  if stays s₀ s range src then
   (match cond with
    |some c=>(c (loc.set slot (some x)) s).bind yw
    |.none=>.ok true s).bind λb s =>
   if b then (elt (loc.set slot (some x)) s).bind λv s=>if acc.length<zi then compLoop s₀ range src slot cond elt loc (acc++[v]) r s else .stuck
   else compLoop s₀ range src slot cond elt loc acc r s
  else .stuck
variable{s₀:MS}{range:Bool}{src:V}{slot:Nat}{cond:Xc (Loc->MS->Res V)}{elt:Loc->MS->Res V}{loc:Loc}{acc:Xd V}
theorem u0:compLoop s₀ range src slot cond elt loc acc [] s=if stays s₀ s range src then .ok acc s else .stuck:=rfl
variable{x:V}{r:Xd V}
theorem uf:compLoop s₀ range src slot cond elt loc acc (x::r) s =
  if stays s₀ s range src then
   (match cond with
    |some c=>(c (loc.set slot (some x)) s).bind yw
    |.none=>.ok true s).bind λb s =>
   if b then (elt (loc.set slot (some x)) s).bind λv s=>if acc.length<zi then compLoop s₀ range src slot cond elt loc (acc++[v]) r s else .stuck
   else compLoop s₀ range src slot cond elt loc acc r s
  else .stuck:=rfl
mutual
noncomputable def ev(P:Prog)(C:Calls):E->Loc->MS->Res V
 |.none,_,s=>.ok .none s
 |.bool b,_,s=>.ok (.bool b) s
 |.int i,_,s=>.ok (.int i) s
 |.str x,_,s=>.ok (.str x) s
 |.loc i,l,s=>match l[i]? with
  |some (some v)=>.ok v s
  |_=>.stuck
 |.gint _ i,_,s=>.ok (.int i) s
 |.gstr _ x,_,s=>.ok (.str x) s
 |.neg a,l,s=>(ev P C a l s).bind λv s=>match v with
  |.int i=>.ok (.int (-i)) s
  |_=>.stuck
 |.not a,l,s=>(ev P C a l s).bind λv s=>(yw v s).bind λb s=>.ok (.bool (!b)) s
 |.and es,l,s=>m5 P C es l s
 |.or es,l,s=>zbx P C es l s
 |.bin o a b,l,s=>(ev P C a l s).bind λx s=>(ev P C b l s).bind λy s=>uh o x y s
 |.cmp a o b,l,s=>(ev P C a l s).bind λx s=>(ev P C b l s).bind λy s=>cmpOp o x y s
 |.cmp2 a o b o2 c,l,s=>(ev P C a l s).bind λx s=>(ev P C b l s).bind λy s=>(cmpOp o x y s).bind λv s=>(yw v s).bind λt s =>
   if t then (ev P C c l s).bind λz s=>cmpOp o2 y z s else .ok (.bool false) s
 |.isC n a c,l,s=>(ev P C a l s).bind λv s=>match c with
  |.none|.bool _=>.ok (.bool (decide (v=c) != n)) s
  |_=>.stuck
 |.tup es,l,s=>(evL P C es l s).bind λvs s=>if vs.length<=zi then .ok (.tup vs) s else .stuck
 |.lst es,l,s=>(evL P C es l s).bind λvs s=>if vs.length<=zi then .ok (.lst vs) s else .stuck
 |.lstM k es,l,s=>(evL P C es l s).bind λvs s=>if vs.length<=zi then .ok (.ref (k,s.cnt k)) (s.new k (.list vs)) else .stuck
 |.dictM k ks es,l,s=>(evL P C es l s).bind λvs s=>if ks.length=vs.length/\ks.length<=15/\ks.Nodup then
   .ok (.ref (k,s.cnt k)) (s.new k (.dict ((ks.zip vs).map λp=>(.str p.1,p.2)))) else .stuck
 |.sub a b,l,s=>(ev P C a l s).bind λx s=>(ev P C b l s).bind λy s=>getItem x y s
 |.slice a lo hi,l,s=>(ev P C a l s).bind λx s=>(evO P C lo l s).bind λy s=>(evO P C hi l s).bind λz s=>vi x y z s
 |.attr a i,l,s=>(ev P C a l s).bind λx s=>getAttr x i s
 |.call f es,l,s=>(evL P C es l s).bind λvs s=>C f vs s
 |.meth a m es,l,s=>(ev P C a l s).bind λx s=>match xx P x m s with
  |some f=>(evL P C es l s).bind λvs s=>C f (x::vs) s
  |.none=>.stuck
 |.new c es,l,s=>(evL P C es l s).bind λvs s=>xb P C c vs s
 |.isinst a ks,l,s=>(ev P C a l s).bind λx s=>okB s (kf P s x ks)
 |.prim p es,l,s=>(evL P C es l s).bind λvs s=>prim p vs s
 |.listM k a,l,s=>(ev P C a l s).bind λx s=>match z4 s x with
  |some (_,vs)=>.ok (.ref (k,s.cnt k)) (s.new k (.list vs))
  |.none=>.stuck
 |.dictC k a,l,s=>(ev P C a l s).bind λx s=>match x with
  |.ref r=>match s.heap r with
   |some (.dict d)=>if d.length<=1000 then .ok (.ref (k,s.cnt k)) (s.new k (.dict d)) else .stuck
   |_=>.stuck
  |_=>.stuck
 |.bm m a es,l,s=>(ev P C a l s).bind λx s=>if zj9 m x s then (evL P C es l s).bind λvs s=>mu m x vs s else .stuck
 |.comp M slot range it cond elt,l,s=>(ev P C it l s).bind λsrc s=>match z8 s range src with
  |some xs=>(compLoop s range src slot (evC P C cond) (ev P C elt) l [] xs s).bind λvs s=>match M with
   |.none=>.ok (.lst vs) s
   |some k=>.ok (.ref (k,s.cnt k)) (s.new k (.list vs))
  |.none=>.stuck
noncomputable def evC(P:Prog)(C:Calls):Xc E->Xc (Loc->MS->Res V)
 |.none=>Option.none
 |some e=>some (ev P C e)
noncomputable def evO(P:Prog)(C:Calls):Xc E->Loc->MS->Res (Xc V)
 |.none,_,s=>.ok Option.none s
 |some e,l,s=>(ev P C e l s).bind λv s=>.ok (some v) s
noncomputable def evL(P:Prog)(C:Calls):Xd E->Loc->MS->Res (Xd V)
 | [],_,s=>.ok [] s
 |e::r,l,s=>(ev P C e l s).bind λv s=>(evL P C r l s).bind λvs s=>.ok (v::vs) s
noncomputable def m5(P:Prog)(C:Calls):Xd E->Loc->MS->Res V
 | [],_,_=>.stuck
 | [e],l,s=>ev P C e l s
 |e::e'::r,l,s=>(ev P C e l s).bind λv s=>(yw v s).bind λb s=>if b then m5 P C (e'::r) l s else .ok v s
noncomputable def zbx(P:Prog)(C:Calls):Xd E->Loc->MS->Res V
 | [],_,_=>.stuck
 | [e],l,s=>ev P C e l s
 |e::e'::r,l,s=>(ev P C e l s).bind λv s=>(yw v s).bind λb s=>if b then .ok v s else zbx P C (e'::r) l s
end
noncomputable def zl2(P:Prog)(C:Calls)(t:T)(v:V)(l:Loc)(s:MS):Res Loc :=
 match t with
 |.loc i=>if i<l.length then .ok (l.set i (some v)) s else .stuck
 |.item a b=>(ev P C a l s).bind λx s=>(ev P C b l s).bind λy s=>(setItem x y v s).bind λξ s=>.ok l s
noncomputable def gm(P:Prog)(C:Calls):Xd T->Xd V->Loc->MS->Res Loc
 | [],[],l,s=>.ok l s
 |t::ts,v::vs,l,s=>(zl2 P C t v l s).bind λl s=>gm P C ts vs l s
 |_,_,_,_=>.stuck
noncomputable def zud(P:Prog)(C:Calls)(ts:Xd T)(v:V)(l:Loc)(s:MS):Res Loc :=
 match v with
 |.tup vs=>gm P C ts vs l s
 |_=>.stuck
noncomputable def fj(P:Prog)(C:Calls)(ts:Xd T)(v:V)(l:Loc)(s:MS):Res Loc :=
 match v with
 |.tup vs=>gm P C ts vs l s
 |.lst vs=>gm P C ts vs l s
 |_=>.stuck
noncomputable def uu(P:Prog)(C:Calls)(ts:T ⊕ Xd T)(v:V)(l:Loc)(s:MS):Res Loc :=
 match ts with
 |.inl t=>zl2 P C t v l s
 |.inr ts=>zud P C ts v l s
noncomputable def d7(ts:T ⊕ Xd T)(range:Bool)(src:V)(s:MS):Bool :=
 match ts with
 |.inl _=>true
 |.inr _=>!range&&(z4 s src).isSome
noncomputable def jg(s₀:MS)(range:Bool)(src:V)(tgt:V->Loc->MS->Res Loc)(body:Loc->MS->Res (Fl×Loc)):Xd V->Loc->MS->Res (Fl×Loc)
 | [],l,s=>if stays s₀ s range src then .ok (.next,l) s else .stuck
 |x::r,l,s =>
  if stays s₀ s range src then
   (tgt x l s).bnd λl s=>(body l s).bind λp s=>match p.1 with
    |.next=>jg s₀ range src tgt body r p.2 s
    |.ret v=>.ok (.ret v,p.2) s
  else .stuck
variable{tgt:V->Loc->MS->Res Loc}{body:Loc->MS->Res (Fl×Loc)}{l:Loc}
theorem yq:jg s₀ range src tgt body [] l s=if stays s₀ s range src then .ok (.next,l) s else .stuck:=rfl
theorem vb:jg s₀ range src tgt body (x::r) l s=if stays s₀ s range src then
   (tgt x l s).bnd λl s=>(body l s).bind λp s=>match p.1 with
    |.next=>jg s₀ range src tgt body r p.2 s
    |.ret v=>.ok (.ret v,p.2) s
  else .stuck:=rfl
noncomputable def vw(test:Loc->MS->Res V)(body:Loc->MS->Res (Fl×Loc)):Nat->Loc->MS->Res (Fl×Loc)
 |0,_,_=>.stuck
 |n+1,l,s=>(test l s).bnd λv s=>(yw v s).bnd λb s =>
  if b then (body l s).bind λp s=>match p.1 with
   |.next=>vw test body n p.2 s
   |.ret v=>.ok (.ret v,p.2) s
  else .ok (.next,l) s
noncomputable def evQ(P:Prog)(C:Calls):E->Loc->MS->Res V
 |.call f es,l,s=>(evL P C es l s).bnd λvs s=>C f vs s
 |.meth a m es,l,s=>(ev P C a l s).bnd λx s=>match xx P x m s with
  |some f=>(evL P C es l s).bnd λvs s=>C f (x::vs) s
  |.none=>.stuck
 |.new c es,l,s=>(evL P C es l s).bnd λvs s=>xb P C c vs s
 |_,_,_=>.stuck
noncomputable def cg(P:Prog)(C:Calls)(bs:Xd Nat):Xd (Nat×E)->Loc->MS->Res (Fl×Loc)
 | [],_,_=>.stuck
 |h::r,l,s=>if bs.contains h.1 then (ev P C h.2 l s).bnd λv s=>.ok (.ret v,[]) s else cg P C bs r l s
noncomputable def zu3(P:Prog)(C:Calls)(hs:Xd (Nat×E))(l:Loc):Res (Fl×Loc)->Res (Fl×Loc)
 |.ok p s=>.ok p s
 |.exc c s=>if (P.excBase c).contains c then cg P C (P.excBase c) hs l s else .stuck
 |.stuck=>.stuck
mutual
noncomputable def ex(P:Prog)(C:Calls)(n:Nat):S->Loc->MS->Res (Fl×Loc)
 |.expr e,l,s=>(ev P C e l s).bnd λξ s=>.ok (.next,l) s
 |.assign i e,l,s=>(ev P C e l s).bnd λv s=>if i<l.length then .ok (.next,l.set i (some v)) s else .stuck
 |.setattr a i e,l,s=>(ev P C e l s).bnd λv s=>(ev P C a l s).bnd λx s=>(setAttr x i v s).bnd λξ s=>.ok (.next,l) s
 |.setitem a b e,l,s=>(ev P C e l s).bnd λv s=>(ev P C a l s).bnd λx s=>(ev P C b l s).bnd λy s=>(setItem x y v s).bnd λξ s=>.ok (.next,l) s
 |.unpack ts e,l,s=>(ev P C e l s).bnd λv s=>(fj P C ts v l s).bnd λl s=>.ok (.next,l) s
 |.ite c b1 b2,l,s=>(ev P C c l s).bnd λv s=>(yw v s).bnd λb s=>if b then exs P C n b1 l s else exs P C n b2 l s
 |.for_ ts range it body,l,s=>(ev P C it l s).bnd λsrc s=>match z8 s range src with
  |some xs=>if d7 ts range src s then jg s range src (uu P C ts) (exs P C n body) xs l s else .stuck
  |.none=>.stuck
 |.while_ c body,l,s=>vw (ev P C c) (exs P C n body) n l s
 |.ret e,l,s=>match e with
  |some e=>(ev P C e l s).bnd λv s=>.ok (.ret v,l) s
  |.none=>.ok (.ret .none,l) s
 |.raise c,_,s=>.exc c s
 |.exprX e,l,s=>(evQ P C e l s).bind λξ s=>.ok (.next,l) s
 |.assignX i e,l,s=>(evQ P C e l s).bind λv s=>if i<l.length then .ok (.next,l.set i (some v)) s else .stuck
 |.tryB b hs,l,s=>zu3 P C hs l (exs P C n b l s)
noncomputable def exs(P:Prog)(C:Calls)(n:Nat):Xd S->Loc->MS->Res (Fl×Loc)
 | [],l,s=>.ok (.next,l) s
 |st::r,l,s=>(ex P C n st l s).bind λp s=>match p.1 with
  |.next=>exs P C n r p.2 s
  |.ret v=>.ok (.ret v,p.2) s
end
noncomputable def run(P:Prog):Nat->Calls
 |0,_,_,_=>.stuck
 |n+1,f,vs,s=>match P.fns f with
  |some fn=>if vs.length=fn.np then
    (exs P (run P n) n fn.body (vs.map some++Jp (fn.names.length-fn.np) Option.none) s).bind λp s=>.ok (match p.1 with|.ret v=>v|.next=>.none) s
   else .stuck
  |.none=>.stuck
theorem zvx(P:Prog)(C:Calls):∀i l s,ev P C (.loc i) l s=match l[i]? with
  |some (some v)=>.ok v s
  |_=>.stuck:=by intros;rfl
theorem zvy(P:Prog)(C:Calls):∀a l s,ev P C (.neg a) l s=(ev P C a l s).bind λv s=>match v with
  |.int i=>.ok (.int (-i)) s
  |_=>.stuck:=by intros;rfl
theorem zgq(P:Prog)(C:Calls):∀a l s,ev P C (.not a) l s=(ev P C a l s).bind λv s=>(yw v s).bind λb s=>.ok (.bool (!b)) s:=by intros;rfl
theorem tw(P:Prog)(C:Calls):∀es l s,ev P C (.and es) l s=m5 P C es l s:=by intros;rfl
theorem zad(P:Prog)(C:Calls):∀es l s,ev P C (.or es) l s=zbx P C es l s:=by intros;rfl
theorem zoc(P:Prog)(C:Calls):∀o a b l s,ev P C (.bin o a b) l s=(ev P C a l s).bind λx s=>(ev P C b l s).bind λy s=>uh o x y s:=by intros;rfl
theorem zgn(P:Prog)(C:Calls):∀a o b l s,ev P C (.cmp a o b) l s=(ev P C a l s).bind λx s=>(ev P C b l s).bind λy s=>cmpOp o x y s:=by intros;rfl
theorem nt(P:Prog)(C:Calls):∀a o b o2 c l s,ev P C (.cmp2 a o b o2 c) l s=(ev P C a l s).bind λx s=>(ev P C b l s).bind λy s=>(cmpOp o x y s).bind λv s=>(yw v s).bind λt s =>
   if t then (ev P C c l s).bind λz s=>cmpOp o2 y z s else .ok (.bool false) s:=by intros;rfl
theorem zgo(P:Prog)(C:Calls):∀n a c l s,ev P C (.isC n a c) l s=(ev P C a l s).bind λv s=>match c with
  |.none|.bool _=>.ok (.bool (decide (v=c) != n)) s
  |_=>.stuck:=by intros;rfl
theorem zof(P:Prog)(C:Calls):∀es l s,ev P C (.tup es) l s=(evL P C es l s).bind λvs s=>if vs.length<=zi then .ok (.tup vs) s else .stuck:=by intros;rfl
theorem zod(P:Prog)(C:Calls):∀es l s,ev P C (.lst es) l s=(evL P C es l s).bind λvs s=>if vs.length<=zi then .ok (.lst vs) s else .stuck:=by intros;rfl
theorem zsp(P:Prog)(C:Calls):∀k es l s,ev P C (.lstM k es) l s=(evL P C es l s).bind λvs s=>if vs.length<=zi then .ok (.ref (k,s.cnt k)) (s.new k (.list vs)) else .stuck:=by intros;rfl
theorem zd7(P:Prog)(C:Calls):∀k ks es l s,ev P C (.dictM k ks es) l s=(evL P C es l s).bind λvs s=>if ks.length=vs.length/\ks.length<=15/\ks.Nodup then
   .ok (.ref (k,s.cnt k)) (s.new k (.dict ((ks.zip vs).map λp=>(.str p.1,p.2)))) else .stuck:=by intros;rfl
theorem zoe(P:Prog)(C:Calls):∀a b l s,ev P C (.sub a b) l s=(ev P C a l s).bind λx s=>(ev P C b l s).bind λy s=>getItem x y s:=by intros;rfl
theorem zd9(P:Prog)(C:Calls):∀a lo hi l s,ev P C (.slice a lo hi) l s=(ev P C a l s).bind λx s=>(evO P C lo l s).bind λy s=>(evO P C hi l s).bind λz s=>vi x y z s:=by intros;rfl
theorem ziz(P:Prog)(C:Calls):∀a i l s,ev P C (.attr a i) l s=(ev P C a l s).bind λx s=>getAttr x i s:=by intros;rfl
theorem m7(P:Prog)(C:Calls):∀f es l s,ev P C (.call f es) l s=(evL P C es l s).bind λvs s=>C f vs s:=by intros;rfl
theorem m9(P:Prog)(C:Calls):∀a m es l s,ev P C (.meth a m es) l s=(ev P C a l s).bind λx s=>match xx P x m s with
  |some f=>(evL P C es l s).bind λvs s=>C f (x::vs) s
  |.none=>.stuck:=by intros;rfl
theorem zgp(P:Prog)(C:Calls):∀c es l s,ev P C (.new c es) l s=(evL P C es l s).bind λvs s=>xb P C c vs s:=by intros;rfl
theorem fz(P:Prog)(C:Calls):∀a ks l s,ev P C (.isinst a ks) l s=(ev P C a l s).bind λx s=>okB s (kf P s x ks):=by intros;rfl
theorem nv(P:Prog)(C:Calls):∀p es l s,ev P C (.prim p es) l s=(evL P C es l s).bind λvs s=>prim p vs s:=by intros;rfl
theorem zd8(P:Prog)(C:Calls):∀k a l s,ev P C (.listM k a) l s=(ev P C a l s).bind λx s=>match z4 s x with
  |some (_,vs)=>.ok (.ref (k,s.cnt k)) (s.new k (.list vs))
  |.none=>.stuck:=by intros;rfl
theorem zd6(P:Prog)(C:Calls):∀k a l s,ev P C (.dictC k a) l s=(ev P C a l s).bind λx s=>match x with
  |.ref r=>match s.heap r with
   |some (.dict d)=>if d.length<=1000 then .ok (.ref (k,s.cnt k)) (s.new k (.dict d)) else .stuck
   |_=>.stuck
  |_=>.stuck:=by intros;rfl
theorem zuu(P:Prog)(C:Calls):∀m a es l s,ev P C (.bm m a es) l s=(ev P C a l s).bind λx s=>if zj9 m x s then (evL P C es l s).bind λvs s=>mu m x vs s else .stuck:=by intros;rfl
theorem m8(P:Prog)(C:Calls):∀M slot range it cond elt l s,ev P C (.comp M slot range it cond elt) l s=(ev P C it l s).bind λsrc s=>match z8 s range src with
  |some xs=>(compLoop s range src slot (evC P C cond) (ev P C elt) l [] xs s).bind λvs s=>match M with
   |.none=>.ok (.lst vs) s
   |some k=>.ok (.ref (k,s.cnt k)) (s.new k (.list vs))
  |.none=>.stuck:=by intros;rfl
theorem zd4(P:Prog)(C:Calls):∀l s,evO P C Option.none l s=.ok Option.none s:=by intros;rfl
theorem zd5(P:Prog)(C:Calls):∀e l s,evO P C (some e) l s=(ev P C e l s).bind λv s=>.ok (some v) s:=by intros;rfl
theorem zbw(P:Prog)(C:Calls):∀l s,evL P C [] l s=.ok [] s:=by intros;rfl
theorem yo(P:Prog)(C:Calls):∀e r l s,evL P C (e::r) l s=(ev P C e l s).bind λv s=>(evL P C r l s).bind λvs s=>.ok (v::vs) s:=by intros;rfl
theorem wg(P:Prog)(C:Calls):∀l s,m5 P C [] l s=.stuck:=by intros;rfl
theorem v8(P:Prog)(C:Calls):∀e l s,m5 P C [e] l s=ev P C e l s:=by intros;rfl
theorem kt(P:Prog)(C:Calls):∀e e' r l s,m5 P C (e::e'::r) l s=(ev P C e l s).bind λv s=>(yw v s).bind λb s=>if b then m5 P C (e'::r) l s else .ok v s:=by intros;rfl
theorem um(P:Prog)(C:Calls):∀l s,zbx P C [] l s=.stuck:=by intros;rfl
theorem wl(P:Prog)(C:Calls):∀e l s,zbx P C [e] l s=ev P C e l s:=by intros;rfl
theorem k9(P:Prog)(C:Calls):∀e e' r l s,zbx P C (e::e'::r) l s=(ev P C e l s).bind λv s=>(yw v s).bind λb s=>if b then .ok v s else zbx P C (e'::r) l s:=by intros;rfl
theorem n3(P:Prog)(C:Calls)(n:Nat):∀e l s,ex P C n (.expr e) l s=(ev P C e l s).bnd λξ s=>.ok (.next,l) s:=by intros;rfl
theorem uo(P:Prog)(C:Calls)(n:Nat):∀i e l s,ex P C n (.assign i e) l s=(ev P C e l s).bnd λv s=>if i<l.length then .ok (.next,l.set i (some v)) s else .stuck:=by intros;rfl
theorem me(P:Prog)(C:Calls)(n:Nat):∀a i e l s,ex P C n (.setattr a i e) l s=(ev P C e l s).bnd λv s=>(ev P C a l s).bnd λx s=>(setAttr x i v s).bnd λξ s=>.ok (.next,l) s:=by intros;rfl
theorem mh(P:Prog)(C:Calls)(n:Nat):∀a b e l s,ex P C n (.setitem a b e) l s=(ev P C e l s).bnd λv s=>(ev P C a l s).bnd λx s=>(ev P C b l s).bnd λy s=>(setItem x y v s).bnd λξ s=>.ok (.next,l) s:=by intros;rfl
theorem zae(P:Prog)(C:Calls)(n:Nat):∀ts e l s,ex P C n (.unpack ts e) l s=(ev P C e l s).bnd λv s=>(fj P C ts v l s).bnd λl s=>.ok (.next,l) s:=by intros;rfl
theorem bz(P:Prog)(C:Calls)(n:Nat):∀c b1 b2 l s,ex P C n (.ite c b1 b2) l s=(ev P C c l s).bnd λv s=>(yw v s).bnd λb s=>if b then exs P C n b1 l s else exs P C n b2 l s:=by intros;rfl
theorem zgr(P:Prog)(C:Calls)(n:Nat):∀ts range it body l s,ex P C n (.for_ ts range it body) l s=(ev P C it l s).bnd λsrc s=>match z8 s range src with
  |some xs=>if d7 ts range src s then jg s range src (uu P C ts) (exs P C n body) xs l s else .stuck
  |.none=>.stuck:=by intros;rfl
theorem tz(P:Prog)(C:Calls)(n:Nat):∀c body l s,ex P C n (.while_ c body) l s=vw (ev P C c) (exs P C n body) n l s:=by intros;rfl
theorem tx(P:Prog)(C:Calls)(n:Nat):∀e l s,ex P C n (.ret e) l s=match e with
  |some e=>(ev P C e l s).bnd λv s=>.ok (.ret v,l) s
  |.none=>.ok (.ret .none,l) s:=by intros;rfl
theorem zog(P:Prog)(C:Calls)(n:Nat):∀c l s,ex P C n (.raise c) l s=.exc c s:=by intros;rfl
theorem uq(P:Prog)(C:Calls)(n:Nat):∀e l s,ex P C n (.exprX e) l s=(evQ P C e l s).bind λξ s=>.ok (.next,l) s:=by intros;rfl
theorem u4(P:Prog)(C:Calls)(n:Nat):∀i e l s,ex P C n (.assignX i e) l s=(evQ P C e l s).bind λv s=>if i<l.length then .ok (.next,l.set i (some v)) s else .stuck:=by intros;rfl
theorem tv(P:Prog)(C:Calls):∀f es l s,evQ P C (.call f es) l s=(evL P C es l s).bnd λvs s=>C f vs s:=by intros;rfl
theorem m6(P:Prog)(C:Calls):∀a m es l s,evQ P C (.meth a m es) l s=(ev P C a l s).bnd λx s=>match xx P x m s with
  |some f=>(evL P C es l s).bnd λvs s=>C f (x::vs) s
  |.none=>.stuck:=by intros;rfl
theorem zi0(P:Prog)(C:Calls)(n:Nat):∀b hs l s,ex P C n (.tryB b hs) l s=zu3 P C hs l (exs P C n b l s):=by intros;rfl
theorem zi1(P:Prog)(C:Calls)(n:Nat):∀l s,exs P C n [] l s=.ok (.next,l) s:=by intros;rfl
theorem jb(P:Prog)(C:Calls)(n:Nat):∀st r l s,exs P C n (st::r) l s=(ex P C n st l s).bind λp s=>match p.1 with
  |.next=>exs P C n r p.2 s
  |.ret v=>.ok (.ret v,p.2) s:=by intros;rfl
theorem byQ{A:Prop}(h:∀Q:Prop,(A->Q)->Q):A:=h A id
end Internal
end
section
namespace Internal
open PySem PySem.W PyProof.Rows
structure Tie where
 ρ:Lbl->Xc Addr
 δ:Lbl->Xc Addr
 pv:Addr->Prop
 wr:Nat
 st:Xd Env
noncomputable def Tie.Own(t:Tie)(a:Addr):Prop:=∃l,t.ρ l=some a\/t.δ l=some a
noncomputable def Tie.Fr(t:Tie)(a:Addr):Prop:=t.pv a/\∃e,e∈t.st/\e.frame=some a
noncomputable def Tie.Avoid(t:Tie)(a:Addr):Prop:=t.Own a\/t.pv a
structure Tie.Le(t t':Tie):Prop where
 ρ:∀l a,t.ρ l=some a->t'.ρ l=some a
 δ:∀l a,t.δ l=some a->t'.δ l=some a
 pv:t'.pv=t.pv
 wr:t.wr<=t'.wr
 st:t'.st=t.st
theorem Tie.Le.refl(t:Tie):t.Le t:=⟨λξ ξ e=>e,λξ ξ e=>e,rfl,Zs _,rfl⟩
variable{t':Tie}{a:Addr}
theorem Tie.Le.fr{t:Tie}(x:t.Le t')(f:t'.Fr a):t.Fr a:=⟨x.pv▸f.1,x.st▸f.2⟩
theorem Tie.Le.fr'{t:Tie}(x:t.Le t')(f:t.Fr a):t'.Fr a:=⟨x.pv▸f.1,x.st▸f.2⟩
variable{t'':Tie}
theorem Tie.Le.trans{t:Tie}(x:t.Le t')(y:t'.Le t''):t.Le t'':=⟨λl a e=>y.ρ l a (x.ρ l a e),λl a e=>y.δ l a (x.δ l a e),y.pv.trans x.pv,Zp x.wr y.wr,y.st.trans x.st⟩
noncomputable def PL(h:Heap)(a:Addr)(vs:Array Xb):Prop:=∃n,h.get? a=some {cls:=.type "list",data:=.seq vs n}
noncomputable def PT(h:Heap)(a:Addr)(vs:Array Xb):Prop:=∃n,h.get? a=some {cls:=.type "tuple",data:=.seq vs n}
variable{h:Heap}{vs:Array Xb}
theorem PL.isList(x:PL h a vs):h.IsList a vs:=let ⟨n,e⟩:=x;⟨_,e,rfl,n,rfl⟩
theorem PT.isTuple(x:PT h a vs):h.IsTuple a vs:=let ⟨n,e⟩:=x;⟨_,e,rfl,n,rfl⟩
theorem PT.isTup(x:PT h a vs):IsTup h a vs:=let ⟨n,e⟩:=x;⟨_,e,rfl,n,rfl⟩
mutual
noncomputable def VRel(t:Tie)(h:Heap):V->Xb->Prop
 |.none,v=>v=.none
 |.bool b,v=>v=.bool b
 |.int i,v=>∃k,v=.int i k
 |.str x,v=>∃k,v=.str (Str.mk x.toArray) k
 |.tup l,v=>∃a vs,v=.ref a/\PT h a vs/\¬t.Avoid a/\l.length<=zi/\VRels t h l vs.toList
 |.lst l,v=>∃a vs,v=.ref a/\PL h a vs/\¬t.Avoid a/\l.length<=zi/\VRels t h l vs.toList
 |.ref l,v=>∃a,v=.ref a/\t.ρ l=some a
 |.exc c,v=>∃e o,v=.ref e/\h.get? e=some o/\o.cls=.ref c/\¬t.Avoid e
noncomputable def VRels(t:Tie)(h:Heap):Xd V->Xd Xb->Prop
 | [],vs=>vs=[]
 |x::l,vs=>∃v r,vs=v::r/\VRel t h x v/\VRels t h l r
end
structure Step(X:Addr->Prop)(t t':Tie)(s s':Xa):Prop where
 le:t.Le t'
 keepW:∀a o,s.heap.get? a=some o->(t.Own a->t'.wr=t.wr)->¬X a->¬t.Fr a->s'.heap.get? a=some o
 slots:∀a o,s.heap.get? a=some o->¬t.Own a->¬X a->t.Fr a->∃sl,s'.heap.get? a=some {o with slots:=sl}
 new:∀a,t'.Own a->t.Own a\/s.heap.get? a=none
 live:∀a o,s.heap.get? a=some o->(s'.heap.get? a).isSome=true
 gens:s'.gens=s.gens
 os:s'.os=s.os
theorem Step.refl(X:Addr->Prop)(t:Tie)(s:Xa):Step X t t s s:=⟨.refl t,λξ ξ e ξ ξ ξ=>e,λξ o e ξ ξ ξ=>⟨o.slots,e⟩,λξ o=>.inl o,λξ ξ e=>by rw[e];rfl,rfl,rfl⟩
variable{X:Addr->Prop}{s s':Xa}
theorem Step.keep{t:Tie}(x:Step X t t' s s')(a:Addr)(o:Obj)(e:s.heap.get? a=some o)(n:¬t.Own a)(nx:¬X a)(nf:¬t.Fr a):s'.heap.get? a=some o:=x.keepW a o e (λq=>(n q).elim) nx nf
theorem Step.trans{t:Tie}{s'':Xa}(x:Step X t t' s s')(y:Step X t' t'' s' s''):Step X t t'' s s'' where
 le:=x.le.trans y.le
 keepW a o e n nx nf:=by
  have sq:t.Own a->t'.wr=t.wr/\t''.wr=t'.wr:=λq=>by have:=n q;have:=x.le.wr;have:=y.le.wr;lia
  exact y.keepW a o (x.keepW a o e (λq=>(sq q).1) nx nf) (λq=>(x.new a q).elim (λq=>(sq q).2) λz=>by rw[e]at z;cases z) nx λq=>nf (x.le.fr q)
 slots a o e n nx f:=by
  refine zr (x.slots a o e n nx f) λsl e1=>?_;refine zr (y.slots a _ e1 (λq=>(x.new a q).elim n λz=>by rw[e]at z;cases z) nx (x.le.fr' f)) λsl2 e2=>?_;exact⟨sl2,e2⟩
 new a o:=(y.new a o).elim (x.new a) λz=>by
  cases q:s.heap.get? a with
  |none=>exact .inr rfl
  |some ob =>
   have:=x.live a ob q;rw[z]at this;exact qi this
 live a o e:=by
  have:=x.live a o e;refine zr (Jh.mp this) λo' e'=>?_;exact y.live a o' e'
 gens:=y.gens.trans x.gens
 os:=y.os.trans x.os
theorem Step.mono{Y:Addr->Prop}{t:Tie}(x:Step X t t' s s')(xy:∀a,X a->Y a):Step Y t t' s s':=⟨x.le,λa o e n ny=>x.keepW a o e n λq=>ny (xy a q),λa o e n ny=>x.slots a o e n λq=>ny (xy a q),x.new,x.live,x.gens,x.os⟩
noncomputable def noX:Addr->Prop:=λξ=>False
mutual
theorem VRel.map{t t':Tie}{h h':Heap}(hρ:∀l a,t.ρ l=some a->t'.ρ l=some a)(k:∀a o,¬t.Avoid a->h.get? a=some o->h'.get? a=some o/\¬t'.Avoid a):∀(x:V) {v:Xb},VRel t h x v->VRel t' h' x v
 |.none,_,e=>e
 |.bool _,_,e=>e
 |.int _,_,e=>e
 |.str _,_,e=>e
 |.tup l,_,⟨a,vs,e,⟨n,ho⟩,na,sz,r⟩=>⟨a,vs,e,⟨n,(k a _ na ho).1⟩,(k a _ na ho).2,sz,VRels.map hρ k l r⟩
 |.lst l,_,⟨a,vs,e,⟨n,ho⟩,na,sz,r⟩=>⟨a,vs,e,⟨n,(k a _ na ho).1⟩,(k a _ na ho).2,sz,VRels.map hρ k l r⟩
 |.ref l,_,⟨a,e,r⟩=>⟨a,e,hρ l a r⟩
 |.exc _,_,⟨e,o,h1,h2,h3,h4⟩=>⟨e,o,h1,(k e o h4 h2).1,h3,(k e o h4 h2).2⟩
theorem VRels.map{t t':Tie}{h h':Heap}(hρ:∀l a,t.ρ l=some a->t'.ρ l=some a)(k:∀a o,¬t.Avoid a->h.get? a=some o->h'.get? a=some o/\¬t'.Avoid a):∀(l:Xd V) {vs:Xd Xb},VRels t h l vs->VRels t' h' l vs
 | [],_,e=>e
 |x::l,_,⟨v,r,e,a,b⟩=>⟨v,r,e,VRel.map hρ k x a,VRels.map hρ k l b⟩
end
variable{σ σ':Xa}
theorem Step.val{t:Tie}(s:Step X t t' σ σ')(xp:∀a,X a->t.pv a)(a:Addr)(o:Obj)(na:¬t.Avoid a)(ho:σ.heap.get? a=some o):σ'.heap.get? a=some o/\¬t'.Avoid a :=
 ⟨s.keep a o ho (λq=>na (.inl q)) (λq=>na (.inr (xp a q))) (λq=>na (.inr q.1)),λq=>q.elim (λq=>(s.new a q).elim (λq=>na (.inl q)) λz=>by rw[ho]at z;cases z) (λq=>na (.inr (by rw[s.le.pv]at q;exact q)))⟩
theorem VRel.step{t:Tie}(s:Step X t t' σ σ')(xp:∀a,X a->t.pv a)(x:V){v:Xb}(r:VRel t σ.heap x v):VRel t' σ'.heap x v:=VRel.map s.le.ρ (s.val xp) x r
theorem VRels.step{t:Tie}(s:Step X t t' σ σ')(xp:∀a,X a->t.pv a)(l:Xd V){vs:Xd Xb}(r:VRels t σ.heap l vs):VRels t' σ'.heap l vs:=VRels.map s.le.ρ (s.val xp) l r
noncomputable def Tie.hideS(t:Tie)(P:Addr->Prop)(l:Xd Env):Tie:={t with pv:=λa=>t.pv a\/P a,st:=l}
noncomputable abbrev Tie.hide (t:Tie) (P:Addr->Prop):Tie:=t.hideS P t.st
variable{P:Addr->Prop}{l:Xd Env}
theorem Tie.hid{t:Tie}(np:∀a,P a->h.get? a=none)(a:Addr)(o:Obj)(na:¬t.Avoid a)(ho:h.get? a=some o):h.get? a=some o/\¬(t.hideS P l).Avoid a :=
 ⟨ho,λq=>Or.elim q (λq=>na (.inl q)) λq=>Or.elim q (λq=>na (.inr q)) λq=>absurd ((np a q).symm.trans ho) nofun⟩
theorem VRel.hide{t:Tie}(np:∀a,P a->h.get? a=none)(x:V){v:Xb}(r:VRel t h x v):VRel (t.hideS P l) h x v:=VRel.map (t:=t) (t':=t.hideS P l) (λξ ξ e=>e) (Tie.hid np) x r
theorem VRels.length{t:Tie}{h:Heap}:∀{l:Xd V}{vs:Xd Xb},VRels t h l vs->vs.length=l.length
 | [],_,e=>by subst e;rfl
 |_::l,_,⟨v,r,e,_,b⟩=>by subst e;simp[VRels.length b]
theorem VRels.append{t:Tie}{h:Heap}:∀{l m:Xd V}{vs ws:Xd Xb},VRels t h l vs->VRels t h m ws->VRels t h (l++m) (vs++ws)
 | [],_,_,_,e,b=>by subst e;exact b
 |_::_,_,_,_,⟨v,r,e,a,c⟩,b=>by subst e;exact⟨v,_,rfl,a,VRels.append c b⟩
theorem VRels.get{t:Tie}{h:Heap}:∀{l:Xd V}{vs:Xd Xb}{i:Nat}{x:V},VRels t h l vs->l[i]?=some x->∃v,vs[i]?=some v/\VRel t h x v
 |x::l,_,0,_,⟨v,r,e,a,b⟩,q=>by subst e;obtain rfl:=Je q;exact⟨v,rfl,a⟩
 |x::l,_,i+1,_,⟨v,r,e,a,b⟩,q=>by subst e;exact VRels.get (l:=l) (vs:=r) b q
theorem VRels.take{t:Tie}{h:Heap}:∀{l:Xd V}{vs:Xd Xb} (n:Nat),VRels t h l vs->VRels t h (l.take n) (vs.take n)
 | [],_,n,e=>by subst e;simp[VRels]
 |x::l,_,0,_=>rfl
 |x::l,_,n+1,⟨v,r,e,a,b⟩=>by subst e;exact⟨v,_,rfl,a,VRels.take n b⟩
theorem VRels.drop{t:Tie}{h:Heap}:∀{l:Xd V}{vs:Xd Xb} (n:Nat),VRels t h l vs->VRels t h (l.drop n) (vs.drop n)
 | [],_,n,e=>by subst e;simp[VRels]
 |x::l,vs,0,r=>r
 |x::l,_,n+1,⟨v,r,e,a,b⟩=>by subst e;exact VRels.drop n b
theorem VRels.eraseIdx{t:Tie}{h:Heap}:∀{l:Xd V}{vs:Xd Xb} (i:Nat),VRels t h l vs->VRels t h (l.eraseIdx i) (vs.eraseIdx i)
 | [],_,i,e=>by subst e;simp[VRels]
 |y::l,_,0,⟨v,r,e,a,b⟩=>by subst e;exact b
 |y::l,_,i+1,⟨v,r,e,a,b⟩=>by subst e;exact⟨v,_,rfl,a,VRels.eraseIdx i b⟩
end Internal
end
section
namespace Internal
end Internal
end
section
namespace Internal
open PySem PySem.W PyProof.Rows
structure Gd where
 prog:Program
 w:World
 K:Frag
 mg:Xv->Xc Xb
 mb:Xv->Xc Xb
 h₀:Heap
 P:Prog
 fa:Nat->Xc Addr
 ca:Nat->Xc Addr
 an:Nat->Xv
noncomputable abbrev Gd.M (G:Gd):Model:=model G.prog G.w
noncomputable abbrev qa (x:Xd Nat):Xv:=Str.mk x.toArray
noncomputable def DRel(t:Tie)(h:Heap):Xd (V×V)->Xd (Xv×Xb)->Prop
 | [],kvs=>kvs=[]
 |(k,v)::r,kvs=>∃x y rest,k=.str x/\kvs=(qa x,y)::rest/\VRel t h v y/\DRel t h r rest
noncomputable def zm1(G:Gd)(t:Tie)(h:Heap)(as:Xd (Nat×V))(m:Xv->Xc Xb):Prop :=
 (∀i v,ym i as=some v->∃y,m (G.an i)=some y/\VRel t h v y)/\∀x y,m x=some y->∃i v,x=G.an i/\ym i as=some v
noncomputable def NsZ(h:Heap)(a:Addr)(m:Xv->Xc Xb)(n:Nat):Prop :=
 ∃o es ep,h.get? a=some o/\o.data=.dict es ep/\StrKeys es/\(∀name,nsFind es name=m name)/\es.size<=n
variable{h:Heap}{a:Addr}{m:Xv->Xc Xb}{n:Nat}
theorem NsZ.ns(x:NsZ h a m n):h.Ns a m:=let ⟨o,es,ep,h1,h2,h3,h4,_⟩:=x;⟨o,es,ep,h1,h2,h3,h4⟩
theorem zdb{M:Model}{A:Xe}{E:Xb->Xa->Prop}{s:Xa}{name:Xv}{v:Xb}{Q:Unit->Xa->Prop}(hn:NsZ s.heap a m n)(h:∀h',NsZ h' a (λx=>if x=name then some v else m x) (if (m name).isSome then n else n+1)->J8 a s.heap h'->Q () {s with heap:=h',toks:=s.toks+1}):
  Xn M A (nsSet a name v) Q E s:=by
 refine zjz hn λo es ep ho hd hk hm hz=>?_;have hany:es.any (·.refKey)=false:=by
  rw[Array.any_eq_false'];intro e he;refine ij (hk e he) λn t h=>?_;simp[DictEntry.refKey,h]
 unfold nsSet;refine Ze (Ze (wpAny_askSetting (Zr (Ze (wpAny_mkText (Ze (wpAny_loadPart (s:={s with toks:=s.toks+1}) ho ?_)))))));rw[hd];dsimp only;rw[aRefKeyMayBeTheName_at,hany,Bool.and_false];refine wpAny_updatePart (s:={s with toks:=s.toks+1}) ho ?_;refine h _ ?_ (J8.update ..);obtain⟨c,d,dt,sl⟩:=o;subst hd;have hfind:=hm name;unfold nsFind at hfind;rw[findBy_of_findIdx?]at hfind;cases hi:es.findIdx? (·.key.isStr name)with
 |some i =>
  have hlt:i<es.size:=(Array.findIdx?_eq_some_iff_getElem.mp hi).1;have hsome:(m name).isSome=true:=by
   rw[<- hfind,hi];simp[hlt]
  have hif:(if (m name).isSome=true then n else n+1)=n:=by rw[hsome];rfl
  rw[hif];refine⟨_,_,ep,Heap.get?_update_self _ ho (by simp only[Obj.putName_eq,Obj.putNameByArray,hi];rfl),by simp only[Obj.putName_eq,Obj.putNameByArray,hi];rfl,hk.modify _ _,λx=>?_,by rw[Array.size_modify];exact hz⟩;show _=if x=name then some v else m x;rw[<- hm];exact findBy_modify (λn v=>v.isStr n) Value.isStr_inj es name x v i hi
 |none =>
  have hnone:(m name).isSome=false:=by rw[<- hfind,hi];rfl
  have hif:(if (m name).isSome=true then n else n+1)=n+1:=by rw[hnone];rfl
  rw[hif];refine⟨_,_,ep+1,Heap.get?_update_self _ ho (by simp only[Obj.putName_eq,Obj.putNameByArray,hi];rfl),by simp only[Obj.putName_eq,Obj.putNameByArray,hi];rfl,hk.push _ _ _ _,λx=>?_,by rw[Array.size_push];lia⟩;show _=if x=name then some v else m x;rw[<- hm];exact findBy_push (λn v=>v.isStr n) es name x _ _ v (λy=>by
   show(name==y)=decide (y=name);by_cases q:y=name
   .subst q;simp
   .have:¬name=y:=λz=>q z.symm;simp[q,this]) hi
noncomputable def ObjOk(G:Gd)(t:Tie)(h:Heap)(l:Lbl):MObj->Prop
 |.list xs=>∃a vs,t.ρ l=some a/\PL h a vs/\xs.length<=zi/\VRels t h xs vs.toList
 |.dict d=>∃a kvs,t.ρ l=some a/\h.DictOf (strKind G.prog G.w) a kvs/\DRel t h d kvs
 |.tdict _=>False
 |.inst c as=>∃a d C m,t.ρ l=some a/\t.δ l=some d/\G.ca c=some C/\h.get? a=some (instObj C d)/\NsZ h d m as.length/\zm1 G t h as m
structure Rel(G:Gd)(t:Tie)(st:MS)(s:Xa):Prop where
 base:∀b o,G.h₀.get? b=some o->s.heap.get? b=some o
 apart:∀a,t.Avoid a->G.h₀.get? a=none
 live:∀a,t.Avoid a->(s.heap.get? a).isSome=true
 pv:∀a,t.pv a->¬t.Own a
 injρ:∀l l' a,t.ρ l=some a->t.ρ l'=some a->l=l'
 injδ:∀l l' a,t.δ l=some a->t.δ l'=some a->l=l'
 two:∀l l' a,t.ρ l=some a->t.δ l'=some a->False
 objs:∀l o,st.heap l=some o->ObjOk G t s.heap l o
 cnt:∀k i,st.cnt k<=i->t.ρ (k,i)=none/\t.δ (k,i)=none/\st.heap (k,i)=none
 sys:∀l,t.ρ l≠some sysModules
 wr:t.wr=st.wr
theorem DRel.map{t t':Tie}{h h':Heap}(k:∀(x:V) {v:Xb},VRel t h x v->VRel t' h' x v):∀{d:Xd (V×V)}{kvs:Xd (Xv×Xb)},DRel t h d kvs->DRel t' h' d kvs
 | [],_,e=>e
 |(_,v)::_,_,⟨x,y,r,e1,e2,a,b⟩=>⟨x,y,r,e1,e2,k v a,DRel.map k b⟩
variable{X:Addr->Prop}{t':Tie}{σ σ':Xa}
theorem DRel.step{t:Tie}(s:Step X t t' σ σ')(xp:∀a,X a->t.pv a){d:Xd (V×V)}{kvs:Xd (Xv×Xb)}(r:DRel t σ.heap d kvs):DRel t' σ'.heap d kvs:=DRel.map (VRel.step s xp) r
variable{G:Gd}{l:Lbl}{o:MObj}
theorem ObjOk.map{t:Tie}{h':Heap}(hρ:∀l a,t.ρ l=some a->t'.ρ l=some a)(hδ:∀l a,t.δ l=some a->t'.δ l=some a)(k:∀a o,¬t.Avoid a->h.get? a=some o->h'.get? a=some o/\¬t'.Avoid a)(same:∀a o,(t.ρ l=some a\/t.δ l=some a)->h.get? a=some o->h'.get? a=some o)(r:ObjOk G t h l o):ObjOk G t' h' l o:=by
 cases o with
 |list=>refine qo r λa vs e nq3 sz b=>?_;obtain⟨n,ho⟩:=nq3;exact⟨a,vs,hρ l a e,⟨n,same a _ (.inl e) ho⟩,sz,VRels.map hρ k _ b⟩
 |dict=>refine jz r λa kvs e nq3 b=>?_;obtain⟨o,es,ep,ho,r⟩:=nq3;exact⟨a,kvs,hρ l a e,⟨o,es,ep,same a o (.inl e) ho,r⟩,DRel.map (VRel.map hρ k) b⟩
 |tdict=>exact r.elim
 |inst =>
  refine zva r λa d C m e f c ho nq8 b=>?_;obtain⟨od,es,ep,hd,r⟩:=nq8;exact⟨a,d,C,m,hρ l a e,hδ l d f,c,same a _ (.inl e) ho,⟨od,es,ep,same d _ (.inr f) hd,r⟩,λi v e=>let ⟨y,e1,e2⟩:=b.1 i v e;⟨y,e1,VRel.map hρ k v e2⟩,b.2⟩
theorem ObjOk.step{t:Tie}(s:Step X t t' σ σ')(xp:∀a,X a->t.pv a)(same:∀a o,(t.ρ l=some a\/t.δ l=some a)->σ.heap.get? a=some o->σ'.heap.get? a=some o)(r:ObjOk G t σ.heap l o):ObjOk G t' σ'.heap l o:=ObjOk.map s.le.ρ s.le.δ (s.val xp) same r
section
variable {G:Gd}{t:Tie}{st:MS}{s:Xa}
variable{a:Addr}
theorem Rel.fresh(R:Rel G t st s)(e:s.heap.get? a=none):¬t.Avoid a:=λq=>by
 have:=R.live a q;rw[e]at this;exact qi this
variable{s':Xa}
theorem Step.grow(_R:Rel G t st s)(hk:∀b o,s.heap.get? b=some o->s'.heap.get? b=some o)(hg:s'.gens=s.gens)(ho:s'.os=s.os):Step noX t t s s' :=
 ⟨.refl t,λa o e ξ ξ ξ=>hk a o e,λa o e ξ ξ ξ=>⟨o.slots,hk a o e⟩,λξ o=>.inl o,λa o e=>by rw[hk a o e];rfl,hg,ho⟩
theorem Rel.grow(R:Rel G t st s)(hk:∀b o,s.heap.get? b=some o->s'.heap.get? b=some o)(hg:s'.gens=s.gens)(ho:s'.os=s.os):Rel G t st s' where
 base b o e:=hk b o (R.base b o e)
 apart:=R.apart
 live a q:=by obtain⟨o,e⟩:=Jh.mp (R.live a q);rw[hk a o e];rfl
 pv:=R.pv
 injρ:=R.injρ
 injδ:=R.injδ
 two:=R.two
 objs l o e:=(R.objs l o e).step (Step.grow R hk hg ho) (λξ x=>x.elim) λa o ξ e=>hk a o e
 cnt:=R.cnt
 sys:=R.sys
 wr:=R.wr
theorem Rel.toks(R:Rel G t st s)(n:Nat):Rel G t st {s with toks:=n}:=R.grow (λξ ξ e=>e) rfl rfl
theorem Step.toks(X:Addr->Prop)(t:Tie)(s:Xa)(n:Nat):Step X t t s {s with toks:=n}:=⟨.refl t,λξ ξ e ξ ξ ξ=>e,λξ o e ξ ξ ξ=>⟨o.slots,e⟩,λξ o=>.inl o,λξ ξ e=>by show(s.heap.get? _).isSome=true;rw[e];rfl,rfl,rfl⟩
noncomputable def Tie.tick(t:Tie):Tie:={t with wr:=t.wr+1}
variable{h':Heap}{tk:Nat}
theorem Step.upd(own:t.Own a)(hl:(h'.get? a).isSome=true)(hs:J8 a s.heap h'):Step noX t t.tick s {s with heap:=h',toks:=tk} :=
 ⟨⟨λξ ξ e=>e,λξ ξ e=>e,rfl,Zw _,rfl⟩,λb o e n ξ ξ=>(hs.2 b λ(q:b=a)=>Nat.succ_ne_self _ (n (q▸own))).trans e,λb o e n ξ ξ=>⟨o.slots,(hs.2 b λ(q:b=a)=>n (q▸own)).trans e⟩,λξ o=>.inl o,λb o e=>by
  by_cases q:b=a
  .subst q;exact hl
  .show(h'.get? b).isSome=true;rw[hs.2 b q,e];rfl,rfl,rfl⟩
variable{o:MObj}
theorem Rel.upd(R:Rel G t st s){l:Lbl}(own:t.ρ l=some a\/t.δ l=some a)(hl:(h'.get? a).isSome=true)(hs:J8 a s.heap h')(hn:st.heap l≠none)(ho:ObjOk G t.tick h' l o):Rel G t.tick (st.put l o) {s with heap:=h',toks:=tk} where
 base b ob e:=(hs.2 b λ(q:b=a)=>by rw[q,R.apart a (.inl ⟨l,own⟩)]at e;exact za e).trans (R.base b ob e)
 apart:=R.apart
 live b q:=by
  by_cases z:b=a
  .subst z;exact hl
  .show(h'.get? b).isSome=true;rw[hs.2 b z];exact R.live b q
 pv:=R.pv
 injρ:=R.injρ
 injδ:=R.injδ
 two:=R.two
 objs l' o' e:=by
  unfold MS.put at e;dsimp only at e;by_cases z:l'=l
  .rw[Zg z]at e;obtain rfl:=Je e;subst z;exact ho
  .rw[Zh z]at e;refine(R.objs l' o' e).step (Step.upd ⟨l,own⟩ hl hs) (λξ x=>x.elim) λb ob hb eb=>(hs.2 b λ(q:b=a)=>z ?_).trans eb;subst q;rcases hb with hb|hb<;>rcases own with ow|ow
   .exact R.injρ l' l b hb ow
   .exact(R.two l' l b hb ow).elim
   .exact(R.two l l' b ow hb).elim
   .exact R.injδ l' l b hb ow
 cnt k i e:=by
  refine xg (R.cnt k i e) λc1 c2 c3=>?_;refine⟨c1,c2,?_⟩;show(if (k,i)=l then some o else st.heap (k,i))=none;rw[Zh (λ(q:(k,i)=l)=>hn (by rw[<- q];exact c3)),c3]
 sys:=R.sys
 wr:=Qd Nat.succ R.wr
noncomputable def Tie.bind(t:Tie)(l:Lbl)(a:Addr)(d:Xc Addr):Tie:={t with ρ:=λx=>if x=l then some a else t.ρ x,δ:=λx=>if x=l then d else t.δ x}
variable{k:Nat}{d:Xc Addr}
theorem Step.bind(R:Rel G t st s)(hk:∀b o,s.heap.get? b=some o->s'.heap.get? b=some o)(hg:s'.gens=s.gens)(ho:s'.os=s.os)(fa:s.heap.get? a=none)(fd:∀x,d=some x->s.heap.get? x=none):Step noX t (t.bind (k,st.cnt k) a d) s s' where
 le:=⟨λl b e=>by
   refine xg (R.cnt k _ (Zs _)) λc1 ξ ξ=>?_;show(if l=(k,st.cnt k) then some a else t.ρ l)=some b;rw[Zh (λq=>by rw[q,c1]at e;exact za e)];exact e,
  λl b e=>by
   refine xg (R.cnt k _ (Zs _)) λξ c2 ξ=>?_;show(if l=(k,st.cnt k) then d else t.δ l)=some b;rw[Zh (λq=>by rw[q,c2]at e;exact za e)];exact e,rfl,Zs _,rfl⟩
 keepW b o e _ _ _:=hk b o e
 slots b o e _ _ _:=⟨o.slots,hk b o e⟩
 new b:=by
  rintro⟨l,e|e⟩
  .change (if l=(k,st.cnt k) then some a else t.ρ l)=some b at e;split at e
   .obtain rfl:=Je e;exact .inr fa
   .exact .inl ⟨l,.inl e⟩
  .change (if l=(k,st.cnt k) then d else t.δ l)=some b at e;split at e
   .exact .inr (fd b e)
   .exact .inl ⟨l,.inr e⟩
 live b o e:=by rw[hk b o e];rfl
 gens:=hg
 os:=ho
set_option tactic.hygienic true in
theorem Rel.bind(R:Rel G t st s)(hk:∀b o,s.heap.get? b=some o->s'.heap.get? b=some o)(hg:s'.gens=s.gens)(ho:s'.os=s.os)(fa:s.heap.get? a=none)(fd:∀x,d=some x->s.heap.get? x=none/\x≠a/\(s'.heap.get? x).isSome=true)(la:(s'.heap.get? a).isSome=true)(hsys:a≠sysModules)(hO:ObjOk G (t.bind (k,st.cnt k) a d) s'.heap (k,st.cnt k) o):Rel G (t.bind (k,st.cnt k) a d) (st.new k o) s':=by
 have S:=Step.bind (k:=k) (d:=d) R hk hg ho fa λx e=>(fd x e).1;have c:=R.cnt k _ (Zs _);have nr:∀{l:Lbl}{b:Addr},(t.bind (k,st.cnt k) a d).ρ l=some b->(l=(k,st.cnt k)/\b=a)\/(l≠(k,st.cnt k)/\t.ρ l=some b):=λ{l b} e=>by
  change (if l=(k,st.cnt k) then some a else t.ρ l)=some b at e;split at e
  .rename_i q;obtain rfl:=Je e;exact .inl ⟨q,rfl⟩
  .rename_i q;exact .inr ⟨q,e⟩
 have nd:∀{l:Lbl}{b:Addr},(t.bind (k,st.cnt k) a d).δ l=some b->(l=(k,st.cnt k)/\d=some b)\/(l≠(k,st.cnt k)/\t.δ l=some b):=λ{l b} e=>by
  change (if l=(k,st.cnt k) then d else t.δ l)=some b at e;split at e
  .rename_i q;exact .inl ⟨q,e⟩
  .rename_i q;exact .inr ⟨q,e⟩
 have na:¬t.Avoid a:=R.fresh fa;have nx:∀x,d=some x->¬t.Avoid x:=λx e=>R.fresh (fd x e).1;refine⟨λb ob e=>hk b ob (R.base b ob e),?_,?_,?_,?_,?_,?_,?_,?_,λl e=>by rcases nr e with ⟨_,z⟩|⟨_,z⟩;exact hsys z.symm;exact R.sys l z,R.wr⟩
 .rintro b (⟨l,e|e⟩|e)
  .rcases nr e with ⟨_,rfl⟩|⟨_,e⟩
   .cases q:G.h₀.get? b with
    |none=>rfl
    |some ob=>rw[R.base b ob q]at fa;cases fa
   .exact R.apart b (.inl ⟨l,.inl e⟩)
  .rcases nd e with ⟨_,e⟩|⟨_,e⟩
   .cases q:G.h₀.get? b with
    |none=>rfl
    |some ob=>have:=(fd b e).1;rw[R.base b ob q]at this;cases this
   .exact R.apart b (.inl ⟨l,.inr e⟩)
  .exact R.apart b (.inr e)
 .rintro b (⟨l,e|e⟩|e)
  .rcases nr e with ⟨_,rfl⟩|⟨_,e⟩
   .exact la
   .refine zr (Jh.mp (R.live b (.inl ⟨l,.inl e⟩))) λob q=>?_;rw[hk b ob q];rfl
  .rcases nd e with ⟨_,e⟩|⟨_,e⟩
   .exact(fd b e).2.2
   .refine zr (Jh.mp (R.live b (.inl ⟨l,.inr e⟩))) λob q=>?_;rw[hk b ob q];rfl
  .refine zr (Jh.mp (R.live b (.inr e))) λob q=>?_;rw[hk b ob q];rfl
 .rintro b p ⟨l,e|e⟩
  .rcases nr e with ⟨_,rfl⟩|⟨_,e⟩
   .exact na (.inr p)
   .exact R.pv b p ⟨l,.inl e⟩
  .rcases nd e with ⟨_,e⟩|⟨_,e⟩
   .exact nx b e (.inr p)
   .exact R.pv b p ⟨l,.inr e⟩
 .intro l l' b e e';rcases nr e with ⟨q1,z1⟩|⟨_,e1⟩<;>rcases nr e' with ⟨q,z⟩|⟨_,e2⟩
  .exact q1.trans q.symm
  .exact(na (.inl ⟨l',.inl (z1▸e2)⟩)).elim
  .exact(na (.inl ⟨l,.inl (z▸e1)⟩)).elim
  .exact R.injρ l l' b e1 e2
 .intro l l' b e e';rcases nd e with ⟨q1,z1⟩|⟨_,e1⟩<;>rcases nd e' with ⟨q,z⟩|⟨_,e2⟩
  .exact q1.trans q.symm
  .exact(nx b z1 (.inl ⟨l',.inr e2⟩)).elim
  .exact(nx b z (.inl ⟨l,.inr e1⟩)).elim
  .exact R.injδ l l' b e1 e2
 .intro l l' b e e';rcases nr e with ⟨q1,z1⟩|⟨_,e1⟩<;>rcases nd e' with ⟨q,z⟩|⟨_,e2⟩
  .exact(fd b z).2.1 z1
  .exact na (.inl ⟨l',.inr (z1▸e2)⟩)
  .exact nx b z (.inl ⟨l,.inl e1⟩)
  .exact R.two l l' b e1 e2
 .intro l o' e;change (if l=(k,st.cnt k) then some o else st.heap l)=some o' at e;split at e
  .rename_i q;obtain rfl:=Je e;subst q;exact hO
  .exact(R.objs l o' e).step S (λξ x=>x.elim) λb ob ξ e=>hk b ob e
 .intro k' i e;change (if k'=k then st.cnt k+1 else st.cnt k')<=i at e;have ne:(k',i)≠(k,st.cnt k):=λq=>by
   refine zn (Prod.mk.inj q) λeq0 eq1=>?_;subst eq0;subst eq1;rw[Zg rfl]at e;lia
  have le:st.cnt k'<=i:=by
   by_cases q:k'=k
   .subst q;rw[Zg rfl]at e;lia
   .rw[Zh q]at e;exact e
  refine xg (R.cnt k' i le) λc1 c2 c3=>?_;refine⟨?_,?_,?_⟩
  .show(if (k',i)=(k,st.cnt k) then some a else t.ρ (k',i))=none;rw[Zh ne];exact c1
  .show(if (k',i)=(k,st.cnt k) then d else t.δ (k',i))=none;rw[Zh ne];exact c2
  .show(if (k',i)=(k,st.cnt k) then some o else st.heap (k',i))=none;rw[Zh ne];exact c3
end
end Internal
end
section
namespace Internal
open PySem PySem.W PyProof.Rows
structure Names where
 fn:Nat->Xv
 cls:Nat->Xv
 meth:Nat->Xv
 attr:Nat->Xv
 exc:Nat->Xv
 gi:Xd (Xv×Int)
 gs:Xd (Xv×Xd Nat)
 xs:Xd (Xv×Nat)
 xf:Nat->Bool
 xm:Nat->Bool
 qf:Nat->Bool
noncomputable abbrev Sc:=Xd (Xv×NameKind)
noncomputable abbrev Gam:=Xd (Xc Xv)
noncomputable def ku(sc:Sc)(x:Xv):Bool:=sc.lookup x==some .globalImplicit&&x != ("__debug__":Xv)
noncomputable def su:Kind->Xc Xv
 |.int=>some "int"
 |.bool=>some "bool"
 |.str=>some "str"
 |.list=>some "list"
 |.tuple=>some "tuple"
 |.valueError=>some "ValueError"
 |.cls _=>none
noncomputable def mw(N:Names)(sc:Sc)(k:Kind)(y:Xu):Bool:=match y with
 |.Name x _=>su k==some x&&ku sc x
 |_=>false
noncomputable def bt(N:Names)(sc:Sc):Xd Kind->Xd Xu->Bool
 | [],[]=>true
 |k::ks,e::es=>mw N sc k e&&bt N sc ks es
 |_,_=>false
noncomputable def zwk:Bop->Operator
 |.add=>.Add|.sub=>.Sub|.mul=>.Mult|.fdiv=>.FloorDiv|.mod=>.Mod|.pow=>.Pow
noncomputable def jx:Cop->CmpOp
 |.eq=>.Eq|.ne=>.NotEq|.lt=>.Lt|.le=>.LtE|.gt=>.Gt|.ge=>.GtE|.isin=>.In|.notin=>.NotIn
noncomputable def yr:Prim->Xv
 |.len=>"len" |.max2=>"max" |.int1=>"int" |.sorted=>"sorted" |.tuple1=>"tuple" |.list1=>"list" |.all1=>"all"
noncomputable def zgd:Bm->Xv
 |.append=>"append" |.extend=>"extend" |.pop=>"pop" |.insert=>"insert" |.count=>"count" |.get=>"get" |.join=>"join" |.upper=>"upper"
noncomputable def qu(sc:Sc)(names:Sc):Sc:=names.map λx=>if x.2==.free&&sc.lookup x.1==some .cell then (x.1,.cell) else x
noncomputable def xo(sc':Sc)(Γ:Gam)(slot:Nat)(x:Xv):Gam:=(Γ.map λy=>match y with|some n=>if sc'.lookup n==some .cell then some n else none|none=>none).set slot (some x)
noncomputable def zbn(sc:Sc)(scope:Scope)(slot:Nat)(Γ:Gam)(x:Xv):Bool :=
 scope.kind==.function&&decide (slot<Γ.length)&&scope.names.lookup x==some .local &&
 scope.names.all (λy=>y.2 != .cell&&(y.2 != .local||scope.names.lookup y.1==some .local)&&(y.2 != .free||sc.lookup y.1==some .cell))
noncomputable def zal:CmpOp->Bool->Bool
 |.Is,b=>!b
 |.IsNot,b=>b
 |_,_=>false
end Internal
end
section
namespace Internal
open PySem PySem.W PyProof.Rows
structure Dp where
 n:Nat
 q:Bool
structure AOk(d:Dp)(A:Xe):Prop where
 hd:d.q=true->A.handled=none
 dep:A.depth+2*d.n+6<=recursionLimit
 un:A.units+20*d.n+110<=cLine
structure AC(d:Dp)(A:Xe):Prop where
 hd:d.q=true->A.handled=none
 dep:A.depth+2*d.n+5<=recursionLimit
 un:A.units+20*d.n+105<=cLine
variable{A:Xe}
theorem AOk.ac{d:Dp}(h:AOk d A):AC d A:=⟨h.hd,by have:=h.dep;lia,by have:=h.un;lia⟩
structure Stk(A:Xe)(t:Tie)(h:Heap):Prop where
 fr:A.frames=some t.st
 ob:∀e,e∈t.st->e.scope.kind≠.module/\∃L o,e.frame=some L/\t.pv L/\h.get? L=some o/\∀vs,o.data≠.fields vs
variable{G:Gd}{X:Addr->Prop}{t':Tie}{st:MS}{s s':Xa}
theorem Stk.step{t:Tie}(K:Stk A t s.heap)(R:Rel G t st s)(S:Step X t t' s s')(hX:∀a,X a->t.Fr a->∀o,s'.heap.get? a=some o->∀vs,o.data≠.fields vs):Stk A t' s'.heap where
 fr:=by rw[S.le.st];exact K.fr
 ob e he:=by
  rw[S.le.st]at he;obtain⟨h1,L,o,h2,h3,h4,h5⟩:=K.ob e he;refine⟨h1,L,?_⟩;by_cases x:X L
  .obtain⟨o',e'⟩:=Jh.mp (S.live L o h4);exact⟨o',h2,by rw[S.le.pv];exact h3,e',hX L x ⟨h3,e,he,h2⟩ o' e'⟩
  .obtain⟨sl,e'⟩:=S.slots L o h4 (R.pv L h3) x ⟨h3,e,he,h2⟩;exact⟨_,h2,by rw[S.le.pv];exact h3,e',h5⟩
theorem Stk.step0{t:Tie}(K:Stk A t s.heap)(R:Rel G t st s)(S:Step noX t t' s s'):Stk A t' s'.heap:=K.step R S λξ x=>x.elim
variable{a:Addr}
theorem Stk.fresh{t:Tie}{h:Heap}(K:Stk A t h){P:Addr->Prop}(np:h.get? a=none):¬(t.hide P).Fr a:=λf=>by
 obtain⟨-,e,h1,h2⟩:=f;obtain⟨-,L,o,h3,-,h4,-⟩:=K.ob e h1;rw[h3]at h2;obtain rfl:=Je h2;rw[np]at h4;exact za h4
theorem Step.pvk{t:Tie}(S:Step X t t' s s')(R:Rel G t st s){o:Obj}(hp:t.pv a)(nx:¬X a)(e:s.heap.get? a=some o):∃sl,s'.heap.get? a=some {o with slots:=sl}:=by
 by_cases f:t.Fr a
 .exact S.slots a o e (R.pv a hp) nx f
 .exact⟨o.slots,S.keep a o e (R.pv a hp) nx f⟩
structure FrOk(G:Gd)(A:Xe)(t:Tie)(env:Env)(Γ:Gam)(loc:Loc)(s:Xa):Prop where
 sk:Stk A t s.heap
 fn:env.scope.kind=.function
 gl:env.globals=mainGlobals
 bl:env.builtins=builtinsNs
 pvl:t.pv env.locals
 pvc:∀n c,env.cells.lookup n=some c->t.pv c
 apart:∀n n' c,env.cells.lookup n=some c->env.cells.lookup n'=some c->n=n'
 ex:∃m cm:Xv->Xc Xb,s.heap.Ns env.locals m/\(∀n c,env.cells.lookup n=some c->s.heap.IsCell c (cm n))/\(∀x,env.kindOf x=some .cell->(env.cells.lookup x).isSome=true) /\
  ∀(i:Nat)(x:Xv)(X:V),Γ[i]?=some (some x)->loc[i]?=some (some X)->∃v,VRel t s.heap X v/\((env.kindOf x=some .local/\m x=some v)\/(env.kindOf x=some .cell/\cm x=some v))
theorem FrOk.step{t:Tie}{env:Env}{Γ:Gam}{loc:Loc}(F:FrOk G A t env Γ loc s)(R:Rel G t st s)(S:Step noX t t' s s'):FrOk G A t' env Γ loc s' where
 sk:=F.sk.step0 R S
 fn:=F.fn
 gl:=F.gl
 bl:=F.bl
 pvl:=by rw[S.le.pv];exact F.pvl
 pvc n c h:=by rw[S.le.pv];exact F.pvc n c h
 apart:=F.apart
 ex:=by
  refine qo F.ex λm cm nq2 hc hz hs=>?_;obtain⟨o,es,ep,ho,r⟩:=nq2;refine zr (Step.pvk S R F.pvl (λq=>q) ho) λsl ho'=>?_;refine⟨m,cm,⟨_,es,ep,ho',r⟩,λn c e=>?_,hz,λi x X e1 e2=>?_⟩
  .refine zd (hc n c e) λoc h1 h2=>?_;refine zr (Step.pvk S R (F.pvc n c e) (λq=>q) h1) λsl h1'=>?_;exact⟨_,h1',h2⟩
  .refine zd (hs i x X e1 e2) λv hv r=>?_;exact⟨v,VRel.step S (λξ q=>q.elim) X hv,r⟩
noncomputable def Sim(G:Gd)(A:Xe){α:Type}(t:Tie)(s:Xa)(tree:Sem α)(st':MS)(rel:Tie->Xa->α->Prop):Prop :=
 ∀(Q:α->Xa->Prop)(E:Xb->Xa->Prop),(∀v t' s',Step noX t t' s s'->Rel G t' st' s'->rel t' s' v->Q v s')->Xn G.M A tree Q E s
noncomputable abbrev jf (X:V):Tie->Xa->Xb->Prop:=λt s v=>VRel t s.heap X v
noncomputable abbrev z3z (X:Xd V):Tie->Xa->Xd Xb->Prop:=λt s v=>VRels t s.heap X v
theorem Sim.ok{t:Tie}{tree:Sem Xb}{X Z:V}{st':MS}(e:Res.ok X st=.ok Z st')(h:Sim G A t s tree st (jf X)):Sim G A t s tree st' (jf Z):=by cases e;exact h
variable{α β:Type}
theorem Res.bind_ok{r:Res α}{f:α->MS->Res β}{b:β}{s':MS}(e:r.bind f=.ok b s'):∃a s,r=.ok a s/\f a s=.ok b s':=by
 cases r with
 |ok a s=>exact⟨a,s,rfl,e⟩
 |exc _ _=>cases e
 |stuck=>exact zb e
theorem Res.bnd_ok{r:Res α}{f:α->MS->Res β}{b:β}{s':MS}(e:r.bnd f=.ok b s'):∃a s,r=.ok a s/\f a s=.ok b s':=by
 cases r with
 |ok a s=>exact⟨a,s,rfl,e⟩
 |exc _ _=>exact zb e
 |stuck=>exact zb e
variable{c:Nat}
theorem Res.bnd_exc{r:Res α}{f:α->MS->Res β}{s':MS}(e:r.bnd f=.exc c s'):∃a s,r=.ok a s/\f a s=.exc c s':=by
 cases r with
 |ok a s=>exact⟨a,s,rfl,e⟩
 |exc _ _=>cases e
 |stuck=>cases e
theorem Res.bind_exc{r:Res α}{f:α->MS->Res β}{s':MS}(e:r.bind f=.exc c s'):r=.exc c s'\/∃a s,r=.ok a s/\f a s=.exc c s':=by
 cases r with
 |ok a s=>exact .inr ⟨a,s,rfl,e⟩
 |exc _ _=>cases e;exact .inl rfl
 |stuck=>cases e
noncomputable def fk(G:Gd)(C:Calls)(d:Dp)(f:Nat):Prop :=
 ∀vs st X st',C f vs st=.ok X st'->∀A,AC d A->∃a,G.fa f=some a/\∀t s args,Stk A t s.heap->Rel G t st s->VRels t s.heap vs args->∀(B:Result->Xa->Prop),
  (∀v t' s',Step noX t t' s s'->Rel G t' st' s'->VRel t' s'.heap X v->B (.ok (.ret v)) s')->codeAny G.M A (.call (.ref a) ⟨args,[]⟩) B s
noncomputable def nk(G:Gd)(C:Calls)(d:Dp):Prop:=∀f,fk G C d f
structure Gd.Ok(G:Gd)(N:Names):Prop where
 K:G.K.In G.h₀
 g:G.h₀.Ns mainGlobals G.mg
 b:G.h₀.Ns builtinsNs G.mb
 bi:∀x:Xv,x≠"__name__"->G.mb x=bootBuiltins x
 lim:G.h₀.NoLimit
 gi:∀x i,N.gi.contains (x,i)=true->∃k,G.mg x=some (.int i k)
 gs:∀x l,N.gs.contains (x,l)=true->∃k,G.mg x=some (.str (qa l) k)
 an:∀i j,G.an i=G.an j->i=j
 attr:N.attr=G.an
 none:∀x,x∈(["len","max","int","sorted","tuple","list","all","isinstance","range","dict","bool","str","ValueError"]:Xd Xv)->G.mg x=none
noncomputable def qe(G:Gd)(C:Calls)(d:Dp)(sc:Sc)(Γ:Gam)(e:E)(ast:Xu):Prop :=
 ∀t st s env loc X st' A,AOk d A->env.scope.names=sc->FrOk G A t env Γ loc s->Rel G t st s->ev G.P C e loc st=.ok X st'->Sim G A t s (eval ast env) st' (jf X)
noncomputable def yl(G:Gd)(C:Calls)(d:Dp)(sc:Sc)(Γ:Gam)(l:Xd E)(m:Xd Xu):Prop :=
 ∀pos t st s env loc Xs st' A,AOk d A->env.scope.names=sc->FrOk G A t env Γ loc s->Rel G t st s->evL G.P C l loc st=.ok Xs st'->Sim G A t s (spliced (backTo pos (starEach m env))) st' (z3z Xs)
section
variable {G:Gd}{N:Names}{C:Calls}{d:Dp}{sc:Sc}{Γ:Gam}
variable{A:Xe}{st:MS}{s:Xa}
theorem Sim.here{α:Type}{t:Tie}{tree:Sem α}{rel:Tie->Xa->α->Prop}(R:Rel G t st s)(h:∀(Q:α->Xa->Prop)(E:Xb->Xa->Prop),(∀v tk,rel t {s with toks:=tk} v->Q v {s with toks:=tk})->Xn G.M A tree Q E s):Sim G A t s tree st rel :=
 λQ E k=>h Q E λv tk r=>k v t _ (Step.toks _ t s tk) (R.toks tk) r
variable{k:Nat}{pos:Pos}
theorem zrd:qe G C d sc Γ .none (.Constant .none k pos):=by
 intro t st s env loc X st' A hA hsc F R e;cases e;exact Sim.here R λQ E k=>λξ ξ ξ=>k .none s.toks rfl
theorem zq6{b:Bool}:qe G C d sc Γ (.bool b) (.Constant (.bool b) k pos):=by
 intro t st s env loc X st' A hA hsc F R e;cases e;exact Sim.here R λQ E k=>λξ ξ ξ=>k (.bool b) s.toks rfl
variable{i:Int}
theorem zts:qe G C d sc Γ (.int i) (.Constant (.int i) k pos):=by
 intro t st s env loc X st' A hA hsc F R e;cases e;exact Sim.here R λQ E k=>wpAny_Constant_int (k _ _ ⟨_,rfl⟩)
theorem zjn{x:Xd Nat}:qe G C d sc Γ (.str x) (.Constant (.str (qa x)) k pos):=by
 intro t st s env loc X st' A hA hsc F R e;cases e;exact Sim.here R λQ E k=>wpAny_Constant_str (k _ _ ⟨_,rfl⟩)
variable{x:Xv}
set_option tactic.hygienic true in
theorem ztu{i:Nat}(hx:Γ[i]?=some (some x))(hd:(x==("__debug__":Xv))=false):qe G C d sc Γ (.loc i) (.Name x pos):=by
 intro t st s env loc X st' A hA hsc F R e;rw[zvx]at e;split at e
 .rename_i v hv;cases e;refine qo F.ex λm cm hn hc hz hs=>?_;refine zd (hs i x X hx hv) λy hy r=>?_;refine Sim.here R λQ E k=>wpAny_Name ?_ hd;rcases r with ⟨hk,hm⟩|⟨hk,hm⟩
  .exact wpAny_loadName_local F.fn hk hn hm (k y s.toks hy)
  .refine zr (Jh.mp (hz x hk)) λc hcl=>?_;exact wpAny_loadName_cell F.fn hk hcl (hm▸hc x c hcl) (k y s.toks hy)
 .exact zb e
variable{loc:Loc}{Q:Xb->Xa->Prop}
theorem v9{t:Tie}{env:Env}{v:Xb}{E:Xb->Xa->Prop}(O:G.Ok N)(F:FrOk G A t env Γ loc s)(R:Rel G t st s)(hsc:env.scope.names=sc)(hg:ku sc x=true)(hm:G.mg x=some v)(h:Q v s):Xn G.M A (eval (.Name x pos) env) Q E s:=by
 simp only[ku,Qq,Xl,bne_iff_ne,ne_eq]at hg;refine Calls.Name_function_global F.fn (by unfold Env.kindOf;rw[hsc];exact hg.1) (Calls.loadGlobal_global (by rw[F.gl];exact O.g.keeps R.base) hm h) (by simpa using hg.2)
theorem zgt{t:Tie}{env:Env}{v:Xb}{E:Xb->Xa->Prop}(O:G.Ok N)(F:FrOk G A t env Γ loc s)(R:Rel G t st s)(hsc:env.scope.names=sc)(hg:ku sc x=true)(hm:G.mg x=none)(hb:bootBuiltins x=some v)(hn:x≠"__name__")(h:Q v s):Xn G.M A (eval (.Name x pos) env) Q E s:=by
 simp only[ku,Qq,Xl,bne_iff_ne,ne_eq]at hg;refine Calls.Name_function_global F.fn (by unfold Env.kindOf;rw[hsc];exact hg.1) (Calls.loadGlobal_builtin (by rw[F.gl];exact O.g.keeps R.base) hm (by rw[F.bl];exact O.b.keeps R.base) ((O.bi x hn).trans hb) h) (by simpa using hg.2)
theorem zq9(O:G.Ok N)(hg:ku sc x=true)(hi:N.gi.contains (x,i)=true):qe G C d sc Γ (.gint x i) (.Name x pos):=by
 intro t st s env loc X st' A hA hsc F R e;cases e;refine zr (O.gi x i hi) λk' hk=>?_;exact Sim.here R λQ E k=>v9 O F R hsc hg hk (k _ s.toks ⟨_,rfl⟩)
theorem zra(O:G.Ok N){l:Xd Nat}(hg:ku sc x=true)(hi:N.gs.contains (x,l)=true):qe G C d sc Γ (.gstr x l) (.Name x pos):=by
 intro t st s env loc X st' A hA hsc F R e;cases e;obtain⟨k',hk⟩:=O.gs x l hi;exact Sim.here R λQ E k=>v9 O F R hsc hg hk (k _ s.toks ⟨_,rfl⟩)
theorem ww:yl G C d sc Γ [] []:=by
 intro pos t st s env loc X st' A hA hsc F R e;cases e;exact λQ E k=>Calls.spliced_nil (k [] t s (.refl _ _ _) R rfl)
theorem yt{e:E}{l:Xd E}{x:Xu}{m:Xd Xu}(hx:isStarred x=false)(h1:qe G C d sc Γ e x)(h2:yl G C d sc Γ l m):yl G C d sc Γ (e::l) (x::m):=by
 intro pos t st s env loc X st' A hA hsc F R q;rw[yo]at q;refine zf (Res.bind_ok q) λv s1 q1 q=>?_;refine zf (Res.bind_ok q) λvs s2 q2 q=>?_;cases q;intro Q E k;have he:starEach (x::m) env=(false,eval x env)::starEach m env:=by cases x<;>first|rfl|exact zjg hx
 refine wpAny_items_cons (h1 t st s env loc v s1 A hA hsc F R q1 _ _ λy t1 σ1 S1 R1 r1=>?_) he;refine h2 pos t1 s1 σ1 env loc vs st' A hA hsc (F.step R S1) R1 q2 _ _ λys t2 σ2 S2 R2 r2=>?_;exact k _ t2 σ2 (S1.trans S2) R2 ⟨y,ys,rfl,VRel.step S2 (λξ z=>z.elim) v r1,r2⟩
end
end Internal
end
section
namespace Internal
open PySem PySem.W PyProof.Rows PySem.SeqAt
section
variable {G:Gd}{t:Tie}{st:MS}{s:Xa}
variable{X:V}{k:Bool}{l:Xd V}
set_option tactic.hygienic true in
theorem qx(R:Rel G t st s){v:Xb}(r:VRel t s.heap X v)(e:z4 st X=some (k,l)):
  ∃a vs,v=.ref a/\(if k=true then PL s.heap a vs else PT s.heap a vs)/\VRels t s.heap l vs.toList/\l.length<=zi:=by
 cases X with
 |tup m=>cases e;refine wz r λa vs e1 e2 ξ sz e3=>?_;exact⟨a,vs,e1,e2,e3,sz⟩
 |lst m=>cases e;refine wz r λa vs e1 e2 ξ sz e3=>?_;exact⟨a,vs,e1,e2,e3,sz⟩
 |ref lb =>
  simp only[z4]at e;split at e
  .rename_i m hm;cases e;refine qo (R.objs lb _ hm) λa vs h1 h2 sz h3=>?_;refine zd r λa' e1 e2=>?_;rw[h1]at e2;obtain rfl:=Je e2;exact⟨a,vs,e1,h2,h3,sz⟩
  .exact za e
 |_=>exact za e
noncomputable def vk(t:Tie)(h:Heap)(v:Xb):Nat:=match v with
 |.none=>0
 |.bool _=>1
 |.int _ _=>2
 |.str _ _=>3
 |.ref a=>@ite Nat (∃l,t.ρ l=some a) (Ji _) 6 ((h.get? a).elim 7 λo=>@ite Nat (o.cls=.type "tuple") (Ji _) 4 (@ite Nat (o.cls=.type "list") (Ji _) 5 7))
 |_=>8
variable{h:Heap}{a:Addr}
theorem zid{o:Obj}(ho:h.get? a=some o)(na:¬t.Avoid a):vk t h (.ref a)=@ite Nat (o.cls=.type "tuple") (Ji _) 4 (@ite Nat (o.cls=.type "list") (Ji _) 5 7):=by
 have n1:¬∃l,t.ρ l=some a:=λ⟨l,q⟩=>na (.inl ⟨l,.inl q⟩);show @ite Nat (∃l,t.ρ l=some a) (Ji _) 6 ((h.get? a).elim 7 _)=_;rw[Zh n1,ho];rfl
theorem iz:¬(Value.type "list"=.type "tuple"):=by decide
theorem VRel.kind:∀{X:V}{v:Xb},VRel t h X v->vk t h v=X.ctorIdx
 |.none,_,e=>by rw[show _=_ from e];rfl
 |.bool b,_,e=>by rw[show _=_ from e];rfl
 |.int i,_,⟨k,e⟩=>by rw[e];rfl
 |.str x,_,⟨k,e⟩=>by rw[e];rfl
 |.tup l,_,⟨a,vs,e,⟨n,ho⟩,na,_⟩=>by rw[e,zid ho na,Zg rfl];rfl
 |.lst l,_,⟨a,vs,e,⟨n,ho⟩,na,_⟩=>by rw[e,zid ho na,Zh iz,Zg rfl];rfl
 |.ref l,_,⟨a,e,hl⟩=>by
  rw[e];show @ite Nat (∃l,t.ρ l=some a) (Ji _) 6 _=_;rw[Zg ⟨l,hl⟩];rfl
 |.exc c,_,⟨a,o,e,ho,hc,na⟩=>by rw[e,zid ho na,hc,Zh nofun,Zh nofun];rfl
variable{b:Addr}
theorem ou(e:Value.ref a=.ref b):a=b:=by cases e;rfl
mutual
theorem VRel.inj(R:Rel G t st s):∀(X Y:V) {v:Xb},VRel t s.heap X v->VRel t s.heap Y v->X=Y
 |.none,Y,v,h,h'=>V.none.elim (motive_1:=λY=>V.none=Y) Y (h'.kind.symm.trans h.kind) rfl
 |.bool b,Y,v,h,h'=>V.bool.elim (motive_1:=λY=>VRel t s.heap Y v->V.bool b=Y) Y (h'.kind.symm.trans h.kind) (λb' h'=>by
  have e:Value.bool b=.bool b':=(show v=.bool b from h).symm.trans h';cases e;rfl) h'
 |.int i,Y,v,h,h'=>V.int.elim (motive_1:=λY=>VRel t s.heap Y v->V.int i=Y) Y (h'.kind.symm.trans h.kind) (λi' h'=>by
  refine zr h λk e=>?_;refine zr h' λk' e'=>?_;rw[e]at e';cases e';rfl) h'
 |.str x,Y,v,h,h'=>V.str.elim (motive_1:=λY=>VRel t s.heap Y v->V.str x=Y) Y (h'.kind.symm.trans h.kind) (λy h'=>by
  refine zr h λk e=>?_;refine zr h' λk' e'=>?_;rw[e]at e';simp only[Value.str.injEq,Str.mk.injEq]at e';have:=Qd Array.toList e'.1;simp only[List.toList_toArray]at this;rw[this]) h'
 |.tup l,Y,v,h,h'=>V.tup.elim (motive_1:=λY=>VRel t s.heap Y v->V.tup l=Y) Y (h'.kind.symm.trans h.kind) (λm h'=>by
  refine wz h λa vs e nq3 ξ ξ hr=>?_;obtain⟨n,ho⟩:=nq3;refine wz h' λb ws e' nq3 ξ ξ hr'=>?_;obtain⟨n',ho'⟩:=nq3;cases ou (e.symm.trans e');rw[ho]at ho';cases ho';rw[VRels.inj R l m hr hr']) h'
 |.lst l,Y,v,h,h'=>V.lst.elim (motive_1:=λY=>VRel t s.heap Y v->V.lst l=Y) Y (h'.kind.symm.trans h.kind) (λm h'=>by
  refine wz h λa vs e nq3 ξ ξ hr=>?_;obtain⟨n,ho⟩:=nq3;refine wz h' λb ws e' nq3 ξ ξ hr'=>?_;obtain⟨n',ho'⟩:=nq3;cases ou (e.symm.trans e');rw[ho]at ho';cases ho';rw[VRels.inj R l m hr hr']) h'
 |.ref l,Y,v,h,h'=>V.ref.elim (motive_1:=λY=>VRel t s.heap Y v->V.ref l=Y) Y (h'.kind.symm.trans h.kind) (λr h'=>by
  refine zd h λa e hl=>?_;refine zd h' λb e' hb=>?_;cases ou (e.symm.trans e');rw[R.injρ l r a hl hb]) h'
 |.exc c,Y,v,h,h'=>V.exc.elim (motive_1:=λY=>VRel t s.heap Y v->V.exc c=Y) Y (h'.kind.symm.trans h.kind) (λc' h'=>by
  refine qo h λa o e ho hc ξ=>?_;refine qo h' λb o' e' ho' hc' ξ=>?_;cases ou (e.symm.trans e');rw[ho]at ho';cases ho';rw[hc]at hc';cases hc';rfl) h'
theorem VRels.inj(R:Rel G t st s):∀(l m:Xd V) {vs:Xd Xb},VRels t s.heap l vs->VRels t s.heap m vs->l=m
 | [],[],vs,h,h'=>rfl
 | [],y::m,vs,h,h'=>by
  refine zf h' λξ ξ e ξ=>?_;rw[show vs=[] from h]at e;cases e
 |x::l,[],vs,h,h'=>by
  refine zf h λξ ξ e ξ=>?_;rw[show vs=[] from h']at e;cases e
 |x::l,y::m,vs,h,h'=>by
  refine jz h λv r e a b=>?_;refine jz h' λv' r' e' a' b'=>?_;rw[e]at e';cases e';rw[VRel.inj R x y a a',VRels.inj R l m b b']
end
noncomputable def vv(st:MS)(n:Nat)(la lb:Xd V)(j:Nat):Bool:=(veq st n ((la[j]?).getD .none) ((lb[j]?).getD .none)).getD false
variable{la lb:Xd V}{r:Bool}
theorem zun{f:V->V->Xc Bool}{x y:V}(e:xj f (x::la) (y::lb)=some r):∃p q,f x y=some p/\xj f la lb=some q/\r=(p&&q):=by
 have e:(match f x y,xj f la lb with|some p,some q=>some (p&&q)|_,_=>none)=some r:=e;cases hp:f x y with
 |none=>rw[hp]at e;exact za e
 |some p =>
  cases hq:xj f la lb with
  |none=>rw[hp,hq]at e;exact za e
  |some q=>rw[hp,hq]at e;obtain rfl:=Je e;exact⟨p,q,rfl,rfl,rfl⟩
theorem gu(st:MS)(n:Nat):∀(la lb:Xd V)(r:Bool),xj (veq st n) la lb=some r->
  (∀(j:Nat)(x y:V),la[j]?=some x->lb[j]?=some y->∃b,veq st n x y=some b)/\r=((Xr (min la.length lb.length)).all (vv st n la lb)&&la.length==lb.length)
 | [],[],r,e=>by cases e;exact⟨λj x y e=>(by cases e),rfl⟩
 | [],y::lb,r,e=>by cases e;exact⟨λj x y e=>(by cases e),by rw[List.length_nil,Nat.zero_min];rfl⟩
 |x::la,[],r,e=>by cases e;exact⟨λj x y ξ e=>(by cases e),by rw[List.length_nil,Nat.min_zero];rfl⟩
 |x::la,y::lb,r,e=>by
  refine jz (zun e) λp q hp hq eq4=>?_;subst eq4;refine zn (gu st n la lb q hq) λh1 h2=>?_;refine⟨λj x' y' e1 e2=>?_,?_⟩
  .cases j with
   |zero=>cases e1;cases e2;exact⟨p,hp⟩
   |succ j=>exact h1 j x' y' e1 e2
  .have hv:vv st n (x::la) (y::lb) 0=p:=by show(veq st n x y).getD false=p;rw[hp];rfl
   rw[Z4,Z4,Nat.add_min_add_right,List.range_succ_eq_map,List.all_cons,List.all_map,hv,h2,Bool.and_assoc];rw[show(la.length+1==lb.length+1)=(la.length==lb.length) by rw[Bool.eq_iff_iff,Xl,Xl];exact Nat.add_right_cancel_iff];rfl
theorem zj1{f:V->V->Xc Bool}(h:∀x b,f x x=some b->b=true):∀(l:Xd V)(r:Bool),xj f l l=some r->r=true
 | [],_,e=>by obtain rfl:=Je e;rfl
 |x::l,r,e=>by
  have e:(match f x x,xj f l l with|some p,some q=>some (p&&q)|_,_=>none)=some r:=e;cases hp:f x x with
  |none=>rw[hp]at e;exact za e
  |some p =>
   cases hq:xj f l l with
   |none=>rw[hp,hq]at e;exact za e
   |some q =>
    rw[hp,hq]at e;obtain rfl:=Je e;rw[h x p hp,zj1 h l q hq];rfl
theorem zoh(e:fy X X=some r):r=true:=by
 cases X with
 |bool b=>obtain rfl:=Je e;cases b<;>rfl
 |int i=>obtain rfl:=Je e;exact Zb rfl
 |str x=>obtain rfl:=Je e;exact Zb rfl
 |none=>obtain rfl:=Je e;rfl
 |_=>exact za e
theorem zf0(st:MS):∀(n:Nat)(X:V)(r:Bool),veq st n X X=some r->r=true
 |0,_,_,e=>by exact za e
 |n+1,X,r,e=>by
  have e:(match z4 st X,z4 st X with
   |some p,some q=>if p.1=q.1 then (if p.1=true/\p.2.length≠q.2.length then some false else xj (veq st n) p.2 q.2) else some false
   |some _,Option.none=>vh X
   |.none,some _=>vh X
   |.none,Option.none=>fy X X)=some r:=e
  cases h:z4 st X with
  |none=>rw[h]at e;exact zoh e
  |some p =>
   rw[h]at e;have e:(if p.1=p.1 then (if p.1=true/\p.2.length≠p.2.length then some false else xj (veq st n) p.2 p.2) else some false)=some r:=e;rw[Zg rfl,Zh λq=>q.2 rfl]at e;exact zj1 (zf0 st n) p.2 r e
theorem VRels.at{h:Heap}{l:Xd V}{vs:Array Xb}(r:VRels t h l vs.toList){j:Nat}(hj:j<vs.size):∃x,l[j]?=some x/\VRel t h x vs[j]:=by
 have hl:=r.length;have:j<l.length:=by rw[<- hl];simpa using hj
 refine zd (r.get (i:=j) (x:=l[j]) (by simp[this])) λv e1 e2=>?_;refine⟨l[j],by simp[this],?_⟩;rw[Jt,Array.getElem?_eq_getElem hj]at e1;obtain rfl:=Je e1;exact e2
noncomputable abbrev RR (A:Xe) (s:Xa) (v w:Xb) (r:Bool):Prop:=RcAt A s v w r/\RcNeAt A s v w (!r)
variable{A:Xe}{w:Xb}
theorem jv{v v' w':Xb}{r':Bool}(hv:v=v')(hw:w=w')(h1:RcAt A s v' w' r')(h2:RcNeAt A s v' w' (!r'))(e:some r'=some r):RR A s v w r:=by
 subst hv hw;obtain rfl:=Je e;exact⟨h1,h2⟩
theorem z3r(a b:Xd Nat):(qa a==qa b)=decide (a=b):=by
 by_cases q:a=b
 .subst q;rw[Zb rfl];exact beq_self_eq_true _
 .rw[Zc q];exact beq_false_of_ne λz=>q (by injection z with z;exact Qd Array.toList z)
variable{Y:V}
theorem zth{v:Xb}(e:fy X Y=some r)(hX:VRel t s.heap X v)(hY:VRel t s.heap Y w):RR A s v w r:=by
 cases X with
 |none=>cases Y with
  |none=>exact jv hX hY RcAt.none_none RcNeAt.none_none e
  |bool y=>exact jv hX hY (RcAt.none_bool _) (RcNeAt.none_bool _) e
  |int y=>exact hY.elim λξ hw=>jv hX hw (RcAt.none_int _ _) (RcNeAt.none_int _ _) e
  |str y=>exact hY.elim λξ hw=>jv hX hw (RcAt.none_str _ _) (RcNeAt.none_str _ _) e
  |_=>exact za e
 |bool x=>cases Y with
  |none=>exact jv hX hY (RcAt.bool_none _) (RcNeAt.bool_none _) e
  |bool y=>exact jv hX hY (RcAt.bool_bool _ _) (RcNeAt.bool_bool _ _) e
  |str y=>exact hY.elim λξ hw=>jv hX hw (RcAt.bool_str _ _ _) (RcNeAt.bool_str _ _ _) e
  |_=>exact za e
 |int x =>
  refine zr hX λξ hX=>?_;cases Y with
  |none=>exact jv hX hY (RcAt.int_none _ _) (RcNeAt.int_none _ _) e
  |int y=>exact hY.elim λξ hw=>jv hX hw (RcAt.int_int _ _ _ _) (RcNeAt.int_int _ _ _ _) e
  |str y=>exact hY.elim λξ hw=>jv hX hw (RcAt.int_str _ _ _ _) (RcNeAt.int_str _ _ _ _) e
  |_=>exact za e
 |str x =>
  refine zr hX λξ hX=>?_;cases Y with
  |none=>exact jv hX hY (RcAt.str_none _ _) (RcNeAt.str_none _ _) e
  |bool y=>exact jv hX hY (RcAt.str_bool _ _ _) (RcNeAt.str_bool _ _ _) e
  |int y=>exact hY.elim λξ hw=>jv hX hw (RcAt.str_int _ _ _ _) (RcNeAt.str_int _ _ _ _) e
  |str y=>exact hY.elim λξ hw=>jv hX hw (RcAt.str_str _ _ _ _) (RcNeAt.str_str _ _ _ _) ((Qd some (z3r x y)).trans e)
  |_=>exact za e
 |_=>exact za e
variable{vs:Array Xb}
theorem ztj(ia:if k=true then PL s.heap a vs else PT s.heap a vs)(hu:A.units<cLine)(e:vh Y=some r)(hY:VRel t s.heap Y w):RR A s (.ref a) w r:=by
 cases k with
 |true =>
  have ia:=PL.isList (show PL s.heap a vs from ia);cases Y with
  |none=>exact jv rfl hY (RcAt.list_none ia hu) (RcNeAt.list_none ia hu) e
  |bool y=>exact jv rfl hY (RcAt.list_bool _ ia hu) (RcNeAt.list_bool _ ia hu) e
  |int y=>exact hY.elim λξ hw=>jv rfl hw (RcAt.list_int _ _ ia hu) (RcNeAt.list_int _ _ ia hu) e
  |str y=>exact hY.elim λξ hw=>jv rfl hw (RcAt.list_str _ _ ia hu) (RcNeAt.list_str _ _ ia hu) e
  |_=>exact za e
 |false =>
  have ia:=PT.isTuple (show PT s.heap a vs from ia);cases Y with
  |none=>exact jv rfl hY (RcAt.tuple_none ia hu) (RcNeAt.tuple_none ia hu) e
  |bool y=>exact jv rfl hY (RcAt.tuple_bool _ ia hu) (RcNeAt.tuple_bool _ ia hu) e
  |int y=>exact hY.elim λξ hw=>jv rfl hw (RcAt.tuple_int _ _ ia hu) (RcNeAt.tuple_int _ _ ia hu) e
  |str y=>exact hY.elim λξ hw=>jv rfl hw (RcAt.tuple_str _ _ ia hu) (RcNeAt.tuple_str _ _ ia hu) e
  |_=>exact za e
theorem ztk(ia:if k=true then PL s.heap a vs else PT s.heap a vs)(hu:A.units<cLine)(e:vh Y=some r)(hY:VRel t s.heap Y w):RR A s w (.ref a) r:=by
 cases k with
 |true =>
  have ia:=PL.isList (show PL s.heap a vs from ia);cases Y with
  |none=>exact jv hY rfl (RcAt.none_list ia hu) (RcNeAt.none_list ia hu) e
  |bool y=>exact jv hY rfl (RcAt.bool_list _ ia hu) (RcNeAt.bool_list _ ia hu) e
  |int y=>exact hY.elim λξ hw=>jv hw rfl (RcAt.int_list _ _ ia hu) (RcNeAt.int_list _ _ ia hu) e
  |str y=>exact hY.elim λξ hw=>jv hw rfl (RcAt.str_list _ _ ia hu) (RcNeAt.str_list _ _ ia hu) e
  |_=>exact za e
 |false =>
  have ia:=PT.isTuple (show PT s.heap a vs from ia);cases Y with
  |none=>exact jv hY rfl (RcAt.none_tuple ia hu) (RcNeAt.none_tuple ia hu) e
  |bool y=>exact jv hY rfl (RcAt.bool_tuple _ ia hu) (RcNeAt.bool_tuple _ ia hu) e
  |int y=>exact hY.elim λξ hw=>jv hw rfl (RcAt.int_tuple _ _ ia hu) (RcNeAt.int_tuple _ _ ia hu) e
  |str y=>exact hY.elim λξ hw=>jv hw rfl (RcAt.str_tuple _ _ ia hu) (RcNeAt.str_tuple _ _ ia hu) e
  |_=>exact za e
theorem zp4{j:Bool}{ws:Array Xb}(ia:if k=true then PL s.heap a vs else PT s.heap a vs)(ib:if j=true then PL s.heap b ws else PT s.heap b ws)(hu:A.units<cLine)(hk:¬k=j):RR A s (.ref a) (.ref b) false:=by
 cases k with
 |true =>
  cases j with
  |true=>exact absurd rfl hk
  |false =>
   have ia:=PL.isList (show PL s.heap a vs from ia);have ib:=PT.isTuple (show PT s.heap b ws from ib);exact⟨RcAt.list_tuple ia ib hu,RcNeAt.list_tuple ia ib hu⟩
 |false =>
  cases j with
  |false=>exact absurd rfl hk
  |true =>
   have ia:=PT.isTuple (show PT s.heap a vs from ia);have ib:=PL.isList (show PL s.heap b ws from ib);exact⟨RcAt.tuple_list ia ib hu,RcNeAt.tuple_list ia ib hu⟩
theorem VRels.size(r:VRels t h l vs.toList):vs.size=l.length:=r.length
variable{n:Nat}
theorem zti{ws:Array Xb}(ia:if k=true then PL s.heap a vs else PT s.heap a vs)(ib:if k=true then PL s.heap b ws else PT s.heap b ws)(hu:A.units<cLine)(ra:VRels t s.heap la vs.toList)(rb:VRels t s.heap lb ws.toList)(ih:∀x y v w z,veq st n x y=some z->VRel t s.heap x v->VRel t s.heap y w->EqAt A.in1 s v w z)(e:(if k=true/\la.length≠lb.length then some false else xj (veq st n) la lb)=some r):RR A s (.ref a) (.ref b) r:=by
 have items (g1:∀(j:Nat)(x y:V),la[j]?=some x->lb[j]?=some y->∃b,veq st n x y=some b):∀j (h1:j<vs.size) (h2:j<ws.size),EqAt A.in1 s vs[j] ws[j] (vv st n la lb j):=λj h1 h2=>by
  refine zd (ra.at h1) λx q1 q2=>?_;refine zd (rb.at h2) λy q3 q4=>?_;refine zr (g1 j x y q1 q3) λz hz=>?_;delta vv;rw[q1,q3,Option.getD_some,Option.getD_some,hz];exact ih x y _ _ z hz q2 q4
 cases k with
 |true =>
  have ia:=PL.isList (show PL s.heap a vs from ia);have ib:=PL.isList (show PL s.heap b ws from ib);by_cases hne:la.length=lb.length
  .rw[Zh λq=>q.2 hne]at e;refine zn (gu st n la lb r e) λg1 g2=>?_;have hz:vs.size=ws.size:=ra.size.trans (hne.trans rb.size.symm);have g2:r=(Xr vs.size).all (vv st n la lb):=by rw[g2,ra.size,hne,Nat.min_self,beq_self_eq_true,Bool.and_true]
   rw[g2];exact⟨RcAt.lists ia ib hz hu (items g1),RcNeAt.lists ia ib hz hu (items g1)⟩
  .rw[Zg ⟨rfl,hne⟩]at e;have hz:(vs.size != ws.size)=true:=by rw[ra.size,rb.size];exact bne_iff_ne.2 hne
   exact jv rfl rfl (RcAt.lists_lengths ia ib hz hu) (RcNeAt.lists_lengths ia ib hz hu) e
 |false =>
  have ia:=PT.isTuple (show PT s.heap a vs from ia);have ib:=PT.isTuple (show PT s.heap b ws from ib);rw[Zh λq=>qi q.1]at e;refine zn (gu st n la lb r e) λg1 g2=>?_;rw[<- ra.size,<- rb.size]at g2;rw[g2];exact⟨RcAt.tuples ia ib hu (items g1),RcNeAt.tuples ia ib hu (items g1)⟩
noncomputable def zoo:Xb->Bool
 |.float _ _=>true
 |_=>false
theorem zkm{v:Xb}(hv:zoo v=false):eqBool v w=holding [v,w] (do
  if v==w then rule "eq-bool.same-object";return true
  truthOfDropped (<- richCompare .Eq v w)):=by
 cases v with
 |float=>exact zjg hv
 |_=>rfl
theorem zn8{v:Xb}(hv:zoo v=false)(hne:v≠w)(h:RcAt A s v w k):EqAt A s v w k:=λprog W E Q hq=>by
 rw[zkm hv];refine Ja ?_;refine wpAny_ite_split (λhab=>absurd (eq_of_beq hab) hne) (λξ=>?_);exact Ze (h prog W E _ (Xk hq))
theorem VRel.noFlt:∀{X:V}{v:Xb},VRel t h X v->zoo v=false
 |.none,_,e=>by rw[show _=_ from e];rfl
 |.bool b,_,e=>by rw[show _=_ from e];rfl
 |.int i,_,⟨k,e⟩=>by rw[e];rfl
 |.str x,_,⟨k,e⟩=>by rw[e];rfl
 |.tup l,_,⟨a,vs,e,_⟩=>by rw[e];rfl
 |.lst l,_,⟨a,vs,e,_⟩=>by rw[e];rfl
 |.ref l,_,⟨a,e,hl⟩=>by rw[e];rfl
 |.exc c,_,⟨a,o,e,_⟩=>by rw[e];rfl
theorem zut(R:Rel G t st s){v:Xb}(e:veq st n X Y=some r)(hX:VRel t s.heap X v)(hY:VRel t s.heap Y w)(h:RR A s v w r):EqAt A s v w r:=by
 by_cases q:v=w
 .subst q;cases VRel.inj R X Y hX hY;rw[zf0 st n X r e];exact EqAt.same _
 .exact zn8 hX.noFlt q h.1
theorem zhe(R:Rel G t st s):∀(n:Nat)(X Y:V)(v w:Xb)(r:Bool)(A:Xe),veq st n X Y=some r->VRel t s.heap X v->VRel t s.heap Y w->A.units+n<cLine->RR A s v w r
 |0,_,_,_,_,_,_,e,_,_,_=>za e
 |n+1,X,Y,v,w,r,A,e,hX,hY,hu=>by
  have e:(match z4 st X,z4 st Y with
   |some p,some q=>if p.1=q.1 then (if p.1=true/\p.2.length≠q.2.length then some false else xj (veq st n) p.2 q.2) else some false
   |some _,Option.none=>vh Y
   |.none,some _=>vh X
   |.none,Option.none=>fy X Y)=some r:=e
  have hu0:A.units<cLine:=Z7 (Qr _ _) hu;cases hx:z4 st X with
  |some p =>
   refine qo (qx R hX hx) λa vs eq2 ia ra ξ=>?_;subst eq2;cases hy:z4 st Y with
   |some q =>
    refine qo (qx R hY hy) λb ws eq2 ib rb ξ=>?_;subst eq2;rw[hx,hy]at e;have e:(if p.1=q.1 then (if p.1=true/\p.2.length≠q.2.length then some false else xj (veq st n) p.2 q.2) else some false)=some r:=e;by_cases hk:p.1=q.1
    .rw[Zg hk]at e;rw[<- hk]at ib;exact zti ia ib hu0 ra rb (λx y v w z hz hx hy=>zut R hz hx hy (zhe R n x y v w z A.in1 hz hx hy (show A.units+1+n<cLine by rw[Nat.add_assoc,Nat.add_comm 1];exact hu))) e
    .rw[Zh hk]at e;obtain rfl:=Je e;exact zp4 ia ib hu0 hk
   |none=>rw[hx,hy]at e;exact ztj ia hu0 e hY
  |none =>
   cases hy:z4 st Y with
   |some q =>
    refine qo (qx R hY hy) λb ws eq2 ib rb ξ=>?_;subst eq2;rw[hx,hy]at e;exact ztk ib hu0 e hX
   |none=>rw[hx,hy]at e;exact zth e hX hY
theorem ze4(R:Rel G t st s){v:Xb}(e:veq st n X Y=some r)(hX:VRel t s.heap X v)(hY:VRel t s.heap Y w)(hu:A.units+n<cLine):RR A s v w r:=zhe R n X Y v w r A e hX hY hu
theorem zmx(R:Rel G t st s)(n:Nat)(X Y:V)(v w:Xb)(r:Bool)(A:Xe)(e:veq st n X Y=some r)(hX:VRel t s.heap X v)(hY:VRel t s.heap Y w)(hu:A.units+n<cLine):EqAt A s v w r:=zut R e hX hY (zhe R n X Y v w r A e hX hY hu)
end
end Internal
end
section
namespace Internal
open PySem PySem.W PyProof.Rows PySem.SeqAt
section
variable {G:Gd}{t:Tie}{st:MS}{s:Xa}
theorem zuh{st:MS}{x y:V}{l:Xd V}{r:Bool}(e:vin st x (y::l)=some r):∃p q,veq st kq y x=some p/\vin st x l=some q/\r=(p||q):=by
 have e:(match veq st kq y x,vin st x l with|some p,some q=>some (p||q)|_,_=>none)=some r:=e;cases hp:veq st kq y x with
 |none=>rw[hp]at e;exact za e
 |some p =>
  cases hq:vin st x l with
  |none=>rw[hp,hq]at e;exact za e
  |some q=>rw[hp,hq]at e;obtain rfl:=Je e;exact⟨p,q,rfl,rfl,rfl⟩
theorem zf2(st:MS)(x:V):∀(l:Xd V)(r:Bool),vin st x l=some r->(∀y∈l,∃b,veq st kq y x=some b)/\r=l.any λy=>(veq st kq y x).getD false
 | [],r,e=>by cases e;exact⟨λy h=>(by cases h),rfl⟩
 |y::l,r,e=>by
  refine jz (zuh e) λp q hp hq eq4=>?_;subst eq4;refine zn (zf2 st x l q hq) λh1 h2=>?_;refine⟨λz hz=>?_,?_⟩
  .rcases Zu.mp hz with rfl|hz
   .exact⟨p,hp⟩
   .exact h1 z hz
  .rw[List.any_cons,hp,h2];rfl
end
end Internal
end
section
namespace Internal
open PySem PySem.W PyProof.Rows PySem.SeqAt
section
variable {G:Gd}{N:Names}{C:Calls}{d:Dp}{sc:Sc}{Γ:Gam}{t:Tie}{st st':MS}{s:Xa}{A:Xe}{X Y Z:V}{v w:Xb}
theorem AOk.u12(h:AOk d A):A.units+kq<cLine:=by have:=h.un;unfold kq;lia
theorem DRel.find{h:Heap}:∀{dd:Xd (V×V)}{kvs:Xd (Xv×Xb)}{x:Xd Nat},DRel t h dd kvs->
  (match js (.str x) dd with|some X=>∃y,valueAt kvs (qa x)=some y/\VRel t h X y|none=>valueAt kvs (qa x)=none)
 | [],_,x,e=>by subst e;rfl
 |(k,u)::r,_,x,⟨z,y,rest,e1,e2,e3,e4⟩=>by
  subst e1 e2;have ih:=DRel.find (x:=x) e4;have hh:js (.str x) ((V.str z,u)::r)=if decide (z=x)=true then some u else js (.str x) r:=rfl;rw[hh];by_cases q:z=x
  .subst q;rw[Zg (Zb rfl)];exact⟨y,by simp[valueAt],e3⟩
  .rw[Zh (by rw[Zc q];exact Z8)];have q2:¬(qa z=qa x):=λz'=>q (by simpa using Qd Array.toList (Str.mk.inj z'));have:valueAt ((qa z,y)::rest) (qa x)=valueAt rest (qa x):=by simp[valueAt,q2]
   rw[this];exact ih
variable{h:Heap}
theorem zw7:∀{m:Xd V}{ws:Xd Xb},VRels t h m ws->∀p∈m.zip ws,VRel t h p.1 p.2:=by
 intro m
 induction m with
 |nil=>intro ws h p hp;cases h;cases hp
 |cons x m ih =>
  rintro ws ⟨u,r,rfl,h1,h2⟩ p hp;rcases Zu.mp hp with rfl|hp
  .exact h1
  .exact ih h2 p hp
theorem z4b:∀{m:Xd V}{ws:Xd Xb},VRels t h m ws->∀y∈ws,∃Y',(Y',y)∈m.zip ws:=by
 intro m
 induction m with
 |nil=>intro ws h y hy;cases h;cases hy
 |cons x m ih =>
  rintro ws ⟨u,r,rfl,h1,h2⟩ y hy;rcases Zu.mp hy with rfl|hy
  .exact⟨x,.head _⟩
  .refine zr (ih h2 y hy) λY' h3=>?_;exact⟨Y',.tail _ h3⟩
noncomputable def eqs(st:MS)(X:V)(l:Xd V)(vs:Xd Xb)(y:Xb):Bool:=(l.zip vs).any λp=>decide (p.2=y)&&(veq st kq p.1 X).getD false
variable{l:Xd V}{vs:Xd Xb}{y:Xb}
theorem zn9(R:Rel G t st s)(ra:VRels t s.heap l vs){Y':V}(hin:(Y',y)∈l.zip vs){z:Bool}(hz:veq st kq Y' X=some z):eqs st X l vs y=z:=by
 cases z with
 |true=>exact List.any_eq_true.mpr ⟨_,hin,by rw[hz,Zb rfl];rfl⟩
 |false =>
  refine List.any_eq_false.mpr λp hp=>?_;by_cases q:p.2=y
  .have h3:=zw7 ra p hp;rw[q]at h3;rw[VRel.inj R _ _ h3 (zw7 ra _ hin),hz,Option.getD_some,Bool.and_false];exact Z8
  .rw[Zc q,Bool.false_and];exact Z8
theorem zso(R:Rel G t st s)(ra:VRels t s.heap l vs)(g1:∀y∈l,∃z,veq st kq y X=some z):∀(m:Xd V)(ws:Xd Xb),VRels t s.heap m ws->(∀p∈m.zip ws,p∈l.zip vs)->ws.any (eqs st X l vs)=m.any λy=>(veq st kq y X).getD false:=by
 intro m
 induction m with
 |nil=>intro ws h _;subst h;rfl
 |cons x m ih =>
  rintro ws ⟨u,r,rfl,h1,h2⟩ hsub;have hin:(x,u)∈l.zip vs:=hsub _ (.head _);refine zr (g1 x (List.of_mem_zip hin).1) λz hz=>?_;rw[List.any_cons,List.any_cons,ih r h2 λp hp=>hsub p (.tail _ hp),zn9 R ra hin hz,hz];rfl
theorem zvw(R:Rel G t st s)(hA:AOk d A)(hX:VRel t s.heap X v)(ra:VRels t s.heap l vs)(g1:∀y∈l,∃z,veq st kq y X=some z)(hy:y∈vs):EqAt A.in1 s y v (eqs st X l vs y):=by
 refine zr (z4b ra y hy) λY' h1=>?_;refine zr (g1 Y' (List.of_mem_zip h1).1) λz hz=>?_;rw[zn9 R ra h1 hz];exact zmx R _ Y' X y v z A.in1 hz (zw7 ra _ h1) hX (by show A.units+1+kq<cLine;have:=hA.un;unfold kq;omega)
noncomputable def zbg(G:Gd)(A:Xe)(s:Xa)(v w:Xb)(b:Bool):Prop :=
 ∃tk,(∀(Q:Xb->Xa->Prop)(E:Xb->Xa->Prop),Q (.bool b) {s with toks:=tk}->Xn G.M A (compareOp .In v w) Q E s) /\
  ∀(Q:Xb->Xa->Prop)(E:Xb->Xa->Prop),Q (.bool (!b)) {s with toks:=tk}->Xn G.M A (compareOp .NotIn v w) Q E s
variable{b:Bool}
theorem zv3(R:Rel G t st s)(hA:AOk d A)(hX:VRel t s.heap X v)(hY:VRel t s.heap Y w){k:Bool}(hs:z4 st Y=some (k,l))(hb:vin st X l=some b):zbg G A s v w b:=by
 refine qo (qx R hY hs) λa vs eq2 ia ra ξ=>?_;subst eq2;refine zn (zf2 st X l b hb) λg1 g2=>?_;have ev:∀y∈vs,EqAt A.in1 s y v (eqs st X l vs.toList y):=λy hy=>zvw R hA hX ra g1 (Array.mem_toList_iff.mpr hy);have anyE:vs.any (eqs st X l vs.toList)=b:=by rw[g2,<- Array.any_toList];exact zso R ra g1 l vs.toList ra λp hp=>hp
 cases k with
 |true=>exact⟨s.toks,λQ E q=>in_listAt _ (PL.isList ia) ev (by rw[anyE];exact q),λQ E q=>notIn_listAt _ (PL.isList ia) ev (by rw[anyE];exact q)⟩
 |false=>exact⟨s.toks,λQ E q=>in_tupleAt _ (PT.isTuple ia) ev (by rw[anyE];exact q),λQ E q=>notIn_tupleAt _ (PT.isTuple ia) ev (by rw[anyE];exact q)⟩
variable{x:Xd Nat}
theorem zv4{y:Xd Nat}{c:Nat}(hx:x=[c])(hX:VRel t s.heap (.str x) v)(hY:VRel t s.heap (.str y) w):zbg G A s v w (decide (c∈y)):=by
 subst hx;obtain⟨k1,rfl⟩:=hX;obtain⟨k2,rfl⟩:=hY;have q:=StrLaws.found_one (qa y) c;have q2:(qa y).cps.toList=y:=by simp
 rw[q2]at q;exact⟨s.toks,λQ E h=>PyProof.Rows.in_str (by rw[q];exact h),λQ E h=>PyProof.Rows.notIn_str (by rw[q];exact h)⟩
theorem zsu(R:Rel G t st s){r:Lbl}{dd:Xd (V×V)}(hX:VRel t s.heap (.str x) v)(hY:VRel t s.heap (.ref r) w)(hdd:st.heap r=some (.dict dd)):zbg G A s v w (js (.str x) dd).isSome:=by
 refine jz (R.objs r _ hdd) λa kvs h1 h2 h3=>?_;refine zd hY λa' eq1 e2=>?_;subst eq1;rw[h1]at e2;obtain rfl:=Je e2;have hsys:(a==sysModules)=false:=by simp only[Xp,ne_eq];rintro rfl;exact R.sys r h1
 refine zr hX λk1 eq1=>?_;subst eq1;have f:=DRel.find (x:=x) h3;have this:(valueAt kvs (qa x)).isSome=(js (.str x) dd).isSome:=by
  cases q:js (.str x) dd with
  |none=>rw[q]at f;rw[f];rfl
  |some z=>rw[q]at f;refine zd f λy e1 ξ=>?_;rw[e1];rfl
 exact⟨s.toks+1,λQ E h=>wpAny_in_of (strKind_is G.prog G.w (qa x) k1) hsys h2.mapOf (by rw[this];exact h),λQ E h=>wpAny_notIn_of (strKind_is G.prog G.w (qa x) k1) hsys h2.mapOf (by rw[this];exact h)⟩
theorem ztc{y:Xd Nat}(e:(match X with|.str [c]=>some (decide (c∈y))|_=>none)=some b):∃c,X=.str [c]/\b=decide (c∈y):=by
 cases X with
 |str x=>cases x with
  |nil=>exact za e
  |cons c r=>cases r with
   |nil=>obtain rfl:=Je e;exact⟨c,rfl,rfl⟩
   |cons _ _=>exact za e
 |_=>exact za e
theorem zs3{h:Xc MObj}(e:(match h with|some (.dict l)=>if X.isKey then some (js X l).isSome else none|_=>none)=some b):∃x dd,X=.str x/\h=some (.dict dd)/\b=(js (.str x) dd).isSome:=by
 cases h with
 |none=>exact za e
 |some o=>cases o with
  |dict l=>cases X with
   |str x=>obtain rfl:=Je e;exact⟨x,l,rfl,rfl,rfl⟩
   |_=>exact za e
  |_=>exact za e
theorem zo9(hb:cmpOp.memb X Y st=some b):(∃k l,z4 st Y=some (k,l)/\vin st X l=some b)\/(∃c y,X=.str [c]/\Y=.str y/\b=decide (c∈y))\/∃x r dd,X=.str x/\Y=.ref r/\st.heap r=some (.dict dd)/\b=(js (.str x) dd).isSome:=by
 delta cmpOp.memb at hb;cases hs:z4 st Y with
 |some p=>rw[hs]at hb;exact .inl ⟨p.1,p.2,rfl,hb⟩
 |none =>
  rw[hs]at hb;cases Y with
  |str y=>refine zd (ztc hb) λc h1 h2=>?_;exact .inr (.inl ⟨c,y,h1,rfl,h2⟩)
  |ref r=>refine jz (zs3 hb) λx dd h1 h2 h3=>?_;exact .inr (.inr ⟨x,r,dd,h1,rfl,h2,h3⟩)
  |_=>exact za hb
theorem ri(R:Rel G t st s)(hA:AOk d A)(hX:VRel t s.heap X v)(hY:VRel t s.heap Y w)(hb:cmpOp.memb X Y st=some b):zbg G A s v w b:=by
 rcases zo9 hb with ⟨k,l,h1,h2⟩|⟨c,y,rfl,rfl,rfl⟩|⟨x,r,dd,rfl,rfl,h1,rfl⟩
 .exact zv3 R hA hX hY h1 h2
 .exact zv4 rfl hX hY
 .exact zsu R hX hY h1
variable{op:CmpOp}
theorem dx(R:Rel G t st s)(h:∀(Q:Xb->Xa->Prop)(E:Xb->Xa->Prop),Q (.bool b) s->Xn G.M A (compareOp op v w) Q E s):Sim G A t s (compareOp op v w) st (jf (.bool b)) :=
 λQ E k=>h Q E (k _ t s (.refl _ _ _) R rfl)
variable{f:Int->Int->Bool}
theorem zon(e:(match X,Y with|.int x,.int y=>Res.ok (V.bool (f x y)) st|_,_=>Res.stuck)=.ok Z st'):∃x y,X=.int x/\Y=.int y/\Z=.bool (f x y)/\st'=st:=by
 cases X with
 |int x=>cases Y with
  |int y=>cases e;exact⟨x,y,rfl,rfl,rfl,rfl⟩
  |_=>exact zb e
 |_=>exact zb e
theorem my(R:Rel G t st s)(hX:VRel t s.heap X v)(hY:VRel t s.heap Y w)(e:(match (generalizing:=false) X,Y with|.int x,.int y=>Res.ok (V.bool (f x y)) st|_,_=>Res.stuck)=.ok Z st')(h:∀x y k1 k2 (Q:Xb->Xa->Prop) (E:Xb->Xa->Prop),Q (.bool (f x y)) s->Xn G.M A (compareOp op (.int x k1) (.int y k2)) Q E s):Sim G A t s (compareOp op v w) st' (jf Z):=by
 refine qo (zon e) λx y eq2 eq3 eq4 eq5=>?_;subst eq2;subst eq3;subst eq4;subst eq5;refine zr hX λk1 eq1=>?_;subst eq1;refine zr hY λk2 eq1=>?_;subst eq1;exact dx R λQ E q=>h x y k1 k2 Q E q
theorem zvq(R:Rel G t st s)(hA:AOk d A)(hX:VRel t s.heap X v)(hY:VRel t s.heap Y w)(e:cmpOp .eq X Y st=.ok Z st'):Sim G A t s (compareOp .Eq v w) st' (jf Z):=by
 refine jj (ly e) λb h1 eq2 eq3=>?_;subst eq2;subst eq3;exact dx R λQ E q=>(ze4 R h1 hX hY hA.u12).1 _ _ _ _ q
theorem zvs(R:Rel G t st s)(hA:AOk d A)(hX:VRel t s.heap X v)(hY:VRel t s.heap Y w)(e:cmpOp .ne X Y st=.ok Z st'):Sim G A t s (compareOp .NotEq v w) st' (jf Z):=by
 refine jj (ly e) λb h1 eq2 eq3=>?_;subst eq2;subst eq3;refine zd (Jm.mp h1) λb' h2 eq2=>?_;subst eq2;exact dx R λQ E q=>(ze4 R h2 hX hY hA.u12).2 _ _ _ _ q
theorem zvr(R:Rel G t st s)(hA:AOk d A)(hX:VRel t s.heap X v)(hY:VRel t s.heap Y w)(e:cmpOp .isin X Y st=.ok Z st'):Sim G A t s (compareOp .In v w) st' (jf Z):=by
 refine jj (ly e) λb hb eq2 eq3=>?_;subst eq2;subst eq3;refine zd (ri R hA hX hY hb) λtk h ξ=>?_;exact λQ E k=>h _ _ (k _ t _ (Step.toks _ t s _) (R.toks _) rfl)
theorem zke(R:Rel G t st s)(hA:AOk d A)(hX:VRel t s.heap X v)(hY:VRel t s.heap Y w)(e:cmpOp .notin X Y st=.ok Z st'):Sim G A t s (compareOp .NotIn v w) st' (jf Z):=by
 refine jj (ly e) λb hb eq2 eq3=>?_;subst eq2;subst eq3;refine zd (Jm.mp hb) λb' h2 eq2=>?_;subst eq2;refine zd (ri R hA hX hY h2) λtk ξ h=>?_;exact λQ E k=>h _ _ (k _ t _ (Step.toks _ t s _) (R.toks _) rfl)
theorem wf{o:Cop}(R:Rel G t st s)(hA:AOk d A)(hX:VRel t s.heap X v)(hY:VRel t s.heap Y w)(e:cmpOp o X Y st=.ok Z st'):Sim G A t s (compareOp (jx o) v w) st' (jf Z):=by
 cases o with
 |eq=>exact zvq R hA hX hY e
 |ne=>exact zvs R hA hX hY e
 |lt=>exact my (f:=λx y=>decide (x<y)) R hX hY e λξ ξ ξ ξ Q E q=>PyProof.Rows.lt_int q
 |le=>exact my (f:=λx y=>decide (x<=y)) R hX hY e λξ ξ ξ ξ Q E q=>PyProof.Rows.le_int q
 |gt=>exact my (f:=λx y=>decide (y<x)) R hX hY e λξ ξ ξ ξ Q E q=>PyProof.Rows.gt_int q
 |ge=>exact my (f:=λx y=>decide (y<=x)) R hX hY e λξ ξ ξ ξ Q E q=>PyProof.Rows.ge_int q
 |isin=>exact zvr R hA hX hY e
 |notin=>exact zke R hA hX hY e
end
end Internal
end
section
namespace Internal
open PySem PySem.W PyProof.Rows PySem.SeqAt
section
variable {G:Gd}{N:Names}{C:Calls}{d:Dp}{sc:Sc}{Γ:Gam}{t:Tie}{st st':MS}{s:Xa}{A:Xe}{X Y Z:V}{v w:Xb}
theorem qr(h:Heap):h.get? h.objs.size=none:=by
 cases e:h.get? h.objs.size with
 |none=>rfl
 |some o=>exact absurd (Jr e) (Nat.lt_irrefl _)
theorem Rel.push(R:Rel G t st s)(o:Obj):Rel G t st {s with heap:=s.heap.push o}:=R.grow (λξ ξ e=>Zn o e) rfl rfl
theorem Step.push(R:Rel G t st s)(o:Obj):Step noX t t s {s with heap:=s.heap.push o}:=Step.grow R (λξ ξ e=>Zn o e) rfl rfl
variable{l:Xd V}{vs:Xd Xb}
theorem VRel.newL(R:Rel G t st s)(r:VRels t s.heap l vs)(sz:l.length<=zi):VRel t (s.heap.push {cls:=.type "list",data:=.seq vs.toArray}) (.lst l) (.ref s.heap.objs.size) :=
 ⟨_,vs.toArray,rfl,⟨_,Z5 _ rfl⟩,R.fresh (qr _),sz,VRels.step (σ':={s with heap:=s.heap.push _}) (Step.push R _) (λξ q=>q.elim) l r⟩
theorem VRel.newT(R:Rel G t st s)(r:VRels t s.heap l vs)(sz:l.length<=zi):VRel t (s.heap.push {cls:=.type "tuple",data:=.seq vs.toArray}) (.tup l) (.ref s.heap.objs.size) :=
 ⟨_,vs.toArray,rfl,⟨_,Z5 _ rfl⟩,R.fresh (qr _),sz,VRels.step (σ':={s with heap:=s.heap.push _}) (Step.push R _) (λξ q=>q.elim) l r⟩
variable{tree:Sem Xb}
theorem Sim.newL(R:Rel G t st s)(r:VRels t s.heap l vs)(sz:l.length<=zi)(h:∀(Q:Xb->Xa->Prop)(E:Xb->Xa->Prop),Q (.ref s.heap.objs.size) {s with heap:=s.heap.push {cls:=.type "list",data:=.seq vs.toArray}}->Xn G.M A tree Q E s):Sim G A t s tree st (jf (.lst l)) :=
 λQ E k=>h Q E (k _ t _ (Step.push R _) (R.push _) (VRel.newL R r sz))
theorem Sim.newT(R:Rel G t st s)(r:VRels t s.heap l vs)(sz:l.length<=zi)(h:∀(Q:Xb->Xa->Prop)(E:Xb->Xa->Prop),Q (.ref s.heap.objs.size) {s with heap:=s.heap.push {cls:=.type "tuple",data:=.seq vs.toArray}}->Xn G.M A tree Q E s):Sim G A t s tree st (jf (.tup l)) :=
 λQ E k=>h Q E (k _ t _ (Step.push R _) (R.push _) (VRel.newT R r sz))
theorem wo(i:Int):intBits i=Builtin.Int.intBits i:=by
 unfold intBits Builtin.Int.intBits;simp only[Xl]
theorem zg3{a b:Int}(h:zaw a b=true):IntMulOk a b:=by
 simp only[zaw,Bool.or_eq_true,Xj]at h;rcases h with (h|h)|h
 .exact IntMulOk.of_left (by rw[<- wo];exact h)
 .exact IntMulOk.of_right (by rw[<- wo];exact h)
 .exact mulOk_of_bits (m:=intBits a) (n:=intBits b) (by rw[wo];exact Zs _) (by rw[wo];exact Zs _) h
set_option tactic.hygienic true in
theorem zpm{x y:Int}(h:¬64<intBits y):Builtin.divisionGoesByPylong x y=false:=by
 delta Builtin.divisionGoesByPylong;dsimp only;have:¬((if (y==0)=true then 0 else y.natAbs.log2 / 30+1) > 300):=by
  unfold intBits at h;split
  .lia
  .rename_i q;rw[Zh (by simpa using q)]at h;lia
 rw[Zc this];rfl
theorem zcu{m:Xd V}(e:z4 st X=some (false,m)):X=.tup m:=by
 cases X with
 |tup m=>cases e;rfl
 |lst m=>cases e
 |ref r =>
  have e:(match st.heap r with|some (.list l)=>some (true,l)|_=>none)=some (false,m):=e;cases h:st.heap r with
  |none=>rw[h]at e;exact za e
  |some o=>rw[h]at e;cases o with
   |list l=>cases e
   |_=>exact za e
 |_=>exact za e
theorem zqq{o1 o2:Xc (Bool×Xd V)}{f:Bool×Xd V->Bool×Xd V->Res V}(e:(match o1,o2 with|some p,some q=>f p q|_,_=>.stuck)=.ok Z st'):∃p q,o1=some p/\o2=some q/\f p q=.ok Z st':=by
 cases o1 with
 |none=>exact zb e
 |some p=>cases o2 with
  |none=>exact zb e
  |some q=>exact⟨p,q,rfl,rfl,e⟩
theorem VRels.nil_of{h:Heap}{vs:Array Xb}(r:VRels t h l vs.toList)(q:vs.isEmpty=true):l=[]:=by
 have hz:=r.size;rw[Array.isEmpty_iff.1 q]at hz;exact Q2.mp hz.symm
theorem zij(vs ws:Array Xb):vs++ws=(vs.toList++ws.toList).toArray:=by
 rw[<- Array.toList_append,Array.toArray_toList]
variable{x y:Xd V}{a b:Addr}
theorem zj3{vs ws:Array Xb}(R:Rel G t st s)(ia:PL s.heap a vs)(ib:PL s.heap b ws)(ra:VRels t s.heap x vs.toList)(rb:VRels t s.heap y ws.toList)(hz:x.length+y.length<=zi):Sim G A t s (binaryOp .Add (.ref a) (.ref b)) st (jf (.lst (x++y))):=by
 have hsz:vs.size+ws.size<=sizeLine:=by rw[ra.size,rb.size];exact hz
 refine zr ia λn ha=>?_;refine zr ib λn2 hb=>?_;exact Sim.newL R (ra.append rb) (by rw[Zf];exact hz) λQ E q=>P.add_list ha hb (by rw[zij];exact q) hsz
theorem zm6{vs ws:Array Xb}(R:Rel G t st s)(ia:PT s.heap a vs)(ib:PT s.heap b ws)(ra:VRels t s.heap x vs.toList)(rb:VRels t s.heap y ws.toList)(hz:x.length+y.length<=zi)(hX:VRel t s.heap (.tup x) (.ref a))(hY:VRel t s.heap (.tup y) (.ref b)):Sim G A t s (binaryOp .Add (.ref a) (.ref b)) st (jf (.tup (x++y))):=by
 have hsz:vs.size+ws.size<=sizeLine:=by rw[ra.size,rb.size];exact hz
 refine zr ia λn ha=>?_;refine zr ib λn2 hb=>?_;by_cases q1:vs.isEmpty=true
 .cases ra.nil_of q1;exact λQ E k=>concat_meets ⟨_,ha,rfl⟩ ⟨_,hb,rfl⟩ noFill_tuple_add seq_tuple_add PySem.F.slot_tuple_add PySem.F.entry_tuple_add (PySem.F.args_tuple_add_2 _ _) (tuple_addW0 a b vs ws n n2 none none #[] #[] q1) ⟨ha,hb,k _ t s (.refl _ _ _) R hY⟩
 .by_cases q2:ws.isEmpty=true
  .cases rb.nil_of q2;exact λQ E k=>concat_meets ⟨_,ha,rfl⟩ ⟨_,hb,rfl⟩ noFill_tuple_add seq_tuple_add PySem.F.slot_tuple_add PySem.F.entry_tuple_add (PySem.F.args_tuple_add_2 _ _) (tuple_addW1 a b vs ws n n2 none none #[] #[] q1 q2) ⟨ha,hb,k _ t s (.refl _ _ _) R (by rw[Z0];exact hX)⟩
  .exact Sim.newT R (ra.append rb) (by rw[Zf];exact hz) λQ E q=>P.add_tuple ha hb q1 q2 (by rw[zij];exact q) hsz
theorem zct(R:Rel G t st s)(hX:VRel t s.heap X v)(hY:VRel t s.heap Y w)(e:zcs X Y st=.ok Z st'):Sim G A t s (binaryOp .Add v w) st' (jf Z):=by
 refine jz (zqq e) λnq0 nq1 h1 h2 e=>?_;obtain⟨k,x⟩:=nq0;obtain⟨k',y⟩:=nq1;refine zn (xu e) λnq0 e=>?_;obtain⟨hk,hz⟩:=nq0;cases (show k=k' from hk);refine zn (xh e) λeq0 eq1=>?_;subst eq0;subst eq1;refine qo (qx R hX h1) λaa vs eq2 ia ra ξ=>?_;subst eq2;refine qo (qx R hY h2) λbb ws eq2 ib rb ξ=>?_;subst eq2;cases k with
 |true=>exact zj3 R ia ib ra rb hz
 |false =>
  rw[zcu h1]at hX;rw[zcu h2]at hY;exact zm6 R ia ib ra rb hz hX hY
theorem p27:(2:Int) ^ 27=134217728:=by decide
theorem zf6{x y:Xd Nat}(R:Rel G t st s)(hX:VRel t s.heap (.str x) v)(hY:VRel t s.heap (.str y) w)(hm:x.length+y.length<=zi):Sim G A t s (binaryOp .Add v w) st (jf (.str (x++y))):=by
 obtain⟨k1,rfl⟩:=hX;obtain⟨k2,rfl⟩:=hY;intro Q E k;refine PyProof.Rows.add_str (λt' tk=>?_) ?_
 .refine k _ t _ (Step.toks _ t s tk) (R.toks tk) ⟨t',?_⟩;show Value.str (Str.mk x.toArray++Str.mk y.toArray) t'=_;congr 1;show Str.mk (x.toArray++y.toArray)=_;simp
 .simpa [Str.length,zi,sizeLine] using hm
theorem g5{op:Operator}{f:Int->Int->Res V}(R:Rel G t st s)(hX:VRel t s.heap X v)(hY:VRel t s.heap Y w)(e:iy X Y f=.ok Z st')(h:∀x y,f x y=.ok Z st'->∃z,(Z=.int z/\st'=st)/\∀(k1 k2:Tok)(Q:Xb->Xa->Prop)(E:Xb->Xa->Prop),Q (.int z s.toks) {s with toks:=s.toks+1}->Xn G.M A (binaryOp op (.int x k1) (.int y k2)) Q E s):Sim G A t s (binaryOp op v w) st' (jf Z):=by
 refine jz (zsv e) λx y eq2 eq3 e=>?_;subst eq2;subst eq3;refine zd (h x y e) λz nq1 hz=>?_;obtain⟨rfl,rfl⟩:=nq1;refine zr hX λk1 eq1=>?_;subst eq1;refine zr hY λk2 eq1=>?_;subst eq1;exact λQ E k=>hz k1 k2 Q E (k _ t _ (Step.toks _ t s _) (R.toks _) ⟨_,rfl⟩)
theorem lj{β:Type}{c:Prop}[Decidable c]{x:Res β}{y:β}{s:MS}(e:(if c then .stuck else x)=.ok y s):¬c/\x=.ok y s:=by
 by_cases h:c
 .rw[Zg h]at e;exact zb e
 .rw[Zh h]at e;exact⟨h,e⟩
theorem zpj(R:Rel G t st s)(hX:VRel t s.heap X v)(hY:VRel t s.heap Y w)(e:iy X Y (λx y=>if zaw x y then .ok (.int (x*y)) st else .stuck)=.ok Z st'):Sim G A t s (binaryOp .Mult v w) st' (jf Z) :=
 g5 R hX hY e λx y e=>⟨_,xh (xu e).2,λξ ξ Q E q=>PyProof.Rows.mul_int q (zg3 (xu e).1)⟩
theorem zm4(R:Rel G t st s)(hX:VRel t s.heap X v)(hY:VRel t s.heap Y w)(e:iy X Y (λx y=>.ok (.int (x+y)) st)=.ok Z st'):Sim G A t s (binaryOp .Add v w) st' (jf Z) :=
 g5 R hX hY e λx y e=>⟨_,xh e,λξ ξ Q E q=>PyProof.Rows.add_int q⟩
theorem zko(R:Rel G t st s)(hX:VRel t s.heap X v)(hY:VRel t s.heap Y w)(e:uh .fdiv X Y st=.ok Z st'):Sim G A t s (binaryOp .FloorDiv v w) st' (jf Z) :=
 g5 R hX hY e λx y e=>⟨_,xh (lj e).2,λξ ξ Q E q=>PyProof.Rows.floordiv_int (λz=>(lj e).1 (.inl z)) q (.inl (zpm λz=>(lj e).1 (.inr z)))⟩
theorem zpd(R:Rel G t st s)(hX:VRel t s.heap X v)(hY:VRel t s.heap Y w)(e:uh .mod X Y st=.ok Z st'):Sim G A t s (binaryOp .Mod v w) st' (jf Z) :=
 g5 R hX hY e λx y e=>⟨_,xh (lj e).2,λξ ξ Q E q=>PyProof.Rows.mod_int' (lj e).1 q⟩
theorem zpy(R:Rel G t st s)(hX:VRel t s.heap X v)(hY:VRel t s.heap Y w)(e:uh .pow X Y st=.ok Z st'):Sim G A t s (binaryOp .Pow v w) st' (jf Z) :=
 g5 R hX hY e λx y e=>⟨_,xh (xu e).2,λξ ξ Q E q=>PyProof.Rows.pow_int (xu e).1.1 (by rw[<- wo,p27];exact(xu e).1.2) q⟩
theorem zrj(R:Rel G t st s)(hX:VRel t s.heap X v)(hY:VRel t s.heap Y w)(e:uh .sub X Y st=.ok Z st'):Sim G A t s (binaryOp .Sub v w) st' (jf Z) :=
 g5 R hX hY e λx y e=>⟨_,xh e,λξ ξ Q E q=>PyProof.Rows.sub_int q⟩
theorem zm5{x:Xd Nat}(R:Rel G t st s)(hX:VRel t s.heap (.str x) v)(hY:VRel t s.heap Y w)(e:zwv (.str x) Y (λx y=>if x.length+y.length<=zi then .ok (.str (x++y)) st else .stuck)=.ok Z st'):Sim G A t s (binaryOp .Add v w) st' (jf Z):=by
 refine jz (zt7 e) λx y ex eq3 e=>?_;subst eq3;cases ex;refine zn (xu e) λhm e=>?_;refine zn (xh e) λeq0 eq1=>?_;subst eq0;subst eq1;exact zf6 R hX hY hm
theorem zj6{o:Bop}(O:G.Ok N)(R:Rel G t st s)(hA:AOk d A)(hX:VRel t s.heap X v)(hY:VRel t s.heap Y w)(e:uh o X Y st=.ok Z st'):Sim G A t s (binaryOp (zwk o) v w) st' (jf Z):=by
 cases o with
 |add =>
  cases X with
  |int x=>exact zm4 R hX hY e
  |str x=>exact zm5 R hX hY e
  |_=>exact zct R hX hY e
 |sub=>exact zrj R hX hY e
 |mul=>exact zpj R hX hY e
 |fdiv=>exact zko R hX hY e
 |mod=>exact zpd R hX hY e
 |pow=>exact zpy R hX hY e
end
end Internal
end
section
namespace Internal
open PySem PySem.W PyProof.Rows PySem.SeqAt
section
variable {G:Gd}{N:Names}{C:Calls}{d:Dp}{sc:Sc}{Γ:Gam}
variable{X:V}{st:MS}
theorem x4{st':MS}{b:Bool}(e:yw X st=.ok b st'):X=.bool b/\st'=st:=by
 cases X<;>first|(cases e;exact⟨rfl,rfl⟩)|exact zb e
variable{a:E}{x:Xu}{pos:Pos}
theorem ztw(ha:qe G C d sc Γ a x):qe G C d sc Γ (.neg a) (.UnaryOp .USub x pos):=by
 intro t st s env loc X st' A hA hsc F R e Q E k;rw[zvy]at e;refine zf (Res.bind_ok e) λv s1 e1 e=>?_;split at e
 .cases e;refine wpAny_UnaryOp (ha t st s env loc _ _ A hA hsc F R e1 _ _ λy t1 σ1 S1 R1 r1=>?_);refine zr r1 λk1 eq1=>?_;subst eq1;exact neg_int (k _ t1 _ (S1.trans (Step.toks _ t1 σ1 _)) (R1.toks _) ⟨_,rfl⟩)
 .exact zb e
theorem zty(ha:qe G C d sc Γ a x):qe G C d sc Γ (.not a) (.UnaryOp .Not x pos):=by
 intro t st s env loc X st' A hA hsc F R e Q E k;rw[zgq]at e;refine zf (Res.bind_ok e) λv s1 e1 e=>?_;refine zf (Res.bind_ok e) λb s2 e2 e=>?_;refine zn (x4 e2) λeq0 eq1=>?_;subst eq0;subst eq1;cases e;refine wpAny_UnaryOp (ha t st s env loc _ _ A hA hsc F R e1 _ _ λy t1 σ1 S1 R1 r1=>?_);cases r1;exact not_of (Xk (k _ t1 _ S1 R1 rfl))
variable{b:E}{y:Xu}
theorem ztq(O:G.Ok N){o:Bop}(ha:qe G C d sc Γ a x)(hb:qe G C d sc Γ b y):qe G C d sc Γ (.bin o a b) (.BinOp x (zwk o) y pos):=by
 intro t st s env loc X st' A hA hsc F R e Q E k;rw[zoc]at e;refine zf (Res.bind_ok e) λv1 s1 e1 e=>?_;refine zf (Res.bind_ok e) λv2 s2 e2 e=>?_;refine wpAny_BinOp (ha t st s env loc _ _ A hA hsc F R e1 _ _ λu t1 σ1 S1 R1 r1=>?_);refine hb t1 s1 σ1 env loc _ _ A hA hsc (F.step R S1) R1 e2 _ _ λw t2 σ2 S2 R2 r2=>?_;exact zj6 O R2 hA (VRel.step S2 (λξ z=>z.elim) _ r1) r2 e _ _ λz t3 σ3 S3 R3 r3=>k z t3 σ3 ((S1.trans S2).trans S3) R3 r3
variable{o:Cop}
theorem ztr(hm:behindInMarks (jx o) y=false)(ha:qe G C d sc Γ a x)(hb:qe G C d sc Γ b y):qe G C d sc Γ (.cmp a o b) (.Compare x [jx o] [y] pos):=by
 intro t st s env loc X st' A hA hsc F R e Q E k;rw[zgn]at e;refine zf (Res.bind_ok e) λv1 s1 e1 e=>?_;refine zf (Res.bind_ok e) λv2 s2 e2 e=>?_;refine wpAny_Compare1 (ha t st s env loc _ _ A hA hsc F R e1 _ _ λu t1 σ1 S1 R1 r1=>?_) hm;refine hb t1 s1 σ1 env loc _ _ A hA hsc (F.step R S1) R1 e2 _ _ λw t2 σ2 S2 R2 r2=>?_;exact wf R2 hA (VRel.step S2 (λξ z=>z.elim) _ r1) r2 e _ _ λz t3 σ3 S3 R3 r3=>k z t3 σ3 ((S1.trans S2).trans S3) R3 r3
theorem zvm(pos:Pos)(left:Xb)(op op2:CmpOp)(r r2:Sem Xb):compareChain pos left [op,op2] [r,r2]=(do
  let rv <- holding [left] r
  standAt pos
  let c <- holding [left,rv] (compareOp op left rv)
  release [left,rv] [c]
  if <- holding [c,rv] (truthy c) then compareChain pos rv [op2] [r2] else pure c):=rfl
theorem zvl(pos:Pos)(left:Xb)(op:CmpOp)(r:Sem Xb):compareChain pos left [op] [r]=(do
  let rv <- holding [left] r
  standAt pos
  operate [left,rv] (compareOp op left rv)):=rfl
theorem zq8{o2:Cop}{c:E}{z:Xu}(hm:behindInMarks (jx o2) z=false)(ha:qe G C d sc Γ a x)(hb:qe G C d sc Γ b y)(hc:qe G C d sc Γ c z):
  qe G C d sc Γ (.cmp2 a o b o2 c) (.Compare x [jx o,jx o2] [y,z] pos):=by
 intro t st s env loc X st' A hA hsc F R e Q E k;rw[nt]at e;refine zf (Res.bind_ok e) λv1 s1 e1 e=>?_;refine zf (Res.bind_ok e) λv2 s2 e2 e=>?_;refine zf (Res.bind_ok e) λv3 s3 e3 e=>?_;refine zf (Res.bind_ok e) λb3 s4 e4 ee=>?_;refine zn (x4 e4) λeq0 eq1=>?_;subst eq0;subst eq1;have mk:markedEach [jx o,jx o2] [y,z] (evalEach [y,z] env)=[eval y env,eval z env]:=by
  show eval y env::[markedBehindIn (jx o2) z (eval z env)]=_;rw[markedBehindIn_of_false hm]
 show Xn G.M A (do compareChain pos (<- eval x env) [jx o,jx o2] (markedEach [jx o,jx o2] [y,z] (evalEach [y,z] env))) Q E s;rw[mk];refine Ze (ha t st s env loc _ _ A hA hsc F R e1 _ _ λu t1 σ1 S1 R1 r1=>?_);rw[zvm];refine Ze (Ja (hb t1 s1 σ1 env loc _ _ A hA hsc (F.step R S1) R1 e2 _ _ λw t2 σ2 S2 R2 r2=>?_));refine Ze (Jb (Ze (Ja ?_)));refine wf R2 hA (VRel.step S2 (λξ z=>z.elim) _ r1) r2 e3 _ _ λq t3 σ3 S3 R3 r3=>?_;cases r3;refine Ze (wpAny_release (Ze (Ja (Xk ?_))));cases b3 with
 |false =>
  simp only[Jl,Xq]at ee ⊢;cases ee;exact Zr (k _ t3 σ3 ((S1.trans S2).trans S3) R3 rfl)
 |true =>
  simp only[if_true]at ee ⊢;refine zf (Res.bind_ok ee) λv5 s5 e5 e6=>?_;rw[zvl];refine Ze (Ja (hc t3 _ σ3 env loc _ _ A hA hsc (((F.step R S1).step R1 S2).step R2 S3) R3 e5 _ _ λw' t4 σ4 S4 R4 r4=>?_));refine Ze (Jb (wpAny_operating ?_));exact wf R4 hA (VRel.step (S3.trans S4) (λξ z=>z.elim) _ r2) r4 e6 _ _ λz t5 σ5 S5 R5 r5=>k z t5 σ5 ((((S1.trans S2).trans S3).trans S4).trans S5) R5 r5
theorem VRel.notB{t:Tie}{h:Heap}{v:Xb}(r:VRel t h X v):∀i,v≠.builtin i:=by
 intro i q;subst q;cases X with
 |none=>cases r
 |bool=>cases r
 |int=>refine zr r λξ e=>?_;cases e
 |str=>refine zr r λξ e=>?_;cases e
 |tup=>refine zf r λξ ξ e ξ=>?_;cases e
 |lst=>refine zf r λξ ξ e ξ=>?_;cases e
 |ref=>refine zd r λξ e ξ=>?_;cases e
 |exc=>refine zf r λξ ξ e ξ=>?_;cases e
variable{j:Nat}
theorem ztt{n:Bool}{p:CmpOp}{p2:Pos}(hp:zal p n=true)(ha:qe G C d sc Γ a x):qe G C d sc Γ (.isC n a .none) (.Compare x [p] [.Constant .none j p2] pos):=by
 intro t st s env loc X st' A hA hsc F R e Q E k;rw[zgo]at e;refine zf (Res.bind_ok e) λv s1 e1 e=>?_;cases e;refine wpAny_Compare1 (ha t st s env loc _ _ A hA hsc F R e1 _ _ λu t1 σ1 S1 R1 r1=>?_) rfl;refine wpAny_Constant_none ?_;have key:(u==Value.none)=decide (v=.none):=by
  cases v with
  |none=>cases r1;(first|exact(Zb rfl).symm|exact(Zc nofun).symm)
  |bool=>cases r1;(first|exact(Zb rfl).symm|exact(Zc nofun).symm)
  |int=>refine zr r1 λξ eq1=>?_;subst eq1;(first|exact(Zb rfl).symm|exact(Zc nofun).symm)
  |str=>refine zr r1 λξ eq1=>?_;subst eq1;(first|exact(Zb rfl).symm|exact(Zc nofun).symm)
  |tup=>refine zf r1 λξ ξ eq2 ξ=>?_;subst eq2;(first|exact(Zb rfl).symm|exact(Zc nofun).symm)
  |lst=>refine zf r1 λξ ξ eq2 ξ=>?_;subst eq2;(first|exact(Zb rfl).symm|exact(Zc nofun).symm)
  |ref=>refine zd r1 λξ eq1 ξ=>?_;subst eq1;(first|exact(Zb rfl).symm|exact(Zc nofun).symm)
  |exc=>refine zf r1 λξ ξ eq2 ξ=>?_;subst eq2;(first|exact(Zb rfl).symm|exact(Zc nofun).symm)
 cases p<;>simp only[zal]at hp<;>(try contradiction)
 .have:n=false:=by simpa using hp
  subst this;exact is_none (k _ t1 _ S1 R1 (by rw[key];show Value.bool _=Value.bool _;congr 1;cases decide (v=V.none)<;>rfl))
 .have:n=true:=hp;subst this;exact isNot_none (k _ t1 _ S1 R1 (by rw[key];show Value.bool _=Value.bool _;congr 1;cases decide (v=V.none)<;>rfl))
variable{l:Xd E}{m:Xd Xu}
set_option tactic.hygienic true in
theorem zt0(h:yl G C d sc Γ l m):qe G C d sc Γ (.tup l) (.Tuple m j pos):=by
 intro t st s env loc X st' A hA hsc F R e Q E k;rw[zof]at e;refine zf (Res.bind_ok e) λvs s1 e1 e=>?_;split at e
 .rename_i hz;cases e;refine wpAny_Tuple (h pos t st s env loc _ _ A hA hsc F R e1 _ _ λys t1 σ1 S1 R1 r1=>⟨by rw[r1.length];exact hz,?_⟩);exact k _ t1 _ (S1.trans (Step.push R1 _)) (R1.push _) (VRel.newT R1 r1 hz)
 .exact zb e
set_option tactic.hygienic true in
theorem ztv(h:yl G C d sc Γ l m):qe G C d sc Γ (.lst l) (.List m pos):=by
 intro t st s env loc X st' A hA hsc F R e Q E k;rw[zod]at e;refine zf (Res.bind_ok e) λvs s1 e1 e=>?_;split at e
 .rename_i hz;cases e;refine wpAny_List (h pos t st s env loc _ _ A hA hsc F R e1 _ _ λys t1 σ1 S1 R1 r1=>⟨by rw[r1.length];exact hz,?_⟩);exact k _ t1 _ (S1.trans (Step.push R1 _)) (R1.push _) (VRel.newL R1 r1 hz)
 .exact zb e
theorem Rel.size_sys(O:G.Ok N){t:Tie}{s:Xa}(R:Rel G t st s):s.heap.objs.size≠sysModules:=by
 refine zd O.lim λmc nq1 ξ=>?_;obtain⟨o,es,ep,ho,_⟩:=nq1;have:=Jr (R.base _ _ ho);intro q;rw[q]at this;exact absurd this (by decide)
set_option tactic.hygienic true in
theorem zrb(O:G.Ok N){kd:Nat}(h:yl G C d sc Γ l m):qe G C d sc Γ (.lstM kd l) (.List m pos):=by
 intro t st s env loc X st' A hA hsc F R e Q E k;rw[zsp]at e;refine zf (Res.bind_ok e) λvs s1 e1 e=>?_;split at e
 .rename_i hz;cases e;refine wpAny_List (h pos t st s env loc _ _ A hA hsc F R e1 _ _ λys t1 σ1 S1 R1 r1=>⟨by rw[r1.length];exact hz,?_⟩);have S2:=Step.bind (k:=kd) (d:=none) (s':={σ1 with heap:=σ1.heap.push {cls:=.type "list",data:=.seq ys.toArray}}) R1 (λξ ξ e=>Zn _ e) rfl rfl (qr _) (λx e=>by exact za e);have rho:(t1.bind (kd,s1.cnt kd) σ1.heap.objs.size none).ρ (kd,s1.cnt kd)=some σ1.heap.objs.size:=by simp[Tie.bind]
  refine k _ _ _ (S1.trans S2) (Rel.bind R1 (λξ ξ e=>Zn _ e) rfl rfl (qr _) (λx e=>by exact za e) ?_ (R1.size_sys O) ⟨_,ys.toArray,rho,⟨_,Z5 _ rfl⟩,hz,VRels.step S2 (λξ q=>q.elim) _ r1⟩) ⟨_,rfl,rho⟩;show((σ1.heap.push _).get? _).isSome=true;rw[Z5 _ rfl];rfl
 .exact zb e
end
end Internal
end
section
namespace Internal
open PySem PySem.W PyProof.Rows PySem.SeqAt
noncomputable def bq(G:Gd)(C:Calls)(d:Dp)(sc:Sc)(Γ:Gam)(e:E)(ast:Xu):Prop :=
 ∀t st s env loc b st' A,AOk d A->env.scope.names=sc->FrOk G A t env Γ loc s->Rel G t st s->ev G.P C e loc st=.ok (.bool b) st'->Sim G A t s (isTrue ast env (eval ast env)) st' (λξ ξ b'=>b'=b)
set_option genCtorIdx true in
inductive SimL(G:Gd)(C:Calls)(d:Dp)(sc:Sc)(Γ:Gam):Xd E->Xd Xu->Prop
 |nil:SimL G C d sc Γ [] []
 |cons {e:E}{l:Xd E}{x:Xu}{m:Xd Xu}:qe G C d sc Γ e x->bq G C d sc Γ e x->SimL G C d sc Γ l m->SimL G C d sc Γ (e::l) (x::m)
noncomputable def za1:Xu->Bool
 |.UnaryOp .Not _ _|.BoolOp ..|.IfExp ..|.Compare ..=>false
 |_=>true
section
variable {G:Gd}{N:Names}{C:Calls}{d:Dp}{sc:Sc}{Γ:Gam}
set_option backward.match.sparseCases true in
theorem zjm{pos:Pos}:∀{l:Xd E}{m:Xd Xu},SimL G C d sc Γ l m->∀t st s env loc X st' A,AOk d A->env.scope.names=sc->FrOk G A t env Γ loc s->Rel G t st s->m5 G.P C l loc st=.ok X st'->
  Sim G A t s (boolOp pos .And (evalEach m env)) st' (jf X)
 | [],_,_=>by intro t st s env loc X st' A hA hsc F R e;simp only[wg,v8,kt]at e;exact zb e
 | [e],_,.cons he _ .nil=>by
  intro t st s env loc X st' A hA hsc F R q Q E k;simp only[wg,v8,kt]at q;exact he t st s env loc X st' A hA hsc F R q Q E k
 |e::e'::l,_,.cons he _ (.cons (x:=x') (m:=m') he' ht' r)=>by
  intro t st s env loc X st' A hA hsc F R q Q E k;simp only[wg,v8,kt]at q;refine zf (Res.bind_ok q) λv s1 q1 q=>?_;refine zf (Res.bind_ok q) λb s2 q2 qq=>?_;refine zn (x4 q2) λeq0 eq1=>?_;subst eq0;subst eq1;show Xn G.M A (do
   let v <- eval _ env
   standAt pos
   let t <- holding [v] (truthy v)
   match BoolOp.And,t with
   |.And,false|.Or,true=>pure v
   |_,_=>boolOp pos .And (evalEach (x'::m') env)) Q E s
  refine Ze (he t st s env loc _ _ A hA hsc F R q1 _ _ λu t1 σ1 S1 R1 r1=>?_);cases r1;refine Ze (Jb (Ze (Ja (Xk ?_))));cases b with
  |false=>simp only[Jl,Xq]at qq;cases qq;exact Zr (k _ t1 σ1 S1 R1 rfl)
  |true =>
   simp only[if_true]at qq;exact zjm (.cons he' ht' r) t1 _ σ1 env loc X st' A hA hsc (F.step R S1) R1 qq Q E λu t2 σ2 S2 R2 r2=>k u t2 σ2 (S1.trans S2) R2 r2
set_option backward.match.sparseCases true in
theorem zre{pos:Pos}:∀{l:Xd E}{m:Xd Xu},SimL G C d sc Γ l m->∀t st s env loc X st' A,AOk d A->env.scope.names=sc->FrOk G A t env Γ loc s->Rel G t st s->zbx G.P C l loc st=.ok X st'->
  Sim G A t s (boolOp pos .Or (evalEach m env)) st' (jf X)
 | [],_,_=>by intro t st s env loc X st' A hA hsc F R e;simp only[um,wl,k9]at e;exact zb e
 | [e],_,.cons he _ .nil=>by
  intro t st s env loc X st' A hA hsc F R q Q E k;simp only[um,wl,k9]at q;exact he t st s env loc X st' A hA hsc F R q Q E k
 |e::e'::l,_,.cons he _ (.cons (x:=x') (m:=m') he' ht' r)=>by
  intro t st s env loc X st' A hA hsc F R q Q E k;simp only[um,wl,k9]at q;refine zf (Res.bind_ok q) λv s1 q1 q=>?_;refine zf (Res.bind_ok q) λb s2 q2 qq=>?_;refine zn (x4 q2) λeq0 eq1=>?_;subst eq0;subst eq1;show Xn G.M A (do
   let v <- eval _ env
   standAt pos
   let t <- holding [v] (truthy v)
   match BoolOp.Or,t with
   |.And,false|.Or,true=>pure v
   |_,_=>boolOp pos .Or (evalEach (x'::m') env)) Q E s
  refine Ze (he t st s env loc _ _ A hA hsc F R q1 _ _ λu t1 σ1 S1 R1 r1=>?_);cases r1;refine Ze (Jb (Ze (Ja (Xk ?_))));cases b with
  |true=>simp only[if_true]at qq;cases qq;exact Zr (k _ t1 σ1 S1 R1 rfl)
  |false =>
   simp only[Jl,Xq]at qq;exact zre (.cons he' ht' r) t1 _ σ1 env loc X st' A hA hsc (F.step R S1) R1 qq Q E λu t2 σ2 S2 R2 r2=>k u t2 σ2 (S1.trans S2) R2 r2
variable{l:Xd E}{m:Xd Xu}{pos:Pos}
theorem zqv(h:SimL G C d sc Γ l m):qe G C d sc Γ (.and l) (.BoolOp .And m pos):=by
 intro t st s env loc X st' A hA hsc F R e;rw[tw]at e;exact zjm h t st s env loc X st' A hA hsc F R e
theorem ztp(h:SimL G C d sc Γ l m):qe G C d sc Γ (.or l) (.BoolOp .Or m pos):=by
 intro t st s env loc X st' A hA hsc F R e;rw[zad]at e;exact zre h t st s env loc X st' A hA hsc F R e
variable{x:Xu}
set_option tactic.hygienic true in
theorem zhz{e:E}(hx:za1 x=true)(h:qe G C d sc Γ e x):bq G C d sc Γ e x:=by
 intro t st s env loc b st' A hA hsc F R q Q E k;have he:isTrue x env (eval x env)=(do let v <- eval x env;standAt x.pos;holding [v] (truthy v)):=by
  cases x<;>first|rfl|(cases hx;done)|skip
  rename_i op _ _;cases op<;>first|rfl|exact qi hx
 rw[he];refine Ze (h t st s env loc _ _ A hA hsc F R q _ _ λu t1 σ1 S1 R1 r1=>?_);cases r1;exact Ze (Jb (Ja (Xk (k _ t1 σ1 S1 R1 rfl))))
variable{a:E}
theorem zq2(ha:bq G C d sc Γ a x):bq G C d sc Γ (.not a) (.UnaryOp .Not x pos):=by
 intro t st s env loc b st' A hA hsc F R e Q E k;rw[zgq]at e;refine zf (Res.bind_ok e) λv s1 e1 e=>?_;refine zf (Res.bind_ok e) λc s2 e2 ee=>?_;refine zn (x4 e2) λeq0 eq1=>?_;subst eq0;subst eq1;cases ee;refine wpAny_isTrue_Not (ha t st s env loc _ _ A hA hsc F R e1 _ _ λu t1 σ1 S1 R1 r1=>?_);subst r1;exact k _ t1 σ1 S1 R1 rfl
theorem zfm:∀{l:Xd E}{m:Xd Xu},SimL G C d sc Γ l m->∀t st s env loc b st' A,AOk d A->env.scope.names=sc->FrOk G A t env Γ loc s->Rel G t st s->m5 G.P C l loc st=.ok (.bool b) st'->
  Sim G A t s (PySem.allTrue .And m env) st' (λξ ξ b'=>b'=b)
 | [],_,_=>by intro t st s env loc X st' A hA hsc F R e;simp only[wg,v8,kt]at e;exact zb e
 | [e],_,.cons (x:=x) he ht .nil=>by
  intro t st s env loc b st' A hA hsc F R q Q E k;simp only[wg,v8,kt]at q;refine wpAny_allTrue_And_cons (ht t st s env loc b st' A hA hsc F R q _ _ λu t1 σ1 S1 R1 r1=>?_);subst r1;cases u with
  |false=>exact k _ t1 σ1 S1 R1 rfl
  |true=>exact wpAny_allTrue_And_nil (k _ t1 σ1 S1 R1 rfl)
 |e::e'::l,_,.cons he ht (.cons (x:=x') (m:=m') he' ht' r)=>by
  intro t st s env loc b st' A hA hsc F R q Q E k;simp only[wg,v8,kt]at q;refine zf (Res.bind_ok q) λv s1 q1 q=>?_;refine zf (Res.bind_ok q) λc s2 q2 qq=>?_;refine zn (x4 q2) λeq0 eq1=>?_;subst eq0;subst eq1;refine wpAny_allTrue_And_cons (ht t st s env loc _ _ A hA hsc F R q1 _ _ λu t1 σ1 S1 R1 r1=>?_);subst r1;cases u with
  |false=>simp only[Jl,Xq]at qq;cases qq;exact k _ t1 σ1 S1 R1 rfl
  |true =>
   simp only[if_true]at qq;exact zfm (.cons he' ht' r) t1 _ σ1 env loc b st' A hA hsc (F.step R S1) R1 qq Q E λu t2 σ2 S2 R2 r2=>k u t2 σ2 (S1.trans S2) R2 r2
theorem zjl:∀{l:Xd E}{m:Xd Xu},SimL G C d sc Γ l m->∀t st s env loc b st' A,AOk d A->env.scope.names=sc->FrOk G A t env Γ loc s->Rel G t st s->zbx G.P C l loc st=.ok (.bool b) st'->
  Sim G A t s (PySem.allTrue .Or m env) st' (λξ ξ b'=>b'=b)
 | [],_,_=>by intro t st s env loc X st' A hA hsc F R e;simp only[um,wl,k9]at e;exact zb e
 | [e],_,.cons (x:=x) he ht .nil=>by
  intro t st s env loc b st' A hA hsc F R q Q E k;simp only[um,wl,k9]at q;refine wpAny_allTrue_Or_cons (ht t st s env loc b st' A hA hsc F R q _ _ λu t1 σ1 S1 R1 r1=>?_);subst r1;cases u with
  |true=>exact k _ t1 σ1 S1 R1 rfl
  |false=>exact wpAny_allTrue_Or_nil (k _ t1 σ1 S1 R1 rfl)
 |e::e'::l,_,.cons he ht (.cons (x:=x') (m:=m') he' ht' r)=>by
  intro t st s env loc b st' A hA hsc F R q Q E k;simp only[um,wl,k9]at q;refine zf (Res.bind_ok q) λv s1 q1 q=>?_;refine zf (Res.bind_ok q) λc s2 q2 qq=>?_;refine zn (x4 q2) λeq0 eq1=>?_;subst eq0;subst eq1;refine wpAny_allTrue_Or_cons (ht t st s env loc _ _ A hA hsc F R q1 _ _ λu t1 σ1 S1 R1 r1=>?_);subst r1;cases u with
  |true=>simp only[if_true]at qq;cases qq;exact k _ t1 σ1 S1 R1 rfl
  |false =>
   simp only[Jl,Xq]at qq;exact zjl (.cons he' ht' r) t1 _ σ1 env loc b st' A hA hsc (F.step R S1) R1 qq Q E λu t2 σ2 S2 R2 r2=>k u t2 σ2 (S1.trans S2) R2 r2
theorem zl8(h:SimL G C d sc Γ l m):bq G C d sc Γ (.and l) (.BoolOp .And m pos):=by
 intro t st s env loc X st' A hA hsc F R e;rw[tw]at e;exact zfm h t st s env loc X st' A hA hsc F R e
theorem zqz(h:SimL G C d sc Γ l m):bq G C d sc Γ (.or l) (.BoolOp .Or m pos):=by
 intro t st s env loc X st' A hA hsc F R e;rw[zad]at e;exact zjl h t st s env loc X st' A hA hsc F R e
variable{A:Xe}{s:Xa}{y:Xu}
theorem az{M:Model}{E:Xb->Xa->Prop}{env:Env}{op:CmpOp}{Q:Bool->Xa->Prop}(hm:behindInMarks op y=false)(h:Xn M A (eval x env) (λa s₁=>Xn M A (eval y env) (λb s₂=>Xn M A (compareOp op a b) (λc s₃=>∃z,c=.bool z/\Q z s₃) E s₂) E s₁) E s):
  Xn M A (isTrue (.Compare x [op] [y] pos) env (eval (.Compare x [op] [y] pos) env)) Q E s:=by
 refine wpAny_isTrue_Compare1 (wpAny_mono h (λa s₁ h₁=>wpAny_mono h₁ (λb s₂ h₂=>wpAny_mono h₂ (λc s₃ h₃=>?_) λξ ξ e=>e) λξ ξ e=>e) λξ ξ e=>e) hm;refine zd h₃ λz eq1 hz=>?_;subst eq1;exact Xk hz
variable{o:Cop}{b:E}
theorem zq0(hm:behindInMarks (jx o) y=false)(ha:qe G C d sc Γ a x)(hb:qe G C d sc Γ b y):bq G C d sc Γ (.cmp a o b) (.Compare x [jx o] [y] pos):=by
 intro t st s env loc c st' A hA hsc F R e Q E k;rw[zgn]at e;refine zf (Res.bind_ok e) λv1 s1 e1 e=>?_;refine zf (Res.bind_ok e) λv2 s2 e2 e=>?_;refine az hm (ha t st s env loc _ _ A hA hsc F R e1 _ _ λu t1 σ1 S1 R1 r1=>?_);refine hb t1 s1 σ1 env loc _ _ A hA hsc (F.step R S1) R1 e2 _ _ λw t2 σ2 S2 R2 r2=>?_;exact wf R2 hA (VRel.step S2 (λξ z=>z.elim) _ r1) r2 e _ _ λz t3 σ3 S3 R3 r3=>⟨c,r3,k c t3 σ3 ((S1.trans S2).trans S3) R3 rfl⟩
theorem z3x(pos:Pos)(left:Xb)(op op2:CmpOp)(r r2:Sem Xb):testChain pos left [op,op2] [r,r2]=(do
  let rv <- holding [left] r
  standAt pos
  let c <- holding [left,rv] (compareOp op left rv)
  release [left,rv] [c]
  if <- holding [c,rv] (truthy c) then testChain pos rv [op2] [r2] else pure false):=rfl
theorem z3w(pos:Pos)(left:Xb)(op:CmpOp)(r:Sem Xb):testChain pos left [op] [r]=(do
  let rv <- holding [left] r
  standAt pos
  let c <- operate [left,rv] (compareOp op left rv)
  holding [c] (truthy c)):=rfl
theorem zl9{o2:Cop}{c:E}{z:Xu}(hm:behindInMarks (jx o2) z=false)(ha:qe G C d sc Γ a x)(hb:qe G C d sc Γ b y)(hc:qe G C d sc Γ c z):
  bq G C d sc Γ (.cmp2 a o b o2 c) (.Compare x [jx o,jx o2] [y,z] pos):=by
 intro t st s env loc X st' A hA hsc F R e Q E k;rw[nt]at e;refine zf (Res.bind_ok e) λv1 s1 e1 e=>?_;refine zf (Res.bind_ok e) λv2 s2 e2 e=>?_;refine zf (Res.bind_ok e) λv3 s3 e3 e=>?_;refine zf (Res.bind_ok e) λb3 s4 e4 ee=>?_;refine zn (x4 e4) λeq0 eq1=>?_;subst eq0;subst eq1;have mk:markedEach [jx o,jx o2] [y,z] (evalEach [y,z] env)=[eval y env,eval z env]:=by
  show eval y env::[markedBehindIn (jx o2) z (eval z env)]=_;rw[markedBehindIn_of_false hm]
 show Xn G.M A (do testChain pos (<- eval x env) [jx o,jx o2] (markedEach [jx o,jx o2] [y,z] (evalEach [y,z] env))) Q E s;rw[mk];refine Ze (ha t st s env loc _ _ A hA hsc F R e1 _ _ λu t1 σ1 S1 R1 r1=>?_);rw[z3x];refine Ze (Ja (hb t1 s1 σ1 env loc _ _ A hA hsc (F.step R S1) R1 e2 _ _ λw t2 σ2 S2 R2 r2=>?_));refine Ze (Jb (Ze (Ja ?_)));refine wf R2 hA (VRel.step S2 (λξ z=>z.elim) _ r1) r2 e3 _ _ λq t3 σ3 S3 R3 r3=>?_;cases r3;refine Ze (wpAny_release (Ze (Ja (Xk ?_))));cases b3 with
 |false =>
  simp only[Jl,Xq]at ee ⊢;cases ee;exact Zr (k _ t3 σ3 ((S1.trans S2).trans S3) R3 rfl)
 |true =>
  simp only[if_true]at ee ⊢;refine zf (Res.bind_ok ee) λv5 s5 e5 e6=>?_;rw[z3w];refine Ze (Ja (hc t3 _ σ3 env loc _ _ A hA hsc (((F.step R S1).step R1 S2).step R2 S3) R3 e5 _ _ λw' t4 σ4 S4 R4 r4=>?_));refine Ze (Jb (Ze (wpAny_operating ?_)));refine wf R4 hA (VRel.step (S3.trans S4) (λξ z=>z.elim) _ r2) r4 e6 _ _ λz t5 σ5 S5 R5 r5=>?_;cases r5;exact Ja (Xk (k _ t5 σ5 ((((S1.trans S2).trans S3).trans S4).trans S5) R5 rfl))
variable{n:Bool}
theorem zv5{p:CmpOp}{t:Tie}{v:V}{u:Xb}{Q:Xb->Xa->Prop}{E:Xb->Xa->Prop}(hp:zal p n=true)(r1:VRel t s.heap v u)(h:Q (.bool (decide (v=.none) != n)) s):Xn G.M A (compareOp p u .none) Q E s:=by
 have key:(u==Value.none)=decide (v=.none):=by
  cases v with
  |none=>subst r1;(first|exact(Zb rfl).symm|exact(Zc nofun).symm)
  |bool=>subst r1;(first|exact(Zb rfl).symm|exact(Zc nofun).symm)
  |int=>refine zr r1 λξ eq1=>?_;subst eq1;(first|exact(Zb rfl).symm|exact(Zc nofun).symm)
  |str=>refine zr r1 λξ eq1=>?_;subst eq1;(first|exact(Zb rfl).symm|exact(Zc nofun).symm)
  |tup=>refine zf r1 λξ ξ eq2 ξ=>?_;subst eq2;(first|exact(Zb rfl).symm|exact(Zc nofun).symm)
  |lst=>refine zf r1 λξ ξ eq2 ξ=>?_;subst eq2;(first|exact(Zb rfl).symm|exact(Zc nofun).symm)
  |ref=>refine zd r1 λξ eq1 ξ=>?_;subst eq1;(first|exact(Zb rfl).symm|exact(Zc nofun).symm)
  |exc=>refine zf r1 λξ ξ eq2 ξ=>?_;subst eq2;(first|exact(Zb rfl).symm|exact(Zc nofun).symm)
 cases p<;>simp only[zal]at hp<;>(try contradiction)
 .have:n=false:=by simpa using hp
  subst this;exact is_none (by rw[key];revert h;cases decide (v=V.none)<;>exact id)
 .have:n=true:=hp;subst this;exact isNot_none (by rw[key];revert h;cases decide (v=V.none)<;>exact id)
theorem zq1{p:CmpOp}{p2:Pos}{j:Nat}(hp:zal p n=true)(ha:qe G C d sc Γ a x):bq G C d sc Γ (.isC n a .none) (.Compare x [p] [.Constant .none j p2] pos):=by
 intro t st s env loc c st' A hA hsc F R e Q E k;rw[zgo]at e;refine zf (Res.bind_ok e) λv s1 e1 e=>?_;cases e;refine az rfl (ha t st s env loc _ _ A hA hsc F R e1 _ _ λu t1 σ1 S1 R1 r1=>?_);exact wpAny_Constant_none (zv5 hp r1 ⟨_,rfl,k _ t1 σ1 S1 R1 rfl⟩)
end
end Internal
end
section
namespace Internal
open PySem PySem.W PyProof.Rows PySem.SeqAt
section
variable {G:Gd}{N:Names}{C:Calls}{d:Dp}{sc:Sc}{Γ:Gam}{t:Tie}{st st':MS}{s:Xa}{A:Xe}{X Y Z:V}{v w:Xb}
variable{i:Int}{n j:Nat}
theorem zb2(e:idx i n=some j):(0<=i/\i<n/\j=i.toNat)\/(i<0/\0<=i+n/\j=(i+n).toNat):=by
 have e:(if 0<=i then (if i<n then some i.toNat else Option.none) else (if 0<=i+n then some (i+n).toNat else Option.none))=some j:=e;by_cases h:0<=i
 .rw[Zg h]at e;by_cases h2:i<n
  .rw[Zg h2]at e;obtain rfl:=Je e;exact .inl ⟨h,h2,rfl⟩
  .rw[Zh h2]at e;exact za e
 .rw[Zh h]at e;by_cases h2:0<=i+n
  .rw[Zg h2]at e;obtain rfl:=Je e;exact .inr ⟨Int.lt_of_not_ge h,h2,rfl⟩
  .rw[Zh h2]at e;exact za e
theorem cq{k:Int}(h:(if i<0 then i+n else i)=k)(h0:0<=k)(h1:k<n):seqIndex? i n=some k.toNat/\k.toNat<n:=by
 have e:seqIndex? i n=if (decide (0<=(if i<0 then i+n else i))&&decide ((if i<0 then i+n else i)<(n:Int)))=true then some (if i<0 then i+n else i).toNat else none:=rfl;rw[e,h,Zb h0,Zb h1];exact⟨rfl,(Int.toNat_lt h0).2 h1⟩
theorem yz(e:idx i n=some j):seqIndex? i n=some j/\j<n:=by
 rcases zb2 e with ⟨h1,h2,rfl⟩|⟨h1,h2,rfl⟩
 .exact cq (Zh (Jg.2 h1)) h1 h2
 .exact cq (Zg h1) h2 (by lia)
noncomputable def kz(x:Xu):Bool:=!Nat.beq x.ctorIdx 26
variable{slice:Xu}
theorem kg(h:kz slice=true)(o i:Xb):subscripted slice false o i=operate [o,i] (PySem.getItem o i):=by
 cases slice<;>first|rfl|exact qi h
theorem zb1(h:idx i n=some j)(hn:n<=zi):-(2 ^ 63:Int)<=i/\i<2 ^ 63:=by
 have hn:n<=16777216:=hn;have h:-(n:Int)<=i/\i<n:=by rcases zb2 h with h|h<;>omega
 omega
theorem zv0(h:idx i n=some j)(hn:n<=zi):(decide (i < -(2 ^ 63))||decide (i ≥ 2 ^ 63))=false:=by
 refine zn (zb1 h hn) λh1 h2=>?_;rw[Zc (Jg.2 h1),Zc (Int.not_le.2 h2)];rfl
theorem zv1(h:idx i n=some j)(h0:0<=i):j=i.toNat:=by
 rcases zb2 h with ⟨_,_,h⟩|⟨h,_⟩
 .exact h
 .exact absurd h0 (Int.not_le.2 h)
theorem zak{b:V}(h:b.isKey=true):∃x,b=.str x:=by
 cases b with
 |str x=>exact⟨x,rfl⟩
 |_=>exact qi h
variable{β:Type}
theorem znz{α:Type}{h:Xc MObj}{f:Xd (V×V)->Res β}{y:β}{s:MS}(e:(match h with|some (.dict l)=>f l|_=>.stuck)=.ok y s):∃l,h=some (.dict l)/\f l=.ok y s:=by
 cases h with
 |none=>exact zb e
 |some o=>cases o with
  |dict l=>exact⟨l,rfl,e⟩
  |_=>exact zb e
variable{X Z:V}{st st':MS}
theorem zs0{Y:V}(e:(match X with
  |.ref r=>match st.heap r with
   |some (.dict l)=>if Y.isKey then okV st (js Y l) else .stuck
   |_=>.stuck
  |_=>.stuck)=.ok Z st'):∃x r l,Y=.str x/\X=.ref r/\st.heap r=some (.dict l)/\js (.str x) l=some Z/\st'=st:=by
 cases X with
 |ref r =>
  refine zd (znz (α:=V) e) λl h1 h2=>?_;by_cases hk:Y.isKey=true
  .rw[Zg hk]at h2;refine zr (zak hk) λx eq1=>?_;subst eq1;refine zn (ol h2) λh3 h4=>?_;exact⟨x,r,l,rfl,rfl,h1,h3,h4⟩
  .rw[Zh hk]at h2;exact zb h2
 |_=>exact zb e
theorem zvf(e:(match z4 st X with
  |some (_,l)=>okV st ((idx i l.length).bind λj=>l[j]?)
  |.none=>.stuck)=.ok Z st'):∃k l j,z4 st X=some (k,l)/\idx i l.length=some j/\l[j]?=some Z/\st'=st:=by
 cases h:z4 st X with
 |none=>rw[h]at e;exact zb e
 |some p =>
  rw[h]at e;refine zn (ol e) λh1 h2=>?_;refine zd (Option.bind_eq_some_iff.mp h1) λj h3 h4=>?_;exact⟨p.1,p.2,j,rfl,h3,h4,h2⟩
variable{x:Xd Nat}
theorem zri(e:getItem (.str x) (.int i) st=.ok Z st'):x.length<=zi/\∃j c,idx i x.length=some j/\x[j]?=some c/\Z=.str [c]/\st'=st:=by
 have e:(if x.length<=zi then okV st ((idx i x.length).bind λj=>(x[j]?).map λc=>.str [c]) else .stuck)=.ok Z st':=e;by_cases hz:x.length<=zi
 .rw[Zg hz]at e;refine zn (ol e) λez h=>?_;refine zd (Option.bind_eq_some_iff.mp ez) λj h1 h2=>?_;refine zd (Jm.mp h2) λc h3 h4=>?_;exact⟨hz,j,c,h1,h3,h4.symm,h⟩
 .rw[Zh hz]at e;exact zb e
variable{value:Xu}{ki:Tok}
theorem zox{kx:Tok}(hs:kz slice=true)(R:Rel G t st s)(e:getItem (.str x) (.int i) st=.ok Z st'):Sim G A t s (subscriptTail value slice (.str (qa x) kx) (.int i ki)) st' (jf Z):=by
 obtain⟨hz,j,c,h1,h3,rfl,rfl⟩:=zri e;intro Q E q;refine tail_any (typeIs_str s _ kx) PySem.F.slot_str_getitem.lookup (PyProof.Rows.getItem_str (c:=c) (zv0 h1 hz) ?_ (q _ t _ (Step.toks _ t s _) (R.toks _) ⟨_,rfl⟩)) (kg hs _ _);rw[show(qa x).length=x.length from rfl,(yz h1).1,Option.bind_some];exact List.getElem?_toArray.trans h3
variable{l:Xd V}{a:Addr}{vs:Array Xb}
theorem zkx(hs:kz slice=true)(R:Rel G t st s)(ia:PL s.heap a vs)(ra:VRels t s.heap l vs.toList)(sz:l.length<=zi)(h1:idx i l.length=some j)(h2:l[j]?=some Z):
  Sim G A t s (subscriptTail value slice (.ref a) (.int i ki)) st (jf Z):=by
 refine zd (ra.get h2) λy h6 h7=>?_;have hbd:=zb1 h1 sz;intro Q E q;refine tail_any ia.isList.typeIs slot_list_getitem.lookup ?_ (kg hs _ _);by_cases h0:0<=i
 .cases zv1 h1 h0;exact wpAny_getItem_list ia.isList h0 hbd.2 (Jt.symm.trans h6) (q _ t s (.refl _ _ _) R h7)
 .rw[show vs=vs.toList.toArray from Array.toArray_toList.symm]at ia;exact kde_getNeg ia.isList (Int.lt_of_not_ge h0) hbd.1 (by rw[ra.length];exact(yz h1).1) h6 (q _ t s (.refl _ _ _) R h7)
theorem zoy(hs:kz slice=true)(R:Rel G t st s)(ia:PT s.heap a vs)(ra:VRels t s.heap l vs.toList)(sz:l.length<=zi)(h1:idx i l.length=some j)(h2:l[j]?=some Z):
  Sim G A t s (subscriptTail value slice (.ref a) (.int i ki)) st (jf Z):=by
 refine zd (ra.get h2) λy h6 h7=>?_;have hbd:=zb1 h1 sz;refine zr ia λn ha=>?_;intro Q E q;exact tail_any ⟨_,ha,rfl⟩ PySem.F.slot_tuple_getitem.lookup (P.getItem_tuple ha (Qo (by decide) hbd.1) hbd.2 (by rw[show vs.size=_ from ra.length];exact(yz h1).1) (Jt.symm.trans h6) (q _ t s (.refl _ _ _) R h7)) (kg hs _ _)
theorem zov{k:Tok}{r:Lbl}{dd:Xd (V×V)}(hs:kz slice=true)(R:Rel G t st s)(hX:VRel t s.heap (.ref r) v)(hd:st.heap r=some (.dict dd))(ez:js (.str x) dd=some Z):
  Sim G A t s (subscriptTail value slice v (.str (qa x) k)) st (jf Z):=by
 refine jz (R.objs r _ hd) λa kvs h1 h2 h3=>?_;refine zd hX λa' eq1 e2=>?_;subst eq1;cases h1.symm.trans e2;have f:=DRel.find (x:=x) h3;rw[ez]at f;refine zd f λy f1 f2=>?_;intro Q E q;exact tail_any h2.mapOf.typeIs slot_dict_getitem.lookup (wpAny_getItem_of (strKind_is G.prog G.w (qa x) k) h2.mapOf f1 (q _ t _ (Step.toks _ t s _) (R.toks _) f2)) (kg hs _ _)
theorem zow(hs:kz slice=true)(R:Rel G t st s)(hX:VRel t s.heap X v)(e:(match z4 st X with
  |some (_,l)=>okV st ((idx i l.length).bind λj=>l[j]?)
  |.none=>.stuck)=.ok Z st'):Sim G A t s (subscriptTail value slice v (.int i ki)) st' (jf Z):=by
 refine zbf (zvf e) λkk l j hl h1 h2 eq6=>?_;subst eq6;refine qo (qx R hX hl) λa vs eq2 ia ra sz=>?_;subst eq2;cases kk with
 |true=>exact zkx hs R ia ra sz h1 h2
 |false=>exact zoy hs R ia ra sz h1 h2
theorem zgu(hs:kz slice=true)(R:Rel G t st s)(hX:VRel t s.heap X v)(hY:VRel t s.heap Y w)(e:(match X with
  |.ref r=>match st.heap r with
   |some (.dict l)=>if Y.isKey then okV st (js Y l) else .stuck
   |_=>.stuck
  |_=>.stuck)=.ok Z st'):Sim G A t s (subscriptTail value slice v w) st' (jf Z):=by
 refine zjz (zs0 e) λx r l eq3 eq4 h1 h2 eq7=>?_;subst eq3;subst eq4;subst eq7;refine zr hY λk eq1=>?_;subst eq1;exact zov hs R hX h1 h2
theorem ix(hs:kz slice=true)(R:Rel G t st s)(hA:AOk d A)(hX:VRel t s.heap X v)(hY:VRel t s.heap Y w)(e:getItem X Y st=.ok Z st'):Sim G A t s (subscriptTail value slice v w) st' (jf Z):=by
 cases Y with
 |int i =>
  obtain⟨k,rfl⟩:=hY;cases X with
  |str x=>obtain⟨k1,rfl⟩:=hX;exact zox hs R e
  |_=>exact zow hs R hX e
 |_=>exact zgu hs R hX hY e
variable{pos:Pos}
theorem ztz{a b:E}{x y:Xu}(hs:kz y=true)(ha:qe G C d sc Γ a x)(hb:qe G C d sc Γ b y):qe G C d sc Γ (.sub a b) (.Subscript x y pos):=by
 intro t st s env loc X st' A hA hsc F R e Q E k;rw[zoe]at e;refine zf (Res.bind_ok e) λv1 s1 e1 e=>?_;refine zf (Res.bind_ok e) λv2 s2 e2 e=>?_;refine Subscript_ (ha t st s env loc _ _ A hA hsc F R e1 _ _ λu t1 σ1 S1 R1 r1=>?_);refine hb t1 s1 σ1 env loc _ _ A hA hsc (F.step R S1) R1 e2 _ _ λw t2 σ2 S2 R2 r2=>?_;exact ix hs R2 hA (VRel.step S2 (λξ z=>z.elim) _ r1) r2 e _ _ λz t3 σ3 S3 R3 r3=>k z t3 σ3 ((S1.trans S2).trans S3) R3 r3
noncomputable def k7(x:Xu):Bool:=!Nat.beq x.ctorIdx 16
theorem md{x:Xu}(h:k7 x=true)(n:Xv)(env:Env):attributeBase x n env (eval x env)=eval x env:=by
 cases x with
 |Call f l k p=>exact qi h
 |_=>rfl
structure ClsOk(G:Gd)(Ca:Addr):Prop where
 ga:findIn G.K (.ref Ca) "__getattribute__"=some (some (.builtin "object.__getattribute__"))
 gt:findIn G.K (.ref Ca) "__getattr__"=some none
 sa:findIn G.K (.ref Ca) "__setattr__"=some (some (.builtin "object.__setattr__"))
 at_:∀i,i<13->findIn G.K (.ref Ca) (G.an i)=some none
 cd:∃cd,clsIn G.K Ca=some cd/\cd.hasDict=true
 po:plainOver G.K Ca=true
variable{h:Heap}{m:Xv->Xc Xb}
theorem zle(hn:h.Ns a m)(x:Xv):∃o,h.get? a=some o/\lookIn x o=some (m x):=by
 refine zbf hn λo es ep ho hd hk hf=>?_;refine⟨o,ho,?_⟩;unfold lookIn;rw[hd];dsimp only;have:=hf x;unfold nsFind findBy at this;rw[<- Array.find?_toList]at this;cases q:es.toList.find? (λe=>e.key.isStr x)with
 |some e=>rw[q]at this;simp only[Option.map_some]at this;rw[<- this]
 |none =>
  rw[q]at this;simp only[Option.map_none]at this;have nr:es.toList.any (·.refKey)=false:=by
   refine List.any_eq_false.mpr λe he=>?_;refine ij (hk e (Array.mem_toList_iff.mp he)) λn tk hk'=>?_;simp[DictEntry.refKey,hk']
  dsimp only;rw[nr,Zh (by decide),<- this]
variable{as:Xd (Nat×V)}
theorem zb3{G:Gd}{t:Tie}{s:Xa}(R:Rel G t st s){l:Lbl}{c:Nat}(h:st.heap l=some (.inst c as)):
  ∃a dd Ca m od,t.ρ l=some a/\t.δ l=some dd/\G.ca c=some Ca/\InstAt s.heap a (instObj Ca dd) Ca (some od)/\s.heap.get? dd=some od/\(∀x,lookIn x od=some (m x))/\NsZ s.heap dd m as.length/\zm1 G t s.heap as m:=by
 refine zva (R.objs l _ h) λa dd Ca m h1 h2 h3 h4 h5 h6=>?_;have h7:∃od,s.heap.get? dd=some od:=let ⟨o,_,_,ho,_⟩:=h5;⟨o,ho⟩
 refine zr h7 λod ho=>?_;refine⟨a,dd,Ca,m,od,h1,h2,h3,⟨h4,rfl,rfl,ho⟩,ho,λx=>?_,h5,h6⟩;refine zd (zle h5.ns x) λo' e1 e2=>?_;rw[ho]at e1;obtain rfl:=Je e1;exact e2
theorem zel{h:Xc MObj}{f:Nat->Xd (Nat×V)->Res β}{y:β}{s:MS}(e:(match h with|some (.inst c as)=>f c as|_=>.stuck)=.ok y s):∃c as,h=some (.inst c as)/\f c as=.ok y s:=by
 cases h with
 |none=>exact zb e
 |some o=>cases o with
  |inst c as=>exact⟨c,as,rfl,e⟩
  |_=>exact zb e
theorem zeh{i:Nat}(e:getAttr X i st=.ok Z st'):∃r c as,X=.ref r/\st.heap r=some (.inst c as)/\ym i as=some Z/\st'=st:=by
 refine zd (zjj e) λr eq1 e=>?_;subst eq1;refine zf (zel e) λc as h e=>?_;refine zn (ol e) λh1 h2=>?_;exact⟨r,c,as,rfl,h,h1,h2⟩
variable{y:Xb}
theorem zkr(h:∀n,y≠.builtin n):handedIn y=true:=by
 cases y with
 |builtin n=>exact absurd rfl (h n)
 |_=>rfl
variable{od:Obj}
theorem zwm{cd:ClassData}{x:Xv}{o:Xc Xb}(c2:cd.hasDict=true)(h:lookIn x od=some o):W.ownOf cd (some od) x=some o:=by
 delta W.ownOf;rw[c2,Zg rfl];exact h
variable{Ca:Addr}
theorem zeb{K:Frag}{cd:ClassData}{x:Xv}(c1:clsIn K Ca=some cd)(c2:cd.hasDict=true)(hf:findIn K (.ref Ca) x=some none)(h:lookIn x od=some (some y)):findObj K Ca (some od) x=some (.value y):=by
 delta findObj;rw[c1,hf];show(W.ownOf cd (some od) x).bind _=_;rw[zwm c2 h];rfl
theorem iu(O:G.Ok N)(hcl:∀c Ca,G.ca c=some Ca->ClsOk G Ca){i:Nat}{b:Bool}(hi:i<13)(R:Rel G t st s)(hX:VRel t s.heap X v)(e:getAttr X i st=.ok Z st'):Sim G A t s (PySem.getAttr v (G.an i) b) st' (jf Z):=by
 refine zbf (zeh e) λr c as eq3 has q eq6=>?_;subst eq3;subst eq6;refine zr0 (zb3 R has) λa dd Ca m od h1 h2 h3 I h5 h6 h7 h8=>?_;refine zd hX λa' eq1 e2=>?_;subst eq1;cases h1.symm.trans e2;refine zd (h8.1 i Z q) λy y1 y2=>?_;have K:=hcl c Ca h3;refine zd K.cd λcd c1 c2=>?_;intro Q E k;exact get_value (O.K.keeps R.base) I K.ga (zeb c1 c2 (K.at_ i hi) ((h6 _).trans (Qd some y1))) (zkr y2.notB) (k _ t _ (Step.toks _ t s _) (R.toks _) y2)
theorem zq5(O:G.Ok N)(hcl:∀c Ca,G.ca c=some Ca->ClsOk G Ca){i:Nat}{a:E}{x:Xu}(hi:i<13)(hx:k7 x=true)(ha:qe G C d sc Γ a x):qe G C d sc Γ (.attr a i) (.Attribute x (G.an i) pos):=by
 intro t st s env loc X st' A hA hsc F R e Q E k;rw[ziz]at e;refine zf (Res.bind_ok e) λv1 s1 e1 e=>?_;refine Attribute_any_ (ha t st s env loc _ _ A hA hsc F R e1 _ _ λu t1 σ1 S1 R1 r1=>?_) ?_
 .exact iu O hcl hi R1 r1 e _ _ λz t3 σ3 S3 R3 r3=>k z t3 σ3 (S1.trans S3) R3 r3
 .show(attributeBase x (G.an i) env (eval x env) >>= _)=_;rw[md hx]
variable{r:Xd (Nat×V)}
theorem o7{i:Nat}{w:V}:ym i ((i,w)::r)=some w:=Zg rfl
variable{k:Nat}
theorem gz{i:Nat}{w:V}(h:¬k=i):ym i ((k,w)::r)=ym i r:=Zh h
theorem zm8{i:Nat}{v w:V}:mt i v ((i,w)::r)=(i,v)::r:=Zg rfl
theorem zih{i:Nat}{v w:V}(h:¬k=i):mt i v ((k,w)::r)=(k,w)::mt i v r:=Zh h
theorem uw(i j:Nat)(v:V):∀as:Xd (Nat×V),ym j (mt i v as)=if j=i then some v else ym j as
 | []=>by
  by_cases q:i=j
  .subst q;rw[Zg rfl];exact o7
  .rw[Zh (λz=>q z.symm)];exact gz q
 |(k,w)::r=>by
  by_cases q:k=i
  .subst q;rw[zm8];by_cases z:k=j
   .subst z;rw[Zg rfl];exact o7
   .rw[Zh (λy=>z y.symm),gz z,gz z]
  .rw[zih q];by_cases z:k=j
   .subst z;rw[Zh q,o7,o7]
   .rw[gz z,gz z,uw i j v r]
theorem br(i:Nat)(v:V):∀as:Xd (Nat×V),(mt i v as).length=if (ym i as).isSome=true then as.length else as.length+1
 | []=>rfl
 |(k,w)::r=>by
  by_cases q:k=i
  .subst q;rw[zm8,o7];rfl
  .rw[zih q,gz q,Z4,br i v r,Z4];cases (ym i r).isSome<;>rfl
theorem zga{i:Nat}{v:V}(h:as.length<1000):(mt i v as).length<=1000:=by
 rw[br];cases (ym i as).isSome with
 |true=>exact Qn h
 |false=>exact h
theorem zm9(O:G.Ok N){i:Nat}(h8:zm1 G t h as m):(if (m (G.an i)).isSome=true then as.length else as.length+1)=(mt i Y as).length:=by
 rw[br];cases q:ym i as with
 |some z=>refine zd (h8.1 i z q) λy y1 ξ=>?_;rw[y1];rfl
 |none =>
  cases q2:m (G.an i)with
  |none=>rfl
  |some y=>refine zf (h8.2 _ _ q2) λj z z1 z2=>?_;rw[<- O.an _ _ z1,q]at z2;exact za z2
theorem zna(O:G.Ok N){t':Tie}{h':Heap}{i:Nat}(h8:zm1 G t h as m)(hY:VRel t' h' Y w)(hs:∀z y,VRel t h z y->VRel t' h' z y):zm1 G t' h' (mt i Y as) (λx=>if x=G.an i then some w else m x):=by
 refine⟨λj z hz=>?_,λx y hx=>?_⟩
 .rw[uw]at hz;by_cases q:j=i
  .subst q;rw[Zg rfl]at hz;obtain rfl:=Je hz;exact⟨w,Zg rfl,hY⟩
  .rw[Zh q]at hz;refine zd (h8.1 j z hz) λy y1 y2=>?_;exact⟨y,(Zh λz=>q (O.an _ _ z)).trans y1,hs _ _ y2⟩
 .by_cases q:x=G.an i
  .subst q;exact⟨i,Y,rfl,by rw[uw,Zg rfl]⟩
  .refine zf (h8.2 x y ((Zh q).symm.trans hx)) λj z eq2 z2=>?_;subst eq2;exact⟨j,z,rfl,by rw[uw,Zh λ(z:j=i)=>q (by rw[z])];exact z2⟩
variable{u:Unit}
theorem zfk{i:Nat}(e:setAttr X i Y st=.ok u st'):∃r c as,X=.ref r/\st.heap r=some (.inst c as)/\as.length<1000/\st'=st.put r (.inst c (mt i Y as)):=by
 refine zd (zjj e) λr eq1 e=>?_;subst eq1;refine zf (zel e) λc as h e=>?_;by_cases q:as.length<1000
 .rw[Zg q]at e;cases e;exact⟨r,c,as,rfl,h,q,rfl⟩
 .rw[Zh q]at e;exact zb e
theorem zrn{K:Frag}{x:Xv}(h:findIn K (.ref Ca) x=some none):takerIn K Ca x=some none:=by
 delta takerIn;rw[h];rfl
theorem zpp(hn:NsZ h a m n):(h.get? a).isSome=true:=by
 refine bp hn λo ξ ξ ho ξ=>?_;rw[ho];rfl
theorem zs4(h:n<=1000):n<=sizeLine+1:=Zp h (by rw[sizeLine_eq];decide)
theorem zpo{h:Heap}{M:Model}{A:Xe}{Q:Unit->Xa->Prop}{E:Xb->Xa->Prop}{s:Xa}(hn:NsZ s.heap a m n)(hz:n<=1000)(q:Q () s):Xn M A (lookBehind a) Q E s:=by
 refine zjz hn λon esn epn hon hdn ξ ξ hzn=>?_;exact wpAny_lookBehind hon (by rw[hdn];exact pastItsLine_dict (zs4 (Zp hzn hz))) q
theorem i5(O:G.Ok N)(hcl:∀c Ca,G.ca c=some Ca->ClsOk G Ca){i:Nat}(hi:i<13)(R:Rel G t st s)(hX:VRel t s.heap X v)(hY:VRel t s.heap Y w)(e:setAttr X i Y st=.ok u st'):Sim G A t s (PySem.setAttr v (G.an i) w) st' (λξ ξ ξ=>True):=by
 refine zbf (zfk e) λr c as eq3 has hlen eq6=>?_;subst eq3;subst eq6;refine zr0 (zb3 R has) λa dd Ca m od h1 h2 h3 I h5 h6 h7 h8=>?_;refine zd hX λa' eq1 e2=>?_;subst eq1;cases h1.symm.trans e2;have K:=hcl c Ca h3;refine zd K.cd λcd c1 c2=>?_;have XK:=O.K.keeps R.base;intro Q E k;refine set_plain XK I K.sa ?_;refine osa_open (s:={s with toks:=s.toks+1}) XK (od:=some od) ⟨I.at_,I.cls,I.no,I.dict⟩ K.po (r:=none) (zrn (K.at_ i hi)) λb=>?_;refine Ze (Zr (Ze (Ze (wpAny_loadPart (s:={s with toks:=s.toks+1}) I.at_ (Ze (Looks.here (s:={s with toks:=s.toks+1}) (looks_clsIn XK c1) ?_))))));rw[c2];refine Zr (a:=some dd) (Ze (Zr (Ze (zdb (s:={s with toks:=s.toks+1}) h7 λh' hn hs=>?_))));rw[zm9 O (Y:=Y) h8]at hn;have hl:=zpp hn;have S:=Step.upd (t:=t) (s:=s) (tk:=s.toks+1+1) ⟨r,.inr h2⟩ hl hs;refine Ze (zpo (h:=h') hn (zga hlen) ?_);exact Zr (k () t.tick _ S (R.upd (l:=r) (.inr h2) hl hs (by rw[has];exact λq=>za q.symm) ⟨a,dd,Ca,_,h1,h2,h3,(hs.2 a λq=>R.two r r a h1 (q▸h2)).trans I.at_,hn,zna O h8 (VRel.step S (λξ z=>z.elim) _ hY) (λz y=>VRel.step S (λξ z=>z.elim) _)⟩) trivial)
end
end Internal
end
section
namespace Internal
open PySem PySem.W PyProof.Rows
section
variable {G:Gd}{N:Names}{C:Calls}{d:Dp}{sc:Sc}{Γ:Gam}{A:Xe}{t:Tie}{st st':MS}{s:Xa}{env:Env}{loc:Loc}
noncomputable def qp(m:Xd Xu):Bool:=m.all λx=>!isStarred x
variable{x:Xu}
theorem yh(hx:isStarred x=false)(m:Xd Xu)(env:Env):starEach (x::m) env=(false,eval x env)::starEach m env:=by cases x<;>first|rfl|exact zjg hx
theorem wx(pos:Pos)(env:Env):∀{m:Xd Xu},qp m=true->(backTo pos (starEach m env)).any (·.1)=false
 | [],_=>rfl
 |x::m,h=>by
  simp only[qp,List.all_cons,Qq,Jn]at h;rw[yh h.1];exact wx pos env (m:=m) h.2
variable{m:Xd Xu}
theorem zrh(pos:Pos)(env:Env)(h:qp m=true):(backTo pos (starEach m env)).all (λx=>!x.1)=true:=by
 have:=wx pos env h;rw[List.any_eq_false]at this;rw[Zv];intro x hx;simpa using this x hx
variable{pos:Pos}{l:Xd E}{Vs:Xd V}{E':Xb->Xa->Prop}
theorem zii{f:Xb}{Q:Args->Xa->Prop}(hm:qp m=true)(hlm:l.length=m.length)(hl:yl G C d sc Γ l m)(hA:AOk d A)(hsc:env.scope.names=sc)(F:FrOk G A t env Γ loc s)(R:Rel G t st s)(e:evL G.P C l loc st=.ok Vs st')(h:∀vs t' s',Step noX t t' s s'->Rel G t' st' s'->VRels t' s'.heap Vs vs->Q ⟨vs,[]⟩ s'):
  Xn G.M A (evalArgs f true (backTo pos (starEach m env)) []) Q E' s:=by
 cases m with
 |nil =>
  cases l with
  |nil=>cases e;exact evalArgs_nil3 (h [] t s (.refl _ _ _) R rfl)
  |cons a l=>cases hlm
 |cons x m =>
  simp only[qp,List.all_cons,Qq,Jn]at hm;have q:=hl pos t st s env loc Vs st' A hA hsc F R e (λvs s'=>Q ⟨vs,[]⟩ s') E' h;rw[yh hm.1]at q ⊢;exact Calls.evalArgs_plain q
noncomputable def zde(G:Gd)(f:Xb):Prop:=∀h,G.K.In h->∃k,(k=Keeper.frame\/k=Keeper.machine\/k=Keeper.boundFrame)/\Looks G.M h (keeperOf f) k
theorem lm(id:String):zde G (.builtin id):=λξ ξ=>⟨.machine,.inr (.inl rfl),Looks.of_pure rfl⟩
theorem zb4(id:String):zde G (.type id):=λξ ξ=>⟨.machine,.inr (.inl rfl),Looks.of_pure rfl⟩
variable{a:Addr}
theorem n7(h:keepIn G.K (.ref a)=true):zde G (.ref a):=λξ X=>keeps_K h _ X
variable{Q:Xb->Xa->Prop}
theorem yk{f:Xb}{first:Xd Xb}(O:G.Ok N)(hk:zde G f)(hm:qp m=true)(hlm:l.length=m.length)(hl:yl G C d sc Γ l m)(hA:AOk d A)(hsc:env.scope.names=sc)(F:FrOk G A t env Γ loc s)(R:Rel G t st s)(e:evL G.P C l loc st=.ok Vs st')(h:∀vs t' s',Step noX t t' s s'->Rel G t' st' s'->VRels t' s'.heap Vs vs->Xn G.M A (call f (first++vs)) Q E' s'):
  Xn G.M A (callWith pos f first (backTo pos (starEach m env)) []) Q E' s :=
 callWith_of (by rw[wx pos env hm];rfl) hk (zii hm hlm hl hA hsc F R e λvs t' s' S R' r=>⟨O.K.keeps R'.base,h vs t' s' S R' r⟩)
structure FnOk(G:Gd)(N:Names)(f:Nat)(a:Addr):Prop where
 keep:keepIn G.K (.ref a)=true
 name:N.fn f=Str.empty\/G.mg (N.fn f)=some (.ref a)
variable{f:Nat}
theorem ziq{vs:Xd Xb}{X:V}(O:fk G C d f)(hA:AC d A)(hf:G.fa f=some a)(K:Stk A t s.heap)(R:Rel G t st s)(r:VRels t s.heap Vs vs)(e:C f Vs st=.ok X st'):Sim G A t s (call (.ref a) vs) st' (jf X):=by
 refine zd (O Vs st X st' e A hA) λa' h1 h2=>?_;rw[hf]at h1;obtain rfl:=Je h1;exact λQ E' k=>wpAny_call (h2 t s vs K R r _ λv t' s' S R' q=>k v t' s' S R' q)
variable{np:Pos}
theorem zq7(O:G.Ok N)(CO:fk G C d f)(hfn:∀f a,G.fa f=some a->FnOk G N f a)(hne:N.fn f≠Str.empty)(hg:ku sc (N.fn f)=true)(hm:qp m=true)(hlm:l.length=m.length)(hl:yl G C d sc Γ l m):
  qe G C d sc Γ (.call f l) (.Call (.Name (N.fn f) np) m [] pos):=by
 intro t st s env loc X st' A hA hsc F R e Q E k;rw[m7]at e;refine zf (Res.bind_ok e) λVs s1 e1 e=>?_;refine zd (CO Vs s1 X st' e A hA.ac) λa h1 ξ=>?_;have fo:=hfn f a h1;refine Xi (v9 O F R hsc hg (fo.name.resolve_left hne) ?_);refine yk O (n7 fo.keep) hm hlm hl hA hsc F R e1 λvs t1 σ1 S1 R1 r1=>?_;exact ziq CO hA.ac h1 (F.step R S1).sk R1 r1 e _ _ λv t2 σ2 S2 R2 r2=>k v t2 σ2 (S1.trans S2) R2 r2
structure MethOk(G:Gd)(Ca:Addr)(x:Xv)(a:Addr):Prop where
 find:findIn G.K (.ref Ca) x=some (some (.ref a))
 typ:typeIn G.K (.ref a)=some (.type "function")
 keep:keepIn G.K (.ref a)=true
 notA:∀i,x≠G.an i
theorem zat{env:Env}(hm:qp m=true)(h30:m.length<30):methodCallForm (m.length+([]:Xd Keyword).length) (backTo pos (starEach m env)) (backToKw pos (keywordEach [] env))=true:=by
 unfold methodCallForm;rw[zrh pos env hm];show(true&&true&&decide (m.length+0+0<30))=true;simpa using h30
variable{k:Nat}{ap:Pos}
set_option tactic.hygienic true in
theorem zjf(O:G.Ok N)(hcl:∀c Ca,G.ca c=some Ca->ClsOk G Ca)(hme:∀c k f Ca,G.P.meths c k=some f->G.ca c=some Ca->∃a,G.fa f=some a/\MethOk G Ca (N.meth k) a){a:E}{l:Xd E}(hx:k7 x=true)(hln:(ap.endLine==pos.line)=true)(h30:m.length<30)(hm:qp m=true)(hlm:l.length=m.length)(ha:qe G C d sc Γ a x)(hl:yl G C d sc Γ l m)(hA:AOk d A)(hsc:env.scope.names=sc)(F:FrOk G A t env Γ loc s)(R:Rel G t st s){U:V}{s1 s2:MS}(e1:ev G.P C a loc st=.ok U s1)(hmo:xx G.P U k s1=some f)(e2:evL G.P C l loc s1=.ok Vs s2){E:Xb->Xa->Prop}(q:∀fa v vs t2 σ2,G.fa f=some fa->Step noX t t2 s σ2->Rel G t2 s2 σ2->VRels t2 σ2.heap (U::Vs) (v::vs)->Xn G.M A (call (.ref fa) (v::vs)) Q E σ2):
  Xn G.M A (eval (.Call (.Attribute x (N.meth k) ap) m [] pos) env) Q E s:=by
 rw[arm_eval_Call,md hx];refine Ze (ha t st s env loc _ _ A hA hsc F R e1 _ _ λv t1 σ1 S1 R1 r1=>Ze (Jb ?_));cases U with
 |ref r =>
  simp only[xx]at hmo;split at hmo
  .rename_i c as hr2;refine zr0 (zb3 R1 hr2) λa dd Ca mm od h1 h2 h3 I h5 h6 h7 h8=>?_;refine zd (id r1) λa' eq1 e4=>?_;subst eq1;rw[h1]at e4;obtain rfl:=Je e4;refine zd (hme c k f Ca hmo h3) λfa f1 mo=>?_;have KC:=hcl c Ca h3;have hpos:methodCallPos true x env ap pos=pure pos:=by unfold methodCallPos;rw[hln];rfl
   unfold methodCall;rw[zat hm h30];refine Ze (Ja ?_);show Xn _ _ (getMethod (.ref a) (N.meth k) _) _ _ _;refine method_fn (O.K.keeps R1.base) I KC.ga KC.gt mo.find mo.typ ?_ ?_
   .show(lookIn (N.meth k) od).map (·.isSome)=some false;rw[h6];cases qq:mm (N.meth k)with
    |none=>rfl
    |some y=>refine zf (h8.2 _ _ qq) λi ξ z ξ=>?_;exact absurd z (mo.notA i)
   .refine Ze (wpAny_of_eq hpos ?_);refine yk O (n7 mo.keep) hm hlm hl hA hsc (F.step R S1) R1 e2 λvs t2 σ2 S2 R2 r2=>?_;exact q fa (.ref a) vs t2 σ2 f1 (S1.trans S2) R2 ⟨_,_,rfl,VRel.step S2 (λξ z=>z.elim) (.ref r) r1,r2⟩
  .exact za hmo
 |_=>exact za hmo
theorem zrc(O:G.Ok N)(CO:nk G C d)(hcl:∀c Ca,G.ca c=some Ca->ClsOk G Ca)(hme:∀c k f Ca,G.P.meths c k=some f->G.ca c=some Ca->∃a,G.fa f=some a/\MethOk G Ca (N.meth k) a){a:E}(hx:k7 x=true)(hln:(ap.endLine==pos.line)=true)(h30:m.length<30)(hm:qp m=true)(hlm:l.length=m.length)(ha:qe G C d sc Γ a x)(hl:yl G C d sc Γ l m):qe G C d sc Γ (.meth a k l) (.Call (.Attribute x (N.meth k) ap) m [] pos):=by
 intro t st s env loc X st' A hA hsc F R e Q E q;rw[m9]at e;refine zf (Res.bind_ok e) λV s1 e1 e=>?_;cases hmo:xx G.P V k s1 with
 |none=>rw[hmo]at e;exact zb e
 |some f =>
  rw[hmo]at e;refine zf (Res.bind_ok e) λVs s2 e2 e=>?_;exact zjf O hcl hme hx hln h30 hm hlm ha hl hA hsc F R e1 hmo e2 λfa v vs t2 σ2 f1 S2 R2 r2=>ziq (Vs:=V::Vs) (CO f) hA.ac f1 (F.step R S2).sk R2 r2 e _ _ λv t3 σ3 S3 R3 r3=>q v t3 σ3 (S2.trans S3) R3 r3
structure NewOk(G:Gd)(N:Names)(c:Nat)(Ca fi:Addr):Prop where
 keep:keepIn G.K (.ref Ca)=true
 name:G.mg (N.cls c)=some (.ref Ca)
 makes:makesIn G.K Ca=true
 init:findIn G.K (.ref Ca) "__init__"=some (some (.ref fi))
 fn:typeIn G.K (.ref fi)=some (.type "function")
theorem bk(h:Heap):h.get? (h.objs.size+1)=none:=by
 cases e:h.get? (h.objs.size+1)with
 |none=>rfl
 |some o=>exact absurd (Jr e) (Jf.mpr (Zw _))
theorem Rel.size_sys1(O:G.Ok N){t:Tie}{st:MS}{s:Xa}(R:Rel G t st s):s.heap.objs.size+1≠sysModules:=by
 refine zd O.lim λmc nq1 ξ=>?_;obtain⟨o,es,ep,ho,_⟩:=nq1;have h1:=Jr (R.base _ _ ho);intro q;have h2:s.heap.objs.size=0:=Nat.succ.inj (n:=0) q;rw[h2]at h1;exact absurd h1 (J0 _)
theorem Stk.under{A:Xe}{t:Tie}{h:Heap}{id:String}{a:Args}(K:Stk A t h):Stk (A.under (.builtin id a)) t h:=⟨by unfold Around.under;dsimp only;rw[K.fr];rfl,K.ob⟩
set_option tactic.hygienic true in
theorem ztx(O:G.Ok N)(CO:nk G C d)(hne:∀c k f,G.P.inits c=some (k,f)->∃Ca fi,G.ca c=some Ca/\G.fa f=some fi/\NewOk G N c Ca fi){c:Nat}(hg:ku sc (N.cls c)=true)(hm:qp m=true)(hlm:l.length=m.length)(hl:yl G C d sc Γ l m):
  qe G C d sc Γ (.new c l) (.Call (.Name (N.cls c) np) m [] pos):=by
 intro t st s env loc X st' A hA hsc F R e Q E q;rw[zgp]at e;refine zf (Res.bind_ok e) λVs s1 e1 e=>?_;unfold xb at e;split at e
 case h_2=>exact zb e
 rename_i k f hi;refine jz (hne c k f hi) λCa fi c1 c2 no=>?_;refine zf (Res.bind_ok e) λX1 s2 e2 e=>?_;split at e
 case h_2=>exact zb e
 cases e;refine Xi (v9 O F R hsc hg no.name ?_);refine yk O (n7 no.keep) hm hlm hl hA hsc F R e1 λvs t1 σ1 S1 R1 r1=>?_;refine wpAny_call ?_;have XK:=O.K.keeps R1.base;have K1:=(F.step R S1).sk;obtain⟨hh,g,dr,tk,os⟩:=σ1;refine make_core (makes_of XK no.makes) (looks_findIn XK no.init) (λself=>bind_fn XK self no.fn) (.inl rfl) ?_;have keep:∀b o,hh.get? b=some o->((hh.push emptyDict).push (instObj Ca hh.objs.size)).get? b=some o:=λb o e=>Zn _ (Zn _ e);have fr1:hh.get? (hh.objs.size+1)=none:=bk _;have fr0:hh.get? hh.objs.size=none:=qr _;have hx:((hh.push emptyDict).push (instObj Ca hh.objs.size)).get? (hh.objs.size+1)=some (instObj Ca hh.objs.size):=by heap_get
 have hd0:((hh.push emptyDict).push (instObj Ca hh.objs.size)).get? hh.objs.size=some emptyDict:=by heap_get
 have hns:NsZ ((hh.push emptyDict).push (instObj Ca hh.objs.size)) hh.objs.size (λξ=>none) 0:=⟨_,#[],0,hd0,rfl,λe he=>by simp at he,λξ=>rfl,Zs _⟩
 have S2:=Step.bind (k:=k) (d:=some hh.objs.size) (s':=⟨(hh.push emptyDict).push (instObj Ca hh.objs.size),g,dr,tk,os⟩) R1 keep rfl rfl fr1 (λx z=>by cases z;exact fr0);have R2:=Rel.bind (k:=k) (d:=some hh.objs.size) (s':=⟨(hh.push emptyDict).push (instObj Ca hh.objs.size),g,dr,tk,os⟩) (o:=.inst c []) R1 keep rfl rfl fr1
  (λx z=>by cases z;exact⟨fr0,(λz=>absurd z (Z9 (Zy _))),by show(Heap.get? _ _).isSome=true;rw[hd0];rfl⟩) (by show(Heap.get? _ _).isSome=true;rw[hx];rfl) (R1.size_sys1 O) ⟨_,_,Ca,_,by simp[Tie.bind],by simp[Tie.bind],c1,hx,hns,⟨λi v z=>(nomatch z),λx y z=>(nomatch z)⟩⟩
 have ac:AC d (A.under (.builtin "type.__call__" ⟨.ref Ca::vs,[]⟩)):=⟨hA.hd,by have:=hA.dep;rw[depth_under_make];lia,by have:=hA.un;rw[units_under_make];lia⟩
 refine zd (CO f _ _ _ _ e2 _ ac) λfi' z1 z2=>?_;rw[c2]at z1;cases z1;refine z2 _ _ (.ref (hh.objs.size+1)::vs) (K1.step0 R1 S2).under R2 ⟨_,_,rfl,⟨_,rfl,by simp[Tie.bind]⟩,VRels.step S2 (λξ z=>z.elim) _ r1⟩ _ λv t3 σ3 S3 R3 r3=>?_;have:v=.none:=r3;subst this;exact⟨rfl,q _ t3 σ3 ((S1.trans S2).trans S3) R3 ⟨_,rfl,S3.le.ρ _ _ (by simp[Tie.bind])⟩⟩
end
end Internal
end
section
namespace Internal
open PySem PySem.W PyProof.Rows
section
variable {G:Gd}{N:Names}{C:Calls}{d:Dp}{sc:Sc}{Γ:Gam}{A:Xe}{t:Tie}{st st':MS}{s:Xa}{env:Env}{loc:Loc}{X Y Z:V}{v w:Xb}
variable{s':Xa}{a:Addr}{l:Xd V}{vs:Array Xb}
theorem VRel.madeL(R:Rel G t st s)(S:Step noX t t s s')(ha:s.heap.get? a=none)(ho:PL s'.heap a vs)(r:VRels t s.heap l vs.toList)(sz:l.length<=zi):VRel t s'.heap (.lst l) (.ref a) :=
 ⟨_,vs,rfl,ho,R.fresh ha,sz,VRels.step S (λξ q=>q.elim) l r⟩
theorem VRel.madeT(R:Rel G t st s)(S:Step noX t t s s')(ha:s.heap.get? a=none)(ho:PT s'.heap a vs)(r:VRels t s.heap l vs.toList)(sz:l.length<=zi):VRel t s'.heap (.tup l) (.ref a) :=
 ⟨_,vs,rfl,ho,R.fresh ha,sz,VRels.step S (λξ q=>q.elim) l r⟩
variable{h:Heap}
theorem xr(r:VRels t h l vs.toList):vs.size=l.length:=by rw[<- r.length];simp
theorem mn{h':Heap}(k:∀b o,h.get? b=some o->h'.get? b=some o)(e:h'.get? a=none):h.get? a=none:=by
 cases q:h.get? a with
 |none=>rfl
 |some o=>rw[k a o q]at e;cases e
theorem zuw{n:Nat}(h:n<=zi):(n:Int)<2 ^ 63:=by unfold zi at h;lia
theorem mr{h:Heap}:∀{l:Xd V}{vs:Xd Xb}{b:Bool},VRels t h l vs->allTrue l=some b->∃bs:Xd Bool,vs=bs.map .bool/\b=bs.all id
 | [],_,_,r,e=>by subst r;obtain rfl:=Je e;exact⟨[],rfl,rfl⟩
 |.bool x::l,_,_,⟨v,r,rfl,a,c⟩,e=>by
  simp only[allTrue,Jm]at e;refine zd e λb' e1 eq2=>?_;subst eq2;refine zd (mr c e1) λbs h1 h2=>?_;have a':v=.bool x:=a;subst a';subst h1;exact⟨x::bs,rfl,by simp[h2]⟩
 |.none::_,_,_,_,e=>by exact za e
 |.int _::_,_,_,_,e=>by exact za e
 |.str _::_,_,_,_,e=>by exact za e
 |.tup _::_,_,_,_,e=>by exact za e
 |.lst _::_,_,_,_,e=>by exact za e
 |.ref _::_,_,_,_,e=>by exact za e
 |.exc _::_,_,_,_,e=>by exact za e
variable{Q E':Xb->Xa->Prop}
theorem zas(R:Rel G t st s){k:Bool}{T:PySem.Value->Prop}(hX:VRel t s.heap X v)(e:z4 st X=some (k,l))(h:∀h' (vs:Array Xb),(∀b o,s.heap.get? b=some o->h'.get? b=some o)->PL h' s.heap.objs.size vs->VRels t s.heap l vs.toList->l.length<=zi->Q (.ref s.heap.objs.size) {s with heap:=h'}):
  Xn G.M A (call (.type "list") [v]) Q E' s:=by
 refine qo (qx R hX e) λa vs eq2 io r sz=>?_;subst eq2;have hz:vs.size<=sizeLine:=by rw[xr r];exact sz
 cases k with
 |true =>
  refine zr io λn ho=>?_;exact call_list_seq (hsz:=hz) a (.inl rfl) ho rfl rfl λh' c' hk hD=>h h' vs hk ⟨c',hD⟩ r sz
 |false =>
  refine zr io λn ho=>?_;exact call_list_seq (hsz:=hz) a (.inr rfl) ho rfl rfl λh' c' hk hD=>h h' vs hk ⟨c',hD⟩ r sz
noncomputable def af:Prim->Bool
 |.sorted=>false
 |_=>true
noncomputable def ot:Prim->Xb
 |.len=>.builtin "len" |.max2=>.builtin "max" |.int1=>.type "int" |.sorted=>.builtin "sorted" |.tuple1=>.type "tuple" |.list1=>.type "list" |.all1=>.builtin "all"
theorem zc2(R:Rel G t st s){n:Int}{id:String}(h:∀(Q:Xb->Xa->Prop)(E:Xb->Xa->Prop),Q (.int n (s.toks+1)) {s with toks:=s.toks+1+1}->Xn G.M A (call (.builtin id) [v]) Q E s):
  Sim G A t s (call (.builtin id) [v]) st (jf (.int n)):=λQ E k=>h Q E (k _ t _ (Step.toks _ t s _) (R.toks _) ⟨_,rfl⟩)
theorem zwb(R:Rel G t st s)(r:VRel t s.heap X v)(e:(match z4 st X with
  |some p=>Res.ok (V.int p.2.length) st
  |.none=>.stuck)=.ok Z st'):Sim G A t s (call (.builtin "len") [v]) st' (jf Z):=by
 refine zd (zci e) λnq0 hr e=>?_;obtain⟨k,l⟩:=nq0;refine zn (xh e) λeq0 eq1=>?_;subst eq0;subst eq1;refine qo (qx R r hr) λa vs eq2 io rr sz=>?_;subst eq2;have hf:=zuw sz;rw[<- xr rr]at hf;show Sim G A t s (call (.builtin "len") [.ref a]) st' (jf (.int l.length));rw[<- xr rr];cases k with
 |true=>exact zc2 R λQ E q=>Calls.call_len_list (PL.isList (show PL s.heap a vs from io)) hf q
 |false=>exact zc2 R λQ E q=>PyProof.Rows.len_tuple (PT.isTup (show PT s.heap a vs from io)) hf q
theorem len_str{x:Xd Nat}(R:Rel G t st s)(r:VRel t s.heap (.str x) v)(e:zo6 (.str x) st=.ok Z st'):Sim G A t s (call (.builtin "len") [v]) st' (jf Z):=by
 obtain⟨hz,e⟩:=xu e;obtain⟨rfl,rfl⟩:=xh e;obtain⟨k,rfl⟩:=r;exact zc2 R λQ E q=>PySem.P.len_str (Int.not_le.2 (zuw hz)) q
theorem zp1(R:Rel G t st s)(r:VRel t s.heap X v)(e:zo6 X st=.ok Z st'):Sim G A t s (call (.builtin "len") [v]) st' (jf Z):=by
 cases X with
 |str x=>exact len_str R r e
 |_=>exact zwb R r e
theorem zp0(R:Rel G t st s)(r:VRel t s.heap X v)(e:za3 .int1 X st=.ok Z st'):Sim G A t s (call (.type "int") [v]) st' (jf Z):=by
 refine zd (znm e) λb eq1 e=>?_;subst eq1;refine zn (xh e) λeq0 eq1=>?_;subst eq0;subst eq1;rw[show v=.bool b from r];exact λQ E k=>call_int_bool (k _ t _ (Step.toks _ t s _) (R.toks _) ⟨_,rfl⟩)
theorem zhc(R:Rel G t st s)(r:VRel t s.heap X v)(e:za3 .tuple1 X st=.ok Z st'):Sim G A t s (call (.type "tuple") [v]) st' (jf Z):=by
 refine zd (zci e) λnq0 hr e=>?_;obtain⟨k,l⟩:=nq0;refine zn (xh e) λeq0 eq1=>?_;subst eq0;subst eq1;refine qo (qx R r hr) λa vs eq2 io rr sz=>?_;subst eq2;cases k with
 |true =>
  intro Q E k;refine call_tuple_list (PL.isList (show PL s.heap a vs from io)) (λh' hk=>?_) (by rw[xr rr];exact sz);have hk':∀b o,s.heap.get? b=some o->(h'.push {cls:=.type "tuple",data:=.seq vs}).get? b=some o:=λb o e=>Zn _ (hk b o e);have S:Step noX t t s {s with heap:=h'.push {cls:=.type "tuple",data:=.seq vs}}:=Step.grow R hk' rfl rfl;exact k _ t _ S (R.grow hk' rfl rfl) (VRel.madeT R S (mn hk (qr h')) ⟨_,Z5 _ rfl⟩ rr sz)
 |false =>
  rw[zcu hr]at r;exact λQ E k=>call_tuple_same (PT.isTuple (show PT s.heap a vs from io)) (k _ t s (.refl _ _ _) R r)
theorem zlj(R:Rel G t st s)(r:VRel t s.heap X v)(e:za3 .list1 X st=.ok Z st'):Sim G A t s (call (.type "list") [v]) st' (jf Z):=by
 refine zd (zci e) λnq0 hr e=>?_;obtain⟨k,l⟩:=nq0;refine zn (xh e) λeq0 eq1=>?_;subst eq0;subst eq1;intro Q E q;refine zas (T:=λξ=>True) R r hr λh' vs hk hD rr sz=>?_;have S:Step noX t t s {s with heap:=h'}:=Step.grow R hk rfl rfl;exact q _ t _ S (R.grow hk rfl rfl) (VRel.madeL R S (qr _) hD rr sz)
theorem zve(bs:Xd Bool):((Xr bs.length).all λi=>(bs[i]?).getD false)=bs.all id:=by
 rw[Bool.eq_iff_iff,Zv,Zv];refine⟨λh x hx=>?_,λh i hi=>?_⟩
 .obtain⟨i,hi,rfl⟩:=List.mem_iff_getElem.mp hx;have h:=h i (Qj.mpr hi);rw[Zl hi]at h;exact h
 .rw[Zl (Qj.mp hi)];exact h _ (Qc _)
theorem zpz(hq:d.q=true)(R:Rel G t st s)(hA:AOk d A)(r:VRel t s.heap X v)(e:za3 .all1 X st=.ok Z st'):Sim G A t s (call (.builtin "all") [v]) st' (jf Z):=by
 refine zd (zcb e) λl eq1 e=>?_;subst eq1;refine jj (ly e) λb hb eq2 eq3=>?_;subst eq2;subst eq3;refine wz r λa vs eq2 io ξ sz rr=>?_;subst eq2;refine zd (mr rr hb) λbs h1 h2=>?_;intro Q E q;refine call_all_walk (wpAny_pyIter_list io.isList ?_);have hne:a≠s.heap.objs.size:=λz=>by refine zr io λn ho=>?_;rw[z,qr]at ho;exact za ho
 have hsz:vs.size=bs.length:=by rw[<- Array.length_toList,h1,Zd]
 refine⟨_,_,_,_,_,_,λi=>(bs[i]?).getD false,rfl,Walks.list (A:=A.in1) (hA.hd hq) _ a hne vs,⟨⟨_,Z5 _ rfl,rfl,rfl⟩,io.isList.push _⟩,λi u σ Q' E' hu hq=>?_,λh' tk hk=>?_⟩
 .have hu:vs[i]?=some u:=hu;rw[<- Jt,h1,Jq]at hu;refine zd (Jm.mp hu) λb0 hb0 eq2=>?_;subst eq2;have hq:Q' ((bs[i]?).getD false) σ:=hq;rw[hb0]at hq;exact Zr hq
 .rw[hsz,zve,<- h2];have hk':∀b o,s.heap.get? b=some o->h'.get? b=some o:=λb o e=>hk b o (λz=>by rw[Zq.1 z,qr]at e;exact za e) (Zn _ e);exact q _ t _ (Step.grow R hk' rfl rfl) (R.grow hk' rfl rfl) rfl
theorem ze2(hq:d.q=true)(p:Prim)(hp:af p=true)(R:Rel G t st s)(hA:AOk d A)(r:VRel t s.heap X v)(e:za3 p X st=.ok Z st'):Sim G A t s (call (ot p) [v]) st' (jf Z):=by
 cases p with
 |len=>exact zp1 R r e
 |int1=>exact zp0 R r e
 |tuple1=>exact zhc R r e
 |list1=>exact zlj R r e
 |all1=>exact zpz hq R hA r e
 |max2=>exact zb e
 |sorted=>exact qi hp
theorem zp2{V1 V2:V}(hq:d.q=true)(R:Rel G t st s)(hA:AOk d A)(r1:VRel t s.heap V1 v)(r2:VRel t s.heap V2 w)(e:(match V1,V2 with
  |.int x,.int y=>Res.ok (V.int (if x<y then y else x)) st
  |_,_=>.stuck)=.ok Z st'):Sim G A t s (call (.builtin "max") [v,w]) st' (jf Z):=by
 cases V1 with
 |int x=>cases V2 with
  |int y =>
   obtain⟨rfl,rfl⟩:=xh e;obtain⟨k1,rfl⟩:=r1;obtain⟨k2,rfl⟩:=r2;intro Q E q;refine max_two_ints (hA.hd hq) λh' tk hk=>?_;refine q _ t _ (Step.grow R hk rfl rfl) (R.grow hk rfl rfl) ?_;by_cases z:x<y
   .rw[Zg (show y > x from z),Zg z];exact⟨_,rfl⟩
   .rw[Zh (show ¬y > x from z),Zh z];exact⟨_,rfl⟩
  |_=>exact zb e
 |_=>exact zb e
theorem zhb(hq:d.q=true)(p:Prim)(hp:af p=true){Vs:Xd V}{vs:Xd Xb}(R:Rel G t st s)(hA:AOk d A)(r:VRels t s.heap Vs vs)(e:prim p Vs st=.ok Z st'):Sim G A t s (call (ot p) vs) st' (jf Z):=by
 cases Vs with
 |nil=>exact zb e
 |cons V1 Vs=>cases Vs with
  |nil=>refine jz r λv ξ eq2 r1 eq4=>?_;subst eq2;subst eq4;exact ze2 hq p hp R hA r1 e
  |cons V2 Vs=>cases Vs with
   |nil =>
    obtain⟨v,_,rfl,r1,w,_,rfl,r2,rfl⟩:=r;cases p with
    |max2=>exact zp2 hq R hA r1 r2 e
    |_=>exact zb e
   |cons _ _=>exact zb e
variable{pos:Pos}
theorem kj(O:G.Ok N)(F:FrOk G A t env Γ loc s)(R:Rel G t st s){x:Xv}(hsc:env.scope.names=sc)(hg:ku sc x=true)(hx:x∈(["len","max","int","sorted","tuple","list","all","isinstance","range","dict","bool","str","ValueError"]:Xd Xv))(hb:bootBuiltins x=some v)(h:Q v s):Xn G.M A (eval (.Name x pos) env) Q E' s :=
 zgt O F R hsc hg (O.none x hx) hb (by intro z;subst z;revert hx;decide) h
theorem za4(p:Prim)(hp:af p=true):bootBuiltins (yr p)=some (ot p):=by
 cases p<;>first|exact absurd hp (by decide)|decide +kernel
theorem zcl(p:Prim):yr p∈(["len","max","int","sorted","tuple","list","all","isinstance","range","dict","bool","str","ValueError"]:Xd Xv):=by cases p<;>decide
theorem ag(p:Prim):zde G (ot p):=by cases p<;>first|exact lm _|exact zb4 _
variable{np:Pos}
theorem zrf(hq:d.q=true)(O:G.Ok N){p:Prim}(hp:af p=true){l:Xd E}{m:Xd Xu}(hg:ku sc (yr p)=true)(hm:qp m=true)(hlm:l.length=m.length)(hl:yl G C d sc Γ l m):
  qe G C d sc Γ (.prim p l) (.Call (.Name (yr p) np) m [] pos):=by
 intro t st s env loc X st' A hA hsc F R e Q E k;rw[nv]at e;refine zf (Res.bind_ok e) λVs s1 e1 e=>?_;refine Xi (kj O F R hsc hg (zcl p) (za4 p hp) ?_);refine yk O (ag p) hm hlm hl hA hsc F R e1 λvs t1 σ1 S1 R1 r1=>?_;exact zhb hq p hp R1 hA r1 e _ _ λv t2 σ2 S2 R2 r2=>k v t2 σ2 (S1.trans S2) R2 r2
set_option tactic.hygienic true in
theorem zmj(O:G.Ok N){kd:Nat}{a:E}{x:Xu}(hg:ku sc "list"=true)(hx:isStarred x=false)(ha:qe G C d sc Γ a x):
  qe G C d sc Γ (.listM kd a) (.Call (.Name "list" np) [x] [] pos):=by
 intro t st s env loc X st' A hA hsc F R e Q E k;rw[zd8]at e;obtain⟨V,s1,e1,e⟩:=Res.bind_ok e;split at e
 .rename_i kk l hr;cases e;refine Xi (kj O F R hsc hg (zcl .list1) (za4 .list1 rfl) ?_);have e1':evL G.P C [a] loc st=.ok [V] s1:=by simp[zbw,yo,e1,Res.bind]
  refine yk O (ag .list1) (l:=[a]) (m:=[x]) (by simp[qp,hx]) rfl (yt hx ha ww) hA hsc F R e1' λvs t1 σ1 S1 R1 r1=>?_;obtain⟨v,_,rfl,r1,rfl⟩:=r1;refine zas (T:=λξ=>True) R1 r1 hr λh' vs hk hD rr sz=>?_;have S:=Step.bind (k:=kd) (d:=none) (s':={σ1 with heap:=h'}) R1 hk rfl rfl (qr _) (λx e=>by exact za e);have rho:(t1.bind (kd,s1.cnt kd) σ1.heap.objs.size none).ρ (kd,s1.cnt kd)=some σ1.heap.objs.size:=by simp[Tie.bind]
  refine k _ _ _ (S1.trans S) (Rel.bind R1 hk rfl rfl (qr _) (λx e=>by exact za e) ?_ (R1.size_sys O) ⟨_,vs,rho,hD,sz,VRels.step S (λξ q=>q.elim) _ rr⟩) ⟨_,rfl,rho⟩;obtain⟨n,ho⟩:=hD;show(Heap.get? h' _).isSome=true;rw[ho];rfl
 .exact zb e
end
end Internal
end
section
namespace Internal
open PySem PySem.W PyProof.Rows
section
variable {G:Gd}{N:Names}{C:Calls}{d:Dp}{sc:Sc}{Γ:Gam}{A:Xe}{t:Tie}{st st':MS}{s:Xa}{env:Env}{loc:Loc}{X Y Z:V}{v w:Xb}
theorem zgx{p:Lbl×Xd V}(e:yb X st=some p):X=.ref p.1/\st.heap p.1=some (.list p.2):=by
 cases X with
 |ref r =>
  have e:(match st.heap r with|some (.list l)=>some (r,l)|_=>none)=some p:=e;cases h:st.heap r with
  |none=>rw[h]at e;exact za e
  |some o=>rw[h]at e;cases o with
   |list l=>obtain rfl:=Je e;exact⟨rfl,h⟩
   |_=>exact za e
 |_=>exact za e
theorem tr{p:Lbl×Xd (V×V)}(e:dictAt X st=some p):X=.ref p.1/\st.heap p.1=some (.dict p.2):=by
 cases X with
 |ref r =>
  have e:(match st.heap r with|some (.dict l)=>some (r,l)|_=>none)=some p:=e;cases h:st.heap r with
  |none=>rw[h]at e;exact za e
  |some o=>rw[h]at e;cases o with
   |dict l=>obtain rfl:=Je e;exact⟨rfl,h⟩
   |_=>exact za e
 |_=>exact za e
theorem ub(R:Rel G t st s){p:Lbl×Xd V}(hX:VRel t s.heap X v)(e:yb X st=some p):
  ∃a vs n,v=.ref a/\t.ρ p.1=some a/\s.heap.get? a=some {cls:=.type "list",data:=.seq vs n}/\VRels t s.heap p.2 vs.toList/\p.2.length<=zi/\st.heap p.1=some (.list p.2):=by
 refine zn (zgx e) λeq0 hr=>?_;subst eq0;refine qo (R.objs p.1 _ hr) λa vs h1 nq3 h3 h4=>?_;obtain⟨n,h2⟩:=nq3;refine zd hX λa' h5 h6=>?_;cases h1.symm.trans h6;exact⟨a,vs,n,h5,h1,h2,h4,h3,hr⟩
theorem bx(R:Rel G t st s){p:Lbl×Xd (V×V)}(hX:VRel t s.heap X v)(e:dictAt X st=some p):
  ∃a kvs,v=.ref a/\t.ρ p.1=some a/\s.heap.DictOf (strKind G.prog G.w) a kvs/\DRel t s.heap p.2 kvs/\st.heap p.1=some (.dict p.2):=by
 refine zn (tr e) λeq0 hr=>?_;subst eq0;refine jz (R.objs p.1 _ hr) λa kvs h1 h2 h3=>?_;refine zd hX λa' h5 h6=>?_;cases h1.symm.trans h6;exact⟨a,kvs,h5,h1,h2,h3,hr⟩
variable{r:Lbl}{a:Addr}{l l':Xd V}{tk:Nat}
theorem zo7(R:Rel G t st s){vs':Array Xb}{h':Heap}(hr:st.heap r=some (.list l))(ha:t.ρ r=some a)(hs:J8 a s.heap h')(ho:PL h' a vs')(rr:VRels t s.heap l' vs'.toList)(sz:l'.length<=zi):
  Step noX t t.tick s {s with heap:=h',toks:=tk}/\Rel G t.tick (st.put r (.list l')) {s with heap:=h',toks:=tk}:=by
 have hl:(h'.get? a).isSome=true:=by refine zr ho λn e=>?_;rw[e];rfl
 have S:=Step.upd (t:=t) (s:=s) (tk:=tk) ⟨r,.inl ha⟩ hl hs;exact⟨S,R.upd (l:=r) (.inl ha) hl hs (by rw[hr];exact λq=>by cases q) ⟨a,vs',ha,ho,sz,VRels.step S (λξ z=>z.elim) _ rr⟩⟩
variable{vs:Array Xb}{n:Nat}
theorem zcv(R:Rel G t st s){f:Array Xb->Array Xb}(hr:st.heap r=some (.list l))(ha:t.ρ r=some a)(ho:s.heap.get? a=some {cls:=.type "list",data:=.seq vs n})(rr:VRels t s.heap l' (f vs).toList)(sz:l'.length<=zi):
  Step noX t t.tick s {s with heap:=s.heap.update a (J9 f),toks:=tk}/\Rel G t.tick (st.put r (.list l')) {s with heap:=s.heap.update a (J9 f),toks:=tk} :=
 zo7 R hr ha (J8.update ..) ⟨_,IsL.update ho f⟩ rr sz
noncomputable def zdn:Bm->String
 |.append=>"list.append" |.extend=>"list.extend" |.pop=>"list.pop" |.insert=>"list.insert" |.count=>"list.count" |.get=>"dict.get" |.join=>"str.join" |.upper=>"str.upper"
noncomputable def zge:Bm->String
 |.append=>"list" |.extend=>"list" |.pop=>"list" |.insert=>"list" |.count=>"list" |.get=>"dict" |.join=>"str" |.upper=>"str"
theorem zsd:(m:Bm)->Slot (zge m) (zgd m) (zdn m)
 |.append=>PySem.F.slot_list_append
 |.extend=>PySem.F.slot_list_extend
 |.pop=>PySem.F.slot_list_pop
 |.insert=>PySem.F.slot_list_insert
 |.count=>PySem.F.slot_list_count
 |.get=>PySem.F.slot_dict_get
 |.join=>PySem.F.slot_str_join
 |.upper=>PySem.F.slot_str_upper
theorem zse:(m:Bm)->typeOf (.builtin (zdn m))=pure (.type "method_descriptor")
 |.append=>PySem.F.type_list_append
 |.extend=>PySem.F.type_list_extend
 |.pop=>PySem.F.type_list_pop
 |.insert=>PySem.F.type_list_insert
 |.count=>PySem.F.type_list_count
 |.get=>PySem.F.type_dict_get
 |.join=>PySem.F.type_str_join
 |.upper=>PySem.F.type_str_upper
theorem znk:(m:Bm)->PlainAttrs (zge m)
 |.append=>Jz
 |.extend=>Jz
 |.pop=>Jz
 |.insert=>Jz
 |.count=>Jz
 |.get=>PySem.F.plainAttrs_dict
 |.join=>PySem.F.plainAttrs_str
 |.upper=>PySem.F.plainAttrs_str
variable{j:Nat}
theorem zol{i:Int}(h:idx i n=some j)(hn:n<=zi):Builtin.List.listFitsIndex i=true:=by
 refine zn (zb1 h hn) λh1 h2=>?_;delta Builtin.List.listFitsIndex;simp only[Qq,Xj];lia
theorem zah:∀(l:Xd Xv)(acc:Array Nat),(l.foldl (λacc p=>acc++(qa []).cps++p.cps) acc).toList=acc.toList++(l.map (·.cps.toList)).flatten
 | [],acc=>by simp
 |y::l,acc=>by
  rw[List.foldl_cons,zah l];simp[qa]
theorem zo3(ys:Xd Xv):Txt.join (qa []) ys=qa (ys.map (·.cps.toList)).flatten:=by
 have h:(Txt.join (qa []) ys).cps.toList=(ys.map (·.cps.toList)).flatten:=by
  cases ys with
  |nil=>rfl
  |cons y l =>
   show(l.foldl (λacc p=>acc++(qa []).cps++p.cps) y.cps).toList=_;rw[zah];simp
 rw[<- h]
theorem mv{h:Heap}:∀{l:Xd V}{vs:Xd Xb}{x:Xd Nat},uz l=some x->VRels t h l vs->∃ys:Xd Xv,StrsAre vs ys/\(ys.map (·.cps.toList)).flatten=x/\(ys.map (·.length)).sum=x.length
 | [],_,_,e,r=>by subst r;obtain rfl:=Je e;exact⟨[],.nil,rfl,rfl⟩
 |.str y::l,_,_,e,⟨v,r,e0,⟨k,e9⟩,c⟩=>by
  subst e0;subst e9;simp only[uz,Jm]at e;refine zd e λx' e1 eq2=>?_;subst eq2;refine jj (mv e1 c) λys h1 h2 h3=>?_;refine⟨qa y::ys,.cons _ _ h1,?_,?_⟩
  .rw[Zz,List.flatten_cons,h2]
  .rw[Zz,List.sum_cons,h3,Zf];simp[qa,PySem.Str.length]
 |.none::_,_,_,e,_=>by exact za e
 |.int _::_,_,_,e,_=>by exact za e
 |.bool _::_,_,_,e,_=>by exact za e
 |.tup _::_,_,_,e,_=>by exact za e
 |.lst _::_,_,_,e,_=>by exact za e
 |.ref _::_,_,_,e,_=>by exact za e
 |.exc _::_,_,_,e,_=>by exact za e
theorem zka{W:V}(R:Rel G t st s)(r1:VRel t s.heap X v)(r2:VRel t s.heap W w)(e:bm1 .append X W st=.ok Z st'):Sim G A t s (call (.builtin "list.append") [v,w]) st' (jf Z):=by
 refine zd (zg5 e) λp hp e=>?_;refine zn (xu e) λhz e=>?_;refine Sim.ok e ?_;refine zrz (ub R r1 hp) λa vs n eq3 h1 h2 h3 h4 h5=>?_;subst eq3;intro Q E q;refine call_meets PySem.F.slot_list_append ⟨_,h2,rfl⟩ PySem.F.entry_list_append (PySem.F.args_list_append_2 _ _) (list_append a vs n w (by rw[xr h3];exact h4)) ⟨h2,?_⟩;have u:=zcv (tk:=s.toks) (f:=λxs=>xs.push w) (l':=p.2++[W]) R h5 h1 h2 (by rw[Array.toList_push];exact h3.append ⟨w,[],rfl,r2,rfl⟩) (by rw[Zf];exact hz);exact q _ t.tick _ u.1 u.2 rfl
theorem zt8{m a b:Nat}(s1:m=a)(s2:n=b)(h:a+b<=zi):m+n<=sizeLine:=by subst s1 s2;exact h
theorem zkb{W:V}(R:Rel G t st s)(r1:VRel t s.heap X v)(r2:VRel t s.heap W w)(e:bm1 .extend X W st=.ok Z st'):Sim G A t s (call (.builtin "list.extend") [v,w]) st' (jf Z):=by
 refine zd (zg5 e) λp hp e=>?_;refine zd (zci e) λnq0 hp2 e=>?_;obtain⟨k,l2⟩:=nq0;refine zn (xu e) λhz e=>?_;refine Sim.ok e ?_;refine zrz (ub R r1 hp) λa vs n eq3 h1 h2 h3 h4 h5=>?_;subst eq3;refine qo (qx R r2 hp2) λb ws eq2 io rr sz=>?_;subst eq2;have hs:=zt8 (xr h3) (xr rr) hz;intro Q E q;have u:=zcv (tk:=s.toks) (f:=λxs=>xs++ws) (l':=p.2++l2) R h5 h1 h2 (by rw[Array.toList_append];exact h3.append rr) (by rw[Zf];exact hz);have q1:=q _ t.tick _ u.1 u.2 rfl;have h4:vs.size<=sizeLine:=by rw[xr h3];exact h4
 cases k with
 |true =>
  refine zr io λn2 io=>?_;exact call_meets PySem.F.slot_list_extend ⟨_,h2,rfl⟩ PySem.F.entry_list_extend (PySem.F.args_list_extend_2 _ _) (AutoSeq1.list_extend_list_list_0 a vs n b ws n2 (extend_door hs) h4 (Z2 hs)) ⟨h2,io,q1⟩
 |false =>
  refine zr io λn2 io=>?_;exact call_meets PySem.F.slot_list_extend ⟨_,h2,rfl⟩ PySem.F.entry_list_extend (PySem.F.args_list_extend_2 _ _) (AutoSeq1.list_extend_list_tuple_0 a vs n b ws n2 (extend_door hs) h4 (Z2 hs)) ⟨h2,io,q1⟩
theorem zc6(h:j<vs.size):(vs.eraseIdxIfInBounds j).toList=vs.toList.eraseIdx j:=by
 delta Array.eraseIdxIfInBounds;rw[dif_pos h,Array.toList_eraseIdx]
theorem zvj{W:V}(R:Rel G t st s)(r1:VRel t s.heap X v)(r2:VRel t s.heap W w)(e:bm1 .pop X W st=.ok Z st'):Sim G A t s (call (.builtin "list.pop") [v,w]) st' (jf Z):=by
 refine zd (zg5 e) λp hp e=>?_;refine zd (zsw e) λi eq1 e=>?_;subst eq1;refine zd (zwg e) λj hj e=>?_;refine zd (zwi e) λy hy e=>?_;refine Sim.ok e ?_;refine zrz (ub R r1 hp) λa vs n eq3 h1 h2 h3 h4 h5=>?_;subst eq3;refine zr r2 λk eq1=>?_;subst eq1;refine zd (VRels.get h3 hy) λy' e1 e2=>?_;rw[Jt]at e1;intro Q E q;have u:=zcv (tk:=s.toks) (f:=λxs=>xs.eraseIdxIfInBounds j) (l':=p.2.eraseIdx j) R h5 h1 h2 (by rw[zc6 (Array.getElem?_eq_some_iff.1 e1).1];exact h3.eraseIdx j) (Zp (List.length_eraseIdx_le ..) h4);refine call_meets PySem.F.slot_list_pop ⟨_,h2,rfl⟩ PySem.F.entry_list_pop (PySem.F.args_list_pop_2 _ _) (PySem.MeetsSeq.list_pop_at a _ n i k j y' (zol hj h4) (by rw[xr h3];exact(yz hj).1) e1 (by rw[xr h3];exact h4)) ⟨h2,?_⟩;exact q _ t.tick _ u.1 u.2 (VRel.step u.1 (λξ z=>z.elim) _ e2)
theorem zsc{W:V}(R:Rel G t st s)(r1:VRel t s.heap X v)(r2:VRel t s.heap W w)(e:bm1 .join X W st=.ok Z st'):Sim G A t s (call (.builtin "str.join") [v,w]) st' (jf Z):=by
 refine zd (zjo e) λx0 eq1 e=>?_;subst eq1;cases x0 with
 |cons=>exact zb e
 |nil =>
  refine zd (zcb e) λl eq1 e=>?_;subst eq1;refine zd (zwh e) λx hx e=>?_;refine zn (xu e) λhz e=>?_;refine Sim.ok e ?_;refine wz r2 λa vs eq2 io ξ sz rr=>?_;subst eq2;refine zr r1 λk eq1=>?_;subst eq1;refine jj (mv hx rr) λys h1 h2 h3=>?_;intro Q E q;refine join_list io.isList h1 (by rw[h3];exact hz) λt' k=>?_;exact q _ t _ (Step.toks _ t s _) (R.toks _) ⟨t',by show Value.str (Txt.join (qa []) ys) t'=_;rw[zo3,h2]⟩
variable{m:Bm}
theorem zj7{W:V}(O:G.Ok N)(R:Rel G t st s)(hA:AOk d A)(r1:VRel t s.heap X v)(r2:VRel t s.heap W w)(e:bm1 m X W st=.ok Z st'):Sim G A t s (call (.builtin (zdn m)) [v,w]) st' (jf Z):=by
 cases m with
 |append=>exact zka R r1 r2 e
 |extend=>exact zkb R r1 r2 e
 |pop=>exact zvj R r1 r2 e
 |join=>exact zsc R r1 r2 e
 |_=>exact zb e
noncomputable def zin:Bm->Bool
 |_=>true
theorem zj8(hm:zin m=true){W U:V}{u:Xb}(O:G.Ok N)(R:Rel G t st s)(hA:AOk d A)(r1:VRel t s.heap X v)(r2:VRel t s.heap W w)(r3:VRel t s.heap U u)(e:bm2 m X W U st=.ok Z st'):Sim G A t s (call (.builtin (zdn m)) [v,w,u]) st' (jf Z):=by
 cases m with
 |_=>exact zb e
theorem zw2{x:Xd Nat}(h:∀c∈x,97<=c/\c<=122):Txt.upper (qa x)=qa (x.map (·-32)):=by
 rw[upper_ascii λc hc=>Z7 (h c hc).2 (by decide)];show(⟨x.toArray.map up1⟩:Xv)=⟨(x.map (·-32)).toArray⟩;rw[List.map_toArray,Jw (f:=up1) (g:=(·-32)) λc hc=>Zg (h c hc)]
theorem znl(R:Rel G t st s)(r1:VRel t s.heap X v)(e:bm0 .upper X st=.ok Z st'):Sim G A t s (call (.builtin "str.upper") [v]) st' (jf Z):=by
 refine zd (zjo e) λx eq1 e=>?_;subst eq1;refine zn (xu e) λh e=>?_;refine zn (Zj.1 h) λh1 h2=>?_;have h1:∀c∈x,97<=c/\c<=122:=λc hc=>by
  refine zn (Zj.1 (Zv.1 h1 c hc)) λq1 q2=>?_;exact⟨Za q1,Za q2⟩
 refine Sim.ok e ?_;refine zr r1 λk eq1=>?_;subst eq1;intro Q E q;refine PySem.SC.upper (fit_upper (Zp (show(qa x).length<=1000 from Za h2) (by decide))) ?_;rw[zw2 h1];exact q _ t _ (Step.toks _ t s _) (R.toks _) ⟨_,rfl⟩
theorem zdo(hm:zin m=true){Vs:Xd V}{vs:Xd Xb}(O:G.Ok N)(R:Rel G t st s)(hA:AOk d A)(r1:VRel t s.heap X v)(r2:VRels t s.heap Vs vs)(e:mu m X Vs st=.ok Z st'):Sim G A t s (call (.builtin (zdn m)) (v::vs)) st' (jf Z):=by
 cases Vs with
 |nil =>
  cases m with
  |upper=>subst r2;exact znl R r1 e
  |_=>exact zb e
 |cons W Vs =>
  obtain⟨w,_,rfl,r2,r3⟩:=r2;cases Vs with
  |nil=>subst r3;exact zj7 O R hA r1 r2 e
  |cons U Vs =>
   obtain⟨u,_,rfl,r3,r4⟩:=r3;cases Vs with
   |nil=>subst r4;exact zj8 hm O R hA r1 r2 r3 e
   |cons _ _=>exact zb e
noncomputable abbrev BmT (s:Xa) (v:Xb) (n:String):Prop:=s.TypeIs v n/\∀a,v=.ref a->∃ob,s.heap.get? a=some ob/\ob.dict=none
theorem znh{o:Obj}{n:String}(h:s.heap.get? a=some o)(h1:o.cls=.type n)(h2:o.dict=none):BmT s (.ref a) n:=⟨⟨o,h,h1⟩,λa' z=>by cases z;exact⟨o,h,h2⟩⟩
theorem znj(R:Rel G t st s)(r1:VRel t s.heap X v)(e:(yb X st).isSome=true):BmT s v "list":=by
 refine zr (Jh.mp e) λp hp=>?_;refine zbf (ub R r1 hp) λa vs n eq3 h1 h2 ξ=>?_;subst eq3;exact znh h2 rfl rfl
theorem zni(R:Rel G t st s)(r1:VRel t s.heap X v)(e:(dictAt X st).isSome=true):BmT s v "dict":=by
 refine zr (Jh.mp e) λp hp=>?_;refine qo (bx R r1 hp) λa kvs eq2 h1 h2 ξ=>?_;subst eq2;exact⟨h2.typeIs,h2.mapOf.noDict⟩
theorem zim(e:(match X with|.str _=>true|_=>false)=true)(r1:VRel t s.heap X v):BmT s v "str":=by
 cases X with
 |str x=>obtain⟨k,rfl⟩:=r1;exact⟨typeIs_str _ _ _,λa z=>by cases z⟩
 |_=>exact qi e
theorem zsb(e:(match X with|.lst _=>true|_=>false)=true)(r1:VRel t s.heap X v):BmT s v "list":=by
 cases X with
 |lst x=>refine jz r1 λa vs eq2 nq3 ξ=>?_;subst eq2;obtain⟨n,ho⟩:=nq3;exact znh ho rfl rfl
 |_=>exact qi e
theorem zkc(R:Rel G t st s)(r1:VRel t s.heap X v)(e:zj9 m X st=true):BmT s v (zge m):=by
 cases m with
 |count=>exact zsb e r1
 |get=>exact zni R r1 e
 |join=>exact zim e r1
 |upper=>exact zim e r1
 |_=>exact znj R r1 e
theorem zwt(O:G.Ok N)(hmu:zin m=true){a:E}{x:Xu}{l:Xd E}{es:Xd Xu}{ap pos:Pos}(hx:k7 x=true)(hln:(ap.endLine==pos.line)=true)(h30:es.length<30)(hm:qp es=true)(hlm:l.length=es.length)(ha:qe G C d sc Γ a x)(hl:yl G C d sc Γ l es):qe G C d sc Γ (.bm m a l) (.Call (.Attribute x (zgd m) ap) es [] pos):=by
 intro t st s env loc X st' A hA hsc F R e Q E q;rw[zuu]at e;refine zf (Res.bind_ok e) λV s1 e1 e=>?_;refine zn (xu e) λhok e=>?_
 .refine zf (Res.bind_ok e) λVs s2 e2 e=>?_;refine wpAny_Call_method (md hx _ _) (zat hm h30) hln (znk m) (zsd m) (zse m) ?_;refine ha t st s env loc _ _ A hA hsc F R e1 _ _ λv t1 σ1 S1 R1 r1=>?_;refine zn (zkc R1 r1 hok) λb1 b2=>?_;refine⟨b1,b2,?_⟩;refine yk O (lm _) hm hlm hl hA hsc (F.step R S1) R1 e2 λvs t2 σ2 S2 R2 r2=>?_;exact zdo hmu O R2 hA (VRel.step S2 (λξ z=>z.elim) _ r1) r2 e _ _ λv t3 σ3 S3 R3 r3=>q v t3 σ3 ((S1.trans S2).trans S3) R3 r3
end
end Internal
end
section
namespace Internal
open PySem PySem.W PyProof.Rows
section
variable {prog:Program}{w:World}{A:Xe}{E:Xb->Xa->Prop}{s:Xa}
theorem ff(o:Xc (Int×Tok)){Q:Xc Int->Xa->Prop}(h:Q (o.map (·.1)) s):Xn (model prog w) A (Builtin.Slice.slicePartIndex (partValue o)) Q E s:=by
 cases o with
 |none=>exact slicePart_none h
 |some p=>exact slicePart_int h
theorem zj4(l u:Xc Int)(n i j:Nat)(hl:l.elim 0 (clipAt n)=i)(hu:u.elim n (clipAt n)=j):Builtin.Slice.sliceAdjust l u 1 (n:Int)=((i:Int),(j:Int)):=by
 subst hl;subst hu;have h1:¬((1:Int)<0):=by decide
 have hc:∀v:Int,((clipAt n v:Nat):Int)=if v<0 then max (v+n) 0 else min v n:=λv=>by
  rw[clipAt_cast];split<;>lia
 unfold Builtin.Slice.sliceAdjust;simp only[h1,Xq];cases l<;>cases u<;>simp only[Option.elim,hc]<;>rfl
theorem zli(i j:Nat):J5 (i:Int) (j:Int) 1=j-i:=by
 unfold J5;have h1:(1:Int) > 0:=by decide
 simp only[h1,if_true,Int.ediv_one];split<;>lia
theorem ztd(xs:Array Xb)(i j:Nat):((Xr (j-i)).filterMap λ(k:Nat)=>xs[((i:Int)+(k:Int)*1).toNat]?).toArray=((xs.toList.drop i).take (j-i)).toArray:=by
 have e:(λ(k:Nat)=>xs[((i:Int)+(k:Int)*1).toNat]?)=λk=>xs[i+k]?:=by
  funext k;have:((i:Int)+(k:Int)*1).toNat=i+k:=by lia
  rw[this]
 rw[e];have:=pick_run xs i (j-i);rw[List.filterMap_map]at this;exact Qd List.toArray this
variable{sl:Addr}{i j:Nat}{o1 o2:Xc (Int×Tok)}
theorem ng{n:Nat}{Q:Int×Int×Nat->Xa->Prop}(hs:s.heap.IsSliceOf sl (partValue o1) (partValue o2) .none)(hl:(o1.map (·.1)).elim 0 (clipAt n)=i)(hu:(o2.map (·.1)).elim n (clipAt n)=j)(h:Q ((i:Int),1,j-i) s):
  Xn (model prog w) A (Builtin.Slice.sliceApplied (.ref sl) (pure (n:Int))) Q E s:=by
 refine jj (id hs) λos hos hcs hds=>?_;unfold Builtin.Slice.sliceApplied Builtin.Slice.sliceFields;refine Ze (Ze (wpAny_field hos hds (x:=partValue o1) rfl (Ze (wpAny_field hos hds (x:=partValue o2) rfl (Ze (wpAny_field hos hds (x:=.none) rfl (Zr ?_)))))));refine Ze (slicePart_none ?_);show Xn _ _ (if ((1:Int)==0)=true then _ else _) _ _ s;rw[Zh (by decide)];refine Ze (ff o1 (Ze (ff o2 (Ze (Zr ?_)))));show Xn _ _ (match Builtin.Slice.sliceAdjust (o1.map (·.1)) (o2.map (·.1)) 1 (n:Int)with|(lo,hi)=>pure (lo,(1:Int),J5 lo hi 1)) _ _ s;rw[zj4 _ _ n i j hl hu];show Xn _ _ (pure ((i:Int),(1:Int),J5 (i:Int) (j:Int) 1)) _ _ s;rw[zli];exact Zr h
theorem zc8{t:Addr}{items:Array Xb}{Q:Xb->Xa->Prop}(ht:IsTup s.heap t items)(hs:s.heap.IsSliceOf sl (partValue o1) (partValue o2) .none)(hl:(o1.map (·.1)).elim 0 (clipAt items.size)=i)(hu:(o2.map (·.1)).elim items.size (clipAt items.size)=j)(hw:j-i≠items.size)(hsz:items.size<=sizeLine)(h:Q (.ref s.heap.objs.size) {s with heap:=s.heap.push {cls:=.type "tuple",data:=.seq ((items.toList.drop i).take (j-i)).toArray}}):Xn (model prog w) A (PySem.getItem (.ref t) (.ref sl)) Q E s:=by
 have hok:sizeOk (.seq ((items.toList.drop i).take (j-i)).toArray):=by
  show((items.toList.drop i).take (j-i)).toArray.size<=sizeLine;rw[List.size_toArray,Jk,Js,Array.length_toList];lia
 refine jj (id hs) λos hos hcs hds=>?_;have hTs:s.TypeIs (.ref sl) "slice":=⟨os,hos,hcs⟩
 unfold PySem.getItem
 try with_reducible refine Ja ?_
 first|refine Ze (Zr ?_)|skip
 refine Ze (wpAny_sequenceKey ht.typeIs (by decide) ?_);refine Ze (wpAny_callSpecial?_slot (name:=Str.ofString "__getitem__") ht.typeIs slot_tuple_getitem
  (wpAny_call_entry slot_tuple_getitem ht.typeIs entry_tuple_getitem ?_ (args_tuple_getitem _ _)))
 show Xn _ _ (Builtin.Tuple.tupleItemsOf (.ref t) >>= _) _ _ s;refine Ze (tupleItemsOf_ ht ?_);refine Ze (wpAny_typeOf hTs ?_);rw[Zg (by decide)];refine Ze (ng hs hl hu ?_);have hno:¬(((i:Int)==0&&(1:Int)==1&&(j-i)==items.size)=true):=by
  rw[Xp.2 hw,Bool.and_false];exact Z8
 show Xn _ _ (if ((i:Int)==0&&(1:Int)==1&&(j-i)==items.size)=true then _ else _) _ _ s;rw[Zh hno,ztd items i j]
 first
  |exact Ze (m:=J6 _) (wpAny_newObj_type (Zr ⟨_,rfl,Zr h⟩) hok)
  |exact Ze (m:=J6 _) (wpAny_newObj_type (Ze (Zr (Zr ⟨_,rfl,Zr h⟩))) hok)
  |exact Ze (Ze (m:=J6 _) (wpAny_newObj_type (Zr (Zr ⟨_,rfl,Zr h⟩)) hok))
  |exact Ze (Ze (m:=J6 _) (wpAny_newObj_type (Zr ⟨_,rfl,Zr h⟩) hok))
end
end Internal
end
section
namespace Internal
open PySem PySem.W PyProof.Rows
section
variable {G:Gd}{N:Names}{C:Calls}{d:Dp}{sc:Sc}{Γ:Gam}{A:Xe}{t:Tie}{st st':MS}{s:Xa}{env:Env}{loc:Loc}{X Y Z:V}{v w:Xb}
noncomputable abbrev fb (p:Xc V):Tie->Xa->Xb->Prop:=λt s v=>match p with|none=>v=.none|some X=>VRel t s.heap X v
noncomputable def zf5(G:Gd)(C:Calls)(d:Dp)(sc:Sc)(Γ:Gam)(e:Xc E)(ast:Xc Xu):Prop :=
 ∀t st s env loc p st' A,AOk d A->env.scope.names=sc->FrOk G A t env Γ loc s->Rel G t st s->evO G.P C e loc st=.ok p st'->Sim G A t s (evalPart ast env) st' (fb p)
theorem zl4:zf5 G C d sc Γ none none:=by
 intro t st s env loc p st' A hA hsc F R e Q E k;simp only[zd4,zd5]at e;cases e;exact Zr (k _ t s (.refl _ _ _) R rfl)
variable{x:Xu}
theorem zl5{e:E}(h:qe G C d sc Γ e x):zf5 G C d sc Γ (some e) (some x):=by
 intro t st s env loc p st' A hA hsc F R e Q E k;simp only[zd4,zd5]at e;refine zf (Res.bind_ok e) λv s1 e1 e=>?_;cases e;exact h t st s env loc v _ A hA hsc F R e1 _ _ λy t1 σ1 S1 R1 r1=>k y t1 σ1 S1 R1 r1
variable{D i:Nat}
theorem zkj{X:V}(e:vp D (some X)=some i):X=.int i:=by
 cases X with
 |int z =>
  have e:(if 0<=z then some z.toNat else Option.none)=some i:=e;by_cases h:0<=z
  .rw[Zg h]at e;obtain rfl:=Je e;rw[Int.toNat_of_nonneg h]
  .rw[Zh h]at e;exact za e
 |_=>exact za e
theorem uk{n:Nat}{p:Xc V}(e:vp D p=some i)(r:fb p t s v):∃o:Xc (Int×Tok),v=partValue o/\(o.map (·.1)).elim (min D n) (clipAt n)=min i n:=by
 cases p with
 |none=>obtain rfl:=Je e;exact⟨none,r,rfl⟩
 |some X =>
  cases zkj e;obtain⟨k,rfl⟩:=r;exact⟨some (i,k),rfl,clipAt_nat ..⟩
theorem zam(o:Xc (Int×Tok)):IsPart (partValue o) (o.map (·.1)):=by
 cases o with
 |none=>exact .none
 |some p=>exact .int p.1 p.2
variable{α:Type}
theorem m3(l:Xd α)(i j n:Nat)(hn:n=l.length):(l.drop (min i n)).take (min j n-min i n)=(l.take j).drop i:=by
 rw[List.drop_take];subst hn;rcases Nat.le_total i l.length with h|h
 .rw[Nat.min_eq_left h];rcases Nat.le_total j l.length with h2|h2
  .rw[Nat.min_eq_left h2]
  .rw[Nat.min_eq_right h2,List.take_of_length_le (by simp),List.take_of_length_le (by simp;lia)]
 .rw[Nat.min_eq_right h,List.drop_of_length_le (Zs _),List.drop_of_length_le h];simp
set_option tactic.hygienic true in
theorem zmq(x:Xd Nat)(l u:Xc Int)(i j:Nat)(hl:l.elim 0 (clipAt x.length)=min i x.length)(hu:u.elim x.length (clipAt x.length)=min j x.length):Txt.slice (qa x) l u=qa ((x.take j).drop i):=by
 have hlen:(qa x).length=x.length:=by simp[qa,PySem.Str.length]
 have hidx:Builtin.Str.strSliceIndices l u 1 x.length=(Xr (min j x.length-min i x.length)).map (min i x.length+·):=by
  rw[<- sliceRange_one];unfold Builtin.Str.strSliceIndices;simp only[show(1:Int) > 0 by decide,if_true];rw[<- hl,<- hu];cases l<;>cases u<;>simp[clipAt_cast]
 have hpick:=pick_run x.toArray (min i x.length) (min j x.length-min i x.length);unfold Txt.slice;rw[hlen,hidx];split
 .rename_i hw;simp only[BEq.rfl,Bool.true_and,Zd,Zx,Xl]at hw;rw[<- m3 x i j _ rfl];have h1:min i x.length=0:=by lia
  rw[h1]at hw ⊢;rw[hw];simp
 .show PySem.Str.mk _=PySem.Str.mk _;congr 1;rw[<- m3 x i j _ rfl];show(List.filterMap (λk=>x.toArray[k]?) _).toArray=_;rw[hpick]
variable{Q:Xb->Xa->Prop}
theorem zc5{x:Xv}{tk:Tok}{a:Addr}{l u:Xc (Int×Tok)}{E:Xb->Xa->Prop}(hs:s.heap.IsSlice a l u none)(hsz:x.length<=sizeLine)(h:∀t' k,Q (.str (Txt.slice x (l.map (·.1)) (u.map (·.1))) t') {s with toks:=k}):Xn G.M A (PySem.getItem (.str x tk) (.ref a)) Q E s :=
 wpAny_getItem_str_slice hs rfl (post_val_or_str ⟨Zp (Txt.slice_le x _ _) hsz,h⟩)
theorem zny(m:Xd α)(i j:Nat):((m.take j).drop i).length<=m.length:=by
 rw[Js,Jk];exact Zp (Nat.sub_le ..) (Nat.min_le_right ..)
variable{m:Xd V}{j:Nat}
theorem zdz(h:((m.take j).drop i).length<m.length):min j m.length-min i m.length≠m.length:=by
 rw[Js,Jk]at h;omega
noncomputable abbrev gn (vl vu:Xb):Obj:={cls:=.type "slice",data:=.fields #[vl,vu,.none]}
variable{B:V}{vl vu:Xb}{l u:Xc Xu}
theorem zmm{p q:Xc V}{sp:Pos}(R:Rel G t st s)(r1:VRel t s.heap B v)(r2:fb p t s vl)(r3:fb q t s vu)(hm:z4 st B=some (true,m))(hi:vp 0 p=some i)(hj:vp m.length q=some j){E:Xb->Xa->Prop}(k:∀v t' s',Step noX t t' s s'->Rel G t' st s'->VRel t' s'.heap (.lst ((m.take j).drop i)) v->Q v s'):
  Xn G.M A (subscriptTail x (.Slice l u none sp) v (.ref s.heap.objs.size)) Q E {s with heap:=s.heap.push (gn vl vu)}:=by
 refine qo (qx R r1 hm) λa vs eq2 io rr sz=>?_;subst eq2;have hsz:vs.size=m.length:=xr rr;refine zd (uk (n:=m.length) hi r2) λo1 eq1 p1=>?_;subst eq1;refine zd (uk (n:=m.length) hj r3) λo2 eq1 p2=>?_;subst eq1;rw[Nat.zero_min]at p1;rw[Nat.min_self]at p2;have S4:=Step.push R (gn (partValue o1) (partValue o2));have R4:=R.push (gn (partValue o1) (partValue o2));have io4:=(PL.isList (show PL s.heap a vs from io)).push (gn (partValue o1) (partValue o2));refine tail_any io4.typeIs slot_list_getitem.lookup (wpAny_getItem_list_slice io4 (Heap.IsSliceOf.new ..) (zam o1) (zam o2) .none nofun ?_ (by rw[hsz];exact sz)) rfl;have hpick:slicePick vs (o1.map (·.1)) (o2.map (·.1)) none=((vs.toList.take j).drop i).toArray:=by
  rw[slicePick_plain,hsz,p1,p2,m3 _ _ _ _ (hsz.symm.trans Array.length_toList.symm)]
 refine k _ t _ (S4.trans (Step.push R4 {cls:=.type "list",data:=.seq (slicePick vs (o1.map (·.1)) (o2.map (·.1)) none)})) (R4.push _) ?_;rw[hpick];exact VRel.newL R4 (VRels.drop i (VRels.take j (VRels.step S4 (λξ z=>z.elim) _ rr))) (Zp (zny m i j) sz)
theorem zmo{p q:Xc V}{sp:Pos}(R:Rel G t st s)(r1:VRel t s.heap B v)(r2:fb p t s vl)(r3:fb q t s vu)(hm:z4 st B=some (false,m))(hi:vp 0 p=some i)(hj:vp m.length q=some j)(hw:((m.take j).drop i).length<m.length){E:Xb->Xa->Prop}(k:∀v t' s',Step noX t t' s s'->Rel G t' st s'->VRel t' s'.heap (.tup ((m.take j).drop i)) v->Q v s'):
  Xn G.M A (subscriptTail x (.Slice l u none sp) v (.ref s.heap.objs.size)) Q E {s with heap:=s.heap.push (gn vl vu)}:=by
 refine qo (qx R r1 hm) λa vs eq2 nq3 rr sz=>?_;subst eq2;obtain⟨n,io⟩:=nq3;have hsz:vs.size=m.length:=xr rr;refine zd (uk (n:=m.length) hi r2) λo1 eq1 p1=>?_;subst eq1;refine zd (uk (n:=m.length) hj r3) λo2 eq1 p2=>?_;subst eq1;rw[Nat.zero_min]at p1;rw[Nat.min_self]at p2;have S4:=Step.push R (gn (partValue o1) (partValue o2));have R4:=R.push (gn (partValue o1) (partValue o2));have io4:IsTup (s.heap.push (gn (partValue o1) (partValue o2))) a vs:=⟨_,Zn _ io,rfl,n,rfl⟩
 refine tail_any io4.typeIs slot_tuple_getitem.lookup (zc8 (i:=min i m.length) (j:=min j m.length) io4 (Heap.IsSliceOf.new ..) (by rw[hsz];exact p1) (by rw[hsz];exact p2) (by rw[hsz];exact zdz hw) (by rw[hsz];exact sz) ?_) rfl;rw[m3 vs.toList i j _ (hsz.symm.trans Array.length_toList.symm)];exact k _ t _ (S4.trans (Step.push R4 {cls:=.type "tuple",data:=.seq ((vs.toList.take j).drop i).toArray})) (R4.push _) (VRel.newT R4 (VRels.drop i (VRels.take j (VRels.step S4 (λξ z=>z.elim) _ rr))) (Zp (zny m i j) sz))
variable{y:Xd Nat}
theorem zmn{p q:Xc V}{sp:Pos}(R:Rel G t st s)(r1:VRel t s.heap (.str y) v)(r2:fb p t s vl)(r3:fb q t s vu)(hz:y.length<=zi)(hi:vp 0 p=some i)(hj:vp y.length q=some j){E:Xb->Xa->Prop}(k:∀v t' s',Step noX t t' s s'->Rel G t' st s'->VRel t' s'.heap (.str ((y.take j).drop i)) v->Q v s'):
  Xn G.M A (subscriptTail x (.Slice l u none sp) v (.ref s.heap.objs.size)) Q E {s with heap:=s.heap.push (gn vl vu)}:=by
 refine zr r1 λky eq1=>?_;subst eq1;refine zd (uk (n:=y.length) hi r2) λo1 eq1 p1=>?_;subst eq1;refine zd (uk (n:=y.length) hj r3) λo2 eq1 p2=>?_;subst eq1;rw[Nat.zero_min]at p1;rw[Nat.min_self]at p2;refine tail_any (typeIs_str _ _ _) PySem.F.slot_str_getitem.lookup (zc5 (l:=o1) (u:=o2) ⟨_,Z5 _ rfl,rfl,rfl⟩ hz λt' k'=>?_) rfl;exact k _ t _ ((Step.push R _).trans (Step.toks _ _ _ k')) ((R.push _).toks k') ⟨t',by rw[zmq y _ _ i j p1 p2]⟩
theorem tm{o1 o2:Xc Nat}{f:Nat->Nat->Res V}{Z:V}(e:(match o1,o2 with|some i,some j=>f i j|_,_=>.stuck)=.ok Z st'):∃i j,o1=some i/\o2=some j/\f i j=.ok Z st':=by
 cases o1 with
 |none=>exact zb e
 |some i=>cases o2 with
  |none=>exact zb e
  |some j=>exact⟨i,j,rfl,rfl,e⟩
theorem zl1{p q:Xc V}{sp:Pos}(R:Rel G t st s)(r1:VRel t s.heap B v)(r2:fb p t s vl)(r3:fb q t s vu)(e:(match (motive:=_->Res V) z4 st B with
  |some (true,l)=>match vp 0 p,vp l.length q with
   |some i,some j=>Res.ok (V.lst ((l.take j).drop i)) st
   |_,_=>.stuck
  |some (false,l)=>match vp 0 p,vp l.length q with
   |some i,some j=>if ((l.take j).drop i).length<l.length then Res.ok (V.tup ((l.take j).drop i)) st else .stuck
   |_,_=>.stuck
  |.none=>.stuck)=.ok Z st'){E:Xb->Xa->Prop}(k:∀v t' s',Step noX t t' s s'->Rel G t' st' s'->VRel t' s'.heap Z v->Q v s'):
  Xn G.M A (subscriptTail x (.Slice l u none sp) v (.ref s.heap.objs.size)) Q E {s with heap:=s.heap.push (gn vl vu)}:=by
 cases hm:z4 st B with
 |none=>rw[hm]at e;exact zb e
 |some m =>
  rw[hm]at e;obtain⟨b,m⟩:=m;cases b with
  |true =>
   refine jz (tm e) λi j hi hj e=>?_;refine zn (xh e) λeq0 eq1=>?_;subst eq0;subst eq1;exact zmm R r1 r2 r3 hm hi hj k
  |false =>
   refine jz (tm e) λi j hi hj e=>?_;refine zn (xu e) λhw e=>?_;refine zn (xh e) λeq0 eq1=>?_;subst eq0;subst eq1;exact zmo R r1 r2 r3 hm hi hj hw k
theorem zmt{p q:Xc V}{sp:Pos}(R:Rel G t st s)(r1:VRel t s.heap (.str y) v)(r2:fb p t s vl)(r3:fb q t s vu)(e:vi (.str y) p q st=.ok Z st'){E:Xb->Xa->Prop}(k:∀v t' s',Step noX t t' s s'->Rel G t' st' s'->VRel t' s'.heap Z v->Q v s'):
  Xn G.M A (subscriptTail x (.Slice l u none sp) v (.ref s.heap.objs.size)) Q E {s with heap:=s.heap.push (gn vl vu)}:=by
 refine jz (tm e) λi j hi hj e=>?_;refine zn (xu e) λhz e=>?_;refine zn (xh e) λeq0 eq1=>?_;subst eq0;subst eq1;exact zmn R r1 r2 r3 hz hi hj k
theorem za2{t':Tie}{s':Xa}{p:Xc V}(S:Step noX t t' s s')(r:fb p t s v):fb p t' s' v:=by
 cases p with
 |none=>exact r
 |some X=>exact VRel.step S (λξ z=>z.elim) _ r
theorem zml{a:E}{lo hi:Xc E}{sp pos:Pos}(ha:qe G C d sc Γ a x)(hlo:zf5 G C d sc Γ lo l)(hhi:zf5 G C d sc Γ hi u):qe G C d sc Γ (.slice a lo hi) (.Subscript x (.Slice l u none sp) pos):=by
 intro t st s env loc X st' A hA hsc F R e Q E k;rw[zd9]at e;refine zf (Res.bind_ok e) λB s1 e1 e=>?_;refine zf (Res.bind_ok e) λp s2 e2 e=>?_;refine zf (Res.bind_ok e) λq s3 e3 e=>?_;refine Subscript_ (ha t st s env loc _ _ A hA hsc F R e1 _ _ λv t1 σ1 S1 R1 r1=>?_);have F1:=F.step R S1;refine wpAny_Slice (hlo t1 s1 σ1 env loc p s2 A hA hsc F1 R1 e2 _ _ λvl t2 σ2 S2 R2 r2=>?_);refine hhi t2 s2 σ2 env loc q s3 A hA hsc (F1.step R1 S2) R2 e3 _ _ λvu t3 σ3 S3 R3 r3=>?_;rw[evalPart_none];refine Zr ?_;have r1':=VRel.step (S2.trans S3) (λξ z=>z.elim) _ r1;have k':∀v t' s',Step noX t3 t' σ3 s'->Rel G t' st' s'->VRel t' s'.heap X v->Q v s':=λv t' s' S4=>k v t' s' (((S1.trans S2).trans S3).trans S4);cases B with
 |str y=>exact zmt R3 r1' (za2 S3 r2) r3 e k'
 |_=>exact zl1 R3 r1' (za2 S3 r2) r3 e k'
end
end Internal
end
section
set_option maxRecDepth 100000
namespace Internal
open PySem PySem.W PyProof.Rows
section
variable {G:Gd}{N:Names}{C:Calls}{d:Dp}{sc:Sc}{Γ:Gam}{A:Xe}{t:Tie}{st st':MS}{s:Xa}{env:Env}{loc:Loc}{X Y Z:V}{v w:Xb}
noncomputable def bo:Tag->String
 |.none=>"NoneType" |.bool=>"bool" |.int=>"int" |.str=>"str" |.tuple=>"tuple" |.list=>"list" |.dict=>"dict"
noncomputable def w9:Kind->String
 |.int=>"int" |.bool=>"bool" |.str=>"str" |.list=>"list" |.tuple=>"tuple" |.valueError=>"ValueError" |.cls _=>""
noncomputable def vc:Kind->Bool
 |.int=>true|.bool=>true|.str=>true|.list=>true|.tuple=>true|_=>false
theorem zwa(K:Frag)(g:Tag)(k:Kind)(hk:vc k=true):kitOne K (.type (bo g)) (.type (w9 k))=u9 g k:=by
 cases k with
 |valueError=>exact qi hk
 |cls=>exact qi hk
 |_=>cases g<;>kernel_rfl
variable{b:Bool}
theorem zjc(K:Frag)(g:Tag)(k:Kind)(hk:vc k=true)(e:u9 g k=some b):kitOne K (.type (bo g)) (.type (w9 k))=some b:=(zwa K g k hk).trans e
noncomputable abbrev KT (G:Gd) (s:Xa) (v:Xb) (n:String):Prop:=∃H,KitX G.K v (.type n) H/\H s.heap/\v≠.builtin "__main__.__loader__#opaque"
variable{g:Tag}
theorem gq{g':Tag}(hv:v=w)(h:KT G s w (bo g'))(e:some g'=some g):KT G s v (bo g):=by obtain rfl:=Je e;subst hv;exact h
variable{a:Addr}{vs:Array Xb}
theorem zfz(h:PL s.heap a vs):KT G s (.ref a) "list":=h.elim λξ ho=>⟨_,kitx_list,⟨_,ho,rfl⟩,nofun⟩
theorem zua(h:PT s.heap a vs):KT G s (.ref a) "tuple":=h.elim λξ ho=>⟨_,kitx_tuple,⟨_,ho,rfl⟩,nofun⟩
theorem zt9(R:Rel G t st s){l:Lbl}(r:VRel t s.heap (.ref l) v)(e:ma st (.ref l)=some g):KT G s v (bo g):=by
 have e:(match st.heap l with|some (.list _)=>some Tag.list|some (.dict _)=>some Tag.dict|_=>none)=some g:=e;refine zd r λa' hv e2=>?_;cases hl:st.heap l with
 |none=>rw[hl]at e;exact za e
 |some o =>
  rw[hl]at e;cases o with
  |list m =>
   refine jz (R.objs l _ hl) λa vs h1 h2 ξ=>?_;cases h1.symm.trans e2;exact gq hv (zfz h2) e
  |dict m =>
   refine jz (R.objs l _ hl) λa kvs h1 h2 ξ=>?_;cases h1.symm.trans e2;refine zd h2.typeIs λo h3 h4=>?_;exact gq hv ⟨_,kitx_dict,⟨o,h3,h4⟩,nofun⟩ e
  |_=>exact za e
theorem zjp(R:Rel G t st s)(r:VRel t s.heap X v)(e:ma st X=some g):∃H,KitX G.K v (.type (bo g)) H/\H s.heap/\v≠.builtin "__main__.__loader__#opaque":=by
 cases X with
 |none=>exact gq r ⟨_,kitx_none,trivial,nofun⟩ e
 |bool b=>exact gq r ⟨_,kitx_bool,trivial,nofun⟩ e
 |int i=>exact r.elim λξ hv=>gq hv ⟨_,kitx_int,trivial,nofun⟩ e
 |str i=>exact r.elim λξ hv=>gq hv ⟨_,kitx_str,trivial,nofun⟩ e
 |tup l=>refine jz r λa vs hv ho ξ=>?_;exact gq hv (zua ho) e
 |lst l=>refine jz r λa vs hv ho ξ=>?_;exact gq hv (zfz ho) e
 |exc c=>exact za e
 |ref l=>exact zt9 R r e
theorem zrl{o:Xc Tag}{f:Tag->Xc Bool}(e:(match o with|some g=>f g|.none=>Option.none)=some b):∃g,o=some g/\f g=some b:=by
 cases o with
 |none=>exact za e
 |some g=>exact⟨g,rfl,e⟩
variable{k:Kind}
theorem mi{P:Prog}(hk:vc k=true)(e:b6 P st X k=some b):∃g,ma st X=some g/\u9 g k=some b:=by
 cases X with
 |exc d =>
  cases k with
  |valueError=>exact qi hk
  |cls=>exact qi hk
  |_=>exact za e
 |_=>exact zrl e
theorem d8{P:Prog}(K:Frag):∀{ks:Xd Kind}{b:Bool}{g:Tag},(∀k∈ks,vc k=true)->ma st X=some g->kf P st X ks=some b->kitAny K (.type (bo g)) (ks.map λk=>.type (w9 k))=some b
 | [],_,_,_,_,e=>by obtain rfl:=Je e;rfl
 |k::ks,b,g,hu,hg,e=>by
  simp only[kf]at e;simp only[Zz,kitAny];cases q:b6 P st X k with
  |none=>rw[q]at e;exact za e
  |some b' =>
   rw[q]at e;refine zd (mi (hu k (.head _)) q) λg' h1 h2=>?_;rw[hg]at h1;obtain rfl:=Je h1;rw[zjc K g k (hu k (.head _)) h2];cases b' with
   |true=>obtain rfl:=Je e;rfl
   |false=>exact d8 K (λk hk=>hu k (.tail _ hk)) hg e
theorem zk2(k:Kind)(hk:vc k=true):∃x:Xv,su k=some x/\bootBuiltins x=some (.type (w9 k))/\x∈(["len","max","int","sorted","tuple","list","all","isinstance","range","dict","bool","str","ValueError"]:Xd Xv):=by
 cases k<;>first|exact(Z8 hk).elim|exact⟨_,rfl,by decide +kernel,by decide⟩
variable{y:Xu}{E':Xb->Xa->Prop}
theorem pc(O:G.Ok N)(F:FrOk G A t env Γ loc s)(R:Rel G t st s)(hsc:env.scope.names=sc)(hk:vc k=true)(hc:mw N sc k y=true){Q:Xb->Xa->Prop}(h:Q (.type (w9 k)) s):isStarred y=false/\Xn G.M A (eval y env) Q E' s:=by
 refine jj (zk2 k hk) λx h1 h2 h3=>?_;cases y with
 |Name x' p =>
  refine zn (Zj.1 (hc:(su k==some x'&&ku sc x')=true)) λhx hg=>?_;cases h1.symm.trans (eq_of_beq hx);exact⟨rfl,kj O F R hsc hg h3 h2 h⟩
 |_=>exact qi hc
theorem sv(O:G.Ok N)(hsc:env.scope.names=sc)(pos:Pos):∀{ks:Xd Kind}{ys:Xd Xu}{Q:Xd Xb->Xa->Prop}{E':Xb->Xa->Prop},(∀k∈ks,vc k=true)->bt N sc ks ys=true->∀{t:Tie}{st:MS}{s:Xa},FrOk G A t env Γ loc s->Rel G t st s->
  Q (ks.map λk=>.type (w9 k)) s->Xn G.M A (spliced (backTo pos (starEach ys env))) Q E' s
 | [],[],_,_,_,_,_,_,_,_,_,h=>Calls.spliced_nil h
 | [],_::_,_,_,_,e,_,_,_,_,_,_=>by exact qi e
 |_::_,[],_,_,_,e,_,_,_,_,_,_=>by exact qi e
 |k::ks,y::ys,Q,E',hu,e,t,st,s,F,R,h=>by
  have e:=Zj.1 (e:(mw N sc k y&&bt N sc ks ys)=true);have hs:=(pc (A:=A) (Q:=λξ ξ=>True) (E':=λξ ξ=>True) O F R hsc (hu k (.head _)) e.1 trivial).1;refine wpAny_items_cons (pc O F R hsc (hu k (.head _)) e.1 ?_).2 (yh hs ys env);exact sv O hsc pos (λk hk=>hu k (.tail _ hk)) e.2 F R h
variable{pos:Pos}{x:Xu}
theorem zdj{f:Xb}{Q:Args->Xa->Prop}(hx:isStarred x=false)(hy:isStarred y=false)(h:Xn G.M A (eval x env) (λv s1=>Xn G.M A (eval y env) (λw s2=>Q ⟨[v,w],[]⟩ s2) E' s1) E' s):Xn G.M A (evalArgs f true (backTo pos (starEach [x,y] env)) []) Q E' s:=by
 have q:Xn G.M A (spliced (backTo pos (starEach [x,y] env))) (λvs s'=>Q ⟨vs,[]⟩ s') E' s:=by
  refine wpAny_items_cons (wpAny_mono h (λv s1 h1=>?_) λξ ξ e=>e) (yh hx [y] env);refine wpAny_items_cons (wpAny_mono h1 (λw s2 h2=>?_) λξ ξ e=>e) (yh hy [] env);exact Calls.spliced_nil h2
 rw[yh hx]at q ⊢;exact Calls.evalArgs_plain q
variable{np:Pos}
set_option tactic.hygienic true in
theorem zfp(O:G.Ok N){a:E}(hk:vc k=true)(hg:ku sc "isinstance"=true)(hx:isStarred x=false)(hc:mw N sc k y=true)(ha:qe G C d sc Γ a x):
  qe G C d sc Γ (.isinst a [k]) (.Call (.Name "isinstance" np) [x,y] [] pos):=by
 intro t st s env loc X st' A hA hsc F R e Q E q;rw[fz]at e;refine zf (Res.bind_ok e) λV s1 e1 e=>?_;unfold okB at e;split at e
 .rename_i b hb;obtain⟨rfl,rfl⟩:X=.bool b/\st'=s1:=by cases e;exact⟨rfl,rfl⟩
  have hy:=(pc (A:=A) (Q:=λξ ξ=>True) (E':=λξ ξ=>True) O F R hsc hk hc trivial).1;have hkk:b6 G.P st' V k=some b:=by
   simp only[kf]at hb;cases z:b6 G.P st' V k with
   |none=>rw[z]at hb;exact za hb
   |some b'=>rw[z]at hb;cases b'<;>exact hb
  refine zd (mi hk hkk) λg g1 g2=>?_;refine Xi (kj (v:=.builtin "isinstance") O F R hsc hg (by decide) (by decide +kernel) ?_);refine callWith_of (P:=G.K.In) (by rw[wx pos env (m:=[x,y]) (by simp[qp,hx,hy])];rfl) (lm _) (zdj hx hy ?_);refine ha t st s env loc _ _ A hA hsc F R e1 _ _ λv t1 σ1 S1 R1 r1=>?_;refine(pc O (F.step R S1) R1 hsc hk hc ?_).2;have XK:=O.K.keeps R1.base;refine⟨XK,?_⟩;refine jj (zjp R1 r1 g1) λH Z hH hne=>?_;exact kia_one Z XK hH (zjc G.K g k hk g2) hne λtk=>q _ t1 _ (S1.trans (Step.toks _ _ _ tk)) (R1.toks tk) rfl
 .exact zb e
set_option tactic.hygienic true in
theorem zfq(O:G.Ok N){a:E}{ys:Xd Xu}{k':Kind}{tp:Pos}{cx:Nat}(hk:vc k=true)(hk':vc k'=true)(hg:ku sc "isinstance"=true)(hx:isStarred x=false)(hc:bt N sc [k,k'] ys=true)(ha:qe G C d sc Γ a x):
  qe G C d sc Γ (.isinst a [k,k']) (.Call (.Name "isinstance" np) [x,.Tuple ys cx tp] [] pos):=by
 intro t st s env loc X st' A hA hsc F R e Q E q;rw[fz]at e;refine zf (Res.bind_ok e) λV s1 e1 e=>?_;unfold okB at e;split at e
 .rename_i b hb;obtain⟨rfl,rfl⟩:X=.bool b/\st'=s1:=by cases e;exact⟨rfl,rfl⟩
  have hu:∀z∈[k,k'],vc z=true:=by intro z hz;simp at hz;rcases hz with rfl|rfl<;>assumption
  obtain⟨b0,hb0⟩:∃b0,b6 G.P st' V k=some b0:=by
   simp only[kf]at hb;cases z:b6 G.P st' V k with
   |none=>rw[z]at hb;exact za hb
   |some b'=>exact⟨b',rfl⟩
  refine zd (mi hk hb0) λg g1 g2=>?_;refine Xi (kj (v:=.builtin "isinstance") O F R hsc hg (by decide) (by decide +kernel) ?_);refine callWith_of (P:=G.K.In) (by rw[wx pos env (m:=[x,.Tuple ys cx tp]) (by show(!isStarred x&&(!false&&true))=true;rw[hx];rfl)];rfl) (lm _) (zdj hx rfl ?_);refine ha t st s env loc _ _ A hA hsc F R e1 _ _ λv t1 σ1 S1 R1 r1=>?_;refine wpAny_Tuple (sv O hsc _ hu hc (F.step R S1) R1 ⟨by rw[Zd,sizeLine_eq];exact Nat.le_of_ble_eq_true rfl,?_⟩);have R2:=R1.push {cls:=.type "tuple",data:=.seq ([k,k'].map λk=>Value.type (w9 k)).toArray};have S2:=Step.push R1 {cls:=.type "tuple",data:=.seq ([k,k'].map λk=>Value.type (w9 k)).toArray};have XK:=O.K.keeps R2.base;refine⟨XK,?_⟩;refine jj (zjp R2 (VRel.step S2 (λξ z=>z.elim) _ r1) g1) λH Z hH hne=>?_;exact kia_tup Z XK hH (Z5 _ rfl) (d8 G.K hu g1 hb) hne λtk=>q _ t1 _ ((S1.trans S2).trans (Step.toks _ _ _ tk)) (R2.toks tk) rfl
 .exact zb e
end
end Internal
end
section
set_option maxRecDepth 100000
namespace Internal
open PySem PySem.W PyProof.Rows
section
variable {G:Gd}{N:Names}{C:Calls}{d:Dp}{sc:Sc}{Γ:Gam}{A:Xe}{t:Tie}{st st':MS}{s:Xa}{env:Env}{loc:Loc}{X Y Z:V}{v w:Xb}
theorem zfx(k k':Xv)(u y:Xb)(r:Xd (Xv×Xb))(h:k'≠k):stored ((k',u)::r) k y=(k',u)::stored r k y:=by
 unfold stored;simp only[List.any_cons,h,decide_false,Bool.false_or,Zz,Xq];split<;>rfl
theorem zfy(k:Xv)(u y:Xb)(r:Xd (Xv×Xb))(h:k ∉ r.map (·.1)):stored ((k,u)::r) k y=(k,y)::r:=by
 unfold stored;simp only[List.any_cons,decide_true,Bool.true_or,if_true,Zz];congr 1
 conv=>rhs;rw[<- Q1 r]
 refine Jw λp hp=>?_;rw[Zh (λz=>h (Z1.mpr ⟨p,hp,z⟩))];rfl
theorem zbc{a b:Xd Nat}(h:qa a=qa b):a=b:=by
 have:=Qd (λz=>z.cps.toList) h;simpa [qa] using this
theorem DRel.put{h:Heap}{x:Xd Nat}{y:Xb}:∀{dd:Xd (V×V)}{kvs:Xd (Xv×Xb)},DRel t h dd kvs->(kvs.map (·.1)).Nodup->VRel t h Y y->DRel t h (fx (.str x) Y dd) (stored kvs (qa x) y)
 | [],_,e,_,r=>by subst e;exact⟨x,y,[],rfl,rfl,r,rfl⟩
 |(k,u)::r,_,⟨z,y',rest,e1,e2,e3,e4⟩,nd,ry=>by
  subst e1;subst e2;rw[Zz,Qu]at nd;by_cases q:z=x
  .subst q;rw[zfy _ _ _ _ nd.1];have hh:fx (.str z) Y ((V.str z,u)::r)=(V.str z,Y)::r:=Zg (Zb rfl);rw[hh];exact⟨z,y,rest,rfl,rfl,ry,e4⟩
  .have q':qa z≠qa x:=λe=>q (zbc e);rw[zfx _ _ _ _ _ q'];have hh:fx (.str x) Y ((V.str z,u)::r)=(V.str z,u)::fx (.str x) Y r:=Zh (by rw[show sr (V.str z) (V.str x)=decide (z=x) from rfl,Zc q];exact Z8);rw[hh];exact⟨z,y',_,rfl,rfl,e3,DRel.put e4 nd.2 ry⟩
theorem DRel.length{h:Heap}:∀{dd:Xd (V×V)}{kvs:Xd (Xv×Xb)},DRel t h dd kvs->kvs.length=dd.length
 | [],_,e=>by subst e;rfl
 |(k,u)::r,_,⟨z,y',rest,e1,e2,e3,e4⟩=>by subst e2;simp[DRel.length e4]
theorem zd0{h:Heap}{a:Addr}{kvs:Xd (Xv×Xb)}(hd:h.DictOf (strKind G.prog G.w) a kvs):(h.get? a).isSome=true:=by
 refine bp hd λo es ep ho ξ=>?_;rw[ho];rfl
variable{U:V}{u:Xb}{r:Unit}
theorem zqs(R:Rel G t st s)(hX:VRel t s.heap X v)(hY:VRel t s.heap Y w)(hU:VRel t s.heap U u)(e:(match dictAt X st with
  |some p=>if Y.isKey/\p.2.length<zi then Res.ok () (st.put p.1 (.dict (fx Y U p.2))) else .stuck
  |.none=>.stuck)=.ok r st'):Sim G A t s (PySem.setItem v w u) st' (λξ ξ ξ=>True):=by
 refine zd (zwf e) λp hp e=>?_;refine zn (xu e) λhk e=>?_;refine zn (xh e) λeq0 eq1=>?_;subst eq0;subst eq1;refine wz (bx R hX hp) λa kvs eq2 h1 h2 h3 h4=>?_;subst eq2;refine zr (zak hk.1) λx eq1=>?_;subst eq1;refine zr hY λk eq1=>?_;subst eq1;intro Q E q;have nd:(kvs.map (·.1)).Nodup:=let ⟨o,es,ep,a1,a2,a3,a4,a5,a6⟩:=h2;a6
 refine wpAny_setItem_pairs (strKind_is G.prog G.w (qa x) k) h2 (λh' hd hs=>?_) (by rw[h3.length];exact Qn hk.2);have hl:=zd0 hd;have S:=Step.upd (t:=t) (s:=s) (tk:=s.toks+1) ⟨p.1,.inl h1⟩ hl hs;exact q _ t.tick _ S (R.upd (l:=p.1) (.inl h1) hl hs (by rw[h4];exact λz=>za z.symm) ⟨a,_,h1,hd,DRel.step S (λξ z=>z.elim) (DRel.put h3 nd hU)⟩) trivial
theorem p9(R:Rel G t st s)(hX:VRel t s.heap X v)(hY:VRel t s.heap Y w)(hU:VRel t s.heap U u)(e:setItem X Y U st=.ok r st'):Sim G A t s (PySem.setItem v w u) st' (λξ ξ ξ=>True):=by
 exact zqs R hX hY hU e
theorem zmf(O:G.Ok N){kd:Nat}{pos:Pos}:qe G C d sc Γ (.dictM kd [] []) (.Dict [] [] pos):=by
 intro t st s env loc X st' A hA hsc F R e Q E k;simp only[zd7,zbw,yo,Res.bind]at e;rw[Zg ⟨rfl,by decide,Qv⟩]at e;obtain⟨rfl,rfl⟩:X=.ref (kd,st.cnt kd)/\st'=st.new kd (.dict []):=by cases e;exact⟨rfl,rfl⟩
 refine wpAny_Dict_empty ?_;have hk:∀b o,s.heap.get? b=some o->(s.heap.push ({cls:=.type "dict",data:=.dict #[]}:Obj)).get? b=some o:=λξ ξ e=>Zn _ e;have S:=Step.bind (k:=kd) (d:=none) (s':={s with heap:=s.heap.push {cls:=.type "dict",data:=.dict #[]}}) R hk rfl rfl (qr _) (λx e=>by exact za e);have rho:(t.bind (kd,st.cnt kd) s.heap.objs.size none).ρ (kd,st.cnt kd)=some s.heap.objs.size:=by simp[Tie.bind]
 refine k _ _ _ S (Rel.bind R hk rfl rfl (qr _) (λx e=>by exact za e) ?_ (R.size_sys O) ⟨_,[],rho,?_,rfl⟩) ⟨_,rfl,rho⟩
 .show((s.heap.push _).get? _).isSome=true;rw[Z5 _ rfl];rfl
 .exact Heap.DictOf.new _
end
end Internal
end
section
set_option maxRecDepth 100000
namespace Internal
open PySem PySem.W PyProof.Rows
section
variable {G:Gd}{N:Names}{C:Calls}{d:Dp}{sc:Sc}{Γ:Gam}{A:Xe}{t:Tie}{st st':MS}{s:Xa}{env:Env}{loc:Loc}{X Y Z:V}{v w:Xb}
variable{s':Xa}{P:Addr->Prop}
theorem Rel.hideGrow(R:Rel G t st s){l₁:Xd Env}(np:∀a,P a->s.heap.get? a=none)(hk:∀b o,s.heap.get? b=some o->s'.heap.get? b=some o)(hl:∀a,P a->(s'.heap.get? a).isSome=true)(hg:s'.gens=s.gens)(ho:s'.os=s.os):
  Rel G (t.hideS P l₁) st s' where
 base b o e:=hk b o (R.base b o e)
 apart a q:=by
  rcases q with q|q|q
  .exact R.apart a (.inl q)
  .exact R.apart a (.inr q)
  .cases z:G.h₀.get? a with
   |none=>rfl
   |some o=>have:=R.base a o z;rw[np a q]at this;exact za this
 live a q:=by
  have old:t.Avoid a->(s'.heap.get? a).isSome=true:=λq=>by obtain⟨o,e⟩:=Jh.mp (R.live a q);rw[hk a o e];rfl
  rcases q with q|q|q
  .exact old (.inl q)
  .exact old (.inr q)
  .exact hl a q
 pv a q o:=by
  rcases q with q|q
  .exact R.pv a q o
  .have:=R.live a (.inl o);rw[np a q]at this;exact qi this
 injρ:=R.injρ
 injδ:=R.injδ
 two:=R.two
 objs l o e:=by
  have S:Step noX (t.hideS P l₁) (t.hideS P l₁) s s':=⟨.refl _,λa o e ξ ξ ξ=>hk a o e,λa o e ξ ξ ξ=>⟨o.slots,hk a o e⟩,λξ o=>.inl o,λa o e=>by rw[hk a o e];rfl,hg,ho⟩
  exact(ObjOk.map (t:=t) (t':=t.hideS P l₁) (λξ ξ e=>e) (λξ ξ e=>e) (Tie.hid np) (λξ ξ ξ e=>e) (R.objs l o e)).step S (λξ x=>x.elim) λa o ξ e=>hk a o e
 cnt:=R.cnt
 sys:=R.sys
 wr:=R.wr
structure Forget(P L:Addr->Prop)(t₁ t₂:Tie)(s₁ s₂:Xa):Prop where
 ρ:t₂.ρ=t₁.ρ
 δ:t₂.δ=t₁.δ
 pv:∀a,t₂.pv a->t₁.pv a/\¬P a
 hP:∀a,P a->t₁.pv a
 hL:∀a,L a->t₁.pv a/\(s₂.heap.get? a).isSome=true
 keep:∀b o,¬P b->¬L b->s₁.heap.get? b=some o->s₂.heap.get? b=some o
 gens:s₂.gens=s₁.gens
 os:s₂.os=s₁.os
 wr:t₂.wr=t₁.wr
variable{L:Addr->Prop}{t₁ t₂:Tie}{s₁ s₂:Xa}{a:Addr}
theorem Forget.own(F:Forget P L t₁ t₂ s₁ s₂):t₂.Own a↔t₁.Own a:=by
 unfold Tie.Own;rw[F.ρ,F.δ]
theorem Forget.avoid(F:Forget P L t₁ t₂ s₁ s₂)(h:¬t₁.Avoid a):¬t₂.Avoid a:=λq=>h (q.imp F.own.mp λz=>(F.pv a z).1)
theorem Forget.val(F:Forget P L t₁ t₂ s₁ s₂)(a:Addr)(o:Obj)(na:¬t₁.Avoid a)(ho:s₁.heap.get? a=some o):s₂.heap.get? a=some o/\¬t₂.Avoid a :=
 ⟨F.keep _ _ (λq=>na (.inr (F.hP a q))) (λq=>na (.inr (F.hL a q).1)) ho,F.avoid na⟩
theorem VRel.forget(F:Forget P L t₁ t₂ s₁ s₂)(x:V){v:Xb}(r:VRel t₁ s₁.heap x v):VRel t₂ s₂.heap x v:=VRel.map (λξ ξ e=>by rw[F.ρ];exact e) F.val x r
theorem VRels.forget(F:Forget P L t₁ t₂ s₁ s₂)(l:Xd V){vs:Xd Xb}(r:VRels t₁ s₁.heap l vs):VRels t₂ s₂.heap l vs:=VRels.map (λξ ξ e=>by rw[F.ρ];exact e) F.val l r
theorem Rel.forget(F:Forget P L t₁ t₂ s₁ s₂)(R:Rel G t₁ st s₁):Rel G t₂ st s₂:=by
 have nP:∀{a},t₁.Own a->¬P a:=λ{a} o q=>R.pv a (F.hP a q) o;have nL:∀{a},t₁.Own a->¬L a:=λ{a} o q=>R.pv a (F.hL a q).1 o;have up:∀{a},t₂.Avoid a->t₁.Avoid a/\¬P a:=λ{a} q=>q.elim (λq=>⟨.inl (F.own.mp q),nP (F.own.mp q)⟩) λq=>⟨.inr (F.pv a q).1,(F.pv a q).2⟩;refine⟨λb o e=>F.keep b o (λq=>?_) (λq=>?_) (R.base b o e),λa q=>R.apart a (up q).1,λa q=>?_,λa q o=>R.pv a (F.pv a q).1 (F.own.mp o),?_,?_,?_,?_,?_,?_,F.wr.trans R.wr⟩
 .rw[R.apart b (.inr (F.hP b q))]at e;exact za e
 .rw[R.apart b (.inr (F.hL b q).1)]at e;exact za e
 .by_cases ql:L a
  .exact(F.hL a ql).2
  .obtain⟨o,e⟩:=Jh.mp (R.live a (up q).1);rw[F.keep a o (up q).2 ql e];rfl
 .rw[F.ρ];exact R.injρ
 .rw[F.δ];exact R.injδ
 .rw[F.ρ,F.δ];exact R.two
 .intro l o e;exact ObjOk.map (λξ ξ e=>by rw[F.ρ];exact e) (λξ ξ e=>by rw[F.δ];exact e) F.val (λa ob q e=>F.keep a ob (nP ⟨l,q⟩) (nL ⟨l,q⟩) e) (R.objs l o e)
 .rw[F.ρ,F.δ];exact R.cnt
 .rw[F.ρ];exact R.sys
theorem Step.unhideS{X:Addr->Prop}{s₀:Xa}{l:Xd Env}(hl:∀e,e∈l->e∈t.st\/∀a,e.frame=some a->P a)(hl':∀e,e∈t.st->e∈l)(hX:∀a,X a->P a\/L a)(np:∀a,P a->s.heap.get? a=none)(hk:∀b o,s.heap.get? b=some o->s₀.heap.get? b=some o)(hg:s₀.gens=s.gens)(ho:s₀.os=s.os)(S:Step X (t.hideS P l) t₁ s₀ s₁)(F:Forget P L t₁ {t₁ with pv:=t.pv,st:=t.st} s₁ s₂):Step L t {t₁ with pv:=t.pv,st:=t.st} s s₂ where
 le:=⟨S.le.ρ,S.le.δ,rfl,S.le.wr,rfl⟩
 slots a o e n nl f:=by
  have nP:¬P a:=λq=>by rw[np a q]at e;exact za e
  refine zr (S.slots a o (hk a o e) n (λq=>(hX a q).elim nP nl) ⟨.inl f.1,let ⟨e,h1,h2⟩:=f.2;⟨e,hl' e h1,h2⟩⟩) λsl e1=>?_;exact⟨sl,F.keep a _ nP nl e1⟩
 keepW a o e n nl nf:=by
  have nP:¬P a:=λq=>by rw[np a q]at e;exact za e
  exact F.keep a o nP nl (S.keepW a o (hk a o e) n (λq=>(hX a q).elim nP nl) λq=>let ⟨e,h1,h2⟩:=q.2;nf ⟨q.1.elim id λq=>(nP q).elim,e,(hl e h1).resolve_right λz=>nP (z a h2),h2⟩)
 new a o:=by
  rcases S.new a o with q|q
  .exact .inl q
  .right;cases z:s.heap.get? a with
   |none=>rfl
   |some ob=>rw[hk a ob z]at q;cases q
 live a o e:=by
  have nP:¬P a:=λq=>by rw[np a q]at e;exact za e
  by_cases ql:L a
  .exact(F.hL a ql).2
  .refine zr (Jh.mp (S.live a o (hk a o e))) λo' e'=>?_;rw[F.keep a o' nP ql e'];rfl
 gens:=F.gens.trans (S.gens.trans hg)
 os:=F.os.trans (S.os.trans ho)
theorem Step.unhide{P X L:Addr->Prop}{t₁:Tie}{s₀ s₁ s₂:Xa}(hX:∀a,X a->P a\/L a)(np:∀a,P a->s.heap.get? a=none)(hk:∀b o,s.heap.get? b=some o->s₀.heap.get? b=some o)(hg:s₀.gens=s.gens)(ho:s₀.os=s.os)(S:Step X (t.hide P) t₁ s₀ s₁)(F:Forget P L t₁ {t₁ with pv:=t.pv,st:=t.st} s₁ s₂):Step L t {t₁ with pv:=t.pv,st:=t.st} s s₂ :=
 Step.unhideS (l:=t.st) (λξ h=>.inl h) (λξ h=>h) hX np hk hg ho S F
variable{h':Heap}{tk:Nat}
theorem Step.priv{X:Addr->Prop}(hX:X a)(hl:(h'.get? a).isSome=true)(hs:J8 a s.heap h'):Step X t t s {s with heap:=h',toks:=tk} :=
 ⟨.refl t,λb o e ξ nx ξ=>(hs.2 b λ(q:b=a)=>nx (q▸hX)).trans e,λb o e ξ nx ξ=>⟨o.slots,(hs.2 b λ(q:b=a)=>nx (q▸hX)).trans e⟩,λξ o=>.inl o,λb o e=>by
  by_cases q:b=a
  .subst q;exact hl
  .show(h'.get? b).isSome=true;rw[hs.2 b q,e];rfl,rfl,rfl⟩
theorem Rel.priv(R:Rel G t st s)(hp:t.pv a)(hl:(h'.get? a).isSome=true)(hs:J8 a s.heap h'):Rel G t st {s with heap:=h',toks:=tk}:=by
 have S:Step (·=a) t t s {s with heap:=h',toks:=tk}:=Step.priv rfl hl hs;have hp':∀b,b=a->t.pv b:=λb z=>by rw[z];exact hp
 refine⟨λb o e=>(hs.2 b λ(q:b=a)=>?_).trans (R.base b o e),R.apart,λb q=>?_,R.pv,R.injρ,R.injδ,R.two,λl o e=>(R.objs l o e).step S hp' λb ob hb eb=>(hs.2 b λ(q:b=a)=>?_).trans eb,R.cnt,R.sys,R.wr⟩
 .rw[q,R.apart a (.inr hp)]at e;exact za e
 .by_cases z:b=a
  .subst z;exact hl
  .show(h'.get? b).isSome=true;rw[hs.2 b z];exact R.live b q
 .subst q;exact R.pv b hp ⟨l,hb⟩
noncomputable def Tie.adopt(t:Tie)(l:Lbl)(D:Addr)(pv':Addr->Prop):Tie:=⟨λx=>if x=l then some D else t.ρ x,λx=>if x=l then none else t.δ x,pv',t.wr,t.st⟩
variable{D:Addr}
set_option tactic.hygienic true in
theorem Rel.adopt(R:Rel G t st s){k:Nat}{o:MObj}{pv':Addr->Prop}(pD:t.pv D)(hpv:∀a,t.pv a↔pv' a\/a=D)(nD:¬pv' D)(hsys:D≠sysModules)(hO:(∀(X:V)(v:Xb),VRel t s.heap X v->VRel (t.adopt (k,st.cnt k) D pv') s.heap X v)->ObjOk G (t.adopt (k,st.cnt k) D pv') s.heap (k,st.cnt k) o):
  Rel G (t.adopt (k,st.cnt k) D pv') (st.new k o) s/\(∀l a,t.ρ l=some a->(t.adopt (k,st.cnt k) D pv').ρ l=some a) /\
   (∀a o,¬t.Avoid a->s.heap.get? a=some o->s.heap.get? a=some o/\¬Tie.Avoid (t.adopt (k,st.cnt k) D pv') a):=by
 refine xg (R.cnt k _ (Zs _)) λc1 c2 c3=>?_;have hρ:∀l a,t.ρ l=some a->(t.adopt (k,st.cnt k) D pv').ρ l=some a:=λl a e=>by
  show(if l=(k,st.cnt k) then some D else t.ρ l)=some a;rw[Zh (λq=>by rw[q,c1]at e;exact za e)];exact e
 have hδ:∀l a,t.δ l=some a->(t.adopt (k,st.cnt k) D pv').δ l=some a:=λl a e=>by
  show(if l=(k,st.cnt k) then none else t.δ l)=some a;rw[Zh (λq=>by rw[q,c2]at e;exact za e)];exact e
 have nr:∀{l:Lbl}{b:Addr},(t.adopt (k,st.cnt k) D pv').ρ l=some b->(l=(k,st.cnt k)/\b=D)\/(l≠(k,st.cnt k)/\t.ρ l=some b):=λ{l b} e=>by
  change (if l=(k,st.cnt k) then some D else t.ρ l)=some b at e;split at e
  .rename_i q;obtain rfl:=Je e;exact .inl ⟨q,rfl⟩
  .rename_i q;exact .inr ⟨q,e⟩
 have nd:∀{l:Lbl}{b:Addr},(t.adopt (k,st.cnt k) D pv').δ l=some b->t.δ l=some b:=λ{l b} e=>by
  change (if l=(k,st.cnt k) then none else t.δ l)=some b at e;split at e
  .exact za e
  .exact e
 have nO:=R.pv D pD;have up:∀a,Tie.Avoid (t.adopt (k,st.cnt k) D pv') a->t.Avoid a:=by
  rintro a (⟨l,e|e⟩|e)
  .rcases nr e with ⟨_,rfl⟩|⟨_,e⟩
   .exact .inr pD
   .exact .inl ⟨l,.inl e⟩
  .exact .inl ⟨l,.inr (nd e)⟩
  .exact .inr ((hpv a).2 (.inl e))
 have kp:∀a o,¬t.Avoid a->s.heap.get? a=some o->s.heap.get? a=some o/\¬Tie.Avoid (t.adopt (k,st.cnt k) D pv') a:=λa o na e=>⟨e,λq=>na (up a q)⟩;refine⟨⟨R.base,λa q=>R.apart a (up a q),λa q=>R.live a (up a q),?_,?_,?_,?_,?_,?_,λl e=>?_,R.wr⟩,hρ,kp⟩
 .rintro a q ⟨l,e|e⟩
  .rcases nr e with ⟨_,rfl⟩|⟨_,e⟩
   .exact nD q
   .exact R.pv a ((hpv a).2 (.inl q)) ⟨l,.inl e⟩
  .exact R.pv a ((hpv a).2 (.inl q)) ⟨l,.inr (nd e)⟩
 .intro l l' b e e';rcases nr e with ⟨q1,z1⟩|⟨_,e1⟩<;>rcases nr e' with ⟨q,z⟩|⟨_,e2⟩
  .exact q1.trans q.symm
  .exact(nO ⟨l',.inl (z1▸e2)⟩).elim
  .exact(nO ⟨l,.inl (z▸e1)⟩).elim
  .exact R.injρ l l' b e1 e2
 .exact λl l' b e e'=>R.injδ l l' b (nd e) (nd e')
 .intro l l' b e e';rcases nr e with ⟨_,z⟩|⟨_,e⟩
  .exact nO ⟨l',.inr (z▸nd e')⟩
  .exact R.two l l' b e (nd e')
 .intro l o' e;change (if l=(k,st.cnt k) then some o else st.heap l)=some o' at e;split at e
  .rename_i q;obtain rfl:=Je e;subst q;exact hO λX v r=>VRel.map hρ kp X r
  .exact ObjOk.map (t:=t) (t':=t.adopt (k,st.cnt k) D pv') hρ hδ kp (λξ ξ ξ e=>e) (R.objs l o' e)
 .intro k' i e;change (if k'=k then st.cnt k+1 else st.cnt k')<=i at e;have ne:(k',i)≠(k,st.cnt k):=λq=>by refine zn (Prod.mk.inj q) λeq0 eq1=>?_;subst eq0;subst eq1;rw[Zg rfl]at e;lia
  have le:st.cnt k'<=i:=by
   by_cases q:k'=k
   .subst q;rw[Zg rfl]at e;lia
   .rw[Zh q]at e;exact e
  refine xg (R.cnt k' i le) λd1 d2 d3=>?_;exact⟨(Zh ne).trans d1,(Zh ne).trans d2,(Zh ne).trans d3⟩
 .rcases nr e with ⟨_,z⟩|⟨_,z⟩
  .exact hsys z.symm
  .exact R.sys l z
theorem Step.own{X:Addr->Prop}{t':Tie}(S:Step X t t' s s'){l:Lbl}(hD:s.heap.get? D=none)(hl:t'.ρ l=none)(hl2:t'.δ l=none):Step X t (t'.adopt l D t'.pv) s s' where
 le:=⟨λx a e=>by
   have e:=S.le.ρ x a e;show(if x=l then some D else t'.ρ x)=some a;rw[Zh (λq=>by rw[q,hl]at e;exact za e)];exact e,λx a e=>by
   have e:=S.le.δ x a e;show(if x=l then none else t'.δ x)=some a;rw[Zh (λq=>by rw[q,hl2]at e;exact za e)];exact e,S.le.pv,S.le.wr,S.le.st⟩
 keepW:=S.keepW
 slots:=S.slots
 new a:=by
  rintro⟨x,e|e⟩
  .change (if x=l then some D else t'.ρ x)=some a at e;split at e
   .obtain rfl:=Je e;exact .inr hD
   .exact S.new a ⟨x,.inl e⟩
  .change (if x=l then none else t'.δ x)=some a at e;split at e
   .exact za e
   .exact S.new a ⟨x,.inr e⟩
 live:=S.live
 gens:=S.gens
 os:=S.os
end
end Internal
end
section
set_option maxRecDepth 100000
namespace Internal
open PySem PySem.W PyProof.Rows
section
variable {G:Gd}{N:Names}{C:Calls}{d:Dp}{sc:Sc}{Γ:Gam}{A:Xe}{t:Tie}{st st':MS}{s:Xa}{env:Env}{loc:Loc}{X Y Z:V}{v w:Xb}
noncomputable def ItQ(st₀:MS)(t:Tie)(s:Xa)(I:Addr)(src:V)(i:Nat):Prop :=
 ∃(k:Bool)(l:Xd V)(a:Addr),z4 st₀ src=some (k,l)/\VRel t s.heap src (.ref a)/\(if k=true then s.heap.IsListIter I a i else s.heap.IsTupleIter I a i)
noncomputable def ItD(G:Gd)(st₀:MS)(t:Tie)(s:Xa)(I:Addr)(src:V)(i:Nat):Prop :=
 ∃(r:Lbl) (dd:Xd (V×V)) (a:Addr) (kvs:Xd (Xv×Xb)) (ep:Nat),src=.ref r/\dictAt src st₀=some (r,dd)/\t.ρ r=some a/\(∀j:Nat,∀x,(dd.map (·.1))[j]?=some x->∃y v,x=.str y/\kvs[j]?=some (qa y,v))/\kvs.length=dd.length/\a≠I/\st₀.wr<=t.wr/\s.heap.IsKeyIter I a i kvs.length ep /\
  (t.wr=st₀.wr->s.heap.DictAt (strKind G.prog G.w) a kvs ep)
noncomputable def ItS(s:Xa)(I:Addr)(src:V)(i:Nat):Prop :=
 ∃(x:Xd Nat)(tk:Tok),src=.str x/\s.heap.IsStrIter I "str_ascii_iterator" (qa x) tk i
noncomputable def ItOk(G:Gd)(st₀:MS)(t:Tie)(s:Xa)(I:Addr)(range:Bool)(src:V)(i:Nat):Prop :=
 match range with
 |true=>∃n:Int,src=.int n/\IsRangeIter s.heap I i ((n.toNat:Int)-i) 1
 |false=>ItQ st₀ t s I src i\/ItD G st₀ t s I src i\/ItS s I src i
noncomputable abbrev zbh (I:Addr) (s s':Xa):Prop:=∀o,s.heap.get? I=some o->s'.heap.get? I=some o
variable{st₀:MS}{I:Addr}{src:V}{i:Nat}{t':Tie}{s':Xa}
theorem ItQ.step{X:Addr->Prop}(h:ItQ st₀ t s I src i)(S:Step X t t' s s')(xp:∀a,X a->t.pv a)(hk:zbh I s s'):ItQ st₀ t' s' I src i:=by
 refine gy h λk l a e r h=>?_;refine⟨k,l,a,e,VRel.step S xp _ r,?_⟩;cases k with
 |true=>exact Exists.elim (show s.heap.IsListIter I a i from h) λo h=>(⟨o,hk o h.1,h.2⟩:s'.heap.IsListIter I a i)
 |false=>exact Exists.elim (show s.heap.IsTupleIter I a i from h) λo h=>(⟨o,hk o h.1,h.2⟩:s'.heap.IsTupleIter I a i)
theorem z33{a b c:Nat}(h1:a<=b)(h2:b<=c)(q:c=a):c=b/\b=a:=by subst q;exact⟨Nat.le_antisymm h1 h2,Nat.le_antisymm h2 h1⟩
theorem ItD.step{X:Addr->Prop}(h:ItD G st₀ t s I src i)(S:Step X t t' s s')(xp:∀a,X a->t.pv a)(hp:∀a,t.pv a->¬t.Own a)(hk:zbh I s s'):ItD G st₀ t' s' I src i:=by
 refine zvb h λr dd a kvs ep e1 e2 ea e3 e4 e5 e6 nq12 e8=>?_;obtain⟨o,h1,h2⟩:=nq12;refine⟨r,dd,a,kvs,ep,e1,e2,S.le.ρ _ _ ea,e3,e4,e5,Zp e6 S.le.wr,⟨o,hk o h1,h2⟩,λq=>?_⟩;have hw:=z33 e6 S.le.wr q;refine zf (e8 hw.2) λod es q1 q2=>?_;exact⟨od,es,S.keepW _ _ q1 (λξ=>hw.1) (λhx=>hp a (xp a hx) ⟨r,.inl ea⟩) (λf=>hp a f.1 ⟨r,.inl ea⟩),q2⟩
theorem ItS.step(h:ItS s I src i)(hk:zbh I s s'):ItS s' I src i:=by
 obtain⟨x,tk,e1,o,h1,h2⟩:=h;exact⟨x,tk,e1,o,hk o h1,h2⟩
variable{range:Bool}
theorem ItOk.step{X:Addr->Prop}(h:ItOk G st₀ t s I range src i)(S:Step X t t' s s')(xp:∀a,X a->t.pv a)(hp:∀a,t.pv a->¬t.Own a)(pI:t.pv I)(hX:¬X I)(nF:¬t.Fr I):ItOk G st₀ t' s' I range src i:=by
 have hk:zbh I s s':=λo h=>S.keep _ _ h (hp I pI) hX nF;cases range with
 |true =>
  refine zd h λn e h=>?_;exact⟨n,e,hk _ h⟩
 |false=>exact h.imp (λh=>h.step S xp hk) λh=>h.imp (λh=>h.step S xp hp hk) λh=>h.step hk
variable{st:MS}
theorem cr(h:stays st₀ st false src=true):z4 st src=z4 st₀ src:=by
 cases src with
 |ref r =>
  have h:st₀.heap r=st.heap r:=Za (Zj.1 h).1;show(match st.heap r with|some (.list l)=>some (true,l)|_=>none)=(match st₀.heap r with|some (.list l)=>some (true,l)|_=>none);rw[h]
 |_=>rfl
theorem tt{p:Bool×Xd V}(h:z4 st src=some p):dictAt src st=none:=by
 cases src with
 |ref r =>
  show(match st.heap r with|some (.dict l)=>some (r,l)|_=>none)=none;have h:(match st.heap r with|some (.list l)=>some (true,l)|_=>none)=some p:=h;cases e:st.heap r with
  |none=>rfl
  |some o=>rw[e]at h;cases o<;>first|rfl|exact za h
 |_=>rfl
theorem DRel.keyAt{h:Heap}:∀{dd:Xd (V×V)}{kvs:Xd (Xv×Xb)},DRel t h dd kvs->∀(j:Nat)(x:V),(dd.map (·.1))[j]?=some x->∃y v,x=.str y/\kvs[j]?=some (qa y,v)
 | [],_,_,j,x,e=>by exact za e
 |(k,u)::r,_,⟨z,y,rest,e1,e2,_,_⟩,0,x,e=>by subst e1 e2;obtain rfl:=Je e;exact⟨z,y,rfl,rfl⟩
 |(k,u)::r,_,⟨z,y,rest,e1,e2,_,e4⟩,j+1,x,e=>by subst e2;exact DRel.keyAt e4 j x e
theorem zao{p:Bool×Xd V}(h:z4 st src=some p):z8 st false src=some p.2:=by
 cases src with
 |str=>exact za h
 |ref r =>
  show(match dictAt (.ref r) st with|some p=>some (p.2.map λq:V×V=>q.1)|none=>(z4 st (.ref r)).map λq:Bool×Xd V=>q.2)=_;rw[tt h,h];rfl
 |_=>cases h<;>rfl
variable{r:Lbl}
theorem zan{p:Lbl×Xd (V×V)}(h:dictAt (.ref r) st=some p):z8 st false (.ref r)=some (p.2.map (·.1)):=by
 show(match dictAt (.ref r) st with|some p=>some (p.2.map λq:V×V=>q.1)|none=>(z4 st (.ref r)).map λq:Bool×Xd V=>q.2)=_;rw[h]
theorem zfu{p:Lbl×Xd (V×V)}(h:stays st₀ st false (.ref r)=true)(hd:dictAt (.ref r) st₀=some p):st₀.wr=st.wr:=by
 have h:((dictAt (.ref r) st₀).isNone||decide (st₀.wr=st.wr))=true:=(Zj.1 h).2;rw[hd]at h;exact Za h
variable{xs:Xd V}
theorem zap{x:Xd Nat}(h:z8 st false (.str x)=some xs):xs=x.map λc=>V.str [c]:=by
 have h:(if x.all (λc=>decide (c<128))=true then some (x.map λc=>V.str [c]) else none)=some xs:=h;split at h<;>cases h;rfl
set_option tactic.hygienic true in
theorem zky{x:Xd Nat}(h:z8 st false (.str x)=some xs):(qa x).cps.all (·<128)=true:=by
 have h:(if x.all (λc=>decide (c<128))=true then some (x.map λc=>V.str [c]) else none)=some xs:=h;split at h
 .rename_i hh;rw[<- hh];simp[qa]
 .exact za h
variable{x:V}{Q:Xc Xb->Xa->Prop}
theorem zpk{E:Xb->Xa->Prop}(R:Rel G t st s)(hI:t.pv I)(hx:z8 st₀ false src=some xs)(hs:stays st₀ st false src=true)(h:ItQ st₀ t s I src i)(hi:xs[i]?=some x)(q:∀v h' tk,Step (·=I) t t s {s with heap:=h',toks:=tk}->Rel G t st {s with heap:=h',toks:=tk}->VRel t h' x v->ItOk G st₀ t {s with heap:=h',toks:=tk} I false src (i+1)->Q (some v) {s with heap:=h',toks:=tk}):
  Xn G.M A (pyNext (.ref I)) Q E s:=by
 refine gy h λk l a e r h=>?_;rw[zao e]at hx;have hx:l=xs:=Je hx;subst hx;have e':z4 st src=some (k,l):=by rw[cr hs,e]
 refine qo (qx R r e') λa' vs ea io rr sz=>?_;cases ea;refine zd (VRels.get rr hi) λy y1 y2=>?_;rw[Jt]at y1;have xp:∀b,b=I->t.pv b:=λb z=>by rw[z];exact hI
 cases k with
 |true =>
  have h:s.heap.IsListIter I a i:=h;have io:PL s.heap a vs:=io;refine wpAny_pyNext_list_item h io.isList y1 λh' hit hs'=>?_;have hl:(h'.get? I).isSome=true:=by refine zd hit λo ho ξ=>?_;rw[ho];rfl
  have S:Step (·=I) t t s {s with heap:=h',toks:=s.toks}:=Step.priv rfl hl hs';exact q _ h' s.toks S (R.priv hI hl hs') (VRel.step S xp _ y2) (.inl ⟨true,l,a,e,VRel.step S xp _ r,hit⟩)
 |false =>
  have h:s.heap.IsTupleIter I a i:=h;have io:PT s.heap a vs:=io;refine wpAny_pyNext_tuple_item h io.isTuple y1 λh' hit hs'=>?_;have hl:(h'.get? I).isSome=true:=by refine zd hit λo ho ξ=>?_;rw[ho];rfl
  have S:Step (·=I) t t s {s with heap:=h',toks:=s.toks}:=Step.priv rfl hl hs';exact q _ h' s.toks S (R.priv hI hl hs') (VRel.step S xp _ y2) (.inl ⟨false,l,a,e,VRel.step S xp _ r,hit⟩)
theorem zlb{E:Xb->Xa->Prop}(R:Rel G t st s)(hI:t.pv I)(hx:z8 st₀ false src=some xs)(hs:stays st₀ st false src=true)(h:ItD G st₀ t s I src i)(hi:xs[i]?=some x)(q:∀v h' tk,Step (·=I) t t s {s with heap:=h',toks:=tk}->Rel G t st {s with heap:=h',toks:=tk}->VRel t h' x v->ItOk G st₀ t {s with heap:=h',toks:=tk} I false src (i+1)->Q (some v) {s with heap:=h',toks:=tk}):
  Xn G.M A (pyNext (.ref I)) Q E s:=by
 refine zvb h λr dd a kvs ep eq5 e2 ea e3 e4 e5 e6 e7 e8=>?_;subst eq5;have hw:t.wr=st₀.wr:=R.wr.trans (zfu hs e2).symm;rw[zan e2]at hx;obtain rfl:=Je hx;refine zf (e3 i x hi) λy v eq2 hy=>?_;subst eq2;have hd:=e8 hw;refine wpAny_pyNext_dict_item e7 hd hy λkey h' hk hit hs'=>?_;have hl:(h'.get? I).isSome=true:=by refine zd hit λo ho ξ=>?_;rw[ho];rfl
 have S:Step (·=I) t t s {s with heap:=h',toks:=s.toks}:=Step.priv rfl hl hs';refine zr (Value.isStrOf_shape hk) λtk eq1=>?_;subst eq1;refine q _ h' s.toks S (R.priv hI hl hs') ⟨tk,rfl⟩ (.inr (.inl ⟨r,dd,a,kvs,ep,rfl,e2,ea,e3,e4,e5,e6,hit,λξ=>?_⟩));refine zf hd λod es q1 q2=>?_;exact⟨od,es,(hs'.2 a e5).trans q1,q2⟩
theorem zpl{E:Xb->Xa->Prop}(R:Rel G t st s)(hI:t.pv I)(hx:z8 st₀ false src=some xs)(h:ItS s I src i)(hi:xs[i]?=some x)(q:∀v h' tk,Step (·=I) t t s {s with heap:=h',toks:=tk}->Rel G t st {s with heap:=h',toks:=tk}->VRel t h' x v->ItOk G st₀ t {s with heap:=h',toks:=tk} I false src (i+1)->Q (some v) {s with heap:=h',toks:=tk}):
  Xn G.M A (pyNext (.ref I)) Q E s:=by
 obtain⟨y,tk,rfl,h⟩:=h;rw[zap hx,Jq]at hi;obtain⟨c,hc,rfl⟩:=Jm.1 hi;refine wpAny_pyNext_ascii_item h (by rw[<- hc];exact List.getElem?_toArray) λh' hit hs'=>?_;have hl:(h'.get? I).isSome=true:=by obtain⟨o,ho,_⟩:=hit;rw[ho];rfl
 exact q _ h' _ (Step.priv rfl hl hs') (R.priv hI hl hs') ⟨_,rfl⟩ (.inr (.inr ⟨y,tk,rfl,hit⟩))
theorem zja{E:Xb->Xa->Prop}(R:Rel G t st s)(hI:t.pv I)(hx:z8 st₀ range src=some xs)(hs:stays st₀ st range src=true)(h:ItOk G st₀ t s I range src i)(hi:xs[i]?=some x)(q:∀v h' tk,Step (·=I) t t s {s with heap:=h',toks:=tk}->Rel G t st {s with heap:=h',toks:=tk}->VRel t h' x v->ItOk G st₀ t {s with heap:=h',toks:=tk} I range src (i+1)->Q (some v) {s with heap:=h',toks:=tk}):
  Xn G.M A (pyNext (.ref I)) Q E s:=by
 cases range with
 |true =>
  obtain⟨n,rfl,h⟩:=h;simp only[z8]at hx;split at hx
  .obtain rfl:=Je hx;have hlt:i<n.toNat:=by
    rw[Jq]at hi;obtain⟨j,hj,_⟩:=Jm.mp hi;rw[J3]at hj;simpa using hj.1
   have hxi:x=.int (i:Int):=by
    rw[Jq,List.getElem?_range hlt]at hi;obtain rfl:=Je hi;rfl
   subst hxi;refine wpAny_pyNext_range_item h (by lia) λh' hit hs'=>?_;have hl:(h'.get? I).isSome=true:=by rw[hit];rfl
   refine q _ h' _ (Step.priv rfl hl hs') (R.priv hI hl hs') ⟨_,rfl⟩ ⟨n,rfl,?_⟩;have e1:((i:Int)+1)=((i+1:Nat):Int):=by lia
   have e2:((n.toNat:Int)-i-1)=((n.toNat:Int)-((i+1:Nat):Int)):=by lia
   rw[<- e2,<- e1];exact hit
  .exact za hx
 |false =>
  rcases h with h|h|h
  .exact zpk R hI hx hs h hi q
  .exact zlb R hI hx hs h hi q
  .exact zpl R hI hx h hi q
theorem zot{E:Xb->Xa->Prop}(R:Rel G t st s)(hA:A.handled=none)(hx:z8 st₀ range src=some xs)(hs:stays st₀ st range src=true)(h:ItOk G st₀ t s I range src xs.length)(q:∀h' tk,Heap.ExtBut I s.heap h'->Q none {s with heap:=h',toks:=tk}):Xn G.M A (pyNext (.ref I)) Q E s:=by
 cases range with
 |true =>
  obtain⟨n,rfl,h⟩:=h;simp only[z8]at hx;split at hx
  .cases hx;rw[Zd,Zx]at h;exact wpAny_pyNext_range_end hA h (by lia) λh'=>q h' s.toks
  .exact za hx
 |false =>
  rcases h with ⟨k,l,a,e,r,h⟩|⟨r,dd,a,kvs,ep,rfl,e2,ea,e3,e4,e5,e6,e7,e8⟩|⟨x,tk,rfl,h⟩
  .rw[zao e]at hx;have hx:l=xs:=Je hx;subst hx;have e':z4 st src=some (k,l):=by rw[cr hs,e]
   obtain⟨a',vs,ea,io,rr,sz⟩:=qx R r e';cases ea;have hn:vs[l.length]?=none:=by rw[Array.getElem?_eq_none];rw[xr rr];exact Zs _
   cases k with
   |true=>exact wpAny_pyNext_list_end hA (h:s.heap.IsListIter I a _) (show PL s.heap a vs from io).isList hn λh'=>q h' s.toks
   |false=>exact wpAny_pyNext_tuple_end hA (h:s.heap.IsTupleIter I a _) (show PT s.heap a vs from io).isTuple hn λh'=>q h' s.toks
  .have hw:t.wr=st₀.wr:=R.wr.trans (zfu hs e2).symm;rw[zan e2]at hx;cases hx;exact wpAny_pyNext_dict_end hA e7 (e8 hw) (by rw[Zd,<- e4];exact List.getElem?_eq_none (Zs _)) λh'=>q h' s.toks
  .exact wpAny_pyNext_ascii_end hA h (by rw[zap hx,Zd];exact Array.getElem?_eq_none (by simp[qa])) λh'=>q h' s.toks
theorem zsx{Q:Xb->Xa->Prop}{E:Xb->Xa->Prop}(R:Rel G t st₀ s)(hA:A.handled=none)(h:ItOk G st₀ t s I range src i)(q:Q (.ref I) s):Xn G.M A (pyIter (.ref I)) Q E s:=by
 cases range with
 |true =>
  obtain⟨n,rfl,h⟩:=h;refine(Walks.range hA I 0 1 n.toNat).self i s Q E ?_ q;have e1:(0:Int)+(i:Int)*1=i:=by lia
  rw[e1];exact h
 |false =>
  rcases h with ⟨k,l,a,e,r,h⟩|⟨r,dd,a,kvs,ep,rfl,e2,ea,e3,e4,e5,e6,e7,e8⟩|⟨x,tk,rfl,h⟩
  .obtain⟨a',vs,ea,io,rr,sz⟩:=qx R r e;cases ea;cases k with
   |true =>
    have h:s.heap.IsListIter I a i:=h;have io:PL s.heap a vs:=io;have hne:a≠I:=λz=>by
     obtain⟨o,h1,h2,_⟩:=h;obtain⟨n,h3⟩:=io;rw[z,h1]at h3;cases h3;exact absurd (show Value.type "list"=Value.type "list_iterator" from h2) (by decide)
    exact(Walks.list hA I a hne vs).self i s Q E ⟨h,io.isList⟩ q
   |false =>
    have h:s.heap.IsTupleIter I a i:=h;have io:PT s.heap a vs:=io;have hne:a≠I:=λz=>by
     obtain⟨o,h1,h2,_⟩:=h;obtain⟨n,h3⟩:=io;rw[z,h1]at h3;cases h3;exact absurd (show Value.type "tuple"=Value.type "tuple_iterator" from h2) (by decide)
    exact(Walks.tuple hA I a hne vs).self i s Q E ⟨h,io.isTuple⟩ q
  .exact wpAny_pyIter_keyiter e7 q
  .exact wpAny_pyIter_striter_ascii h q
set_option genCtorIdx true in
inductive IterAst(sc:Sc):Bool->Xu->Xu->Prop
 |plain (j:Xu):IterAst sc false j j
 |range {rp rpos:Pos}{j:Xu} (hg:ku sc "range"=true) (hj:isStarred j=false):IterAst sc true (.Call (.Name "range" rp) [j] [] rpos) j
noncomputable def ItK(G:Gd)(t:Tie)(σ:Xa)(st:MS)(range:Bool)(src:V)(K:Xb->Xa->Prop):Prop :=
 ∀σ2 I,(∀b o,σ.heap.get? b=some o->σ2.heap.get? b=some o)->σ.heap.get? I=none->(σ2.heap.get? I).isSome=true->σ2.gens=σ.gens->σ2.os=σ.os->
   (∀(t':Tie)(s':Xa),(∀a,VRel t σ.heap src (.ref a)->VRel t' s'.heap src (.ref a))->t'.wr=t.wr->(∀b o,σ2.heap.get? b=some o->s'.heap.get? b=some o)->ItOk G st t' s' I range src 0)->K (.ref I) σ2
theorem ItK.push{K:Xb->Xa->Prop}(h:ItK G t s st range src K)(o:Obj)(hf:o.isFreed=false)(hi:∀(t':Tie)(s':Xa),(∀a,VRel t s.heap src (.ref a)->VRel t' s'.heap src (.ref a))->t'.wr=t.wr->(∀b o,s.heap.get? b=some o->s'.heap.get? b=some o)->s'.heap.get? s.heap.objs.size=some o->ItOk G st t' s' s.heap.objs.size range src 0):
  K (.ref s.heap.objs.size) {s with heap:=s.heap.push o} :=
 h _ _ (λb o e=>Zn _ e) (qr _) (by show(Heap.get? _ _).isSome=true;rw[Z5 _ hf];rfl) rfl rfl λt' s' hv hw hs'=>hi t' s' hv hw (λb o e=>hs' b o (Zn _ e)) (hs' _ _ (Z5 _ hf))
variable{E':Xb->Xa->Prop}
theorem zo1{k:Bool}{l:Xd V}{K:Xb->Xa->Prop}(R:Rel G t st s)(r1:VRel t s.heap src v)(hq:z4 st src=some (k,l))(h:ItK G t s st false src K):Xn G.M A (pyIter v) K E' s:=by
 refine qo (qx R r1 hq) λa vs eq2 io rr sz=>?_;subst eq2;cases k with
 |true=>exact wpAny_pyIter_list (PL.isList (show PL s.heap a vs from io)) (h.push _ rfl λt' s' hv ξ ξ ho=>.inl ⟨true,l,a,hq,hv a r1,(⟨_,ho,rfl,rfl⟩:s'.heap.IsListIter _ a 0)⟩)
 |false=>exact wpAny_pyIter_tuple (PT.isTuple (show PT s.heap a vs from io)) (h.push _ rfl λt' s' hv ξ ξ ho=>.inl ⟨false,l,a,hq,hv a r1,(⟨_,ho,rfl,rfl⟩:s'.heap.IsTupleIter _ a 0)⟩)
theorem zkz{p:Lbl×Xd (V×V)}{K:Xb->Xa->Prop}(R:Rel G t st s)(r1:VRel t s.heap X v)(hdd:dictAt X st=some p)(h:ItK G t s st false X K):Xn G.M A (pyIter v) K E' s:=by
 refine wz (bx R r1 hdd) λa kvs eq2 h1 h2 h3 h4=>?_;subst eq2;refine zr h2.dictAt λep hd=>?_;cases (tr hdd).1;refine wpAny_pyIter_dict (Xp.2 λz=>R.sys p.1 (z▸h1)) hd (h.push _ rfl λt' s' hv hw hk ho=>.inr (.inl ⟨p.1,p.2,a,kvs,ep,rfl,hdd,?_,λj x hj=>h3.keyAt j x hj,h3.length,Z9 hd.lt_size,?_,⟨_,ho,rfl,rfl⟩,λξ=>hd.keep hk⟩))
 .refine zd (hv a ⟨a,rfl,h1⟩) λa' q1 q2=>?_;cases q1;exact q2
 .rw[hw];exact Qf R.wr.symm
theorem zo2{x:Xd Nat}{K:Xb->Xa->Prop}(r1:VRel t s.heap (.str x) v)(hx:z8 st false (.str x)=some xs)(h:ItK G t s st false (.str x) K):Xn G.M A (pyIter v) K E' s:=by
 obtain⟨k,rfl⟩:=r1;exact wpAny_pyIter_ascii (zky hx) (h.push _ rfl λt' s' hv ξ ξ ho=>.inr (.inr ⟨x,k,rfl,_,ho,rfl,rfl⟩))
theorem zoz(hx:z8 st false (.ref r)=some xs)(hq:z4 st (.ref r)=none):∃p,dictAt (.ref r) st=some p:=by
 cases hdd:dictAt (.ref r) st with
 |none =>
  have hx:(match dictAt (.ref r) st with|some p=>some (p.2.map λq:V×V=>q.1)|none=>(z4 st (.ref r)).map λq:Bool×Xd V=>q.2)=some xs:=hx;rw[hdd,hq]at hx;exact za hx
 |some p=>exact⟨p,rfl⟩
theorem zo0{K:Xb->Xa->Prop}(R:Rel G t st s)(r1:VRel t s.heap src v)(hx:z8 st false src=some xs)(h:ItK G t s st false src K):Xn G.M A (pyIter v) K E' s:=by
 cases hq:z4 st src with
 |some kl=>exact zo1 R r1 hq h
 |none =>
  cases src with
  |str x=>exact zo2 r1 hx h
  |ref r=>obtain⟨p,hdd⟩:=zoz hx hq;exact zkz R r1 hdd h
  |tup=>exact za hq.symm
  |lst=>exact za hq.symm
  |_=>exact za hx
theorem ze3(hx:z8 st true src=some xs):∃n:Int,src=.int n/\-(2 ^ 62:Int)<=n/\n<(2 ^ 62:Int):=by
 cases src with
 |int n =>
  have hx:(if -1000<=n/\n<=zi then some ((Xr n.toNat).map λ(i:Nat)=>V.int i) else none)=some xs:=hx;by_cases h:-1000<=n/\n<=zi
  .exact⟨n,rfl,Qo (by decide) h.1,Int.lt_of_le_of_lt h.2 (by decide)⟩
  .rw[Zh h]at hx;exact za hx
 |_=>exact za hx
theorem zhd(n:Int):Builtin.Range.rangeSize 0 n 1=(n.toNat:Int)-((0:Nat):Int):=by rw[rangeSize_one];split<;>omega
theorem zgv{n:Int}{k:Tok}{K:Xb->Xa->Prop}(hlo:-(2 ^ 62:Int)<=n)(hhi:n<(2 ^ 62:Int))(h:ItK G t s st true (.int n) K):Xn G.M A (call (.type "range") [.int n k]) (λxv s'=>Xn G.M A (pyIter xv) K E' s') E' s:=by
 refine call_range_1 (wpAny_pyIter_range (IsRange.new ..) (small_one (by decide) (by decide) hlo hhi) ?_);refine h _ _ (λb o e=>Zn _ (Zn _ e)) (by rw[Heap.size_push];exact bk _) (by show(Heap.get? _ _).isSome=true;rw[Z5 _ rfl];rfl) rfl rfl λt' s' hv ξ hs'=>⟨n,rfl,hs' _ _ ?_⟩;rw[zhd];exact Z5 _ rfl
theorem zjb(O:G.Ok N){it:E}{iast j:Xu}(ha:IterAst sc range iast j)(hj:qe G C d sc Γ it j){s1:MS}(hA:AOk d A)(hsc:env.scope.names=sc)(F:FrOk G A t env Γ loc s)(R:Rel G t st s)(e1:ev G.P C it loc st=.ok src s1)(hx:z8 s1 range src=some xs){K:Xb->Xa->Prop}(h:∀t1 σ1,Step noX t t1 s σ1->Rel G t1 s1 σ1->ItK G t1 σ1 s1 range src K):
  Xn G.M A (eval iast env) (λxv s'=>Xn G.M A (pyIter xv) K E' s') E' s:=by
 cases ha with
 |plain j=>exact hj t st s env loc _ _ A hA hsc F R e1 _ _ λv t1 σ1 S1 R1 r1=>zo0 R1 r1 hx (h t1 σ1 S1 R1)
 |@range rp rpos j hg hjs =>
  refine jj (ze3 hx) λn eq1 hlo hhi=>?_;subst eq1;have e1':evL G.P C [it] loc st=.ok [.int n] s1:=by rw[yo,e1];rfl
  refine Xi (kj (v:=.type "range") O F R hsc hg (by decide) (by decide +kernel) ?_);refine yk O (zb4 _) (l:=[it]) (m:=[j]) (by show(!isStarred j&&true)=true;rw[hjs];rfl) rfl (yt hjs hj ww) hA hsc F R e1' λvs t1 σ1 S1 R1 r1=>?_;refine jz r1 λv ξ eq2 nq3 eq4=>?_;subst eq2;obtain⟨k,rfl⟩:=nq3;subst eq4;exact zgv hlo hhi (h t1 σ1 S1 R1)
end
end Internal
end
section
set_option maxRecDepth 100000
namespace Internal
open PySem PySem.W PyProof.Rows
section
variable {G:Gd}{N:Names}{C:Calls}{d:Dp}{sc:Sc}{Γ:Gam}{A:Xe}{t:Tie}{st st':MS}{s:Xa}{env:Env}{loc:Loc}{X Y Z:V}{v w:Xb}
noncomputable def clo(env:Env):Sc->Xd (Xv×Addr)->Xd (Xv×Addr)
 | [],acc=>acc
 |x::r,acc=>clo env r (if x.2==.free then (match env.cells.lookup x.1 with|some c=>(x.1,c)::acc|none=>acc) else acc)
theorem znv(env:Env):∀(names:Sc) (acc:Xd (Xv×Addr)),(∀x∈names,x.2=.free->(env.cells.lookup x.1).isSome=true)->
  (forIn names acc λ(x:Xv×NameKind) (cs:Xd (Xv×Addr))=>(if x.2==.free then do let c <- cellOf env x.1;pure (ForInStep.yield ((x.1,c)::cs)) else pure (ForInStep.yield cs):Sem _))=pure (clo env names acc)
 | [],_,_=>rfl
 |x::r,acc,h=>by
  rw[List.forIn_cons];have ih:=λacc=>znv env r acc λy hy=>h y (.tail _ hy);by_cases q:(x.2==.free)=true
  .refine zr (Jh.mp (h x (.head _) (by simpa using q))) λc hc=>?_;simp only[q,if_true,cellOf,hc,clo];exact ih _
  .simp only[q,Xq,clo];exact ih _
theorem zgj{scope:Scope}(h:∀x∈scope.names,x.2=.free->(env.cells.lookup x.1).isSome=true):closureFor scope env=pure (clo env scope.names []):=by
 have e:=znv env scope.names [] h;exact(Qd (· >>= λr=>pure r) e:_)
set_option tactic.hygienic true in
theorem zis:∀{names:Sc}{acc:Xd (Xv×Addr)}{n:Xv}{c:Addr},(n,c)∈clo env names acc->(n,c)∈acc\/((n,.free)∈names/\env.cells.lookup n=some c)
 | [],_,_,_,h=>.inl h
 |x::r,acc,n,c,h=>by
  simp only[clo]at h;rcases zis h with h|h
  .split at h
   .rename_i q;split at h
    .rename_i c' hc;rcases Zu.mp h with e|h
     .refine zn (Prod.mk.inj e) λeq0 eq1=>?_;subst eq0;subst eq1;refine .inr ⟨?_,hc⟩;have:x.2=.free:=by simpa using q
      rw[<- this];exact .head _
     .exact .inl h
    .exact .inl h
   .exact .inl h
  .exact .inr ⟨.tail _ h.1,h.2⟩
set_option tactic.hygienic true in
theorem zdx:∀{names:Sc}{acc:Xd (Xv×Addr)}{n:Xv},(∀c,(n,c)∈acc->env.cells.lookup n=some c)->(n,.free)∈names\/acc.lookup n=env.cells.lookup n->(clo env names acc).lookup n=env.cells.lookup n
 | [],_,_,_,h=>h.resolve_left (λz=>by cases z)
 |x::r,acc,n,ha,h=>by
  simp only[clo];have hacc':∀c,(n,c)∈(if (x.2==.free)=true then (match env.cells.lookup x.1 with|some c=>(x.1,c)::acc|none=>acc) else acc)->env.cells.lookup n=some c:=by
   intro c hc;split at hc
   .split at hc
    .rename_i c' hc';rcases Zu.mp hc with e|hc
     .cases e;exact hc'
     .exact ha c hc
    .exact ha c hc
   .exact ha c hc
  refine zdx hacc' ?_;by_cases q:(n,.free)∈r
  .exact .inl q
  .right;by_cases z:x.1=n
   .by_cases z2:x.2=.free
    .rw[Zg (by simpa using z2),z];cases hc:env.cells.lookup n with
     |some c=>simp[Jj]
     |none =>
      dsimp only;cases hl:acc.lookup n with
      |none=>rfl
      |some c=>have:=ha c (mem_of_lookup hl);rw[hc]at this;exact za this
    .rw[Zh (by simpa using z2)];refine h.resolve_left λhm=>?_;rcases Zu.mp hm with e|hm
     .exact z2 (by rw[<- e])
     .exact q hm
   .have hl:acc.lookup n=env.cells.lookup n:=h.resolve_left λhm=>by
     rcases Zu.mp hm with e|hm
     .exact z (by rw[<- e])
     .exact q hm
    have hb:(n==x.1)=false:=by simpa using λe=>z e.symm
    split
    .split
     .rw[Jj,hb];exact hl
     .exact hl
    .exact hl
end
end Internal
end
section
set_option maxRecDepth 100000
namespace Internal
open PySem PySem.W PyProof.Rows
section
variable {G:Gd}{N:Names}{C:Calls}{d:Dp}{sc:Sc}{Γ:Gam}{A:Xe}{t:Tie}{st st':MS}{s:Xa}{env:Env}{loc:Loc}{X Y Z:V}{v w:Xb}
variable{s':Xa}
theorem FrOk.stepX{X:Addr->Prop}{t':Tie}(F:FrOk G A t env Γ loc s)(R:Rel G t st s)(S:Step X t t' s s')(xp:∀a,X a->t.pv a)(hl:¬X env.locals)(hc:∀n c,env.cells.lookup n=some c->¬X c)(nf:∀a,X a->¬t.Fr a):FrOk G A t' env Γ loc s' where
 sk:=F.sk.step R S λa x f=>(nf a x f).elim
 fn:=F.fn
 gl:=F.gl
 bl:=F.bl
 pvl:=by rw[S.le.pv];exact F.pvl
 pvc n c h:=by rw[S.le.pv];exact F.pvc n c h
 apart:=F.apart
 ex:=by
  refine qo F.ex λm cm nq2 hcc hz hs=>?_;obtain⟨o,es,ep,ho,r⟩:=nq2;refine zr (Step.pvk S R F.pvl hl ho) λsl ho'=>?_;refine⟨m,cm,⟨_,es,ep,ho',r⟩,λn c e=>?_,hz,λi x X e1 e2=>?_⟩
  .refine zd (hcc n c e) λoc h1 h2=>?_;refine zr (Step.pvk S R (F.pvc n c e) (hc n c e) h1) λsl h1'=>?_;exact⟨_,h1',h2⟩
  .refine zd (hs i x X e1 e2) λv hv r=>?_;exact⟨v,VRel.step S xp X hv,r⟩
theorem FrOk.hideGrow{P:Addr->Prop}(F:FrOk G A t env Γ loc s)(np:∀a,P a->s.heap.get? a=none)(hk:∀b o,s.heap.get? b=some o->s'.heap.get? b=some o)(hg:s'.gens=s.gens)(ho:s'.os=s.os):FrOk G A (t.hide P) env Γ loc s' where
 sk:=⟨F.sk.fr,λe he=>let ⟨h1,L,o,h2,h3,h4,h5⟩:=F.sk.ob e he;⟨h1,L,o,h2,.inl h3,hk _ _ h4,h5⟩⟩
 fn:=F.fn
 gl:=F.gl
 bl:=F.bl
 pvl:=.inl F.pvl
 pvc n c h:=.inl (F.pvc n c h)
 apart:=F.apart
 ex:=by
  have S:Step noX (t.hide P) (t.hide P) s s':=⟨.refl _,λa o e ξ ξ ξ=>hk a o e,λa o e ξ ξ ξ=>⟨o.slots,hk a o e⟩,λξ o=>.inl o,λa o e=>by rw[hk a o e];rfl,hg,ho⟩
  refine qo F.ex λm cm hn hcc hz hs=>?_;refine⟨m,cm,hn.keeps hk,λn c e=>?_,hz,λi x X e1 e2=>?_⟩
  .refine zd (hcc n c e) λoc h1 h2=>?_;exact⟨oc,hk _ _ h1,h2⟩
  .refine zd (hs i x X e1 e2) λv hv r=>?_;exact⟨v,VRel.step S (λξ z=>z.elim) X (VRel.hide np X hv),r⟩
variable{scope:Scope}
theorem ej(hf:env.scope.kind=.function)(hsc:env.scope.names=sc):(relabel scope env).names=qu sc scope.names:=by
 unfold relabel qu;dsimp only;refine Jw λx hx=>?_;obtain⟨n,k⟩:=x;simp only[hf,Env.kindOf,hsc,BEq.rfl,Bool.and_true]
theorem bv:∀{names:Sc}{y:Xv},(∀z∈names,z.2≠.cell)->(qu sc names).lookup y=some .cell->(y,.free)∈names/\sc.lookup y=some .cell
 | [],_,_,h=>by exact za h
 |x::r,y,hn,h=>by
  have ih:=@bv r y (λz hz=>hn z (.tail _ hz));obtain⟨n,k⟩:=x;change List.lookup y ((if k==.free&&sc.lookup n==some .cell then (n,.cell) else (n,k))::qu sc r)=some .cell at h;by_cases q:(k==.free&&sc.lookup n==some .cell)=true
  .rw[Zg q,Jj]at h;simp only[Qq,Xl]at q;cases z:y==n with
   |true =>
    have e:y=n:=by simpa using z
    subst e;exact⟨by rw[<- q.1];exact .head _,q.2⟩
   |false=>rw[z]at h;exact⟨.tail _ (ih h).1,(ih h).2⟩
  .rw[Zh q,Jj]at h;cases z:y==n with
   |true=>rw[z]at h;obtain rfl:=Je h;exact absurd rfl (hn _ (.head _))
   |false=>rw[z]at h;exact⟨.tail _ (ih h).1,(ih h).2⟩
structure CompOk(sc:Sc)(scope:Scope)(slot:Nat)(Γ:Gam)(x:Xv):Prop where
 fn:scope.kind=.function
 slot:slot<Γ.length
 x:scope.names.lookup x=some .local
 cell:∀y∈scope.names,y.2≠.cell
 loc:∀y∈scope.names,y.2=.local->scope.names.lookup y.1=some .local
 free:∀y∈scope.names,y.2=.free->sc.lookup y.1=some .cell
variable{slot:Nat}{x:Xv}
theorem d4(h:zbn sc scope slot Γ x=true):CompOk sc scope slot Γ x:=by
 simp only[zbn,Qq,Xl,Xj,Zv]at h;refine zn h λnq0 h4=>?_;obtain⟨⟨h1,h2⟩,h3⟩:=nq0;refine⟨h1,h2,h3,λy hy z=>?_,λy hy z=>?_,λy hy z=>?_⟩
 .have:=h4 y hy;simp[z]at this
 .have:=h4 y hy;simpa [z] using this
 .have:=h4 y hy;simpa [z] using this
set_option tactic.hygienic true in
theorem FrOk.comp{Ca:Addr}{m:Xv->Xc Xb}(F:FrOk G A t env Γ loc s)(hsc:env.scope.names=sc)(K:CompOk sc scope slot Γ x)(hC:t.pv Ca)(hn:s.heap.Ns Ca m)(hm:m x=some v)(hv:VRel t s.heap X v):
  FrOk G A t (compEnvC scope (clo env scope.names []) Ca env) (xo (qu sc scope.names) Γ slot x) (loc.set slot (some X)) s:=by
 have hsc':=ej (scope:=scope) F.fn hsc;refine qo F.ex λm0 cm hn0 hcc hz hs=>?_;have lk:∀n c,(clo env scope.names []).lookup n=some c->env.cells.lookup n=some c:=λn c e=>(zis (mem_of_lookup e)).elim (λz=>by cases z) λz=>z.2;refine⟨F.sk,K.fn,F.gl,F.bl,hC,λn c h=>?_,λn n' c h h'=>F.apart n n' c (lk n c h) (lk n' c h'),m,cm,hn,λn c e=>hcc n c (lk n c e),λy hy=>?_,λi y Y e1 e2=>?_⟩
 .exact F.pvc n c (lk n c h)
 .change (relabel scope env).names.lookup y=some .cell at hy;rw[hsc']at hy;refine zn (bv K.cell hy) λh1 h2=>?_;show((clo env scope.names []).lookup y).isSome=true;rw[zdx (λc z=>by cases z) (.inl h1)];exact hz y (by unfold Env.kindOf;rw[hsc];exact h2)
 .unfold xo at e1;by_cases q:i=slot
  .subst q;rw[List.getElem?_set_self (by rw[Zd];exact K.slot)]at e1;cases e1;have e2':Y=X:=by
    by_cases hl2:i<loc.length
    .rw[List.getElem?_set_self hl2]at e2;cases e2;rfl
    .rw[List.getElem?_eq_none (by rw[List.length_set];lia)]at e2;exact za e2
   subst e2';exact⟨v,hv,.inl ⟨lookup_relabel_local K.x,hm⟩⟩
  .rw[List.getElem?_set_ne (λz=>q z.symm),Jq]at e1;rw[List.getElem?_set_ne (λz=>q z.symm)]at e2;refine zd (Jm.mp e1) λo ho e3=>?_;cases o with
   |none=>exact za e3
   |some n =>
    dsimp only at e3;split at e3
    .rename_i hcell;obtain rfl:n=y:=by cases e3;rfl
     have hcell:(qu sc scope.names).lookup n=some .cell:=by simpa using hcell
     refine zn (bv K.cell hcell) λh1 h2=>?_;refine zd (hs i n Y ho e2) λu u1 u2=>?_;have hk:env.kindOf n=some .cell:=by unfold Env.kindOf;rw[hsc];exact h2
     refine⟨u,u1,.inr ⟨?_,?_⟩⟩
     .show(relabel scope env).names.lookup n=some .cell;rw[hsc'];exact hcell
     .rcases u2 with ⟨z,_⟩|⟨_,z⟩
      .rw[hk]at z;cases z
      .exact z
    .exact za e3
end
end Internal
end
section
set_option maxRecDepth 100000
namespace Internal
open PySem PySem.W PyProof.Rows
section
variable {G:Gd}{N:Names}{C:Calls}{d:Dp}{sc:Sc}{Γ:Gam}{A:Xe}{t:Tie}{st st':MS}{s:Xa}{env:Env}{loc:Loc}{X Y Z:V}{v w:Xb}
set_option genCtorIdx true in
inductive CondSim(G:Gd)(C:Calls)(d:Dp)(sc:Sc)(Γ:Gam):Xc E->Xd Xu->Prop
 |none:CondSim G C d sc Γ none []
 |some {c:E}{ci:Xu}:bq G C d sc Γ c ci->CondSim G C d sc Γ (some c) [ci]
noncomputable def zbo(P:Prog)(C:Calls)(cond:Xc E)(loc:Loc)(st:MS):Res Bool :=
 match evC P C cond with
 |some c=>(c loc st).bind yw
 |none=>.ok true st
variable{cond:Xc E}{ifs:Xd Xu}
theorem zsl(h:CondSim G C d sc Γ cond ifs)(hA:AOk d A)(hsc:env.scope.names=sc)(F:FrOk G A t env Γ loc s)(R:Rel G t st s){b:Bool}(e:zbo G.P C cond loc st=.ok b st'):
  Sim G A t s (forIn ifs true λc r=>if r=true then do let ok <- isTrue c env (eval c env);pure (ForInStep.yield ok) else pure (ForInStep.yield r)) st' (λξ ξ b'=>b'=b):=by
 cases h with
 |none =>
  cases e;exact λQ E k=>Zr (k true t s (.refl _ _ _) R rfl)
 |@some c ci h =>
  simp only[zbo,evC]at e;refine zf (Res.bind_ok e) λv s1 e1 e=>?_;refine zn (x4 e) λeq0 eq1=>?_;subst eq0;subst eq1;intro Q E k;rw[List.forIn_cons];simp only[if_true];refine Ze (Ze (h t st s env loc b _ A hA hsc F R e1 _ _ λb' t1 σ1 S1 R1 r1=>?_));exact Zr (Zr (k b' t1 σ1 S1 R1 r1))
set_option genCtorIdx true in
inductive CEnd(G:Gd)(A:Xe)(t:Tie)(σ:Xa)(st':MS)(vs:Xd V)(env:Env)(Γ:Gam)(loc:Loc)(Ca D:Addr)(se:Xa):Prop
 |mk (P:Addr->Prop) (τ:Tie) (s0 s1:Xa) (ys:Array Xb) (m:Xv->Xc Xb)
  (np:∀a,P a->σ.heap.get? a=none) (pC:P Ca) (pD:P D) (DC:D≠Ca) (hk:∀b o,σ.heap.get? b=some o->s0.heap.get? b=some o) (hg:s0.gens=σ.gens) (ho:s0.os=σ.os) (S:Step P (t.hide P) τ s0 s1) (R:Rel G τ st' s1) (F:FrOk G A τ env Γ loc s1)
  (hD:PL s1.heap D ys) (hv:VRels τ s1.heap vs ys.toList) (hz:vs.length<=zi) (hn:se.heap.Ns Ca m) (hx:∀b o,(P b->b=Ca\/b=D)->s1.heap.get? b=some o->se.heap.get? b=some o) (hg1:se.gens=s1.gens) (ho1:se.os=s1.os):CEnd G A t σ st' vs env Γ loc Ca D se
variable{st₀ s':MS}{range:Bool}{src:V}{slot:Nat}{el:Loc->MS->Res V}{l:Loc}{acc vs:Xd V}
set_option tactic.hygienic true in
theorem cv{cnd:Xc (Loc->MS->Res V)}{s:MS}(e:compLoop st₀ range src slot cnd el l acc [] s=.ok vs s'):stays st₀ s range src=true/\acc=vs/\s=s':=by
 simp only[u0]at e;split at e
 .rename_i h;cases e;exact⟨h,rfl,rfl⟩
 .exact zb e
variable{xs:Xd V}
set_option tactic.hygienic true in
theorem fv{x:V}{P:Prog}{C:Calls}{s:MS}(e:compLoop st₀ range src slot (evC P C cond) el l acc (x::xs) s=.ok vs s'):
  stays st₀ s range src=true/\∃b s2,zbo P C cond (l.set slot (some x)) s=.ok b s2 /\
   (b=false/\compLoop st₀ range src slot (evC P C cond) el l acc xs s2=.ok vs s'\/b=true/\∃y s4,el (l.set slot (some x)) s2=.ok y s4/\acc.length+1<=zi/\compLoop st₀ range src slot (evC P C cond) el l (acc++[y]) xs s4=.ok vs s'):=by
 simp only[uf]at e;split at e
 case isFalse=>exact zb e
 rename_i h;refine zf (Res.bind_ok e) λb s2 e2 e=>?_;refine⟨h,b,s2,e2,?_⟩;cases b with
 |false =>
  simp only[Jl,Xq]at e;exact .inl ⟨rfl,e⟩
 |true =>
  simp only[if_true]at e;refine zf (Res.bind_ok e) λy s4 e4 e=>?_;split at e
  case isFalse=>exact zb e
  rename_i hlen;exact .inr ⟨rfl,y,s4,e4,hlen,e⟩
set_option genCtorIdx true in
inductive CInv(G:Gd)(A:Xe)(C:Calls)(t:Tie)(env:Env)(Γ:Gam)(loc:Loc)(P:Addr->Prop)(Ca D I:Addr)(s0:Xa)(st₀:MS)(range:Bool)(src:V)(xs:Xd V)(slot:Nat)(cond:Xc E)(el:E)(vs:Xd V)(st':MS):Nat->Xa->Prop
 |mk (τ:Tie) (σ1:Xa) (sti:MS) (ys:Array Xb) (m:Xv->Xc Xb) (done rest acc:Xd V) (hxs:xs=done++rest) (S:Step P (t.hide P) τ s0 σ1) (R:Rel G τ sti σ1) (F:FrOk G A τ env Γ loc σ1) (hn:σ1.heap.Ns Ca m) (hD:PL σ1.heap D ys)
   (hacc:VRels τ σ1.heap acc ys.toList) (hsz:acc.length<=zi) (hI:ItOk G st₀ τ σ1 I range src done.length) (e:compLoop st₀ range src slot (evC G.P C cond) (ev G.P C el) loc acc rest sti=.ok vs st'):CInv G A C t env Γ loc P Ca D I s0 st₀ range src xs slot cond el vs st' rest.length σ1
variable{h:Heap}{a:Addr}{m:Xv->Xc Xb}
theorem ztb(q:h.Ns a m):(h.get? a).isSome=true:=by refine bp q λo ξ ξ q ξ=>?_;rw[q];rfl
variable{ys:Array Xb}
theorem zte(q:PL h a ys):(h.get? a).isSome=true:=by refine zr q λk q=>?_;rw[q];rfl
variable{h':Heap}
theorem og(q:h.Ns a m)(k:∀o,h.get? a=some o->h'.get? a=some o):h'.Ns a m:=by refine bp q λo es ep q1 q2=>?_;exact⟨o,es,ep,k o q1,q2⟩
theorem oq(q:PL h a ys)(k:∀o,h.get? a=some o->h'.get? a=some o):PL h' a ys:=by refine zr q λz q=>?_;exact⟨z,k _ q⟩
variable{elt:Xu}{scope:Scope}{x:Xv}{px:Pos}{P:Addr->Prop}{Ca D I:Addr}{σ s0:Xa}
theorem zki{el:E}{RN J:Xa->Prop}{EE:Xb->Xa->Prop}{τ:Tie}{σ1:Xa}{sti:MS}{done rest:Xd V}(hq:d.q=true)(hA:AOk d A)(hsc:env.scope.names=sc)(K:CompOk sc scope slot Γ x)(hcond:CondSim G C d (qu sc scope.names) (xo (qu sc scope.names) Γ slot x) cond ifs)(hel:qe G C d (qu sc scope.names) (xo (qu sc scope.names) Γ slot x) el elt)(nF0:∀a,P a->¬(t.hide P).Fr a)(np:∀a,P a->σ.heap.get? a=none)(pC:P Ca)(pD:P D)(pI:P I)(pO:∀a,P a->a=Ca\/a=D\/a=I)(DC:D≠Ca)(DI:D≠I)(CI:Ca≠I)(hk0:∀b o,σ.heap.get? b=some o->s0.heap.get? b=some o)(hg0:s0.gens=σ.gens)(ho0:s0.os=σ.os)(hsc':(compEnvC scope (clo env scope.names []) Ca env).scope.names=qu sc scope.names)(fl:¬P env.locals)(fc:∀n c,env.cells.lookup n=some c->¬P c)(hx:z8 st₀ range src=some xs)(hxs:xs=done++rest)(S:Step P (t.hide P) τ s0 σ1)(R:Rel G τ sti σ1)(F:FrOk G A τ env Γ loc σ1)(hn:σ1.heap.Ns Ca m)(hD:PL σ1.heap D ys)(hacc:VRels τ σ1.heap acc ys.toList)(hsz:acc.length<=zi)(hI:ItOk G st₀ τ σ1 I range src done.length)(e:compLoop st₀ range src slot (evC G.P C cond) (ev G.P C el) loc acc rest sti=.ok vs st')(hRN:∀se,CEnd G A t σ st' vs env Γ loc Ca D se->RN se)(hJ:∀m s,m<rest.length->CInv G A C t env Γ loc P Ca D I s0 st₀ range src xs slot cond el vs st' m s->J s):
  Xn G.M A (pyNext (.ref I)) (λr s₁=>match r with
   |none=>RN s₁
   |some v=>Xn G.M A (assign (.Name x px) (compEnvC scope (clo env scope.names []) Ca env) v) (λξ s₂ =>
     Xn G.M A (forIn ifs true λc r=>if r=true then do let ok <- isTrue c (compEnvC scope (clo env scope.names []) Ca env) (eval c (compEnvC scope (clo env scope.names []) Ca env));pure (ForInStep.yield ok) else pure (ForInStep.yield r)) (λok s₃ =>
      if ok=true then Xn G.M A (eval elt (compEnvC scope (clo env scope.names []) Ca env)) (λx s₄=>Xn G.M A (call (.builtin "list.append") [.ref D,x]) (λξ s₅=>J s₅) EE s₄) EE s₃
      else J s₃) EE s₂) EE s₁) EE σ1:=by
 have hpv:∀a,P a->τ.pv a:=λa q=>by rw[S.le.pv];exact .inr q
 have nF:∀a,P a->¬τ.Fr a:=λa q f=>nF0 a q (S.le.fr f);cases rest with
 |nil =>
  obtain⟨hst,e1,e2⟩:=cv e;have hI':ItOk G st₀ τ σ1 I range src xs.length:=by rw[hxs,Z0];exact hI
  refine zot R (hA.hd hq) hx hst hI' λh' tk hext=>?_;refine hRN _ ⟨P,τ,s0,σ1,ys,m,np,pC,pD,DC,hk0,hg0,ho0,S,e2▸R,F,hD,e1▸hacc,e1▸hsz,?_,?_,rfl,rfl⟩
  .exact og hn λo q=>hext _ _ CI q
  .exact λb o hb eb=>hext b o (λz=>(hb (z▸pI)).elim (λy=>CI (y.symm.trans z)) λy=>DI (y.symm.trans z)) eb
 |cons x0 rest =>
  refine byQ λQ' k'=>?_;obtain⟨hst,b,s2,e2,e⟩:=fv e;refine k' ?_;have hi:xs[done.length]?=some x0:=by rw[hxs,Ju (Zs _),Nat.sub_self];rfl
  refine zja R (hpv I pI) hx hst hI hi λv h1 tk1 SA RA rv hIA=>?_
  -- the frame stands
  have FA:FrOk G A τ env Γ loc {σ1 with heap:=h1,toks:=tk1}:=F.stepX R SA (λa z=>by rw[z];exact hpv _ pI) (λz=>fl (by rw[z];exact pI)) (λn c hc z=>fc n c hc (by rw[z];exact pI)) λa z=>by rw[z];exact nF _ pI
  have hnA:Heap.Ns h1 Ca m:=og hn λo q=>SA.keep _ _ q (R.pv _ (hpv _ pC)) CI (nF _ pC);have hDA:PL h1 D ys:=oq hD λo q=>SA.keep _ _ q (R.pv _ (hpv _ pD)) DI (nF _ pD);have haccA:=VRels.step SA (λa z=>by rw[z];exact hpv _ pI) _ hacc;refine wpAny_assign_Name (wpAny_storeName_local (lookup_relabel_local K.x) (s:={σ1 with heap:=h1,toks:=tk1}) hnA (λh2 hn2 hs2=>?_) (by simp[compEnvC,relabel,K.fn]));change Heap.Ns h2 Ca _ at hn2;change J8 Ca h1 h2 at hs2;have hl2:(h2.get? Ca).isSome=true:=ztb hn2;have SB:Step (·=Ca) τ τ {σ1 with heap:=h1,toks:=tk1} {σ1 with heap:=h2,toks:=tk1+1}:=Step.priv rfl hl2 hs2;have RB:Rel G τ sti {σ1 with heap:=h2,toks:=tk1+1}:=RA.priv (hpv _ pC) hl2 hs2;have xB:∀a,a=Ca->τ.pv a:=λa z=>by rw[z];exact hpv _ pC
  have FB:FrOk G A τ env Γ loc {σ1 with heap:=h2,toks:=tk1+1}:=FA.stepX RA SB xB (λz=>fl (by rw[z];exact pC)) (λn c hc z=>fc n c hc (by rw[z];exact pC)) λa z=>by rw[z];exact nF _ pC
  have hDB:PL h2 D ys:=oq hDA λo q=>SB.keep _ _ q (RA.pv _ (hpv _ pD)) DC (nF _ pD);have haccB:=VRels.step SB xB _ haccA;have rvB:VRel τ h2 x0 v:=VRel.step SB xB _ rv;have hIB:=hIA.step SB xB RA.pv (hpv _ pI) (λz=>CI z.symm) (nF _ pI);have FC:=FB.comp (x:=x) (X:=x0) hsc K (hpv _ pC) hn2 (by simp) rvB;have SAB:Step P (t.hide P) τ s0 {σ1 with heap:=h2,toks:=tk1+1}:=(S.trans (SA.mono λa z=>by rw[z];exact pI)).trans (SB.mono λa z=>by rw[z];exact pC);refine zsl hcond hA hsc' FC RB e2 _ _ λb' τ3 σ3 S3 R3 r3=>?_;have hpv3:∀a,P a->τ3.pv a:=λa q=>by rw[S3.le.pv];exact hpv a q
  have F3:=FB.step RB S3;have nF3:∀a,P a->¬τ3.Fr a:=λa q f=>nF a q (S3.le.fr f);have hn3:=og (h':=σ3.heap) hn2 λo q=>S3.keep _ _ q (RB.pv _ (hpv _ pC)) (λz=>z) (nF _ pC);have hD3:PL σ3.heap D ys:=oq hDB λo q=>S3.keep _ _ q (RB.pv _ (hpv _ pD)) (λz=>z) (nF _ pD);have hacc3:=VRels.step S3 (λξ z=>z.elim) _ haccB;have hI3:=hIB.step S3 (λξ z=>z.elim) RB.pv (hpv _ pI) (λz=>z) (nF _ pI);have S03:=SAB.trans (S3.mono λa z=>z.elim);have hxs':xs=(done++[x0])++rest:=by rw[hxs];simp
  rcases e with ⟨z,e⟩|⟨z,y,s4,e4,hlen,e⟩
  .rw[Zh (by rw[r3,z];exact Z8)];exact hJ _ _ (Zy _) ⟨τ3,_,s2,ys,_,done++[x0],rest,acc,hxs',S03,R3,F3,hn3,hD3,hacc3,hsz,by rw[Zf];exact hI3,e⟩
  .rw[Zg (r3.trans z)];have FC3:=FC.step RB S3;refine hel τ3 s2 σ3 _ (loc.set slot (some x0)) y s4 A hA hsc' FC3 R3 e4 _ _ λu τ4 σ4 S4 R4 r4=>?_;have hpv4:∀a,P a->τ4.pv a:=λa q=>by rw[S4.le.pv];exact hpv3 a q
   have F4:=F3.step R3 S4;have nF4:∀a,P a->¬τ4.Fr a:=λa q f=>nF3 a q (S4.le.fr f);have hD4:PL σ4.heap D ys:=oq hD3 λo q=>S4.keep _ _ q (R3.pv _ (hpv3 _ pD)) (λz=>z) (nF3 _ pD);have hacc4:=VRels.step S4 (λξ z=>z.elim) _ hacc3;have hI4:=hI3.step S4 (λξ z=>z.elim) R3.pv (hpv3 _ pI) (λz=>z) (nF3 _ pI);refine wpAny_list_append_plain (hsz:=by rw[xr hacc4];exact hsz) hD4 λh5 hl5 hs5=>?_;have hl:(h5.get? D).isSome=true:=zte hl5;have S5:Step (·=D) τ4 τ4 σ4 {σ4 with heap:=h5,toks:=σ4.toks}:=Step.priv rfl hl hs5;have xD:∀a,a=D->τ4.pv a:=λa z=>by rw[z];exact hpv4 _ pD
   have R5:Rel G τ4 s4 {σ4 with heap:=h5,toks:=σ4.toks}:=R4.priv (hpv4 _ pD) hl hs5;have F5:=F4.stepX R4 S5 xD (λz=>fl (by rw[z];exact pD)) (λn c hc z=>fc n c hc (by rw[z];exact pD)) λa z=>by rw[z];exact nF4 _ pD
   have hn5:=og (h':=h5) hn3 λo q=>S5.keep _ _ (S4.keep _ _ q (R3.pv _ (hpv3 _ pC)) (λz=>z) (nF3 _ pC)) (R4.pv _ (hpv4 _ pC)) (λz=>DC z.symm) (nF4 _ pC);refine hJ _ _ (Zy _) ⟨τ4,_,s4,ys.push u,_,done++[x0],rest,acc++[y],hxs',(S03.trans (S4.mono λa z=>z.elim)).trans (S5.mono λa z=>by rw[z];exact pD),R5,F5,hn5,hl5,?_,by rw[Zf];exact hlen,?_,e⟩
   .rw[Array.toList_push];exact(VRels.step S5 xD _ hacc4).append ⟨u,[],rfl,VRel.step S5 xD _ r4,rfl⟩
   .have:=hI4.step S5 xD R4.pv (hpv4 _ pI) (λz=>DI z.symm) (nF4 _ pI);rw[Zf];exact this
theorem zkg{el:E}{iter:Xu}{pos:Pos}{m0:Xv->Xc Xb}{RR:Result->Xa->Prop}(hq:d.q=true)(hA:AOk d A)(hsc:env.scope.names=sc)(K:CompOk sc scope slot Γ x)(hcond:CondSim G C d (qu sc scope.names) (xo (qu sc scope.names) Γ slot x) cond ifs)(hel:qe G C d (qu sc scope.names) (xo (qu sc scope.names) Γ slot x) el elt)(nF0:∀a,P a->¬(t.hide P).Fr a)(np:∀a,P a->σ.heap.get? a=none)(pC:P Ca)(pD:P D)(pI:P I)(pO:∀a,P a->a=Ca\/a=D\/a=I)(DC:D≠Ca)(DI:D≠I)(CI:Ca≠I)(hk0:∀b o,σ.heap.get? b=some o->s0.heap.get? b=some o)(hg0:s0.gens=σ.gens)(ho0:s0.os=σ.os)(F0:FrOk G A (t.hide P) env Γ loc s0)(fl:¬P env.locals)(fc:∀n c,env.cells.lookup n=some c->¬P c)(R0:Rel G (t.hide P) st₀ s0)(hn0:s0.heap.Ns Ca m0)(hD0:PL s0.heap D #[])(hI0:ItOk G st₀ (t.hide P) s0 I range src 0)(hx:z8 st₀ range src=some xs)(e:compLoop st₀ range src slot (evC G.P C cond) (ev G.P C el) loc [] xs st₀=.ok vs st')(hRR:∀se,CEnd G A t σ st' vs env Γ loc Ca D se->RR (.ok .next) se):
  codeAny G.M A (.compLoop (.ListComp elt [⟨.Name x px,iter,ifs,0⟩] scope pos) 0 (.ref I) (.ref D) (compEnvC scope (clo env scope.names []) Ca env)) RR s0:=by
 have hsc':(compEnvC scope (clo env scope.names []) Ca env).scope.names=qu sc scope.names:=ej F0.fn hsc;refine codeAny_compLoop_tests (CInv G A C t env Γ loc P Ca D I s0 st₀ range src xs slot cond el vs st') (λn σ1 h=>?_) xs.length ⟨t.hide P,s0,st₀,#[],m0,[],xs,[],rfl,.refl _ _ _,R0,F0,hn0,hD0,rfl,Ql _,hI0,e⟩;cases h with
 |mk τ σ1 sti ys m done rest acc hxs S R F hn hD hacc hsz hI e =>
  exact zki hq hA hsc K hcond hel nF0 np pC pD pI pO DC DI CI hk0 hg0 ho0 hsc' fl fc hx hxs S R F hn hD hacc hsz hI e (λse=>hRR se) λm s hm h=>⟨m,hm,h⟩
end
end Internal
end
section
set_option maxRecDepth 100000
namespace Internal
open PySem PySem.W PyProof.Rows
noncomputable def ba(x:Xu):Bool:=!Nat.beq x.ctorIdx 7
theorem cf{e:Xu}(h:ba e=true)(env:Env)(x:Xb):foldedSetIterable e env x=pure x:=by
 cases e<;>first|rfl|exact qi h
section
variable {G:Gd}{N:Names}{C:Calls}{d:Dp}{sc:Sc}{Γ:Gam}{A:Xe}{t:Tie}{st st':MS}{s:Xa}{env:Env}{loc:Loc}{X Y Z:V}{v w:Xb}
theorem zww(O:G.Ok N){t:Tie}{st:MS}{σ1 σ2:Xa}(R:Rel G t st σ1)(hk:∀b o,σ1.heap.get? b=some o->σ2.heap.get? b=some o):σ2.heap.objs.size≠sysModules:=by
 refine zd O.lim λmc nq1 ξ=>?_;obtain⟨o,es,ep,ho,_⟩:=nq1;have:=Jr (hk _ _ (R.base _ _ ho));intro q;rw[q]at this;exact absurd this (by decide)
variable{range:Bool}{slot:Nat}{it el:E}{cond:Xc E}{elt iast j:Xu}{ifs:Xd Xu}{scope:Scope}{x:Xv}{px pos:Pos}
theorem ziu(hq:d.q=true)(O:G.Ok N){src:V}{xs vs:Xd V}{s1:MS}{pos':Pos}{use:Xc (Xb->Sem Unit)}{Q E':Xb->Xa->Prop}(hA:AOk d A)(hsc:env.scope.names=sc)(K:CompOk sc scope slot Γ x)(hset:ba iast=true)(ha:IterAst sc range iast j)(hj:qe G C d sc Γ it j)(hcond:CondSim G C d (qu sc scope.names) (xo (qu sc scope.names) Γ slot x) cond ifs)(hel:qe G C d (qu sc scope.names) (xo (qu sc scope.names) Γ slot x) el elt)(F:FrOk G A t env Γ loc s)(R:Rel G t st s)(e1:ev G.P C it loc st=.ok src s1)(hx:z8 s1 range src=some xs)(e:compLoop s1 range src slot (evC G.P C cond) (ev G.P C el) loc [] xs s1=.ok vs st')(hend:∀t1 σ1 Ca D se,Step noX t t1 s σ1->Rel G t1 s1 σ1->D≠sysModules->CEnd G A t1 σ1 st' vs env Γ loc Ca D se->compPost G.M A E' use Q (.ref D) Ca (.ok .next) se):
  Xn G.M A (comprehension (.ListComp elt [⟨.Name x px,iast,ifs,0⟩] scope pos) scope env pos' (newList []) false (eval iast env) use) Q E' s:=by
 have hfree:∀y∈scope.names,y.2=.free->(env.cells.lookup y.1).isSome=true:=λy hy z=>by
  refine qo F.ex λξ ξ ξ ξ hz ξ=>?_;exact hz y.1 (by unfold Env.kindOf;rw[hsc];exact K.free y hy z)
 refine wpAny_comprehension_free (g:=⟨.Name x px,iast,ifs,0⟩) (gs:=[]) rfl (cf hset env) (zgj hfree) K.fn K.loc ?_;refine zjb O ha hj hA hsc F R e1 hx λt1 σ1 S1 R1 σ2 I hk hI hIl hg ho hit=>?_;refine wpAny_newObj_type (wpAny_newFunctionEnv K.cell (by intro y hy;simp at hy) (λh₁ hns1 hsb1=>?_) K.fn);dsimp only at hns1 hsb1 ⊢;generalize hH2:σ2.heap.push {cls:=.type "list",dict:=none,data:=.seq ([]:Xd Xb).toArray}=H2 at hns1 hsb1 ⊢;have hC:H2.objs.size=σ2.heap.objs.size+1:=by rw[<- hH2,Heap.size_push]
 have DC:σ2.heap.objs.size≠H2.objs.size:=by rw[hC];exact Z9 (Zy _)
 refine zr (Jh.mp hIl) λoI hoI=>?_;have ltI:=Jr hoI;have DI:σ2.heap.objs.size≠I:=λz=>Nat.lt_irrefl _ (z▸ltI);have CI:H2.objs.size≠I:=λz=>by rw[hC]at z;exact absurd ltI (by rw[<- z];exact Jf.mpr (Zw _))
 have old:∀b o,σ2.heap.get? b=some o->h₁.get? b=some o:=λb o e=>hsb1.extBut b o (λz=>by
  have:=Jr e;rw[z,hC]at this;exact absurd this (Jf.mpr (Zw _))) (Zn _ (hH2▸Zn _ e))
 have hacc:PL h₁ σ2.heap.objs.size #[]:=⟨_,hsb1.extBut _ _ DC (Zn _ (hH2▸Z5 _ rfl))⟩
 let P:Addr->Prop:=λa=>a=H2.objs.size\/a=σ2.heap.objs.size\/a=I
 have np:∀a,P a->σ1.heap.get? a=none:=by
  rintro a (z|z|z)
  .rw[z,hC];exact mn hk (bk _)
  .rw[z];exact mn hk (qr _)
  .rw[z];exact hI
 have hk0:∀b o,σ1.heap.get? b=some o->h₁.get? b=some o:=λb o e=>old b o (hk b o e);have hlP:∀a,P a->(h₁.get? a).isSome=true:=by
  rintro a (z|z|z)
  .rw[z];refine bp hns1 λo ξ ξ q ξ=>?_;rw[q];rfl
  .rw[z];refine zr hacc λk q=>?_;rw[q];rfl
  .rw[z,old _ _ hoI];rfl
 have F1:=F.step R S1;have notP:∀a,t1.pv a->¬P a:=λa q z=>by
  have:=R1.live a (.inr q);rw[np a z]at this;exact qi this
 have F0:FrOk G A (t1.hide P) env Γ loc {σ2 with heap:=h₁,toks:=σ2.toks+([]:Xd (Xv×Xb)).length}:=F1.hideGrow np hk0 hg ho;have R0:Rel G (t1.hide P) s1 {σ2 with heap:=h₁,toks:=σ2.toks+([]:Xd (Xv×Xb)).length}:=R1.hideGrow np hk0 hlP hg ho;have SG:Step noX (t1.hide P) (t1.hide P) σ1 {σ2 with heap:=h₁,toks:=σ2.toks+([]:Xd (Xv×Xb)).length}:=⟨.refl _,λa o e ξ ξ ξ=>hk0 a o e,λa o e ξ ξ ξ=>⟨o.slots,hk0 a o e⟩,λξ o=>.inl o,λa o e=>by show(h₁.get? a).isSome=true;rw[hk0 a o e];rfl,hg,ho⟩
 have I0:ItOk G s1 (t1.hide P) {σ2 with heap:=h₁,toks:=σ2.toks+([]:Xd (Xv×Xb)).length} I range src 0:=hit _ _ (λa r=>VRel.step SG (λξ z=>z.elim) _ (VRel.hide np _ r)) rfl λb o e=>old b o e;have loop:codeAny G.M A (.compLoop (.ListComp elt [⟨.Name x px,iast,ifs,0⟩] scope pos) 0 (.ref I) (.ref σ2.heap.objs.size) (compEnvC scope (clo env scope.names []) H2.objs.size env))
   (compPost G.M A E' use Q (.ref σ2.heap.objs.size) H2.objs.size) {σ2 with heap:=h₁,toks:=σ2.toks+([]:Xd (Xv×Xb)).length} :=
  zkg (P:=P) (t:=t1) (σ:=σ1) hq hA hsc K hcond hel (λa q=>F1.sk.fresh (np a q)) np (.inl rfl) (.inr (.inl rfl)) (.inr (.inr rfl)) (λa z=>z) DC DI CI hk0 hg ho F0 (notP _ F1.pvl) (λn c hc=>notP _ (F1.pvc n c hc)) R0 hns1 hacc I0 hx e λse ce=>hend t1 σ1 _ _ se S1 R1 (zww O R1 hk) ce
 exact codeAny_compStart_list loop (zsx R0 (hA.hd hq) I0 loop)
noncomputable def zug(M:Xc Nat)(st:MS)(vs:Xd V):V:=match M with|none=>.lst vs|some k=>.ref (k,st.cnt k)
noncomputable def stM(M:Xc Nat)(st:MS)(vs:Xd V):MS:=match M with|none=>st|some k=>st.new k (.list vs)
theorem VRels.all{t t':Tie}{h h':Heap}(k:∀(X:V)(v:Xb),VRel t h X v->VRel t' h' X v):∀{l:Xd V}{vs:Xd Xb},VRels t h l vs->VRels t' h' l vs
 | [],_,e=>e
 |x::_,_,⟨v,r,e,a,b⟩=>⟨v,r,e,k x v a,VRels.all k b⟩
section
variable {P L:Addr->Prop}{τ:Tie}{σ s0 s1 se:Xa}{D:Addr} (R₁:Rel G t st σ) (np:∀a,P a->σ.heap.get? a=none) (pD:P D) (hk0:∀b o,σ.heap.get? b=some o->s0.heap.get? b=some o) (hg0:s0.gens=σ.gens) (ho0:s0.os=σ.os)
  (S:Step P (t.hide P) τ s0 s1) (R:Rel G τ st' s1) (hL:∀a,L a->t.pv a/\(se.heap.get? a).isSome=true)
  (hext:∀b o,(P b->b=D)->¬L b->s1.heap.get? b=some o->se.heap.get? b=some o) (hg:se.gens=s1.gens) (ho:se.os=s1.os)
include R₁ np pD hk0 hg0 ho0 S R hL hext hg ho
theorem ziy(hsys:D≠sysModules){k:Nat}{o:MObj}(hO:∀t2,(∀(X:V)(v:Xb),VRel τ s1.heap X v->VRel t2 se.heap X v)->t2.ρ (k,st'.cnt k)=some D->ObjOk G t2 se.heap (k,st'.cnt k) o):
  ∃t2,Step L t t2 σ se/\Rel G t2 (st'.new k o) se/\VRel t2 se.heap (.ref (k,st'.cnt k)) (.ref D)/\t2.pv=t.pv/\∀(X:V)(v:Xb),VRel τ s1.heap X v->VRel t2 se.heap X v:=by
 have hpv:τ.pv=(t.hide P).pv:=S.le.pv;have nP:∀a,t.pv a->¬P a:=λa q z=>by
  have:=R₁.live a (.inr q);rw[np a z]at this;exact qi this
 have pτ:∀a,t.pv a->τ.pv a:=λa q=>by rw[hpv];exact .inl q
 have Fg:Forget P L τ {τ with pv:=t.pv,st:=t.st} s1 se :=
  ⟨rfl,rfl,λa q=>⟨pτ a q,nP a q⟩,λa q=>by rw[hpv];exact .inr q,λa q=>⟨pτ a (hL a q).1,(hL a q).2⟩,λb o nb nl e=>hext b o (λq=>(nb q).elim) nl e,hg,ho,rfl⟩
 have S2:=Step.unhide (X:=P) (λa q=>.inl q) np hk0 hg0 ho0 S Fg;have Fg':Forget (λa=>P a/\a≠D) L τ {τ with pv:=λa=>t.pv a\/a=D,st:=t.st} s1 se :=
  ⟨rfl,rfl,λa q=>q.elim (λq=>⟨pτ a q,λz=>nP a q z.1⟩) (λq=>⟨by rw[hpv,q];exact .inr pD,λz=>z.2 q⟩),λa q=>by rw[hpv];exact .inr q.1,λa q=>⟨pτ a (hL a q).1,(hL a q).2⟩,
   λb o nb nl e=>hext b o (λq=>Classical.byContradiction λz=>nb ⟨q,z⟩) nl e,hg,ho,rfl⟩
 refine xg (R.cnt k _ (Zs _)) λc1 c2 ξ=>?_;have A:=(R.forget Fg').adopt (k:=k) (o:=o) (pv':=t.pv) (.inr rfl) (λa=>Iff.rfl) (λq=>nP D q pD) hsys λup=>hO _ (λX v r=>up X v (VRel.forget Fg' X r)) (Zg rfl);exact⟨_,S2.own (l:=(k,st'.cnt k)) (np D pD) c1 c2,A.1,⟨D,rfl,Zg rfl⟩,rfl,λX v r=>VRel.map A.2.1 A.2.2 X (VRel.forget Fg' X r)⟩
theorem zdy(hsys:D≠sysModules){ys:Array Xb}{vs:Xd V}(hD:PL s1.heap D ys)(hacc:VRels τ s1.heap vs ys.toList)(hsz:vs.length<=zi)(M:Xc Nat):
  ∃t2,Step L t t2 σ se/\Rel G t2 (stM M st' vs) se/\VRel t2 se.heap (zug M st' vs) (.ref D)/\t2.pv=t.pv/\∀(X:V)(v:Xb),VRel τ s1.heap X v->VRel t2 se.heap X v:=by
 have hpv:τ.pv=(t.hide P).pv:=S.le.pv;have nP:∀a,t.pv a->¬P a:=λa q z=>by
  have:=R₁.live a (.inr q);rw[np a z]at this;exact qi this
 have hD':PL se.heap D ys:=let ⟨k,q⟩:=hD;⟨k,hext D _ (λξ=>rfl) (λq=>nP D (hL D q).1 pD) q⟩
 cases M with
 |none =>
  have pτ:∀a,t.pv a->τ.pv a:=λa q=>by rw[hpv];exact .inl q
  have Fg:Forget P L τ {τ with pv:=t.pv,st:=t.st} s1 se :=
   ⟨rfl,rfl,λa q=>⟨pτ a q,nP a q⟩,λa q=>by rw[hpv];exact .inr q,λa q=>⟨pτ a (hL a q).1,(hL a q).2⟩,λb o nb nl e=>hext b o (λq=>(nb q).elim) nl e,hg,ho,rfl⟩
  refine⟨_,Step.unhide (X:=P) (λa q=>.inl q) np hk0 hg0 ho0 S Fg,R.forget Fg,⟨D,ys,rfl,hD',?_,hsz,VRels.forget Fg _ hacc⟩,rfl,λX v r=>VRel.forget Fg X r⟩;rintro(q|q)
  .exact R.pv D (by rw[hpv];exact .inr pD) q
  .exact nP D q pD
 |some k=>exact ziy R₁ np pD hk0 hg0 ho0 S R hL hext hg ho hsys λt2 up hr=>⟨D,ys,hr,hD',hsz,VRels.all up hacc⟩
end
set_option tactic.hygienic true in
theorem zfo(hq:d.q=true)(O:G.Ok N){M:Xc Nat}(K:CompOk sc scope slot Γ x)(hset:ba iast=true)(ha:IterAst sc range iast j)(hj:qe G C d sc Γ it j)(hcond:CondSim G C d (qu sc scope.names) (xo (qu sc scope.names) Γ slot x) cond ifs)(hel:qe G C d (qu sc scope.names) (xo (qu sc scope.names) Γ slot x) el elt):
  qe G C d sc Γ (.comp M slot range it cond el) (.ListComp elt [⟨.Name x px,iast,ifs,0⟩] scope pos):=by
 intro t st s env loc X st' A hA hsc F R e Q E k;rw[m8]at e;refine zf (Res.bind_ok e) λsrc s1 e1 e=>?_;split at e
 .rename_i xs hx;refine zf (Res.bind_ok e) λvs s2 e2 e=>?_;obtain⟨rfl,rfl⟩:X=zug M s2 vs/\st'=stM M s2 vs:=by cases M<;>(refine zn (xh e) λeq0 eq1=>?_;subst eq0;subst eq1;exact⟨rfl,rfl⟩)
  rw[eval_ListComp];refine ziu (use:=none) hq O hA hsc K hset ha hj hcond hel F R e1 hx e2 λt1 σ1 Ca D se S1 R1 hsys ce=>?_;obtain⟨P,τ,s0,s1',ys,m,np,pC,pD,DC,hk0,hg0,ho0,S,Rr,Fr,hD,hacc,hsz,hn,hext,hg,ho⟩:=ce;refine⟨m,hn,λh' hs=>?_⟩;refine z36 (zdy (L:=noX) (se:={se with heap:=h'}) R1 np pD hk0 hg0 ho0 S Rr (λa z=>z.elim) (λb o hb ξ e=>(hs.2 b λ(z:b=Ca)=>DC (z▸hb (z▸pC)).symm).trans (hext b o (λq=>.inr (hb q)) e)) hg ho hsys hD hacc hsz M) λt2 S2 R2 r2 ξ ξ=>?_;exact k _ t2 _ (S1.trans S2) R2 r2
 .exact zb e
end
end Internal
end
section
set_option maxRecDepth 100000
namespace Internal
open PySem PySem.W PyProof.Rows
noncomputable def own(env:Env):Addr->Prop:=λa=>a=env.locals\/∃n,env.cells.lookup n=some a
noncomputable def j4(Γ:Gam):Prop:=∀(i j:Nat)(y:Xv),Γ[i]?=some (some y)->Γ[j]?=some (some y)->i=j
section
variable {G:Gd}{N:Names}{C:Calls}{d:Dp}{sc:Sc}{Γ:Gam}{A:Xe}{t:Tie}{st st':MS}{s:Xa}{env:Env}{loc:Loc}{X Y Z:V}{v w:Xb}
theorem FrOk.ownPv(F:FrOk G A t env Γ loc s):∀a,own env a->t.pv a:=by
 rintro a (rfl|⟨n,h⟩)
 .exact F.pvl
 .exact F.pvc n a h
theorem FrOk.noClass(F:FrOk G A t env Γ loc s):(env.scope.kind==.class||(env.scope.kind==.module&&env.locals != env.globals))=false:=by rw[F.fn];rfl
variable{h:Heap}{a c:Addr}{m:Xv->Xc Xb}{o:Xc Xb}
theorem zcg(hn:h.Ns a m)(hc:h.IsCell c o):c≠a:=λz=>by
 refine gy hn λob es ep h1 h2 ξ=>?_;refine zd hc λoc h3 h4=>?_;rw[z,h1]at h3;cases h3;rw[h2]at h4;cases h4
theorem zjh(hn:h.Ns a m):(h.get? a).isSome=true:=by refine bp hn λo ξ ξ z ξ=>?_;rw[z];rfl
theorem eg(hc:h.IsCell c o):(h.get? c).isSome=true:=by refine zd hc λo z ξ=>?_;rw[z];rfl
theorem zey{o:Obj}(hn:h.Ns a m)(e:h.get? a=some o)(vs:Array Xb):o.data≠.fields vs:=λz=>by
 refine gy hn λob es ep h1 h2 ξ=>?_;cases h1.symm.trans e;cases h2.symm.trans z
variable{u:Xc Xb}
theorem tf{o:Obj}(hc:h.IsCell c u)(e:h.get? c=some o)(vs:Array Xb):o.data≠.fields vs:=λz=>by
 refine zd hc λob h1 h2=>?_;cases h1.symm.trans e;cases h2.symm.trans z
variable{h':Heap}
theorem oh(hk:∀o,h.get? a=some o->h'.get? a=some o)(hn:h.Ns a m):h'.Ns a m:=by
 refine bp hn λo es ep h1 h2=>?_;exact⟨o,es,ep,hk o h1,h2⟩
theorem ft(hk:∀o,h.get? a=some o->h'.get? a=some o)(hn:h.IsCell a u):h'.IsCell a u:=by
 refine zd hn λo h1 h2=>?_;exact⟨o,hk o h1,h2⟩
variable{i:Nat}
theorem zws{loc:Loc}(e:(loc.set i (some X))[i]?=some (some Y)):Y=X:=by
 by_cases h:i<loc.length
 .rw[List.getElem?_set_self h]at e;cases e;rfl
 .rw[List.getElem?_eq_none (by rw[List.length_set];exact Nat.le_of_not_lt h)]at e;exact za e
variable{y:Xv}
theorem s7{At At':Xv->Xb->Prop}{t':Tie}(gi:j4 Γ)(hi:Γ[i]?=some (some y))(hs:∀(j:Nat)(x:Xv)(Y:V),Γ[j]?=some (some x)->loc[j]?=some (some Y)->∃u,VRel t h Y u/\At x u)(r:VRel t' h' X v)(hy:At' y v)(ho:∀x u,x≠y->At x u->At' x u)(up:∀Y u,VRel t h Y u->VRel t' h' Y u)(j:Nat)(x:Xv)(Y:V)(e1:Γ[j]?=some (some x))(e2:(loc.set i (some X))[j]?=some (some Y)):∃u,VRel t' h' Y u/\At' x u:=by
 by_cases z:j=i
 .subst z;cases hi.symm.trans e1;cases zws e2;exact⟨v,r,hy⟩
 .rw[List.getElem?_set_ne (λe=>z e.symm)]at e2;refine zd (hs j x Y e1 e2) λu u1 u2=>?_;exact⟨u,up _ _ u1,ho x u (λe=>z (gi j i y (e▸e1) hi)) u2⟩
variable{Q:Unit->Xa->Prop}{E':Xb->Xa->Prop}
theorem zfw(F:FrOk G A t env Γ loc s)(R:Rel G t st s)(gi:j4 Γ)(hi:Γ[i]?=some (some y))(hk:env.kindOf y=some .local)(r:VRel t s.heap X v)(q:∀s',Step (own env) t t s s'->Rel G t st s'->FrOk G A t env Γ (loc.set i (some X)) s'->Q () s'):Xn G.M A (storeName env y v) Q E' s:=by
 refine qo F.ex λm cm hn hcc hz hs=>?_;refine wpAny_storeName_local hk hn (λh' hn' hs'=>?_) F.noClass;have hl:=zjh hn';have S:Step (own env) t t s {s with heap:=h',toks:=s.toks+1}:=Step.priv (.inl rfl) hl hs';have sk:Stk A t h':=F.sk.step R (Step.priv (X:=(·=env.locals)) (tk:=s.toks+1) rfl hl hs') λa x ξ o e=>by subst x;exact zey hn' e
 exact q _ S (R.priv F.pvl hl hs') ⟨sk,F.fn,F.gl,F.bl,F.pvl,F.pvc,F.apart,_,cm,hn',λn c e=>ft (λo h=>(hs'.2 c (zcg hn (hcc n c e))).trans h) (hcc n c e),hz,
  s7 (At':=λx u=>(env.kindOf x=some .local/\(if x=y then some v else m x)=some u)\/(env.kindOf x=some .cell/\cm x=some u)) gi hi hs (VRel.step S F.ownPv _ r) (.inl ⟨hk,Zg rfl⟩) (λx u hne p=>p.imp (λp=>⟨p.1,(Zh hne).trans p.2⟩) id) λY u=>VRel.step S F.ownPv Y⟩
theorem zh8(F:FrOk G A t env Γ loc s)(R:Rel G t st s)(gi:j4 Γ)(hi:Γ[i]?=some (some y))(hk:env.kindOf y=some .cell)(r:VRel t s.heap X v)(q:∀s',Step (own env) t t s s'->Rel G t st s'->FrOk G A t env Γ (loc.set i (some X)) s'->Q () s'):Xn G.M A (storeName env y v) Q E' s:=by
 refine qo F.ex λm cm hn hcc hz hs=>?_;refine zr (Jh.mp (hz y hk)) λc hcl=>?_;have hc:=hcc y c hcl;have hne:=zcg hn hc;refine wpAny_storeName_cell F.fn hk hcl hc λh' hc' hs'=>?_;have hl:=eg hc';have S:Step (own env) t t s {s with heap:=h',toks:=s.toks}:=Step.priv (.inr ⟨y,hcl⟩) hl hs';have sk:Stk A t h':=F.sk.step R (Step.priv (X:=(·=c)) (tk:=s.toks) rfl hl hs') λa x ξ o e=>by subst x;exact tf hc' e
 refine q _ S (R.priv (F.pvc y c hcl) hl hs') ⟨sk,F.fn,F.gl,F.bl,F.pvl,F.pvc,F.apart,m,λn=>if n=y then some v else cm n,oh (λo h=>(hs'.2 _ hne.symm).trans h) hn,λn c' e=>?_,hz,
  s7 (At':=λx u=>(env.kindOf x=some .local/\m x=some u)\/(env.kindOf x=some .cell/\(if x=y then some v else cm x)=some u)) gi hi hs (VRel.step S F.ownPv _ r) (.inr ⟨hk,Zg rfl⟩) (λx u hne p=>p.imp id λp=>⟨p.1,(Zh hne).trans p.2⟩) λY u=>VRel.step S F.ownPv Y⟩
 by_cases z:n=y
 .subst z;cases hcl.symm.trans e;show Heap.IsCell h' c (if n=n then some v else cm n);rw[Zg rfl];exact hc'
 .show Heap.IsCell h' c' (if n=y then some v else cm n);rw[Zh z];exact ft (λo h=>(hs'.2 c' λq=>z (F.apart n y c (q▸e) hcl)).trans h) (hcc n c' e)
theorem ax(F:FrOk G A t env Γ loc s)(R:Rel G t st s)(gi:j4 Γ)(hi:Γ[i]?=some (some y))(hk:env.kindOf y=some .local\/env.kindOf y=some .cell)(r:VRel t s.heap X v)(q:∀s',Step (own env) t t s s'->Rel G t st s'->FrOk G A t env Γ (loc.set i (some X)) s'->Q () s'):Xn G.M A (storeName env y v) Q E' s :=
 hk.elim (λhk=>zfw F R gi hi hk r q) λhk=>zh8 F R gi hi hk r q
noncomputable def zj2(A:Xe)(env:Env):Prop:=∃outer,A.frames=some (env::outer)/\env.frame=some env.locals
noncomputable def py(t:Tie)(h:Heap):Fl->Flow->Prop
 |.next,f=>f=.next
 |.ret X,f=>∃v,f=.ret v/\VRel t h X v
noncomputable def SimF(G:Gd)(A:Xe)(env:Env)(Γ:Gam)(t:Tie)(s:Xa)(tree:Sem Flow)(st':MS)(fl:Fl)(loc':Loc):Prop :=
 ∀(Q:Flow->Xa->Prop)(E:Xb->Xa->Prop),(∀f t' s',Step (own env) t t' s s'->Rel G t' st' s'->FrOk G A t' env Γ loc' s'->py t' s'.heap fl f->Q f s')->Xn G.M A tree Q E s
noncomputable def wh(G:Gd)(C:Calls)(d:Dp)(sc:Sc)(Γ:Gam)(n:Nat)(x:S)(ast:Stmt):Prop :=
 ∀t st s env loc fl loc' st' A,AOk d A->zj2 A env->env.scope.names=sc->FrOk G A t env Γ loc s->Rel G t st s->ex G.P C n x loc st=.ok (fl,loc') st'->SimF G A env Γ t s (exec ast env) st' fl loc'
noncomputable def fm(G:Gd)(C:Calls)(d:Dp)(sc:Sc)(Γ:Gam)(n:Nat)(l:Xd S)(m:Xd Stmt):Prop :=
 ∀t st s env loc fl loc' st' A,AOk d A->zj2 A env->env.scope.names=sc->FrOk G A t env Γ loc s->Rel G t st s->exs G.P C n l loc st=.ok (fl,loc') st'->SimF G A env Γ t s (execs m env) st' fl loc'
variable {n:Nat}
theorem SimF.ofE{A:Xe}{tree:Sem Flow}{fl:Fl}{loc':Loc}{t1:Tie}{s1:Xa}(S:Step noX t t1 s s1)(h:SimF G A env Γ t1 s1 tree st' fl loc'){Q:Flow->Xa->Prop}(k:∀f t' s',Step (own env) t t' s s'->Rel G t' st' s'->FrOk G A t' env Γ loc' s'->py t' s'.heap fl f->Q f s'):Xn G.M A tree Q E' s1 :=
 h Q E' λf t' s' S' R' F' r=>k f t' s' ((S.mono λξ z=>z.elim).trans S') R' F' r
theorem zqu:fm G C d sc Γ n [] []:=by
 intro t st s env loc fl loc' st' A hA hT hsc F R e Q E k;simp only[zi1,jb]at e;cases e;exact wpAny_execs_nil (k _ t s (.refl _ _ _) R F rfl)
theorem zl3{x:S}{l:Xd S}{ast:Stmt}{m:Xd Stmt}(h1:wh G C d sc Γ n x ast)(h2:fm G C d sc Γ n l m):fm G C d sc Γ n (x::l) (ast::m):=by
 intro t st s env loc fl loc' st' A hA hT hsc F R e Q E k;simp only[zi1,jb]at e;refine zf (Res.bind_ok e) λnq0 s1 e1 e=>?_;obtain⟨f1,l1⟩:=nq0;refine Xo (h1 t st s env loc f1 l1 s1 A hA hT hsc F R e1 _ _ λf t1 σ1 S1 R1 F1 r1=>?_);cases f1 with
 |next =>
  have r1:f=.next:=r1
  subst r1;exact h2 t1 s1 σ1 env l1 fl loc' st' A hA hT hsc F1 R1 e _ _ λf t2 σ2 S2 R2 F2 r2=>k f t2 σ2 (S1.trans S2) R2 F2 r2
 |ret X =>
  refine zd r1 λv eq1 r=>?_;subst eq1;cases e;exact k _ t1 σ1 S1 R1 F1 ⟨v,rfl,r⟩
noncomputable def vd(x:Xu):Bool:=!(Nat.beq x.ctorIdx 8||Nat.beq x.ctorIdx 9||Nat.beq x.ctorIdx 10)
theorem gp{e:Xu}(h:vd e=true)(tg:Xc Xu)(ln:Nat)(env:Env):swapsWith e tg ln env=pure false:=by
 cases e<;>first|rfl|exact qi h
variable{x:Xu}{pos:Pos}
theorem zba{a:E}(hx:vd x=true)(ha:qe G C d sc Γ a x):wh G C d sc Γ n (.expr a) (.Expr x pos):=by
 intro t st s env loc fl loc' st' A hA hT hsc F R e Q E k;rw[n3]at e;refine zf (Res.bnd_ok e) λV s1 e1 e=>?_;cases e;refine wpAny_Expr_any (ha t st s env loc _ _ A hA hsc F R e1 _ _ λv t1 σ1 S1 R1 r1=>?_) (by unfold interactive;rw[F.fn];rfl) (gp hx _ _ _);exact k _ t1 σ1 (S1.mono λξ z=>z.elim) R1 (F.step R S1) rfl
theorem zl6:wh G C d sc Γ n (.ret none) (.Return none pos):=by
 intro t st s env loc fl loc' st' A hA hT hsc F R e Q E k;rw[tx]at e;cases e;exact wpAny_Return_none (k _ t s (.refl _ _ _) R F ⟨_,rfl,rfl⟩)
theorem zqy{a:E}(ha:qe G C d sc Γ a x):wh G C d sc Γ n (.ret (some a)) (.Return (some x) pos):=by
 intro t st s env loc fl loc' st' A hA hT hsc F R e Q E k;rw[tx]at e;refine zf (Res.bnd_ok e) λV s1 e1 e=>?_;cases e;refine wpAny_Return_some (ha t st s env loc _ _ A hA hsc F R e1 _ _ λv t1 σ1 S1 R1 r1=>?_);exact k _ t1 σ1 (S1.mono λξ z=>z.elim) R1 (F.step R S1) ⟨v,rfl,r1⟩
noncomputable def ya(sc:Sc)(y:Xv):Bool:=sc.lookup y==some .local||sc.lookup y==some .cell
theorem b9(hsc:env.scope.names=sc)(h:ya sc y=true):env.kindOf y=some .local\/env.kindOf y=some .cell:=by
 unfold Env.kindOf;rw[hsc];simpa [ya] using h
theorem cu(gi:j4 Γ){a:E}{yp:Pos}(hi:Γ[i]?=some (some y))(hk:ya sc y=true)(hx:vd x=true)(ha:qe G C d sc Γ a x):wh G C d sc Γ n (.assign i a) (.Assign [.Name y yp] x pos):=by
 intro t st s env loc fl loc' st' A hA hT hsc F R e Q E k;rw[uo]at e;refine zf (Res.bnd_ok e) λV s1 e1 e=>?_;split at e
 case isFalse=>exact zb e
 cases e;refine wpAny_Assign_Name (ha t st s env loc _ _ A hA hsc F R e1 _ _ λv t1 σ1 S1 R1 r1=>?_) (gp hx _ _ _);exact ax (F.step R S1) R1 gi hi (b9 hsc hk) r1 λσ2 S2 R2 F2=>k _ t1 σ2 ((S1.mono λξ z=>z.elim).trans S2) R2 F2 rfl
theorem zh9(e o:Xu)(a:Xv)(p:Pos)(ln:Nat)(env:Env):swapsWith e (some (.Attribute o a p)) ln env=pure false:=by cases e<;>rfl
variable{b:E}{ap:Pos}
theorem zcx(O:G.Ok N)(hcl:∀c Ca,G.ca c=some Ca->ClsOk G Ca){a:E}{y:Xu}(hi:i<13)(ha:qe G C d sc Γ a x)(hb:qe G C d sc Γ b y):wh G C d sc Γ n (.setattr a i b) (.Assign [.Attribute x (G.an i) ap] y pos):=by
 intro t st s env loc fl loc' st' A hA hT hsc F R e Q E k;rw[me]at e;refine zf (Res.bnd_ok e) λV s1 e1 e=>?_;refine zf (Res.bnd_ok e) λU s2 e2 e=>?_;refine zf (Res.bnd_ok e) λu s3 e3 e=>?_;cases e;refine plainObj_wpAny_Assign_Attribute (hb t st s env loc _ _ A hA hsc F R e1 _ _ λv t1 σ1 S1 R1 r1=>?_) (zh9 _ _ _ _ _ _);refine ha t1 s1 σ1 env loc _ _ A hA hsc (F.step R S1) R1 e2 _ _ λw t2 σ2 S2 R2 r2=>?_;refine i5 O hcl hi R2 r2 (VRel.step S2 (λξ z=>z.elim) _ r1) e3 _ _ λξ t3 σ3 S3 R3 ξ=>?_;exact k _ t3 σ3 ((((S1.trans S2).trans S3)).mono λξ z=>z.elim) R3 (((F.step R S1).step R1 S2).step R2 S3) rfl
theorem zmr(e o i:Xu)(p:Pos)(ln:Nat)(env:Env):swapsWith e (some (.Subscript o i p)) ln env=pure false:=by cases e<;>rfl
theorem zcy{a c:E}{y z:Xu}(ha:qe G C d sc Γ a x)(hb:qe G C d sc Γ b y)(hc:qe G C d sc Γ c z):wh G C d sc Γ n (.setitem a b c) (.Assign [.Subscript x y ap] z pos):=by
 intro t st s env loc fl loc' st' A hA hT hsc F R e Q E k;rw[mh]at e;refine zf (Res.bnd_ok e) λV s1 e1 e=>?_;refine zf (Res.bnd_ok e) λU s2 e2 e=>?_;refine zf (Res.bnd_ok e) λW s3 e3 e=>?_;refine zf (Res.bnd_ok e) λu s4 e4 e=>?_;cases e;refine wpAny_Assign_Subscript (hc t st s env loc _ _ A hA hsc F R e1 _ _ λv t1 σ1 S1 R1 r1=>?_) (zmr _ _ _ _ _ _);have F1:=F.step R S1;refine ha t1 s1 σ1 env loc _ _ A hA hsc F1 R1 e2 _ _ λw t2 σ2 S2 R2 r2=>?_;have F2:=F1.step R1 S2;refine hb t2 s2 σ2 env loc _ _ A hA hsc F2 R2 e3 _ _ λi t3 σ3 S3 R3 r3=>?_;have F3:=F2.step R2 S3;refine p9 R3 (VRel.step S3 (λξ z=>z.elim) _ r2) r3 (VRel.step (S2.trans S3) (λξ z=>z.elim) _ r1) e4 _ _ λξ t4 σ4 S4 R4 ξ=>?_;exact k _ t4 σ4 ((((S1.trans S2).trans S3).trans S4).mono λξ z=>z.elim) R4 (F3.step R3 S4) rfl
theorem zqx{c:E}{b1 b2:Xd S}{m1 m2:Xd Stmt}(hc:bq G C d sc Γ c x)(h1:fm G C d sc Γ n b1 m1)(h2:fm G C d sc Γ n b2 m2):wh G C d sc Γ n (.ite c b1 b2) (.If x m1 m2 pos):=by
 intro t st s env loc fl loc' st' A hA hT hsc F R e Q E k;rw[bz]at e;refine zf (Res.bnd_ok e) λV s1 e1 e=>?_;refine zf (Res.bnd_ok e) λb s2 e2 e=>?_;refine zn (x4 e2) λeq0 eq1=>?_;subst eq0;subst eq1;refine wpAny_If (hc t st s env loc b _ A hA hsc F R e1 _ _ λb' t1 σ1 S1 R1 r1=>?_);subst r1;cases b' with
 |true =>
  simp only[if_true]at e ⊢;exact SimF.ofE S1 (h1 t1 _ σ1 env loc fl loc' st' A hA hT hsc (F.step R S1) R1 e) k
 |false =>
  simp only[Jl,Xq]at e ⊢;exact SimF.ofE S1 (h2 t1 _ σ1 env loc fl loc' st' A hA hT hsc (F.step R S1) R1 e) k
end
end Internal
end
section
set_option maxRecDepth 100000
namespace Internal
open PySem PySem.W PyProof.Rows
section
variable {G:Gd}{N:Names}{C:Calls}{d:Dp}{sc:Sc}{Γ:Gam}{A:Xe}{t:Tie}{st st':MS}{s:Xa}{env:Env}{loc:Loc}{X Y Z:V}{v w:Xb}{n:Nat}
set_option genCtorIdx true in
inductive TgtOk(G:Gd)(C:Calls)(d:Dp)(sc:Sc)(Γ:Gam):T->Xu->Prop
 |loc {i:Nat}{y:Xv}{p:Pos} (hi:Γ[i]?=some (some y)) (hk:ya sc y=true):TgtOk G C d sc Γ (.loc i) (.Name y p)
 |item {a b:E}{x y:Xu}{p:Pos} (ha:qe G C d sc Γ a x) (hb:qe G C d sc Γ b y):TgtOk G C d sc Γ (.item a b) (.Subscript x y p)
set_option genCtorIdx true in
inductive TgtsOk(G:Gd)(C:Calls)(d:Dp)(sc:Sc)(Γ:Gam):Xd T->Xd Xu->Prop
 |nil:TgtsOk G C d sc Γ [] []
 |cons {tg:T}{l:Xd T}{x:Xu}{m:Xd Xu}:TgtOk G C d sc Γ tg x->TgtsOk G C d sc Γ l m->TgtsOk G C d sc Γ (tg::l) (x::m)
set_option genCtorIdx true in
inductive ForTgt(G:Gd)(C:Calls)(d:Dp)(sc:Sc)(Γ:Gam):T ⊕ Xd T->Xu->Prop
 |one {tg:T}{x:Xu}:TgtOk G C d sc Γ tg x->ForTgt G C d sc Γ (.inl tg) x
 |many {ts:Xd T}{xs:Xd Xu}{k:Nat}{p:Pos}:TgtsOk G C d sc Γ ts xs->ForTgt G C d sc Γ (.inr ts) (.Tuple xs k p)
variable{Q:Unit->Xa->Prop}{E':Xb->Xa->Prop}
theorem zgb{o i:Xu}{pos':Pos}{v:Xb}(h:Xn G.M A (eval o env) (λov s₂=>Xn G.M A (eval i env) (λiv s₃=>Xn G.M A (PySem.setItem ov iv v) Q E' s₃) E' s₂) E' s):Xn G.M A (assign (.Subscript o i pos') env v) Q E' s:=λΔ p hΔ=>by
 obtain⟨rl,e⟩:∃rl:Xb->Xb->Xd Xb,assign (.Subscript o i pos') env v=(do
   let ov <- holding [v] (eval o env)
   let iv <- holding [v,ov] (eval i env)
   standAt pos'
   holding [v,ov,iv] (PySem.setItem ov iv v)
   release (rl ov iv) []):=⟨_,PySem.assign_Subscript o i pos' v⟩
 simp only[e,Sem.wp_bind',Sem.wp_holding,Sem.wp_cmd_standAt,Sem.wp_release];exact Sem.wp_mono _ Δ _ (λov p₂ s₂ h₂=>Sem.wp_mono _ Δ _ (λiv ξ s₃ h₃=>h₃ Δ _ hΔ) (λξ ξ ξ h'=>h') _ _ (h₂ Δ p₂ hΔ)) (λξ ξ ξ h'=>h') _ _ (h Δ _ hΔ)
noncomputable def zvd(G:Gd)(A:Xe)(env:Env)(Γ:Gam)(t:Tie)(s:Xa)(tree:Sem Unit)(st':MS)(loc':Loc):Prop :=
 ∀{Q:Unit->Xa->Prop}{E':Xb->Xa->Prop},(∀t' s',Step (own env) t t' s s'->Rel G t' st' s'->FrOk G A t' env Γ loc' s'->Q () s')->Xn G.M A tree Q E' s
variable{x:Xu}{loc':Loc}
theorem zro(gi:j4 Γ)(hA:AOk d A){tg:T}(h:TgtOk G C d sc Γ tg x)(hsc:env.scope.names=sc)(F:FrOk G A t env Γ loc s)(R:Rel G t st s)(r:VRel t s.heap X v)(e:zl2 G.P C tg X loc st=.ok loc' st'):zvd G A env Γ t s (assign x env v) st' loc':=by
 intro Q E' q;cases h with
 |loc hi hk =>
  simp only[zl2]at e;split at e
  case isFalse=>exact zb e
  cases e;exact wpAny_assign_Name (ax F R gi hi (b9 hsc hk) r (q t))
 |item ha hb =>
  refine zf (Res.bind_ok e) λU s2 e2 e=>?_;refine zf (Res.bind_ok e) λW s3 e3 e=>?_;refine zf (Res.bind_ok e) λu s4 e4 e=>?_;cases e;refine zgb (ha t st s env loc _ _ A hA hsc F R e2 _ _ λw t2 σ2 S2 R2 r2=>?_);have F2:=F.step R S2;refine hb t2 s2 σ2 env loc _ _ A hA hsc F2 R2 e3 _ _ λi t3 σ3 S3 R3 r3=>?_;refine p9 R3 (VRel.step S3 (λξ z=>z.elim) _ r2) r3 (VRel.step (S2.trans S3) (λξ z=>z.elim) _ r) e4 _ _ λξ t4 σ4 S4 R4 ξ=>?_;exact q t4 σ4 (((S2.trans S3).trans S4).mono λξ z=>z.elim) R4 ((F2.step R2 S3).step R3 S4)
variable{ts:Xd T}{xs:Xd Xu}
theorem zms(h:TgtsOk G C d sc Γ ts xs)(env:Env):(assignEach xs env).map (·.2)=xs.map (λx=>assign x env)/\(assignEach xs env).findIdx? (·.1)=none/\(assignEach xs env).length=ts.length:=by
 induction h with
 |nil=>exact⟨rfl,rfl,rfl⟩
 |@cons tg l x m h1 h2 ih =>
  have e:assignEach (x::m) env=(false,assign x env)::assignEach m env:=by cases h1<;>rfl
  rw[e];exact⟨by rw[Zz,ih.1];rfl,by rw[List.findIdx?_cons,ih.2.1];rfl,by rw[Z4,ih.2.2];rfl⟩
theorem zuc(gi:j4 Γ)(hA:AOk d A)(hsc:env.scope.names=sc)(h:TgtsOk G C d sc Γ ts xs):∀{Xs:Xd V}{vs:Xd Xb}{loc loc':Loc}{t:Tie}{st:MS}{s:Xa},FrOk G A t env Γ loc s->Rel G t st s->VRels t s.heap Xs vs->gm G.P C ts Xs loc st=.ok loc' st'->
  zvd G A env Γ t s (assignInOrder (xs.map λx=>assign x env) vs) st' loc':=by
 induction h with
 |nil =>
  intro Xs vs loc loc' t st s F R r e Q E' q;cases Xs with
  |nil=>cases e;cases r;exact assignInOrder_nil (q t s (.refl _ _ _) R F)
  |cons a l=>exact zb e
 |cons h1 h2 ih =>
  intro Xs vs loc loc' t st s F R r e Q E' q;cases Xs with
  |nil=>exact zb e
  |cons a l =>
   refine jz r λv r' eq2 ra rl=>?_;subst eq2;refine zf (Res.bind_ok (show(zl2 _ _ _ a loc st).bind (λl' s=>gm _ _ _ l l' s)=_ from e)) λl1 s1 e1 e=>?_;refine assignInOrder_cons (zro gi hA h1 hsc F R ra e1 λt1 σ1 S1 R1 F1=>?_);exact ih F1 R1 (VRels.step S1 F.ownPv _ rl) e λt2 σ2 S2 R2 F2=>q t2 σ2 (S1.trans S2) R2 F2
theorem dw{P:Prog}:∀{ts:Xd T}{Xs:Xd V}{loc loc':Loc}{st st':MS},gm P C ts Xs loc st=.ok loc' st'->ts.length=Xs.length
 | [],[],_,_,_,_,_=>rfl
 | [],_::_,_,_,_,_,e=>zb e
 |_::_,[],_,_,_,_,e=>zb e
 |a::l,b::m,loc,_,st,_,e=>by
  refine zf (Res.bind_ok (show(zl2 P C a b loc st).bind (λl' s=>gm P C l m l' s)=_ from e)) λξ ξ ξ e=>?_;exact Qd (·+1) (dw e)
variable{elts:Xd Xu}{pos:Pos}
theorem pr{x1:Nat}{t:Addr}{items:Array Xb}{E:Xb->Xa->Prop}(hh:A.handled=none)(ht:s.heap.IsList t items)(hn:(assignEach elts env).length=items.size)(hstar:(assignEach elts env).findIdx? (·.1)=none)(h:∀h',Heap.ExtBut s.heap.objs.size s.heap h'->Xn G.M A (assignInOrder ((assignEach elts env).map (·.2)) items.toList) Q E {s with heap:=h'}):
  Xn G.M A (assign (.Tuple elts x1 pos) env (.ref t)) Q E s:=by
 rw[arm_assign_Tuple];refine Ze (Jb ?_);unfold unpack;rw[hn,hstar];exact Ze (Ja (kun_itemsOf hh ht h))
variable{k:Nat}
theorem dy(hq:d.q=true)(gi:j4 Γ)(hA:AOk d A)(hsc:env.scope.names=sc){p:Pos}(h:TgtsOk G C d sc Γ ts xs)(F:FrOk G A t env Γ loc s)(R:Rel G t st s)(r:VRel t s.heap X v)(e:fj G.P C ts X loc st=.ok loc' st'):zvd G A env Γ t s (assign (.Tuple xs k p) env v) st' loc':=by
 intro Q E' q;refine xg (zms h env) λh1 h2 h3=>?_;have go:∀{Xs:Xd V}{vs:Array Xb}{h':Heap},VRels t s.heap Xs vs.toList->gm G.P C ts Xs loc st=.ok loc' st'->Heap.ExtBut s.heap.objs.size s.heap h'->Xn G.M A (assignInOrder ((assignEach xs env).map (·.2)) vs.toList) Q E' {s with heap:=h'}:=λ{Xs vs h'} rr e hext=>by
  rw[h1];have hk:∀b o,s.heap.get? b=some o->h'.get? b=some o:=λb o e=>hext b o (λz=>by rw[z,qr]at e;exact za e) e;have S0:Step noX t t s {s with heap:=h'}:=Step.grow R hk rfl rfl;exact zuc gi hA hsc h (F.step R S0) (R.grow hk rfl rfl) (VRels.step S0 (λξ z=>z.elim) _ rr) e λt2 σ2 S2 R2 F2=>q t2 σ2 ((S0.mono λξ z=>z.elim).trans S2) R2 F2
 cases X with
 |tup Xs =>
  refine wz r λa vs eq2 io na sz rr=>?_;subst eq2;exact wpAny_assign_Tuple (hA.hd hq) io.isTuple (by rw[h3,dw (show gm G.P C ts Xs loc st=_ from e),xr rr]) h2 λh' hext=>go rr e hext
 |lst Xs =>
  refine wz r λa vs eq2 io na sz rr=>?_;subst eq2;exact pr (hA.hd hq) io.isList (by rw[h3,dw (show gm G.P C ts Xs loc st=_ from e),xr rr]) h2 λh' hext=>go rr e hext
 |_=>exact zb e
noncomputable def ae:Xu->Bool
 |.Call ..=>true
 |.Name ..=>true
 |.Subscript ..=>true
 |_=>false
theorem ay{e:Xu}(h:ae e=true)(xs:Xd Xu)(k:Nat)(p:Pos)(ln:Nat)(env:Env):swapsWithSole [.Tuple xs k p] e ln env=pure false/\swappedStores [.Tuple xs k p] e env=pure none:=by
 cases e<;>first|exact⟨rfl,rfl⟩|exact qi h
theorem zfl(hq:d.q=true)(gi:j4 Γ){a:E}{tp:Pos}(h:TgtsOk G C d sc Γ ts xs)(hx:ae x=true)(ha:qe G C d sc Γ a x):wh G C d sc Γ n (.unpack ts a) (.Assign [.Tuple xs k tp] x pos):=by
 intro t st s env loc fl loc' st' A hA hT hsc F R e Q E k;rw[zae]at e;refine zf (Res.bnd_ok e) λV s1 e1 e=>?_;refine zf (Res.bnd_ok e) λl2 s2 e2 e=>?_;cases e;refine Assign_Tuple (ha t st s env loc _ _ A hA hsc F R e1 _ _ λv t1 σ1 S1 R1 r1=>?_) (ay hx _ _ _ _ _).1 (ay hx _ _ _ 0 _).2;exact dy hq gi hA hsc h (F.step R S1) R1 r1 e2 λt2 σ2 S2 R2 F2=>k _ t2 σ2 ((S1.mono λξ z=>z.elim).trans S2) R2 F2 rfl
variable{t₁:Tie}
theorem Stk.back{h h' h₁:Heap}{pv:Addr->Prop}(K:Stk A t h)(K1:Stk A t₁ h₁)(hs:t.st=t₁.st)(hp:pv=t₁.pv){l:Xd Env}(hl:l=t₁.st)(hx:∀L o,t₁.pv L->h.get? L=some o->h'.get? L=some o):Stk A {t with pv:=pv,st:=l} h' :=
 ⟨by rw[K.fr,hs,hl],λe he=>by
  have he:e∈t₁.st:=hl▸he;obtain⟨h1,L,o,h2,h3,h4,h5⟩:=K.ob e (hs▸he);obtain⟨-,L',o',g2,g3,-⟩:=K1.ob e he;rw[h2]at g2;obtain rfl:=Je g2;exact⟨h1,L,o,h2,hp▸g3,hx L o g3 h4,h5⟩⟩
theorem FrOk.forget{P L:Addr->Prop}{t₂:Tie}{s₁ s₂:Xa}(Fg:Forget P L t₁ t₂ s₁ s₂)(F:FrOk G A t₁ env Γ loc s₁)(hp:∀a,own env a->t₂.pv a)(ho:∀a o,own env a->s₁.heap.get? a=some o->s₂.heap.get? a=some o)(sk:Stk A t₂ s₂.heap):FrOk G A t₂ env Γ loc s₂:=by
 refine qo F.ex λm cm nq2 hcc hz hs=>?_;obtain⟨o,es,ep,hl,r⟩:=nq2;refine⟨sk,F.fn,F.gl,F.bl,hp _ (.inl rfl),λn c h=>hp _ (.inr ⟨n,h⟩),F.apart,m,cm,⟨o,es,ep,ho _ _ (.inl rfl) hl,r⟩,λn c e=>?_,hz,λi x X e1 e2=>?_⟩
 .refine zd (hcc n c e) λoc h1 h2=>?_;exact⟨oc,ho _ _ (.inr ⟨n,e⟩) h1,h2⟩
 .refine zd (hs i x X e1 e2) λv hv r=>?_;exact⟨v,VRel.forget Fg X hv,r⟩
variable{I:Addr}{i:Nat}
theorem zb8{l T:Addr}{E:Xb->Xa->Prop}(hit:s.heap.IsTupleIter I l i)(hQ:Q () s):
  Xn G.M A (letOwnedTupleGo (.Tuple elts k pos) (.ref I) (.ref T)) Q E s:=by
 refine jj hit λo ho hc hd=>?_;unfold letOwnedTupleGo;refine Ze (wpAny_load ho ?_);rw[hc,hd];exact Zr hQ
variable{tast:Xu}{s1:MS}{range:Bool}{src:V}
theorem zsq(hq:d.q=true)(gi:j4 Γ)(hA:AOk d A){ts:T ⊕ Xd T}(ht:ForTgt G C d sc Γ ts tast)(hsc:env.scope.names=sc)(hfo:d7 ts range src s1=true)(FA:FrOk G A t env Γ loc s)(RA:Rel G t st s)(rv:VRel t s.heap X v)(hIA:ItOk G s1 t s I range src i)(e2:uu G.P C ts X loc st=.ok loc' st'){Q':Unit->Xa->Prop}(q:∀t' s',Step (own env) t t' s s'->Rel G t' st' s'->FrOk G A t' env Γ loc' s'->Q' () s'):
  Xn G.M A (letOwnedTupleGo tast (.ref I) v) (λξ s'=>Xn G.M A (assign tast env v) Q' E' s') E' s:=by
 cases ht with
 |one h =>
  have hl:letOwnedTupleGo tast (.ref I) v=pure ():=by cases h<;>rfl
  rw[hl];exact Zr (zro gi hA h hsc FA RA rv e2 q)
 |many h =>
  refine zn (Zj.1 (hfo:(!range&&(z4 s1 src).isSome)=true)) λhr hfs=>?_;cases range with
  |true=>exact qi hr
  |false =>
  cases X with
  |tup Xs =>
   refine zf (id rv) λa' vs eq2 io=>?_;subst eq2;rcases hIA with ⟨kk,l,a,es,r,hli⟩|⟨r,dd,a,kvs,ep,rfl,es,_⟩|⟨x,St,rfl,_⟩
   .cases kk with
    |true=>exact wpAny_letOwnedTupleGo_listiter (show Heap.IsListIter _ I a _ from hli) (dy hq gi hA hsc h FA RA rv e2 q)
    |false=>exact zb8 (show Heap.IsTupleIter _ I a _ from hli) (dy hq gi hA hsc h FA RA rv e2 q)
   .cases hz:z4 s1 (.ref r)with
    |none=>rw[hz]at hfs;exact qi hfs
    |some p=>rw[tt hz]at es;exact za es
   .exact qi hfs
  |_=>exact zb e2
variable{l:Loc}
theorem zi4{a b:Fl}{m:Loc}{s t:MS}(e:Res.ok (a,l) s=Res.ok (b,m) t):a=b/\l=m/\s=t:=by cases e;exact⟨rfl,rfl,rfl⟩
variable{st₀ s':MS}{tg:V->Loc->MS->Res Loc}{l':Loc}{fl:Fl}
theorem sd{bd:Loc->MS->Res (Fl×Loc)}{s:MS}(e:jg st₀ range src tg bd [] l s=.ok (fl,l') s'):stays st₀ s range src=true/\.next=fl/\l=l'/\s=s':=by
 rw[yq]at e;refine zn (xu e) λh e=>?_;exact⟨h,zi4 e⟩
theorem cw{x:V}{xs:Xd V}{bd:Loc->MS->Res (Fl×Loc)}{s:MS}(e:jg st₀ range src tg bd (x::xs) l s=.ok (fl,l') s'):
  stays st₀ s range src=true/\∃l2 s2 f3 l3 s3,tg x l s=.ok l2 s2/\bd l2 s2=.ok (f3,l3) s3/\(match f3 with|.next=>jg st₀ range src tg bd xs l3 s3|.ret v=>.ok (.ret v,l3) s3)=.ok (fl,l') s':=by
 rw[vb]at e;refine zn (xu e) λh e=>?_;refine zf (Res.bnd_ok e) λl2 s2 e2 e=>?_;refine zf (Res.bind_ok e) λnq0 s3 e3 e=>?_;obtain⟨f3,l3⟩:=nq0;exact⟨h,l2,s2,f3,l3,s3,e2,e3,e⟩
set_option genCtorIdx true in
inductive FInv(G:Gd)(A:Xe)(C:Calls)(t:Tie)(env:Env)(Γ:Gam)(I:Addr)(s0:Xa)(s1:MS)(range:Bool)(src:V)(xs:Xd V)(ts:T ⊕ Xd T)(n:Nat)(body:Xd S)(fl:Fl)(loc':Loc)(st':MS):Nat->Xa->Prop
 |mk (τ:Tie) (σ:Xa) (sti:MS) (locI:Loc) (done rest:Xd V) (hxs:xs=done++rest) (S:Step (λa=>a=I\/own env a) t τ s0 σ) (R:Rel G τ sti σ) (F:FrOk G A τ env Γ locI σ) (hI:ItOk G s1 τ σ I range src done.length)
   (e:jg s1 range src (uu G.P C ts) (exs G.P C n body) rest locI sti=.ok (fl,loc') st'):FInv G A C t env Γ I s0 s1 range src xs ts n body fl loc' st' rest.length σ
variable{m:Xd Stmt}{s0 σ:Xa}{sti:MS}{τ:Tie}{locI:Loc}{J:Xa->Prop}{EE:Xb->Xa->Prop}
theorem zoi(hq:d.q=true)(gi:j4 Γ){ts:T ⊕ Xd T}{body:Xd S}(ht:ForTgt G C d sc Γ ts tast)(hb:fm G C d sc Γ n body m)(hA:AOk d A)(hT:zj2 A env)(hsc:env.scope.names=sc){st':MS}{xs done rest:Xd V}{RR:Flow->Xa->Prop}(hfo:d7 ts range src s1=true)(hx:z8 s1 range src=some xs)(nI:¬own env I)(hpI:t.pv I)(nF0:¬t.Fr I)(hxs:xs=done++rest)(S:Step (λa=>a=I\/own env a) t τ s0 σ)(Rr:Rel G τ sti σ)(Fr:FrOk G A τ env Γ locI σ)(hIt:ItOk G s1 τ σ I range src done.length)(e:jg s1 range src (uu G.P C ts) (exs G.P C n body) rest locI sti=.ok (fl,loc') st')(fin:∀{τ:Tie}{σ5 se:Xa}{f:Flow},Step (λa=>a=I\/own env a) t τ s0 σ5->Rel G τ st' σ5->FrOk G A τ env Γ loc' σ5->(∀b o,b≠I->σ5.heap.get? b=some o->se.heap.get? b=some o)->se.gens=σ5.gens->se.os=σ5.os->py τ σ5.heap fl f->RR f se)(hJ:∀m s,m<rest.length->FInv G A C t env Γ I s0 s1 range src xs ts n body fl loc' st' m s->J s):
  Xn G.M A (pyNext (.ref I)) (λr s₁=>match r with
   |none=>Xn G.M A (execs [] env) (λf s₃=>RR f s₃) EE s₁
   |some v=>Xn G.M A (letOwnedTupleGo tast (.ref I) v) (λξ s₁' =>
     Xn G.M A (assign tast env v) (λξ s₂=>Xn G.M A (execs m env) (λf s₃=>match f with
      |.next|.cont=>J s₃
      |.brk=>RR .next s₃
      |.ret v=>RR (.ret v) s₃) EE s₂) EE s₁') EE s₁) EE σ:=by
 have pI:τ.pv I:=by rw[S.le.pv];exact hpI
 have nF:¬τ.Fr I:=λf=>nF0 (S.le.fr f);cases rest with
 |nil =>
  refine zjy (sd e) λhst e1 e2 e3=>?_;have hIt':ItOk G s1 τ σ I range src xs.length:=by rw[hxs,Z0];exact hIt
  refine zot Rr (hA.hd hq) hx hst hIt' λh' tk hext=>?_;exact wpAny_execs_nil (fin S (e3▸Rr) (e2▸Fr) (λb o nb e=>hext b o nb e) rfl rfl (show py τ σ.heap fl .next from e1▸rfl))
 |cons x0 rest =>
  refine byQ λQ' k'=>?_;obtain⟨hst,l2,s2,f3,l3,s3,e2,e3,e⟩:=cw e;refine k' ?_;have hi:xs[done.length]?=some x0:=by rw[hxs,Ju (Zs _),Nat.sub_self];rfl
  refine zja Rr pI hx hst hIt hi λv h1 tk1 SA RA rv hIA=>?_;have xA:∀a,a=I->τ.pv a:=λa z=>by rw[z];exact pI
  have FA:FrOk G A τ env Γ locI {σ with heap:=h1,toks:=tk1}:=Fr.stepX Rr SA xA (λz=>nI (.inl z.symm)) (λnm c hc z=>nI (.inr ⟨nm,by rw[<- z];exact hc⟩)) λa z=>by rw[z];exact nF
  have SA':Step (λa=>a=I\/own env a) τ τ σ {σ with heap:=h1,toks:=tk1}:=SA.mono λa z=>.inl z;refine zsq hq gi hA ht hsc hfo FA RA rv hIA e2 λτ4 σ4 S4 R4 F4=>?_;have S4':Step (λa=>a=I\/own env a) τ τ4 {σ with heap:=h1,toks:=tk1} σ4:=S4.mono λa z=>.inr z;have hI4:=hIA.step S4 FA.ownPv RA.pv pI nI nF;have nF4:¬τ4.Fr I:=λf=>nF (S4.le.fr f);have pI:τ4.pv I:=by rw[S4.le.pv];exact pI
  refine hb τ4 s2 σ4 env l2 f3 l3 s3 A hA hT hsc F4 R4 e3 _ _ λf t5 σ5 S5 R5 F5 r5=>?_;have S5':Step (λa=>a=I\/own env a) τ4 t5 σ4 σ5:=S5.mono λa z=>.inr z;have S05:=((S.trans SA').trans S4').trans S5';cases f3 with
  |next =>
   have r5:f=.next:=r5
   subst r5;refine hJ _ _ (Zy _) ⟨t5,_,s3,l3,done++[x0],rest,by rw[hxs,Z3];rfl,S05,R5,F5,?_,e⟩;rw[Zf];exact hI4.step S5 F4.ownPv R4.pv pI nI nF4
  |ret V3 =>
   refine zd r5 λu eq1 ru=>?_;subst eq1;refine xg (zi4 e) λq1 q2 q3=>?_;exact fin S05 (q3▸R5) (q2▸F5) (λξ ξ ξ e=>e) rfl rfl (show py t5 σ5.heap fl (.ret u) from q1▸⟨u,rfl,ru⟩)
theorem zsr{t1:Tie}{σ1 s:Xa}{Q:Flow->Xa->Prop}(np:∀a,a=I->σ1.heap.get? a=none)(hk:∀b o,σ1.heap.get? b=some o->s0.heap.get? b=some o)(hg:s0.gens=σ1.gens)(ho:s0.os=σ1.os)(S1:Step noX t t1 s σ1)(F1:FrOk G A t1 env Γ loc σ1)(nP:∀a,t1.pv a->¬a=I)(nI:¬own env I)(k:∀f t' s',Step (own env) t t' s s'->Rel G t' st' s'->FrOk G A t' env Γ loc' s'->py t' s'.heap fl f->Q f s'){σ5 se:Xa}{f:Flow}(S:Step (λa=>a=I\/own env a) (t1.hide λa=>a=I) τ s0 σ5)(R5:Rel G τ st' σ5)(F5:FrOk G A τ env Γ loc' σ5)(hext:∀b o,b≠I->σ5.heap.get? b=some o->se.heap.get? b=some o)(hg5:se.gens=σ5.gens)(ho5:se.os=σ5.os)(rf:py τ σ5.heap fl f):Q f se:=by
 have hpv:τ.pv=(t1.hide λa=>a=I).pv:=S.le.pv;have Fg:Forget (λa=>a=I) (own env) τ {τ with pv:=t1.pv,st:=t1.st} σ5 se :=
  ⟨rfl,rfl,λa q=>⟨by rw[hpv];exact .inl q,nP a q⟩,λa q=>by rw[hpv];exact .inr q,λa q=>⟨F5.ownPv a q,by
   refine zr (Jh.mp (R5.live a (.inr (F5.ownPv a q)))) λo e=>?_;rw[hext a o (λz=>nI (z▸q)) e];rfl⟩,λb o nb ξ e=>hext b o nb e,hg5,ho5,rfl⟩
 have S':=Step.unhide (t:=t1) (L:=own env) (λa q=>q) np hk hg ho S Fg;refine k f _ se ((S1.mono λξ z=>z.elim).trans S') (R5.forget Fg) (F5.forget Fg (λa q=>F1.ownPv a q) (λa o q e=>hext a o (λz=>nI (z▸q)) e) (F5.sk.back F1.sk S.le.st rfl rfl λL o q e=>hext L o (λz=>nP L q z) e)) ?_;cases fl with
 |next=>exact rf
 |ret X=>refine zd rf λv q1 q2=>?_;exact⟨v,q1,VRel.forget Fg _ q2⟩
variable{body:Xd S}
theorem zqw(hq:d.q=true)(O:G.Ok N)(gi:j4 Γ){ts:T ⊕ Xd T}{it:E}{iast j:Xu}(ht:ForTgt G C d sc Γ ts tast)(hset:ba iast=true)(hia:IterAst sc range iast j)(hj:qe G C d sc Γ it j)(hb:fm G C d sc Γ n body m):
  wh G C d sc Γ n (.for_ ts range it body) (.For tast iast m [] pos):=by
 intro t st s env loc fl loc' st' A hA hT hsc F R e Q E k;rw[zgr]at e;refine zf (Res.bnd_ok e) λsrc s1 e1 e=>?_;refine zd (zch e) λxs hx e=>?_;refine zn (xu e) λhfo e=>?_;refine wpAny_For (zjb O hia hj hA hsc F R e1 hx λt1 σ1 S1 R1 s0 I hk hI hIl hg ho hit=>?_) (cf hset env)
 let P:Addr->Prop:=λa=>a=I
 have np:∀a,P a->σ1.heap.get? a=none:=λa z=>by rw[show a=I from z];exact hI
 have F1:=F.step R S1;have R0:Rel G (t1.hide P) s1 s0:=R1.hideGrow np hk (λa z=>by rw[show a=I from z];exact hIl) hg ho;have F0:FrOk G A (t1.hide P) env Γ loc s0:=F1.hideGrow np hk hg ho;have SG:Step noX (t1.hide P) (t1.hide P) σ1 s0:=⟨.refl _,λa o e ξ ξ ξ=>hk a o e,λa o e ξ ξ ξ=>⟨o.slots,hk a o e⟩,λξ o=>.inl o,λa o e=>by rw[hk a o e];rfl,hg,ho⟩
 have I0:ItOk G s1 (t1.hide P) s0 I range src 0:=hit _ _ (λa r=>VRel.step SG (λξ z=>z.elim) _ (VRel.hide np _ r)) rfl λb o e=>e;have nP:∀a,t1.pv a->¬P a:=λa q z=>by
  have:=R1.live a (.inr q);rw[np a z]at this;exact qi this
 have nI:¬own env I:=λq=>nP I (F1.ownPv I q) rfl;have nF0:¬(t1.hide P).Fr I:=F1.sk.fresh hI;refine codeAny_forLoop_any (FInv G A C (t1.hide P) env Γ I s0 s1 range src xs ts n body fl loc' st') (λnn σ h=>?_) xs.length ⟨t1.hide P,s0,s1,loc,[],xs,rfl,.refl _ _ _,R0,F0,I0,e⟩;cases h with
 |mk τ σ sti locI done rest hxs S Rr Fr hIt e=>exact zoi (t:=t1.hide P) hq gi ht hb hA hT hsc hfo hx nI (.inr rfl) nF0 hxs S Rr Fr hIt e (zsr np hk hg ho S1 F1 nP nI k) λm s hm h=>⟨m,hm,h⟩
theorem zrv{test:Loc->MS->Res V}{bd:Loc->MS->Res (Fl×Loc)}{s:MS}(e:vw test bd (k+1) l s=.ok (fl,l') s'):
  ∃b s1,test l s=.ok (.bool b) s1/\(if b then ∃f3 l3 s3,bd l s1=.ok (f3,l3) s3/\(match f3 with|.next=>vw test bd k l3 s3|.ret v=>.ok (.ret v,l3) s3)=.ok (fl,l') s' else .next=fl/\l=l'/\s1=s'):=by
 refine zf (Res.bnd_ok e) λV1 s1 e1 ea=>?_;refine zf (Res.bnd_ok ea) λb s2 e2 eb=>?_;refine zn (x4 e2) λeq0 eq1=>?_;subst eq0;subst eq1;refine⟨b,s2,e1,?_⟩;cases b with
 |true =>
  refine zf (Res.bind_ok eb) λnq0 s3 e3 e=>?_;obtain⟨f3,l3⟩:=nq0;exact⟨f3,l3,s3,e3,e⟩
 |false=>exact zi4 eb
set_option genCtorIdx true in
inductive WhI(G:Gd)(A:Xe)(C:Calls)(t:Tie)(env:Env)(Γ:Gam)(s:Xa)(c:E)(n:Nat)(body:Xd S)(fl:Fl)(loc':Loc)(st':MS)(k:Nat)(σ:Xa):Prop
 |mk (τ:Tie) (sti:MS) (locI:Loc) (S:Step (own env) t τ s σ) (R:Rel G τ sti σ) (F:FrOk G A τ env Γ locI σ) (e:vw (ev G.P C c) (exs G.P C n body) k locI sti=.ok (fl,loc') st')
variable{c:E}
theorem zif{body:Xd S}(hc:bq G C d sc Γ c x)(hb:fm G C d sc Γ n body m)(hA:AOk d A)(hT:zj2 A env)(hsc:env.scope.names=sc){RR:Flow->Xa->Prop}(S:Step (own env) t τ s σ)(Rr:Rel G τ sti σ)(Fr:FrOk G A τ env Γ locI σ)(e:vw (ev G.P C c) (exs G.P C n body) k locI sti=.ok (fl,loc') st')(fin:∀{f t' s'},Step (own env) t t' s s'->Rel G t' st' s'->FrOk G A t' env Γ loc' s'->py t' s'.heap fl f->RR f s')(hJ:∀j s',j<k->WhI G A C t env Γ s c n body fl loc' st' j s'->J s'):
  Xn G.M A (isTrue x env (eval x env)) (λb s₂ =>
   if b then Xn G.M A (execs m env) (λf s₃=>match f with
     |.next|.cont=>J s₃
     |.brk=>RR .next s₃
     |.ret v=>RR (.ret v) s₃) EE s₂
   else Xn G.M A (execs [] env) (λf s₃=>RR f s₃) EE s₂) EE σ:=by
 cases k with
 |zero=>exact zb e
 |succ k =>
  refine zf (zrv e) λb s1 e1 e=>?_;refine hc τ sti σ env locI b _ A hA hsc Fr Rr e1 _ _ λb' t1 σ1 S1 R1 r1=>?_;subst r1;have S1':=S.trans (S1.mono λξ z=>z.elim);have F1:=Fr.step Rr S1;cases b' with
  |true =>
   refine bp e λf3 l3 s3 e3 e=>?_;refine hb t1 _ σ1 env locI f3 l3 s3 A hA hT hsc F1 R1 e3 _ _ λf t5 σ5 S5 R5 F5 r5=>?_;cases f3 with
   |next =>
    have r5:f=.next:=r5
    subst r5;exact hJ k σ5 (Zy _) ⟨t5,s3,l3,S1'.trans S5,R5,F5,e⟩
   |ret V3 =>
    refine zd r5 λu eq1 ru=>?_;subst eq1;refine xg (zi4 e) λq1 q2 q3=>?_;exact fin (S1'.trans S5) (q3▸R5) (q2▸F5) (show py t5 σ5.heap fl (.ret u) from q1▸⟨u,rfl,ru⟩)
  |false =>
   refine xg e λq1 q2 q3=>?_;exact wpAny_execs_nil (fin S1' (q3▸R1) (q2▸F1) (show py t1 σ1.heap fl .next from q1▸rfl))
theorem zhy(hc:bq G C d sc Γ c x)(hb:fm G C d sc Γ n body m):wh G C d sc Γ n (.while_ c body) (.While x m [] pos):=by
 intro t st s env loc fl loc' st' A hA hT hsc F R e Q E k;rw[tz]at e;refine wpAny_While (codeAny_whileLoop (WhI G A C t env Γ s c n body fl loc' st') (λj σ h=>?_) n ⟨t,st,loc,.refl _ _ _,R,F,e⟩);cases h with
 |mk τ sti locI S Rr Fr e=>exact zif hc hb hA hT hsc S Rr Fr e (λS R F r=>k _ _ _ S R F r) λj s' hj h=>⟨j,hj,h⟩
end
end Internal
end
section
set_option maxRecDepth 100000
namespace Internal
open PySem PySem.W PyProof.Rows
section
variable {G:Gd}{N:Names}{C:Calls}{d:Dp}{sc:Sc}{Γ:Gam}{A:Xe}{t:Tie}{st st':MS}{s:Xa}{env:Env}{loc:Loc}{X Y Z:V}{v w:Xb}{n:Nat}
variable{h:Heap}{m cm:Xv->Xc Xb}{a:Addr}
theorem zpv(hn:h.Ns env.locals m)(hc:∀n c,env.cells.lookup n=some c->h.IsCell c (cm n))(q:own env a):(h.get? a).isSome=true:=by
 rcases q with rfl|⟨nm,q⟩
 .exact zjh hn
 .exact eg (hc nm a q)
theorem zlh(hn:h.Ns env.locals m)(hc:∀n c,env.cells.lookup n=some c->h.IsCell c (cm n))(q:own env a){o:Obj}(e:h.get? a=some o)(vs:Array Xb):o.data≠.fields vs:=by
 rcases q with rfl|⟨nm,q⟩
 .exact zey hn e vs
 .exact tf (hc nm a q) e vs
variable{elt:Xu}{scope:Scope}{y:Xv}{yp pos lpos:Pos}
theorem zmv{g:Xd Comprehension}:∃b,swapsWith (.ListComp elt g scope lpos) (some (.Name y yp)) pos.line env=pure b/\(b=true->env.kindOf y=some .local):=by
 refine⟨_,rfl,λh=>?_⟩;simp only[Qq,Xl]at h;exact h.1.1.2
variable{slot:Nat}{range:Bool}{it el:E}{cond:Xc E}
theorem zkf{C:Calls}{M:Xc Nat}{V:V}{s2:MS}(e:ev G.P C (.comp M slot range it cond el) loc st=.ok V s2):
  ∃src s1 xs vs s3,ev G.P C it loc st=.ok src s1/\z8 s1 range src=some xs/\compLoop s1 range src slot (evC G.P C cond) (ev G.P C el) loc [] xs s1=.ok vs s3/\V=zug M s3 vs/\s2=stM M s3 vs:=by
 rw[m8]at e;refine zf (Res.bind_ok e) λsrc s1 ea eb=>?_;refine zd (zch eb) λxs hx eb=>?_;refine zf (Res.bind_ok eb) λvs s3 ec ed=>?_;refine⟨src,s1,xs,vs,s3,ea,hx,ec,?_⟩;cases M<;>exact xh ed
variable{i:Nat}
theorem zrq(gi:j4 Γ)(hi:Γ[i]?=some (some y))(hkl:env.kindOf y=some .local)(F:FrOk G A t env Γ loc s)(R:Rel G t st s){Ca D:Addr}{se:Xa}{vs:Xd V}(hsys:D≠sysModules)(ce:CEnd G A t s st' vs env Γ loc Ca D se){M:Xc Nat}{Q:Xa->Prop}{E':Xb->Xa->Prop}(k:∀t2 s',Step (own env) t t2 s s'->Rel G t2 (stM M st' vs) s'->FrOk G A t2 env Γ (loc.set i (some (zug M st' vs))) s'->Q s'):compPost G.M A E' (some (assign (.Name y yp) env)) (λξ s'=>Q s') (.ref D) Ca (.ok .next) se:=by
 obtain⟨P,τ,s0,s1',ys,m,np,pC,pD,DC,hk0,hg0,ho0,S,Rr,Fr,hD,hacc,hsz,hn,hext,hg,ho⟩:=ce;have nO:∀a,own env a->¬P a:=λa q z=>by
  have h:=R.live a (.inr (F.ownPv a q));rw[np a z]at h;exact qi h
 refine qo Fr.ex λm0 cm hn0 hcc hz hs=>?_;have up:∀{b},own env b->∀o,s1'.heap.get? b=some o->se.heap.get? b=some o:=λq o e=>hext _ o (λz=>(nO _ q z).elim) e;show Xn _ A (assign (.Name y yp) env (.ref D)) _ _ _;refine wpAny_assign_Name (wpAny_storeName_local hkl (oh (up (.inl rfl)) hn0) (λh2 hn2 hs2=>?_) F.noClass);have hCL:Ca≠env.locals:=λz=>nO _ (.inl rfl) (z▸pC);refine⟨m,oh (λo h=>(hs2.2 _ hCL).trans h) hn,λh' hs'=>?_⟩;have hnF:Heap.Ns h' env.locals (λz=>if z=y then some (.ref D) else m0 z):=oh (λo h=>(hs'.2 _ hCL.symm).trans h) hn2;have hcF:∀n c,env.cells.lookup n=some c->h'.IsCell c (cm n):=λnm c q=>ft (λo e=>(hs'.2 c λ(z:c=Ca)=>nO c (.inr ⟨nm,q⟩) (z▸pC)).trans ((hs2.2 c (zcg hn0 (hcc nm c q))).trans (up (.inr ⟨nm,q⟩) o e))) (hcc nm c q);obtain⟨t2,S',R2,rD,hp2,up2⟩:=zdy (L:=own env) (se:={se with heap:=h',toks:=se.toks+1}) R np pD hk0 hg0 ho0 S Rr (λa q=>⟨F.ownPv a q,zpv hnF hcF q⟩)
   (λb o hb nl e=>(hs'.2 b λ(z:b=Ca)=>DC (z▸hb (z▸pC)).symm).trans ((hs2.2 b λ(z:b=env.locals)=>nl (.inl z)).trans (hext b o (λq=>.inr (hb q)) e))) hg ho hsys hD hacc hsz M
 exact k t2 _ S' R2 ⟨F.sk.step R S' λa x ξ o e=>zlh hnF hcF x e,F.fn,F.gl,F.bl,by rw[hp2];exact F.pvl,λnm c q=>by rw[hp2];exact F.pvc nm c q,F.apart,_,cm,hnF,hcF,hz,
  s7 (At':=λx u=>(env.kindOf x=some .local/\(if x=y then some (Value.ref D) else m0 x)=some u)\/(env.kindOf x=some .cell/\cm x=some u)) gi hi hs rD (.inl ⟨hkl,Zg rfl⟩) (λx u hne p=>p.imp (λp=>⟨p.1,(Zh hne).trans p.2⟩) id) up2⟩
theorem zr9{e:E}{n:Nat}{fl:Fl}{loc':Loc}(h:ex G.P C n (.assign i e) loc st=.ok (fl,loc') st'):∃V,ev G.P C e loc st=.ok V st'/\fl=.next/\loc'=loc.set i (some V):=by
 rw[uo]at h;refine zf (Res.bnd_ok h) λV s2 e1 h=>?_;refine zn (xu h) λξ h=>?_;cases h;exact⟨V,e1,rfl,rfl⟩
theorem cz(hq:d.q=true)(O:G.Ok N)(gi:j4 Γ)(hi:Γ[i]?=some (some y))(hk:ya sc y=true){M:Xc Nat}{iast j:Xu}{ifs:Xd Xu}{x:Xv}{px:Pos}(K:CompOk sc scope slot Γ x)(hset:ba iast=true)(ha:IterAst sc range iast j)(hj:qe G C d sc Γ it j)(hcond:CondSim G C d (qu sc scope.names) (xo (qu sc scope.names) Γ slot x) cond ifs)(hel:qe G C d (qu sc scope.names) (xo (qu sc scope.names) Γ slot x) el elt):
  wh G C d sc Γ n (.assign i (.comp M slot range it cond el)) (.Assign [.Name y yp] (.ListComp elt [⟨.Name x px,iast,ifs,0⟩] scope lpos) pos):=by
 intro t st s env loc fl loc' st' A hA hT hsc F R e Q E k;refine jj (zr9 e) λV e1 eq2 eq3=>?_;subst eq2;subst eq3;refine zd (zmv (env:=env) (elt:=elt) (scope:=scope) (y:=y) (yp:=yp) (pos:=pos) (lpos:=lpos) (g:=[⟨.Name x px,iast,ifs,0⟩])) λb hsw hloc=>?_;cases b with
 |false =>
  refine wpAny_Assign_Name (zfo hq O K hset ha hj hcond hel t st s env loc _ _ A hA hsc F R e1 _ _ λv t1 σ1 S1 R1 r1=>?_) hsw;exact ax (F.step R S1) R1 gi hi (b9 hsc hk) r1 λσ2 S2 R2 F2=>k _ t1 σ2 ((S1.mono λξ z=>z.elim).trans S2) R2 F2 rfl
 |true =>
  refine z39 (zkf e1) λsrc s1 xs vs s3 ea hx ec eq8 eq9=>?_;subst eq8;subst eq9;rw[exec_Assign_Name_used _ _ _ _ hsw];refine Ze (Jb (Ze ?_));show Xn _ A (do let _ <- comprehension (.ListComp elt [⟨.Name x px,iast,ifs,0⟩] scope lpos) scope env _ (newList []) false (eval iast env) (some (assign (.Name y yp) env))) _ _ s;exact Ze (wpAny_mono (ziu (use:=some (assign (.Name y yp) env)) (Q:=λξ s'=>Q .next s') (E':=E) hq O hA hsc K hset ha hj hcond hel F R ea hx ec λt1 σ1 Ca D se S1 R1 hsys ce =>
   zrq (Q:=Q .next) gi hi (hloc rfl) (F.step R S1) R1 hsys ce λt2 s' S' R2 F2=>k .next t2 s' ((S1.mono λξ z=>z.elim).trans S') R2 F2 rfl) (λξ s' hq=>Zr (Zr hq)) λξ ξ z=>z)
end
end Internal
end
section
set_option maxRecDepth 100000
namespace Internal
open PySem PySem.W PyProof.Rows
noncomputable def iq(fn:Fn):Gam:=fn.names.map λx=>if x==Str.empty then none else some x
section
variable {G:Gd}{N:Names}{C:Calls}{d:Dp}{sc:Sc}{Γ:Gam}{A:Xe}{t:Tie}{st st':MS}{s:Xa}{env:Env}{loc:Loc}{X Y Z:V}{v w:Xb}{n:Nat}
theorem tb(k:Xv->Xc NameKind):∀(b:Xd (Xv×Xb)) (m:Xv->Xc Xb) (x:Xv),x ∉ b.map (·.1)->bindL k b m x=m x
 | [],_,_,_=>rfl
 |(y,v)::r,m,x,h=>by
  simp only[Zz,Zu,not_or]at h;rw[bindL,tb k r _ x h.2];split
  .exact Zh h.1
  .rfl
theorem ta(k:Xv->Xc NameKind):∀(b:Xd (Xv×Xb)) (m:Xv->Xc Xb) (x:Xv),x ∉ b.map (·.1)->bindC k b m x=m x
 | [],_,_,_=>rfl
 |(y,v)::r,m,x,h=>by
  simp only[Zz,Zu,not_or]at h;rw[bindC,ta k r _ x h.2];split
  .rfl
  .exact Zh h.1
theorem zdl(k:Xv->Xc NameKind):∀(b:Xd (Xv×Xb)) (m:Xv->Xc Xb) (x:Xv) (v:Xb),(b.map (·.1)).Nodup->(x,v)∈b->k x=some .local->bindL k b m x=some v
 |(y,u)::r,m,x,v,nd,h,hk=>by
  rw[Zz,Qu]at nd;rcases Zu.mp h with e|h
  .refine zn (Prod.mk.inj e) λeq0 eq1=>?_;subst eq0;subst eq1;rw[bindL,tb k r _ _ nd.1,Zg hk];exact Zg rfl
  .rw[bindL];exact zdl k r _ x v nd.2 h hk
theorem zdk(k:Xv->Xc NameKind):∀(b:Xd (Xv×Xb)) (m:Xv->Xc Xb) (x:Xv) (v:Xb),(b.map (·.1)).Nodup->(x,v)∈b->k x≠some .local->bindC k b m x=some v
 |(y,u)::r,m,x,v,nd,h,hk=>by
  rw[Zz,Qu]at nd;rcases Zu.mp h with e|h
  .refine zn (Prod.mk.inj e) λeq0 eq1=>?_;subst eq0;subst eq1;rw[bindC,ta k r _ _ nd.1,Zh hk];exact Zg rfl
  .rw[bindC];exact zdk k r _ x v nd.2 h hk
set_option tactic.hygienic true in
theorem vy:∀(names:Sc) (k:Nat) (acc:Xd (Xv×Addr)) (x:Xv),names.lookup x=some .cell\/(acc.lookup x).isSome=true->((cellsFrom k names acc).lookup x).isSome=true
 | [],_,_,_,h=>h.resolve_left (λz=>by exact za z)
 |(y,kd)::r,k,acc,x,h=>by
  rw[cellsFrom];split
  .refine vy r _ _ x ?_;cases q:x==y with
   |true=>right;rw[Jj,q];rfl
   |false =>
    rw[Jj,q]at h;rw[Jj,q];exact h
  .rename_i hkd;refine vy r _ _ x ?_;cases q:x==y with
   |true =>
    rw[Jj,q]at h;refine .inr (h.resolve_left λz=>hkd ?_);have:kd=.cell:=by simpa using z
    rw[this];rfl
   |false=>rw[Jj,q]at h;exact h
structure FnHd(G:Gd)(fn:Fn)(a:Addr)(fd:FuncData)(body:Xd Stmt):Prop where
 ex:∃o:Obj,G.K.lookup a=some o/\o.data=.func fd/\codeIn G.K fd.code fd.qualname=true/\fd.body=.stmts body/\fd.closure=[]/\fd.globals=mainGlobals/\fd.builtins=builtinsNs /\
  fd.scope.kind=.function/\fd.scope.isCoroutine=false/\fd.scope.isGenerator=false /\
  (∀vals:Xd Xb,vals.length=fn.np->bindArgs fd ⟨vals,[]⟩=pure ((fn.names.take fn.np).zip vals))/\fn.np<=fn.names.length/\(∀x∈fn.names.take fn.np,ya fd.scope.names x=true/\x≠Str.empty)/\(fn.names.take fn.np).Nodup
structure FnRec(G:Gd)(q:Bool)(PX:Calls->Nat->Prop)(fn:Fn)(a:Addr):Prop where
 ex:∃(fd:FuncData)(body:Xd Stmt),FnHd G fn a fd body/\∀(C:Calls)(n:Nat),PX C n->fm G C ⟨n,q⟩ fd.scope.names (iq fn) n fn.body body
theorem cy{cs:Xd (Xv×Addr)}(h:cs.Pairwise λx y=>x.2≠y.2){n n':Xv}{c:Addr}(h1:cs.lookup n=some c)(h2:cs.lookup n'=some c):n=n':=by
 induction cs with
 |nil=>exact za h1
 |cons x r ih =>
  rw[List.pairwise_cons]at h;rw[Jj]at h1 h2;cases q1:n==x.1<;>cases q2:n'==x.1<;>rw[q1]at h1<;>rw[q2]at h2
  .exact ih h.2 h1 h2
  .obtain rfl:=Je h2;exact absurd rfl (h.1 (n,x.2) (PySem.mem_of_lookup (n:=n) h1))
  .obtain rfl:=Je h1;exact absurd rfl (h.1 (n',x.2) (PySem.mem_of_lookup (n:=n') h2))
  .rw[Xl]at q1 q2;rw[q1,q2]
variable{fn:Fn}{a:Addr}{Vs:Xd V}{vals:Xd Xb}{B:Result->Xa->Prop}
set_option backward.match.sparseCases true in
theorem zd3(O:G.Ok N){q:Bool}{fd:FuncData}{body:Xd Stmt}(hfn:FnHd G fn a fd body)(hA:AC ⟨n+1,q⟩ A)(K:Stk A t s.heap)(R:Rel G t st s)(r:VRels t s.heap Vs vals)(hnp:Vs.length=fn.np)(k:∀(env:Env)(s₁:Xa),env.scope.names=fd.scope.names->env.frame=some env.locals->(∀b,own env b->s.heap.get? b=none)->(∀b o,s.heap.get? b=some o->s₁.heap.get? b=some o)->s₁.gens=s.gens->s₁.os=s.os->AOk ⟨n,q⟩ (A.deeper env)->
   FrOk G (A.deeper env) (t.hideS (own env) (env::t.st)) env (iq fn) (Vs.map some++Jp (fn.names.length-fn.np) none) s₁->Rel G (t.hideS (own env) (env::t.st)) st s₁->
   Xn G.M (A.deeper env) (execs body env) (λf s'=>B (.ok (.ret (match f with|.ret v=>v|_=>.none))) s') (λe s'=>Xn G.M (A.deeper env) (leaving env e) (λξ s''=>B (.error e) s'') (λe' s''=>B (.error e') s'') s') s₁):
  codeAny G.M A (.call (.ref a) ⟨vals,[]⟩) B s:=by
 obtain⟨o,h1,h2,h3,h4,h5,h6,h7,h8,h9,h10,h11,h12,h13,h14⟩:=hfn.ex;have XK:=O.K.keeps R.base;have hlv:vals.length=fn.np:=by rw[r.length];exact hnp
 have hbn:((fn.names.take fn.np).zip vals).map (·.1)=fn.names.take fn.np:=by
  rw[List.map_fst_zip];rw[Jk,hlv];exact Nat.min_le_left _ _
 have hkx:∀x∈(fn.names.take fn.np).zip vals,x.1∈fn.names.take fn.np:=λx hx=>(List.of_mem_zip (a:=x.1) (b:=x.2) hx).1;refine codeAny_call_cells (body:=body) (binds:=(fn.names.take fn.np).zip vals) (by have:=hA.dep;lia) (XK _ _ h1) h2 (O.lim.keeps R.base) (codeRec_of XK h3) h4 (h11 vals hlv) h5 (λx hx=>?_) (λs₁ x=>?_) h9 h10 h8
 .have hk:=(h13 x.1 (hkx x hx)).1;simp only[ya,Bool.or_eq_true,Xl]at hk;rcases hk with hk|hk
  .exact .inl hk
  .exact .inr ⟨hk,vy _ _ _ _ (.inl hk)⟩
 .let env:=callEnvC fd s.heap.objs.size a
  have hcells:env.cells=cellsFrom (s.heap.objs.size+1) fd.scope.names []:=rfl;have hloc:env.locals=s.heap.objs.size:=rfl;refine zf x.done λh' tk hs hk'=>?_
  let P:Addr->Prop:=own env
  have np:∀b,P b->s.heap.get? b=none:=by
   rintro b (rfl|⟨nm,q⟩)
   .exact qr _
   .have hlt:=x.above nm b (PySem.mem_of_lookup q);cases z:s.heap.get? b with
    |none=>rfl
    |some ob=>exact absurd (Jr z) (Jf.mpr (Qn hlt))
  have hk0:∀b o,s.heap.get? b=some o->s₁.heap.get? b=some o:=x.toInCall.keep;have hg:s₁.gens=s.gens:=by rw[hs]
  have ho:s₁.os=s.os:=by rw[hs]
  have hlP:∀b,P b->(s₁.heap.get? b).isSome=true:=by
   rintro b (rfl|⟨nm,q⟩)
   .refine bp x.toInCall.ns λob ξ ξ z ξ=>?_;rw[z];rfl
   .refine zd (x.cell nm b q) λob z ξ=>?_;rw[z];rfl
  have R0:Rel G (t.hideS P (env::t.st)) st s₁:=R.hideGrow np hk0 hlP hg ho;have SG:Step noX (t.hideS P (env::t.st)) (t.hideS P (env::t.st)) s s₁:=⟨.refl _,λa o e ξ ξ ξ=>hk0 a o e,λa o e ξ ξ ξ=>⟨o.slots,hk0 a o e⟩,λξ o=>.inl o,λa o e=>by rw[hk0 a o e];rfl,hg,ho⟩
  have hkind:∀y,env.kindOf y=fd.scope.names.lookup y:=λξ=>rfl;have K0:Stk (A.deeper env) (t.hideS P (env::t.st)) s₁.heap:=by
   refine⟨Around.frames_deeper K.fr,λe he=>?_⟩;rcases Zu.1 he with rfl|he
   .refine gy x.toInCall.ns λob es ep z1 z2 ξ=>?_;exact⟨by show fd.scope.kind≠_;rw[h8];decide,_,ob,rfl,.inr (.inl rfl),z1,λvs z=>by rw[z2]at z;cases z⟩
   .obtain⟨q1,L,o,q2,q3,q4,q5⟩:=K.ob e he;exact⟨q1,L,o,q2,.inl q3,hk0 _ _ q4,q5⟩
  have F0:FrOk G (A.deeper env) (t.hideS P (env::t.st)) env (iq fn) (Vs.map some++Jp (fn.names.length-fn.np) none) s₁:=by
   refine⟨K0,h8,h6,h7,.inr (.inl rfl),λnm c q=>.inr (.inr ⟨nm,q⟩),λnm nm' c q q'=>cy x.apart q q',_,_,x.toInCall.ns,x.cell,λy hy=>vy _ _ _ _ (.inl hy),λi y Y e1 e2=>?_⟩;have hi:i<Vs.length:=by
    by_cases q:i<Vs.length
    .exact q
    .rw[Ju (by rw[Zd];lia)]at e2;rw[List.getElem?_replicate]at e2;split at e2<;>cases e2
   rw[J4 (by rw[Zd];exact hi),Jq]at e2;refine zd (Jm.mp e2) λY' e3 e4=>?_;cases e4;refine zd (VRels.get r e3) λu u1 u2=>?_;simp only[iq,Jq,Jm]at e1;refine zd e1 λy' e5 e6=>?_;have hy:y'=y:=by split at e6<;>cases e6;rfl
   subst hy;have e7:(fn.names.take fn.np)[i]?=some y':=by rw[List.getElem?_take,Zg (by lia)];exact e5
   have hm:(y',u)∈(fn.names.take fn.np).zip vals:=by
    refine List.mem_iff_getElem?.mpr ⟨i,?_⟩;rw[List.getElem?_zip_eq_some];exact⟨e7,u1⟩
   have hko:=(h13 y' (List.mem_iff_getElem?.mpr ⟨i,e7⟩)).1;simp only[ya,Bool.or_eq_true,Xl]at hko;refine⟨u,VRel.step SG (λξ z=>z.elim) _ (VRel.hide np _ u2),?_⟩;rcases hko with hko|hko
   .exact .inl ⟨hko,zdl _ _ _ _ _ (by rw[hbn];exact h14) hm hko⟩
   .exact .inr ⟨hko,zdk _ _ _ _ _ (by rw[hbn];exact h14) hm (by rw[hkind,hko];decide)⟩
  have hA':AOk ⟨n,q⟩ (A.deeper env):=⟨hA.hd,by have h:A.depth+2*(n+1)+5<=recursionLimit:=hA.dep;show(A.deeper env).depth+2*n+6<=_;rw[depth_deeper];lia,by have h:A.units+20*(n+1)+105<=cLine:=hA.un;show(A.deeper env).units+20*n+110<=_;rw[units_deeper];lia⟩
  exact k env s₁ rfl rfl np hk0 hg ho hA' F0 R0
theorem zn7(O:G.Ok N){q:Bool}{PX:Calls->Nat->Prop}(hfn:FnRec G q PX fn a)(px:PX C n)(hA:AC ⟨n+1,q⟩ A)(K:Stk A t s.heap)(R:Rel G t st s)(r:VRels t s.heap Vs vals)(hnp:Vs.length=fn.np){p:Fl×Loc}(e:exs G.P C n fn.body (Vs.map some++Jp (fn.names.length-fn.np) none) st=.ok p st')(k:∀v t' s',Step noX t t' s s'->Rel G t' st' s'->VRel t' s'.heap (match p.1 with|.ret v=>v|.next=>.none) v->B (.ok (.ret v)) s'):
  codeAny G.M A (.call (.ref a) ⟨vals,[]⟩) B s:=by
 refine zf hfn.ex λfd body hd h15=>?_;refine zd3 O hd hA K R r hnp λenv s₁ hs hf np hk0 hg ho hA' F0 R0=>?_;refine h15 C n px (t.hideS (own env) (env::t.st)) st s₁ env _ p.1 p.2 st' (A.deeper env) hA' ⟨_,Around.frames_deeper K.fr,hf⟩ hs F0 R0 e _ _ λf t' s' S' R' F' rf=>?_;have hpv:t'.pv=(t.hideS (own env) (env::t.st)).pv:=S'.le.pv;have nP:∀b,t.pv b->¬own env b:=λb q z=>by
  have:=R.live b (.inr q);rw[np b z]at this;exact qi this
 have Fg:Forget (own env) noX t' {t' with pv:=t.pv,st:=t.st} s' s' :=
  ⟨rfl,rfl,λb q=>⟨by rw[hpv];exact .inl q,nP b q⟩,λb q=>by rw[hpv];exact .inr q,λb z=>z.elim,λξ ξ ξ ξ e=>e,rfl,rfl,rfl⟩
 have S'':=Step.unhideS (t:=t) (L:=noX) (l:=env::t.st) (λe he=>(Zu.1 he).elim (λz=>.inr λb q=>by rw[z,hf]at q;obtain rfl:=Je q;exact .inl rfl) .inl) (λe he=>Zk _ he) (λb q=>.inl q) np hk0 hg ho S' Fg;cases hp:p.1 with
 |next =>
  rw[hp]at rf;have rf:f=.next:=rf
  subst rf;exact k _ _ _ S'' (R'.forget Fg) (by rw[hp];rfl)
 |ret X =>
  rw[hp]at rf;refine zd rf λu eq1 ru=>?_;subst eq1;exact k _ _ _ S'' (R'.forget Fg) (by rw[hp];exact VRel.forget Fg _ ru)
end
end Internal
end
section
set_option maxRecDepth 100000
namespace Internal
open PySem PySem.W PyProof.Rows
section
variable {G:Gd}{N:Names}{C:Calls}{d:Dp}{sc:Sc}{Γ:Gam}{A:Xe}{t:Tie}{st st':MS}{s:Xa}{env:Env}{loc:Loc}{X Y Z:V}{v w:Xb}
variable{kd:Nat}{pos:Pos}
theorem zmh(O:G.Ok N){a:E}{x:Xu}{np:Pos}(hg:ku sc "dict"=true)(hx:isStarred x=false)(ha:qe G C d sc Γ a x):
  qe G C d sc Γ (.dictC kd a) (.Call (.Name "dict" np) [x] [] pos):=by
 intro t st s env loc X st' A hA hsc F R e Q E k;rw[zd6]at e;refine zf (Res.bind_ok e) λV s1 e1 e=>?_;cases V with
 |ref r =>
  have e:(match s1.heap r with|some (.dict d)=>if d.length<=1000 then Res.ok (V.ref (kd,s1.cnt kd)) (s1.new kd (.dict d)) else .stuck|_=>.stuck)=.ok X st':=e;cases hr:s1.heap r with
  |none=>rw[hr]at e;exact zb e
  |some o =>
   rw[hr]at e;cases o with
   |dict dd =>
    refine xg (zou e) λhz eq1 eq2=>?_;subst eq1;subst eq2;refine Xi (kj (v:=.type "dict") O F R hsc hg (by decide) (by decide +kernel) ?_);have e1':evL G.P C [a] loc st=.ok [.ref r] s1:=by simp[zbw,yo,e1,Res.bind]
    refine yk O (zb4 _) (l:=[a]) (m:=[x]) (by simp[qp,hx]) rfl (yt hx ha ww) hA hsc F R e1' λvs t1 σ1 S1 R1 r1=>?_;refine jz r1 λv ξ eq2 nq3 eq4=>?_;subst eq2;obtain⟨b,rfl,hb⟩:=nq3;subst eq4;refine jz (R1.objs r _ hr) λb' kvs h1 h2 h3=>?_;obtain rfl:b'=b:=by rw[hb]at h1;obtain rfl:=Je h1;rfl
    refine kt_call_dict (knd:=strKind G.prog G.w) (Xp.2 λz=>R1.sys r (z▸h1)) h2 ?_ λh' hd hs=>?_
    .rw[h3.length];exact Zp hz (by decide)
    have hk:∀c o,σ1.heap.get? c=some o->h'.get? c=some o:=λc o e=>(hs.2 c (λ(z:c=_)=>by rw[z,qr]at e;exact za e)).trans (Zn _ e);have S:=Step.bind (k:=kd) (d:=none) (s':={σ1 with heap:=h'}) R1 hk rfl rfl (qr _) (λx e=>by exact za e);have rho:(t1.bind (kd,s1.cnt kd) σ1.heap.objs.size none).ρ (kd,s1.cnt kd)=some σ1.heap.objs.size:=Zg rfl;refine k _ _ _ (S1.trans S) (Rel.bind R1 hk rfl rfl (qr _) (λx e=>by exact za e) ?_ (R1.size_sys O) ⟨_,kvs,rho,hd,DRel.step S (λξ q=>q.elim) h3⟩) ⟨_,rfl,rho⟩;refine bp hd λo es ep ho ξ=>?_;show(Heap.get? h' _).isSome=true;rw[ho];rfl
   |_=>exact zb e
 |_=>exact zb e
theorem ze0{pos:Pos}:∀{ks:Xd (Xd Nat)}{l:Xd E}{m:Xd Xu}{kx:Xd (Xc Xu)},SimL G C d sc Γ l m->ks.length=l.length->(∀i:Nat,∀x,kx[i]?=some x->∃y k p,ks[i]?=some y/\x=some (.Constant (.str (qa y)) k p))->kx.length=ks.length->
  ∃pairs:Xd (Sem Xb×Sem Xb),(evalEachOpt kx env).zip ((evalEach m env).map λv=>do let x <- v;standAt pos;pure x)=(pairs.map λp=>(some p.1,p.2))/\pairs.length=ks.length /\
   ∀t st s loc Xs st' A,AOk d A->env.scope.names=sc->FrOk G A t env Γ loc s->Rel G t st s->evL G.P C l loc st=.ok Xs st'->
    Sim G A t s (evalPairs pairs) st' (λt' s' vs=>∃kvs,Carries (strKind G.prog G.w) vs kvs/\DRel t' s'.heap ((ks.zip Xs).map λp=>(.str p.1,p.2)) kvs/\kvs.map (·.1)=ks.map qa)
 | [],[],_,[],.nil,_,_,_=>⟨[],rfl,rfl,λt st s loc Xs st' A hA hsc F R e Q E k=>by
   cases e;exact evalPairs_nil (k [] t s (.refl _ _ _) R ⟨[],trivial,rfl,rfl⟩)⟩
 | [],_::_,_,_,_,hl,_,_=>by cases hl
 |_::_,[],_,_,_,hl,_,_=>by cases hl
 | [],[],_,_::_,_,_,_,hl=>by cases hl
 |_::_,_,_,[],_,_,_,hl=>by cases hl
 |y::ks,e0::l,_,x0::kx,.cons (x:=x1) (m:=m) he _ r,hl,hx,hl2=>by
  refine bp (hx 0 x0 rfl) λy' k p hy eq4=>?_;subst eq4;cases hy;refine jj (ze0 (pos:=pos) (ks:=ks) (kx:=kx) r (Nat.succ.inj hl) (λi x hi=>hx (i+1) x hi) (Nat.succ.inj hl2)) λpairs h1 h2 h3=>?_;refine⟨(eval (.Constant (.str (qa y)) k p) env,do let v <- eval x1 env;standAt pos;pure v)::pairs,?_,Qd Nat.succ h2,λt st s loc Xs st' A hA hsc F R e Q E q=>?_⟩
  .show(_,_)::((evalEachOpt kx env).zip ((evalEach m env).map _))=_;rw[h1];rfl
  .rw[yo]at e;refine zf (Res.bind_ok e) λX1 s1 e1 e=>?_;refine zf (Res.bind_ok e) λX2 s2 e2 e=>?_;obtain⟨rfl,rfl⟩:Xs=X1::X2/\s2=st':=by cases e;exact⟨rfl,rfl⟩
   refine evalPairs_cons (wpAny_Constant_str (Ze (he t st _ env loc X1 s1 A hA hsc (F.step R (Step.toks _ _ _ _)) (R.toks _) e1 _ _ λv t1 σ1 S1 R1 r1=>Ze (Jb (Zr ?_)))));have S01:=(Step.toks noX t s _).trans S1;refine h3 t1 s1 σ1 loc X2 s2 A hA hsc (F.step R S01) R1 e2 _ _ λvs t2 σ2 S2 R2 ⟨kvs,c1,c2,c3⟩=>?_;exact q _ t2 σ2 (S01.trans S2) R2 ⟨(qa y,v)::kvs,⟨strKind_is _ _ _ _,rfl,c1⟩,⟨y,v,kvs,rfl,rfl,VRel.step S2 (λξ z=>z.elim) _ r1,c2⟩,by rw[Zz,Zz,c3]⟩
variable{ks:Xd (Xd Nat)}{l:Xd E}{m:Xd Xu}{kx:Xd (Xc Xu)}
theorem zmi(O:G.Ok N)(h:SimL G C d sc Γ l m)(h0:ks≠[])(hl:ks.length=l.length)(hx:∀i:Nat,∀x,kx[i]?=some x->∃y k p,ks[i]?=some y/\x=some (.Constant (.str (qa y)) k p))(hl2:kx.length=ks.length):
  qe G C d sc Γ (.dictM kd ks l) (.Dict kx m pos):=by
 intro t st s env loc X st' A hA hsc F R e Q E k;rw[zd7]at e;refine zf (Res.bind_ok e) λXs s1 e1 e=>?_;refine xg (zou e) λnq0 eq1 eq2=>?_;obtain⟨q1,q2,q3⟩:=nq0;subst eq1;subst eq2;refine jj (ze0 (env:=env) (pos:=pos) (kx:=kx) h hl hx hl2) λpairs p1 p2 p3=>?_
 let D:=s.heap.objs.size
 let P:Addr->Prop:=λa=>a=D
 have np:∀a,P a->s.heap.get? a=none:=λa z=>by rw[show a=D from z];exact qr _
 have hk:∀b o,s.heap.get? b=some o->(s.heap.push ({cls:=.type "dict",data:=.dict #[]}:Obj)).get? b=some o:=λξ ξ e=>Zn _ e;have hlD:∀a,P a->((s.heap.push ({cls:=.type "dict",data:=.dict #[]}:Obj)).get? a).isSome=true:=λa z=>by rw[show a=D from z,Z5 _ rfl];rfl
 have R0:Rel G (t.hide P) st {s with heap:=s.heap.push {cls:=.type "dict",data:=.dict #[]}}:=R.hideGrow np hk hlD rfl rfl;have F0:FrOk G A (t.hide P) env Γ loc {s with heap:=s.heap.push {cls:=.type "dict",data:=.dict #[]}}:=F.hideGrow np hk rfl rfl;refine wpAny_Dict_pairs (knd:=strKind G.prog G.w) p1 (λz=>h0 (Q2.1 (by rw[<- p2,z];rfl))) (by rw[p2];exact q2) ?_;refine p3 _ st _ loc Xs _ A hA hsc F0 R0 e1 _ _ λvs τ σ1 S R1 ⟨kvs,c1,c2,c3⟩=>?_;have pD:τ.pv D:=by rw[S.le.pv];exact .inr rfl
 have hnew:Heap.DictOf (strKind G.prog G.w) (s.heap.push ({cls:=.type "dict",data:=.dict #[]}:Obj)) D []:=Heap.DictOf.new _;have nD:¬(t.hide P).Own D:=λq=>R0.pv D (.inr rfl) q;have hd1:σ1.heap.DictOf (strKind G.prog G.w) D []:=let ⟨o,es,ep,ho,r⟩:=hnew;⟨o,es,ep,S.keep _ _ ho nD (λz=>z) (F.sk.fresh (np D rfl)),r⟩
 refine⟨kvs,c1,hd1,λh' hd hs=>?_⟩;have hn:(kvs.map (·.1)).Nodup:=by
  rw[c3];refine List.pairwise_map.2 (q3.imp λhne z=>hne ?_);exact zbc z
 rw[merged_nil_of_nodup kvs hn]at hd;have hl':(h'.get? D).isSome=true:=by refine bp hd λo es ep ho ξ=>?_;rw[ho];rfl
 have Sp:Step P τ τ σ1 {σ1 with heap:=h',toks:=σ1.toks+vs.length}:=Step.priv rfl hl' hs;have xp:∀a,P a->τ.pv a:=λa z=>by rw[show a=D from z];exact pD
 obtain⟨t2,S2,R2,r2,-,-⟩:=ziy (L:=noX) (se:={σ1 with heap:=h',toks:=σ1.toks+vs.length}) (P:=P) (D:=D) (k:=kd) (o:=.dict ((ks.zip Xs).map λp=>(.str p.1,p.2))) (s0:={s with heap:=s.heap.push {cls:=.type "dict",data:=.dict #[]}}) R np rfl hk rfl rfl ((S.mono λξ z=>z.elim).trans Sp) (R1.priv pD hl' hs) (λa z=>z.elim) (λb o ξ ξ e=>e) rfl rfl (R.size_sys O)
  λt2 up hr=>⟨D,kvs,hr,hd,DRel.map (λx {v} r=>up x v r) (DRel.step Sp xp c2)⟩
 exact k _ t2 _ S2 R2 r2
theorem zmg(O:G.Ok N)(h:SimL G C d sc Γ l m)(hl:ks.length=l.length)(hx:∀i:Nat,∀x,kx[i]?=some x->∃y k p,ks[i]?=some y/\x=some (.Constant (.str (qa y)) k p))(hl2:kx.length=ks.length):
  qe G C d sc Γ (.dictM kd ks l) (.Dict kx m pos):=by
 cases ks with
 |cons k ks=>exact zmi O h nofun hl hx hl2
 |nil =>
  cases Q2.1 hl2;cases l with
  |cons=>cases hl
  |nil=>cases h;exact zmf O
end
end Internal
end
section
set_option maxRecDepth 100000
namespace Internal
open PySem PySem.W PyProof.Rows
noncomputable def so(n:Nat)(ans:Nat->Nat->Bool)(want:Xd Nat):KasT (Array Nat)->Bool
 |.ret a=>a.toList==want
 |.ask i j k=>decide (i<n)&&(decide (j<n)&&(decide (i≠j)&&so n ans want (k (ans i j))))
theorem zo4{n:Nat}{ans:Nat->Nat->Bool}{want:Xd Nat}{cmp:Nat->Nat->(Bool->Xa->Prop)->Xa->Prop}{s:Xa}{Q:Array Nat->Xa->Prop}(hc:∀i j,i<n->j<n->i≠j->∀C:Bool->Xa->Prop,C (ans i j) s->cmp i j C s)(hQ:∀a:Array Nat,a.toList=want->Q a s):
  ∀t:KasT (Array Nat),so n ans want t=true->t.kasWp cmp Q s
 |.ret a,h=>hQ a (eq_of_beq (h:(a.toList==want)=true))
 |.ask i j k,h=>by
  refine zn (Zj.1 (h:(decide (i<n)&&(decide (j<n)&&(decide (i≠j)&&so n ans want (k (ans i j)))))=true)) λh1 h=>?_;refine zn (Zj.1 h) λh2 h=>?_;refine zn (Zj.1 h) λh3 h=>?_;exact hc i j (Za h1) (Za h2) (Za h3) _ (zo4 hc hQ (k (ans i j)) h)
noncomputable def tbl(m pos i j:Nat):Bool:=if i<m then (if j<m then decide (i<j) else decide (i<pos)) else decide (pos<=j)
theorem zwy:∀m:Fin 5,∀pos:Fin (m.1+2),so (m.1+2) (tbl (m.1+1) pos.1) (uv (m.1+1) pos.1) (kas_sort (m.1+2))=true:=by decide +kernel
section
variable {prog:Program}{w:World}{A:Xe}{E:Xb->Xa->Prop}{s:Xa}
variable{vs out:Xd Xb}
set_option backward.match.sparseCases true in
theorem zt3{a:Addr}{n:Nat}{P:PySem.Fin->Xa->Prop}(ho:s.heap.get? a=some (Xm "list" vs.toArray n))(h64:vs.length<64)(hlen:out.length=vs.length)(h1:vs.length<2->out=vs)(h2:2<=vs.length->∀s':Xa,(∀b o,b≠a->s.heap.get? b=some o->s'.heap.get? b=some o)->Xn (model prog w) A (keyKind' vs.toArray) (λκ s2=>(kas_sort vs.length).kasWp (kas_ask prog w A κ vs) (λp s3=>s3=s'/\(p.toList.map λi=>vs.getD i Value.none)=out) s2) E s')(k:∀h' c,(∀b o,b≠a->s.heap.get? b=some o->h'.get? b=some o)->h'.get? a=some (Xm "list" out.toArray c)->P (.done (.ret .none)) {s with heap:=h'}):
  Xn (model prog w) A (Builtin.«list.sort» ⟨[.ref a],[]⟩) P E s:=by
 have ha:a<s.heap.objs.size:=Jr ho;obtain⟨e1,ho1⟩:∃e1,(s.heap.update a (J9 λξ=>(#[]:Array Xb))).get? a=some (Xm "list" #[] e1):=⟨_,get?_update_seq ho λξ=>#[]⟩
 rw[list_sort_plain];refine Ze (listItems_at ho rfl ?_);refine Ze (listUpdate_at ho rfl ?_ (by rw[List.size_toArray,sizeLine_eq];lia) (Ql _));refine Ze (seqEpoch_at ho1 rfl ?_);refine Ze (wpAny_newTuple ?_ (by show vs.length<=_;rw[sizeLine_eq];lia));refine Ze (wpAny_newList ?_ (Ql _));refine Ja ?_;have kp:∀b o,(s.heap.update a (J9 λξ=>(#[]:Array Xb))).get? b=some o->(((s.heap.update a (J9 λξ=>(#[]:Array Xb))).push (Xm "tuple" vs.toArray 0)).push (Xm "list" #[] 0)).get? b=some o:=λb o e=>Zn _ (Zn _ e);have old:∀b o,b≠a->s.heap.get? b=some o->(((s.heap.update a (J9 λξ=>(#[]:Array Xb))).push (Xm "tuple" vs.toArray 0)).push (Xm "list" #[] 0)).get? b=some o:=λb o nb e=>kp b o ((J8.update s.heap a _).2 b nb |>.trans e);have ho6:=kp a _ ho1;show Xn (model prog w) A _ P E {s with heap:=((s.heap.update a (J9 λξ=>(#[]:Array Xb))).push (Xm "tuple" vs.toArray 0)).push (Xm "list" #[] 0)};generalize ((s.heap.update a (J9 λξ=>(#[]:Array Xb))).push (Xm "tuple" vs.toArray 0)).push (Xm "list" #[] 0)=H at old ho6;dsimp only;have hend:∀{st:SortSt},(arrOf st).map (·.2)=out.toArray->failedOf st=none->Xn (model prog w) A (do
   let touched:=(<- seqEpoch a) != e1
   Builtin.List.listUpdate (.ref a) λξ=>(arrOf st).map (·.2)
   if let some e:=failedOf st then rule "list.sort.comparison-raised";throw e
   if touched then rule "list.sort.modified";raiseError "ValueError" "list modified during sort"
   ret .none) P E {s with heap:=H}:=by
  intro st hs hf;refine Ze (seqEpoch_at ho6 rfl ?_);obtain⟨c,hc⟩:∃c,(H.update a (J9 λξ=>out.toArray)).get? a=some (Xm "list" out.toArray c):=⟨_,get?_update_seq ho6 λξ=>out.toArray⟩
  rw[hs,hf];refine Ze (listUpdate_at ho6 rfl ?_ (Ql _) (by rw[List.size_toArray,hlen,sizeLine_eq];lia));simp only[bne_self_eq_false,Jl,Xq];exact Zr (k _ c (λb o nb e=>((J8.update H a _).2 b nb).trans (old b o nb e)) hc)
 by_cases hn:vs.toArray.size<2
 .rw[Zg hn,Zg hn];refine Ze (Zr ?_);rw[StateT.run_pure];refine Ze (Zr (hend ?_ rfl));show((vs.toArray.zip vs.toArray).map (·.2))=out.toArray;rw[h1 (by rw[List.size_toArray]at hn;exact hn)];apply Array.toList_inj.mp;simp only[Array.toList_map,Array.toList_zip];exact List.map_snd_zip (Zs _)
 .rw[Zh hn,Zh hn];rw[List.size_toArray]at hn;refine Ze (wpAny_mono (h2 (by lia) {s with heap:=H} old) (λκ s0 hk=>?_) λξ ξ x=>x);refine Ze (wpAny_mono (kat_run (Q:=λst' s'=>s'={s with heap:=H}/\(arrOf st').map (·.2)=out.toArray/\failedOf st'=none) rfl (by lia) h64 (λp' st' s' a1 a2 a3 a4=>⟨a4.1,by rw[kat_snds rfl a2,a4.2],a3⟩) hk) ?_ λξ ξ e=>e);rintro⟨⟨⟩,st'⟩ s' ⟨rfl,hs,hf⟩;exact hend hs hf
theorem zbb{l:Addr}{Q:Xb->Xa->Prop}(hl:s.heap.IsList l vs.toArray)(h64:vs.length<64)(hlen:out.length=vs.length)(h1:vs.length<2->out=vs)(h2:2<=vs.length->∀(A':Xe)(s':Xa)(E':Xb->Xa->Prop),(∀b o,s.heap.get? b=some o->s'.heap.get? b=some o)->Xn (model prog w) A' (keyKind' vs.toArray) (λκ s2=>(kas_sort vs.length).kasWp (kas_ask prog w A' κ vs) (λp s3=>s3=s'/\(p.toList.map λi=>vs.getD i Value.none)=out) s2) E' s')(k:∀h' c,(∀b o,s.heap.get? b=some o->h'.get? b=some o)->h'.get? (s.heap.objs.size+1)=some (Xm "list" out.toArray c)->Q (.ref (s.heap.objs.size+1)) {s with heap:=h'}):
  Xn (model prog w) A (call (.builtin "sorted") [.ref l]) Q E s:=by
 refine Calls.call_function_entry kind_sorted plain_sorted entry_sorted (args_sorted1 _) ?_;unfold Builtin.«sorted»;refine Ze (m:=checkCount "sorted" 1 1 _) (Zr ?_);refine Ze (collect_list hl ?_ (by rw[sizeLine_eq];lia));refine Ze (wpAny_newList ?_ (by rw[sizeLine_eq];lia));have hsz:((s.heap.push (Xm "list" #[] 0)).update s.heap.objs.size (J9 (·++vs.toArray))).objs.size=s.heap.objs.size+1:=by
  rw[Heap.size_update,size_push']
 have hoL:(((s.heap.push (Xm "list" #[] 0)).update s.heap.objs.size (J9 (·++vs.toArray))).push (Xm "list" vs.toArray 0)).get? (s.heap.objs.size+1)=some (Xm "list" vs.toArray 0):=by
  rw[<- hsz];exact Z5 _ rfl
 have keep:∀b o,s.heap.get? b=some o->(((s.heap.push (Xm "list" #[] 0)).update s.heap.objs.size (J9 (·++vs.toArray))).push (Xm "list" vs.toArray 0)).get? b=some o:=λb o q=>by
  have hlt:b<s.heap.objs.size:=Jr q;rw[Heap.get?_push_ne _ _ _ (by rw[hsz];exact Z9 (Nat.lt_succ_of_lt hlt)),Heap.get?_update_ne _ _ _ _ (Z9 hlt),Heap.get?_push_ne _ _ _ (Z9 hlt)];exact q
 show Xn _ _ _ _ _ {s with heap:=((s.heap.push (Xm "list" #[] 0)).update s.heap.objs.size (J9 (·++vs.toArray))).push (Xm "list" vs.toArray 0)};rw[hsz];have up:∀(h':Heap),(∀b o,b≠s.heap.objs.size+1->(((s.heap.push (Xm "list" #[] 0)).update s.heap.objs.size (J9 (·++vs.toArray))).push (Xm "list" vs.toArray 0)).get? b=some o->h'.get? b=some o)->∀b o,s.heap.get? b=some o->h'.get? b=some o:=λh' q b o e=>q b o (Z9 (Nat.lt_succ_of_lt (Jr e))) (keep b o e);refine Ze (Ja (wpAny_call_entry slot_list_sort ⟨_,hoL,rfl⟩ entry_list_sort ?_ (args_list_sort _)));refine zt3 (s:={s with heap:=((s.heap.push (Xm "list" #[] 0)).update s.heap.objs.size (J9 (·++vs.toArray))).push (Xm "list" vs.toArray 0)}) hoL h64 hlen h1 (λhn s' q=>h2 hn _ s' _ (up s'.heap q)) λh' c q ho=>?_;exact⟨_,rfl,Zr ⟨_,rfl,k h' c (up h' q) ho⟩⟩
end
theorem ut:∀{ks:Xd Int},rising ks=true->∀i j:Nat,i<j->∀a b,ks[i]?=some a->ks[j]?=some b->a<b
 | [],_,i,j,_,a,b,e,_=>by exact za e
 | [_],_,i,j,hij,a,b,_,e=>by
  cases j with
  |zero=>lia
  |succ j=>exact za e
 |x::y::r,h,i,j,hij,a,b,e1,e2=>by
  refine zn (Zj.1 (h:(decide (x<y)&&rising (y::r))=true)) λh1 h2=>?_;have h1:x<y:=Za h1;cases j with
  |zero=>lia
  |succ j =>
   cases i with
   |succ i=>exact ut h2 i j (by lia) a b e1 e2
   |zero =>
    obtain rfl:=Je e1;cases j with
    |zero=>obtain rfl:=Je e2;exact h1
    |succ j=>exact Int.lt_trans h1 (ut h2 0 (j+1) (by lia) y b rfl e2)
set_option tactic.hygienic true in
theorem zha(x:Int):∀{ks:Xd Int},rising ks=true->x ∉ ks->vj x ks<=ks.length/\∀(i:Nat)(a:Int),ks[i]?=some a->(i<vj x ks->a<x)/\(vj x ks<=i->x<a)
 | [],_,_=>⟨Zs _,λi a e=>by cases e⟩
 |k::r,h,hx=>by
  have hr:rising r=true:=by
   cases r with
   |nil=>rfl
   |cons y r=>exact(Zj.1 (h:(decide (k<y)&&rising (y::r))=true)).2
  refine zn (zha x hr λq=>hx (Zk _ q)) λh1 h2=>?_;rw[vj];split
  .rename_i hlt;refine⟨Ql _,λi a e=>⟨λq=>absurd q (J0 _),λξ=>?_⟩⟩;cases i with
   |zero=>cases e;exact hlt
   |succ i=>exact Int.lt_trans hlt (ut h 0 (i+1) (by lia) k a rfl e)
  .rename_i hlt;have hne:k≠x:=λq=>hx (q▸Zm ..);refine⟨Qp h1,λi a e=>?_⟩;cases i with
   |zero=>cases e;exact⟨λξ=>by lia,λq=>by lia⟩
   |succ i=>exact⟨λq=>(h2 i a e).1 (by lia),λq=>(h2 i a e).2 (by lia)⟩
theorem zia{ks:Xd Int}{x:Int}(hr:rising ks=true)(hx:x ∉ ks){i j:Nat}(hij:i≠j){a b:Int}(ha:(ks++[x])[i]?=some a)(hb:(ks++[x])[j]?=some b):decide (a<b)=tbl ks.length (vj x ks) i j:=by
 refine zn (zha x hr hx) λhp hpos=>?_;have last:∀{i:Nat}{a:Int},¬i<ks.length->(ks++[x])[i]?=some a->i=ks.length/\a=x:=λ{i a} hn e=>by
  rw[Ju (by lia)]at e;have:i-ks.length=0:=by
   cases hz:i-ks.length with
   |zero=>rfl
   |succ m=>rw[hz]at e;exact za e
  rw[this]at e;obtain rfl:=Je e;exact⟨by lia,rfl⟩
 unfold tbl;by_cases hi:i<ks.length
 .rw[Zg hi];rw[J4 hi]at ha;by_cases hj:j<ks.length
  .rw[Zg hj];rw[J4 hj]at hb;by_cases h:i<j
   .rw[Zb h,Zb (ut hr i j h a b ha hb)]
   .have:=ut hr j i (by lia) b a hb ha;rw[Zc h,Zc (by lia)]
  .refine zn (last hj hb) λξ eq1=>?_;subst eq1;rw[Zh hj];by_cases h:i<vj b ks
   .rw[Zb h,Zb ((hpos i a ha).1 h)]
   .have:=(hpos i a ha).2 (by lia);rw[Zc h,Zc (by lia)]
 .refine zn (last hi ha) λhi2 eq1=>?_;subst eq1;rw[Zh hi];have hj:j<ks.length:=by
   have:j<(ks++[a]).length:=by
    rw[J3]at hb;exact hb.1
   rw[Zf]at this;have:j<ks.length+1:=this;lia
  rw[J4 hj]at hb;by_cases h:vj a ks<=j
  .rw[Zb h,Zb ((hpos j b hb).2 h)]
  .have:=(hpos j b hb).1 (by lia);rw[Zc h,Zc (by lia)]
section
variable {G:Gd}{N:Names}{C:Calls}{d:Dp}{sc:Sc}{Γ:Gam}{A:Xe}{t:Tie}{st st':MS}{s:Xa}{env:Env}{loc:Loc}{X Y Z:V}{v w:Xb}
variable{x:V}{l:Xd V}{ks:Xd Int}
theorem zer(e:(x::l).mapM jo=some ks):∃k ks',jo x=some k/\l.mapM jo=some ks'/\ks=k::ks':=by
 rw[List.mapM_cons]at e;cases hx:jo x with
 |none=>rw[hx]at e;exact za e
 |some k =>
  rw[hx]at e;cases hm:l.mapM jo with
  |none=>rw[hm]at e;exact za e
  |some ks'=>rw[hm]at e;obtain rfl:=Je e;exact⟨k,ks',rfl,rfl,rfl⟩
theorem zes:∀{l:Xd V}{ks:Xd Int},l.mapM jo=some ks->l.length=ks.length
 | [],_,e=>by obtain rfl:=Je e;rfl
 |_::_,_,e=>by refine jz (zer e) λk ks' ξ h eq4=>?_;subst eq4;exact Qd Nat.succ (zes h)
variable{k:Int}
theorem zkq(e:jo x=some k):∃m,x=.tup (.int k::m):=by
 cases x with
 |tup m=>cases m with
  |nil=>exact za e
  |cons y m=>cases y with
   |int k'=>obtain rfl:=Je e;exact⟨m,rfl⟩
   |_=>exact za e
 |_=>exact za e
variable{m:Xd V}
theorem zgs{h:Heap}(a:VRel t h (.tup (.int k::m)) v):∃tk ad us n,v=.ref ad/\h.get? ad=some {cls:=.type "tuple",data:=.seq us n}/\us[0]?=some (.int k tk):=by
 obtain⟨ad,us,hv,⟨n,ho⟩,_,_,u,us',hus,⟨tk,hu⟩,_⟩:=a;exact⟨tk,ad,us,n,hv,ho,by rw[<- Jt,hus,hu];rfl⟩
theorem d6{h:Heap}:∀{l:Xd V}{vs:Xd Xb}{ks:Xd Int},l.mapM jo=some ks->VRels t h l vs->∃fs,KatTups h vs fs/\fs.length=ks.length/\∀(i:Nat)(k:Int),ks[i]?=some k->∃tk,fs[i]?=some (.int k tk)
 | [],_,ks,e,r=>by obtain rfl:=Je e;subst r;exact⟨[],trivial,rfl,λi k e=>za e⟩
 |x::l,_,ks,e,⟨v,r,e0,a,b⟩=>by
  refine jz (zer e) λk ks' hx hm eq4=>?_;subst eq4;refine jj (d6 hm b) λfs h1 h2 h3=>?_;refine zr (zkq hx) λm eq1=>?_;subst eq1;refine z37 (zgs a) λtk ad us n hv ho h0=>?_;rw[e0];refine⟨.int k tk::fs,⟨⟨ad,_,us,n,hv,ho,rfl,rfl,h0⟩,h1⟩,Qd Nat.succ h2,λi k' e=>?_⟩;cases i with
  |zero=>obtain rfl:=Je e;exact⟨tk,rfl⟩
  |succ i=>exact h3 i k' e
theorem zc9{h:Heap}:∀{vs fs:Xd Xb},KatTups h vs fs->∀(i:Nat)(f:Xb),fs[i]?=some f->∃a o xs n,vs[i]?=some (.ref a)/\h.get? a=some o/\o.data=.seq xs n/\xs[0]?=some f
 | [],[],_,i,f,e=>za e
 | [],_::_,k,_,_,_=>False.elim k
 |_::_,[],k,_,_,_=>False.elim k
 |v::vs,g::fs,k,i,f,e=>by
  cases i with
  |zero =>
   refine zn k λnq0 ξ=>?_;obtain⟨a,o,xs,n,hv,h1,h2,h3,h4⟩:=nq0;obtain rfl:=Je e;exact⟨a,o,xs,n,Qd some hv,h1,h3,h4⟩
  |succ i=>exact zc9 k.2 i f e
theorem pj{h h':Heap}(k:∀b o,h.get? b=some o->h'.get? b=some o):∀{vs fs:Xd Xb},KatTups h vs fs->KatTups h' vs fs
 | [],[],_=>trivial
 |v::vs,g::fs,⟨⟨a,o,xs,n,e,h1,r⟩,q⟩=>⟨⟨a,o,xs,n,e,k a o h1,r⟩,pj k q⟩
theorem VRels.getD{h:Heap}:∀{l:Xd V}{vs:Xd Xb} (i:Nat),i<l.length->VRels t h l vs->VRel t h (l.getD i .none) (vs.getD i .none)
 | [],_,i,hi,_=>absurd hi (J0 _)
 |x::l,_,0,_,⟨v,r,rfl,a,b⟩=>a
 |x::l,_,i+1,hi,⟨v,r,rfl,a,b⟩=>VRels.getD i (Nat.lt_of_succ_lt_succ hi) b
theorem VRels.pick{h:Heap}{l:Xd V}{vs:Xd Xb}(r:VRels t h l vs):∀p:Xd Nat,(∀i∈p,i<l.length)->VRels t h (p.map λi=>l.getD i .none) (p.map λi=>vs.getD i .none)
 | [],_=>rfl
 |i::p,hp=>⟨_,_,rfl,VRels.getD i (hp i (Zm ..)) r,VRels.pick r p λj hj=>hp j (Zk _ hj)⟩
theorem zv2{α:Type}{c:Bool}{a b:α}(h:(if c=true then some a else none)=some b):c=true/\a=b:=by
 cases c with
 |true=>obtain rfl:=Je h;exact⟨rfl,rfl⟩
 |false=>exact za h
variable{pos i j:Nat}
theorem zub{m:Nat}(hi:i<=m)(hj:j<=m)(hij:i≠j):tbl m pos i j=true\/tbl m pos j i=true:=by
 unfold tbl;by_cases h1:i<m
 .by_cases h2:j<m
  .rw[Zg h1,Zg h2,Zg h2,Zg h1];rcases Nat.lt_or_gt_of_ne hij with h|h
   .exact .inl (Zb h)
   .exact .inr (Zb h)
  .rw[Zg h1,Zh h2,Zh h2];rcases Nat.lt_or_ge i pos with h|h
   .exact .inl (Zb h)
   .exact .inr (Zb h)
 .have h2:j<m:=by lia
  rw[Zh h1,Zg h2,Zh h1];rcases Nat.lt_or_ge j pos with h|h
  .exact .inr (Zb h)
  .exact .inl (Zb h)
theorem nh(e:x9 l=some m):(l=[]/\m=[])\/∃ks x,l.mapM jo=some (ks++[x])/\rising ks=true/\x ∉ ks/\l.length=ks.length+1/\ks.length<=5/\m=(uv ks.length (vj x ks)).map λi=>l.getD i .none:=by
 cases hr:l.reverse with
 |nil =>
  have hl:l=[]:=by rw[<- List.reverse_reverse l,hr];rfl
  rw[x9,hr]at e;obtain rfl:=Je e;exact .inl ⟨hl,rfl⟩
 |cons y r =>
  have hl:l=r.reverse++[y]:=by rw[<- List.reverse_reverse l,hr,List.reverse_cons]
  rw[x9,hr]at e;have e:(match jo y,(r.reverse).mapM jo with
   |some x,some ks=>if (rising ks&&!ks.contains x&&decide (l.length<=6))=true then some ((uv ks.length (vj x ks)).map λi=>l.getD i .none) else none
   |_,_=>none)=some m:=e
  cases h1:jo y with
  |none=>rw[h1]at e;exact za e
  |some x =>
   cases h2:(r.reverse).mapM jo with
   |none=>rw[h1,h2]at e;exact za e
   |some ks =>
    rw[h1,h2]at e;have e:(if (rising ks&&!ks.contains x&&decide (l.length<=6))=true then some ((uv ks.length (vj x ks)).map λi=>l.getD i .none) else none)=some m:=e;refine zn (zv2 e) λhc e=>?_;refine zn (Zj.1 hc) λhc q3=>?_;refine zn (Zj.1 hc) λq1 q2=>?_;have hn:l.length=ks.length+1:=by rw[hl,Zf,zes h2];rfl
    refine .inr ⟨ks,x,?_,q1,λq=>?_,hn,by have:=Za q3;lia,e.symm⟩
    .rw[hl,List.mapM_append,h2,List.mapM_cons,h1];rfl
    .rw[Q7.2 q]at q2;exact qi q2
theorem zuk{m:Nat}(h:pos<=m):(uv m pos).length=m+1/\∀i∈uv m pos,i<m+1:=by
 refine⟨by rw[uv,Zf,Z4,Zd,Zx,Zx];lia,λi hi=>?_⟩;rcases Zt.1 hi with hi|hi
 .have:=Qj.1 hi;lia
 .rcases Zu.1 hi with hi|hi
  .lia
  .refine zd (Z1.1 hi) λj hj eq2=>?_;subst eq2;have:=Qj.1 hj;lia
theorem zwx:∀{n pos:Nat},1<=n->n<=5->pos<=n->so (n+1) (tbl n pos) (uv n pos) (kas_sort (n+1))=true
 |0,_,h,_,_=>absurd h (Nat.not_succ_le_zero 0)
 |m+1,pos,_,h5,hp=>zwy ⟨m,h5⟩ ⟨pos,Nat.lt_succ_of_le hp⟩
theorem zs1{x:Int}(hr:rising ks=true)(hx:x ∉ ks)(hi:i<(ks++[x]).length)(hj:j<(ks++[x]).length)(hij:i≠j):((ks++[x])[i]==(ks++[x])[j])=false:=by
 rw[Xp];intro z;have h1:=zia hr hx hij (Zl hi) (Zl hj);have h2:=zia hr hx (Ne.symm hij) (Zl hj) (Zl hi);rw[z,Zc (Int.lt_irrefl _)]at h1 h2;rw[Zf]at hi hj;rcases zub (m:=ks.length) (pos:=vj x ks) (Nat.le_of_lt_succ hi) (Nat.le_of_lt_succ hj) hij with h|h
 .rw[h]at h1;exact qi h1
 .rw[h]at h2;exact qi h2
theorem zm0{xs ys:Array Xb}{a b:Xb}(h1:xs[0]?=some a)(h2:ys[0]?=some b):∃r,xs.toList.zip ys.toList=(a,b)::r:=by
 rw[<- Jt]at h1 h2;cases hxs:xs.toList with
 |nil=>rw[hxs]at h1;exact za h1
 |cons a r=>cases hys:ys.toList with
  |nil=>rw[hys]at h2;exact za h2
  |cons b r'=>rw[hxs]at h1;rw[hys]at h2;obtain rfl:=Je h1;obtain rfl:=Je h2;exact⟨_,rfl⟩
theorem zpu{vs:Xd Xb}(h:vs.length=1):[vs.getD 0 .none]=vs:=by
 refine zr (List.length_eq_one_iff.1 h) λy eq1=>?_;subst eq1;rfl
theorem zfs{out:Xd Xb}{Q:Xb->Xa->Prop}(R:Rel G t st s)(q:∀v t' s',Step noX t t' s s'->Rel G t' st s'->jf (.lst m) t' s' v->Q v s')(ro:VRels t s.heap m out)(hm:m.length<=zi)(h':Heap)(c:Nat)(hk:∀b o,s.heap.get? b=some o->h'.get? b=some o)(ho:h'.get? (s.heap.objs.size+1)=some (Xm "list" out.toArray c)):Q (.ref (s.heap.objs.size+1)) {s with heap:=h'}:=by
 have S:Step noX t t s {s with heap:=h'}:=Step.grow R hk rfl rfl;exact q _ t _ S (R.grow hk rfl rfl) ⟨_,out.toArray,rfl,⟨c,ho⟩,R.fresh (bk _),hm,VRels.step S (λξ z=>z.elim) _ ro⟩
theorem zc4(R:Rel G t st s)(r:VRel t s.heap (.lst l) v)(e:x9 l=some m):Sim G A t s (call (.builtin "sorted") [v]) st (jf (.lst m)):=by
 refine wz r λa vs eq2 io na sz rr=>?_;subst eq2;have hvl:vs.toList.length=l.length:=rr.length;have hlst:s.heap.IsList a vs.toList.toArray:=by rw[Array.toArray_toList];exact io.isList
 intro Q E q;rcases nh e with ⟨rfl,rfl⟩|⟨ks,x,hm,hr,hx,hln,h5,rfl⟩
 .have h0:vs.toList=[]:=Q2.1 hvl;exact zbb (out:=[]) hlst (by rw[h0];decide) (by rw[h0]) (λξ=>h0.symm) (λh=>by rw[h0]at h;exact absurd h (by decide)) (zfs R q rfl (Ql _))
 .refine zn (zha x hr hx) λhp ξ=>?_;refine zn (zuk hp) λw1 w2=>?_;refine jj (d6 hm rr) λfs k1 k2 k3=>?_;have hk0:(ks++[x]).length=ks.length+1:=Zf;have hvn:vs.toList.length=ks.length+1:=hvl.trans hln;have h6:ks.length+1<=6:=Qp h5;refine zbb (out:=(uv ks.length (vj x ks)).map λi=>vs.toList.getD i .none) hlst (by rw[hvn];exact Z7 h6 (by decide)) (by rw[Zd,w1,hvn]) (λh=>?_) (λh2 A' s' E' hk=>?_) (zfs R q (VRels.pick rr _ λi hi=>by rw[hln];exact w2 i hi) (by rw[Zd,w1];exact Zp h6 (by decide)))
  .rw[hvn]at h;cases Q2.1 (Nat.lt_one_iff.1 (Nat.lt_of_succ_lt_succ h));exact zpu hvn
  .refine kat_kind (T:=.type "int") (pj hk k1) (by rw[k2,hk0];exact Q5 _) (λf hf=>?_) rfl ?_
   .obtain⟨i,hi,rfl⟩:=List.mem_iff_getElem.1 hf;rw[k2]at hi;obtain⟨tk,q1⟩:=k3 i _ (Zl hi);rw[Zl (by rw[k2];exact hi)]at q1;rw[Je q1];exact Looks.of_pure rfl
   .rw[hvn]at h2 ⊢;refine zo4 (n:=ks.length+1) (λi j hi hj hij C hC=>?_) (λa ha=>⟨rfl,by rw[ha]⟩) _ (zwx (Nat.le_of_succ_le_succ h2) h5 hp);rw[<- hk0]at hi hj;obtain⟨ti,f1⟩:=k3 i _ (Zl hi);obtain⟨tj,f2⟩:=k3 j _ (Zl hj);refine zu9 (zc9 (pj hk k1) i _ f1) λai oi xs ni g1 g2 g3 g4=>?_;refine zu9 (zc9 (pj hk k1) j _ f2) λaj oj ys nj h1 h2 h3 h4=>?_;unfold kas_ask;rw[J1,J1,g1,h1];refine zr (zm0 g4 h4) λrest hz=>?_;refine kat_lt g2 g3 h2 h3 ?_;rw[hz];refine kat_cons (wpAny_eqBool_int ?_);rw[zs1 hr hx hi hj hij];exact kat_no (oneLt_int (by rw[zia hr hx hij (Zl hi) (Zl hj)];exact hC))
theorem zmk(hq:d.q=true)(O:G.Ok N){p:Prim}{l:Xd E}{m:Xd Xu}{np pos:Pos}(hg:ku sc (yr p)=true)(hm:qp m=true)(hlm:l.length=m.length)(hl:yl G C d sc Γ l m):
  qe G C d sc Γ (.prim p l) (.Call (.Name (yr p) np) m [] pos):=by
 cases hp:af p with
 |true=>exact zrf hq O hp hg hm hlm hl
 |false =>
  obtain rfl:p=.sorted:=by cases p<;>first|rfl|exact zjg hp
  intro t st s env loc X st' A hA hsc F R e Q E k;rw[nv]at e;obtain⟨Vs,s1,e1,e⟩:=Res.bind_ok e;refine Xi (kj (v:=.builtin "sorted") O F R hsc hg (zcl .sorted) (by decide +kernel) ?_);refine yk O (lm _) hm hlm hl hA hsc F R e1 λvs t1 σ1 S1 R1 r1=>?_;cases Vs with
  |nil=>exact zb e
  |cons V Vs=>cases Vs with
   |nil =>
    obtain⟨v,_,rfl,r1,rfl⟩:=r1;obtain⟨l,rfl,e⟩:=zcb e;obtain⟨m,hs,e⟩:=zch e;obtain⟨rfl,rfl⟩:=xh e;exact zc4 R1 r1 hs _ _ λv t2 σ2 S2 R2 r2=>k v t2 σ2 (S1.trans S2) R2 r2
   |cons W Vs=>cases Vs<;>exact zb e
end
end Internal
end
section
namespace Internal
end Internal
end
section
namespace Internal
open PySem PySem.W PyProof.Rows
section
variable {G:Gd}{N:Names}{C:Calls}{d:Dp}{sc:Sc}{Γ:Gam}{A:Xe}{t t':Tie}{st st':MS}{s:Xa}{env:Env}{loc:Loc}{X Y Z:V}{v w:Xb}{n:Nat}{h:Heap}
theorem Stk.framesL(K:Stk A t h){base:Heap}(hb:∀L,t.Fr L->base.get? L=none):∀l:Xd Env,(∀e,e∈l->e∈t.st)->h.FunFrames base l
 | [],_=>trivial
 |e::r,hs=>by
  obtain⟨h1,L,o,h2,h3,h4,h5⟩:=K.ob e (hs e (.head _));exact⟨h1,⟨L,o,h2,hb L ⟨h3,e,hs e (.head _),h2⟩,h4,h5⟩,K.framesL hb r λe he=>hs e (.tail _ he)⟩
theorem Stk.nf(K:Stk A t h){a:Addr}{o:Obj}(f:t.Fr a)(e:h.get? a=some o):∀vs,o.data≠.fields vs:=by
 obtain⟨-,e',h1,h2⟩:=f;obtain⟨-,L,o',h3,-,h4,h5⟩:=K.ob e' h1;rw[h3]at h2;obtain rfl:=Je h2;rw[e]at h4;obtain rfl:=Je h4;exact h5
structure Fly(t:Tie)(l:Xd Env)(c:Nat)(e:Addr)(s₁:Xa)(h:Heap):Prop where
 ex:∃B a0,(∀a o,s₁.heap.get? a=some o->¬t.Fr a->B.get? a=some o)/\Heap.FlyingW B l e (.ref c) a0 h
 up:s₁.heap.UpToSlots h
 new:s₁.heap.get? e=none
theorem mq(K:Stk A t s.heap)(hk:∀a o,s.heap.get? a=some o->¬t.Fr a->h.get? a=some o)(hu:s.heap.UpToSlots h):Step noX t t s {s with heap:=h} where
 le:=.refl t
 keepW a o e _ _ nf:=hk a o e nf
 slots a o e _ _ f:=hu a o e (K.nf f e)
 new _ o:=.inl o
 live a o e:=by
  show(h.get? a).isSome=true;by_cases f:t.Fr a
  .refine zr (hu a o e (K.nf f e)) λsl q=>?_;rw[q];rfl
  .rw[hk a o e f];rfl
 gens:=rfl
 os:=rfl
theorem Rel.slots(R:Rel G t st s)(K:Stk A t s.heap)(hk:∀a o,s.heap.get? a=some o->¬t.Fr a->h.get? a=some o)(hu:s.heap.UpToSlots h):Rel G t st {s with heap:=h} where
 base b o e:=hk b o (R.base b o e) λf=>by have:=R.apart b (.inr f.1);rw[e]at this;cases this
 apart:=R.apart
 live a q:=by obtain⟨o,e⟩:=Jh.mp (R.live a q);exact(mq K hk hu).live a o e
 pv:=R.pv
 injρ:=R.injρ
 injδ:=R.injδ
 two:=R.two
 objs l o e:=(R.objs l o e).step (mq K hk hu) (λξ x=>x.elim) λa o q e=>hk a o e λf=>R.pv a f.1 ⟨l,q⟩
 cnt:=R.cnt
 sys:=R.sys
 wr:=R.wr
structure HeldS(t:Tie)(l:Xd Env)(c:Nat)(e L:Addr)(s₁:Xa)(h:Heap):Prop where
 ex:∃B a0,(∀a o,s₁.heap.get? a=some o->¬t.Fr a->B.get? a=some o)/\Heap.HeldW B l e (.ref c) a0 L h
 up:s₁.heap.UpToSlots h
 new:s₁.heap.get? e=none
variable{c:Nat}{h':Heap}{args:Xd Xb}
theorem zs7{e:Addr}(K:Stk A t s.heap)(hx:Heap.MadeExcOf s.heap h' e (.ref c) args):
  ∃B:Heap,(∀a o,s.heap.get? a=some o->¬t.Fr a->B.get? a=some o)/\h'.FunFrames B t.st/\B.StaysIn h'/\B.get? e=none:=by
 have inF:∀{a},t.Fr a->a∈t.st.filterMap (·.frame):=λf=>let ⟨e,h1,h2⟩:=f.2;List.mem_filterMap.2 ⟨e,h1,h2⟩
 have K':Stk A t h':=⟨K.fr,λe he=>let ⟨h1,L,o,h2,h3,h4,h5⟩:=K.ob e he;⟨h1,L,o,h2,h3,hx.keeps _ _ h4,h5⟩⟩
 refine⟨hideAll s.heap (t.st.filterMap (·.frame)),λa o q nf=>?_,K'.framesL (λL f=>hideAll_none _ (inF f)) _ λξ z=>z,λb o z=>hx.keeps b o (of_hideAll _ z),?_⟩
 .refine hideAll_get _ q λhm=>nf ?_;refine zd (List.mem_filterMap.1 hm) λe' h1 h2=>?_;obtain⟨-,L',o',h3,h4,-⟩:=K.ob e' h1;rw[h3]at h2;obtain rfl:=Je h2;exact⟨h4,e',h1,h3⟩
 .cases z:(hideAll s.heap (t.st.filterMap (·.frame))).get? e with
  |none=>rfl
  |some o=>have:=of_hideAll _ z;rw[hx.new]at this;exact za this
variable{outer:Xd Env}{L:Addr}{Q:Unit->Xa->Prop}
theorem zk4{e:Addr}{E:Xb->Xa->Prop}(K:Stk A t s.heap)(hst:t.st=env::outer)(hL:env.frame=some L)(hx:Heap.MadeExcOf s.heap h' e (.ref c) args)(q:∀h'',Fly t outer c e s h''->Q () {s with heap:=h''}):Xn G.M A (leaving env (.ref e)) Q E {s with heap:=h'}:=by
 refine jj hx.there λtp he ξ ξ=>?_;refine zu8 (zs7 K hx) λB cov hfr hkb hen=>?_;rw[hst]at hfr;refine wpAny_leaving_firstW (base:=B) (outer:=outer) (by rw[K.fr,hst]) hfr hL he hkb hen rfl rfl rfl λh'' hl=>?_;refine zjy hl λk1 nq1 k3 k4=>?_;obtain⟨_,_,k2⟩:=nq1;exact q h'' ⟨⟨_,_,cov,k1,hen,k2,k3⟩,λa o z nz=>k4 a o (hx.keeps a o z) nz,hx.new⟩
set_option genCtorIdx true in
inductive Air(A:Xe)(tc:Tie)(env:Env)(c:Nat)(e:Addr)(s:Xa)(h:Heap):Prop
 |made (args:Xd Xb) (K:Stk A tc s.heap) (hx:Heap.MadeExcOf s.heap h e (.ref c) args)
 |fly (l:Xd Env) (hl:A.frames=some l) (fl:Fly tc l c e s h)
 |held (l:Xd Env) (L:Addr) (hl:A.frames=some l) (hL:env.frame=some L) (hh:HeldS tc l c e L s h)
variable{tc:Tie}
theorem Air.leave{e:Addr}{E:Xb->Xa->Prop}(a:Air A tc env c e s h)(hfr:A.frames=some (env::outer))(hf:env.frame=some L)(q:∀h'',Fly tc outer c e s h''->Q () {s with heap:=h''}):Xn G.M A (leaving env (.ref e)) Q E {s with heap:=h}:=by
 cases a with
 |made args K hx=>exact zk4 K (Je (K.fr.symm.trans hfr)) hf hx q
 |fly l hl fl =>
  cases hl.symm.trans hfr;refine zf fl.ex λB a0 cov hfl=>?_;exact wpAny_leaves_onW hfr hf hfl λh' f' up=>q h' ⟨⟨B,a0,cov,f'⟩,fl.up.trans up,fl.new⟩
 |held l L' hl hL hh =>
  cases hl.symm.trans hfr;cases hL.symm.trans hf;refine zf hh.ex λB a0 cov hw=>?_;unfold leaving;refine Ze (wpAny_noteFrame_againW hf hw.2.2.2 (wpAny_landsW hw λh' hfl up=>?_));refine zjy hfl λk1 k2 nq2 k4=>?_;obtain⟨_,_,k3⟩:=nq2;exact q h' ⟨⟨B,a0,cov,k1,k2,k3,k4⟩,hh.up.trans up,hh.new⟩
structure Land(G:Gd)(X:Addr->Prop)(t:Tie)(s:Xa)(st':MS)(tc:Tie)(s2:Xa):Prop where
 go:∀h:Heap,(∀a o,s2.heap.get? a=some o->¬tc.Fr a->h.get? a=some o)->s2.heap.UpToSlots h->
  ∃t2:Tie,Step X t t2 s {s2 with heap:=h}/\Rel G t2 st' {s2 with heap:=h}/\∀a,t2.Avoid a->(s2.heap.get? a).isSome=true
variable{σ1 s2:Xa}
theorem Land.pre{X:Addr->Prop}{t1:Tie}(S:Step X t t1 s σ1)(L:Land G X t1 σ1 st' tc s2):Land G X t s st' tc s2 :=
 ⟨λh c u=>let ⟨t2,a,b,q⟩:=L.go h c u;⟨t2,S.trans a,b,q⟩⟩
theorem Land.mono{X Y:Addr->Prop}(L:Land G X t s st' tc s2)(h:∀a,X a->Y a):Land G Y t s st' tc s2 :=
 ⟨λh' c u=>let ⟨t2,a,b,q⟩:=L.go h' c u;⟨t2,a.mono h,b,q⟩⟩
structure Ends(G:Gd)(A:Xe)(env:Env)(t:Tie)(s:Xa)(st':MS)(c:Nat)(e:Addr)(σ:Xa):Prop where
 ex:∃tc s2 h,σ={s2 with heap:=h}/\Land G (own env) t s st' tc s2/\Air A tc env c e s2 h
theorem Ends.pre{t1:Tie}{σ:Xa}{e:Addr}(S:Step (own env) t t1 s σ1)(k:Ends G A env t1 σ1 st' c e σ):Ends G A env t s st' c e σ :=
 let ⟨tc,s2,h,e,L,q⟩:=k.ex;⟨tc,s2,h,e,L.pre S,q⟩
theorem Ends.made{s₁:Xa}{e:Addr}(S:Step (own env) t t' s s₁)(R:Rel G t' st' s₁)(K:Stk A t' s₁.heap)(hx:Heap.MadeExcOf s₁.heap h' e (.ref c) args):Ends G A env t s st' c e {s₁ with heap:=h'} :=
 ⟨t',s₁,h',rfl,⟨λh cov up=>⟨t',S.trans ((mq K cov up).mono λξ z=>z.elim),R.slots K cov up,λa q=>R.live a q⟩⟩,.made args K hx⟩
theorem Ends.fly{sx:Xa}{hh:Heap}{e:Addr}(K:Stk A t s.heap)(L:Land G noX t s st' tc sx)(fl:Fly tc t.st c e sx hh):Ends G A env t s st' c e {sx with heap:=hh} :=
 ⟨tc,sx,hh,rfl,L.mono λξ z=>z.elim,.fly _ K.fr fl⟩
noncomputable def zuo(G:Gd)(A:Xe)(env:Env)(t:Tie)(s:Xa)(tree:Sem Flow)(st':MS)(c:Nat):Prop :=
 ∀(Q:Flow->Xa->Prop)(E:Xb->Xa->Prop),(∀e σ,Ends G A env t s st' c e σ->E (.ref e) σ)->Xn G.M A tree Q E s
noncomputable def o4(G:Gd)(C:Calls)(d:Dp)(sc:Sc)(Γ:Gam)(q:E)(x:Xu):Prop :=
 ∀t st s env loc c st' A,AOk d A->env.scope.names=sc->FrOk G A t env Γ loc s->Rel G t st s->evQ G.P C q loc st=.exc c st'->∀(Q:Xb->Xa->Prop)(E:Xb->Xa->Prop),
  (∀e tc sx h,Land G noX t s st' tc sx->Fly tc t.st c e sx h->E (.ref e) {sx with heap:=h})->Xn G.M A (eval x env) Q E s
noncomputable def fp(G:Gd)(C:Calls)(d:Dp)(sc:Sc)(Γ:Gam)(n:Nat)(x:S)(ast:Stmt):Prop :=
 ∀t st s env loc c st' A,AOk d A->zj2 A env->env.scope.names=sc->FrOk G A t env Γ loc s->Rel G t st s->ex G.P C n x loc st=.exc c st'->zuo G A env t s (exec ast env) st' c
noncomputable def o5(G:Gd)(C:Calls)(d:Dp)(sc:Sc)(Γ:Gam)(n:Nat)(l:Xd S)(m:Xd Stmt):Prop :=
 ∀t st s env loc c st' A,AOk d A->zj2 A env->env.scope.names=sc->FrOk G A t env Γ loc s->Rel G t st s->exs G.P C n l loc st=.exc c st'->zuo G A env t s (execs m env) st' c
variable{m:Xd Stmt}
theorem zma:o5 G C d sc Γ n [] m:=by
 intro t st s env loc c st' A hA hT hsc F R e;cases e
theorem zh0{x:S}{l:Xd S}{ast:Stmt}(h0:wh G C d sc Γ n x ast)(h1:fp G C d sc Γ n x ast)(h2:o5 G C d sc Γ n l m):o5 G C d sc Γ n (x::l) (ast::m):=by
 intro t st s env loc c st' A hA hT hsc F R e Q E k;rw[jb]at e;rcases Res.bind_exc e with e1|⟨⟨f1,l1⟩,s1,e1,e⟩
 .exact Xo (h1 t st s env loc c st' A hA hT hsc F R e1 _ _ k)
 .refine Xo (h0 t st s env loc f1 l1 s1 A hA hT hsc F R e1 _ _ λf t1 σ1 S1 R1 F1 r1=>?_);cases f1 with
  |next =>
   have r1:f=.next:=r1
   subst r1;exact h2 t1 s1 σ1 env l1 c st' A hA hT hsc F1 R1 e _ _ λe σ en=>k e σ (en.pre S1)
  |ret X=>cases e
variable{b1 b2:Xd S}{x:Xu}{m1 m2:Xd Stmt}{pos:Pos}
theorem zq3{c:E}(hc:bq G C d sc Γ c x)(h1:o5 G C d sc Γ n b1 m1)(h2:o5 G C d sc Γ n b2 m2):fp G C d sc Γ n (.ite c b1 b2) (.If x m1 m2 pos):=by
 intro t st s env loc k st' A hA hT hsc F R e Q E q;rw[bz]at e;refine zf (Res.bnd_exc e) λV s1 e1 e=>?_;refine zf (Res.bnd_exc e) λb s2 e2 e=>?_;refine zn (x4 e2) λeq0 eq1=>?_;subst eq0;subst eq1;refine wpAny_If (hc t st s env loc b _ A hA hsc F R e1 _ _ λb' t1 σ1 S1 R1 r1=>?_);subst r1;have S1':Step (own env) t t1 s σ1:=S1.mono λξ z=>z.elim;cases b' with
 |true =>
  simp only[if_true]at e ⊢;exact h1 t1 _ σ1 env loc k st' A hA hT hsc (F.step R S1) R1 e _ _ λe σ en=>q e σ (en.pre S1')
 |false =>
  simp only[Jl,Xq]at e ⊢;exact h2 t1 _ σ1 env loc k st' A hA hT hsc (F.step R S1) R1 e _ _ λe σ en=>q e σ (en.pre S1')
variable{a:E}
theorem zmd{x:Stmt}:fp G C d sc Γ n (.expr a) x:=by
 intro t st s env loc c st' A hA hT hsc F R e;rw[n3]at e;refine zf (Res.bnd_exc e) λV s1 e1 e=>?_;cases e
variable{i:Nat}
theorem zfn{x:Stmt}:fp G C d sc Γ n (.assign i a) x:=by
 intro t st s env loc c st' A hA hT hsc F R e;rw[uo]at e;refine zf (Res.bnd_exc e) λV s1 e1 e=>?_;by_cases q:i<loc.length
 .rw[Zg q]at e;cases e
 .rw[Zh q]at e;cases e
variable{e':E}
theorem zc1{b:E}{x:Stmt}:fp G C d sc Γ n (.setitem a b e') x:=by
 intro t st s env loc c st' A hA hT hsc F R e;rw[mh]at e;refine zf (Res.bnd_exc e) λV s1 e1 e=>?_;refine zf (Res.bnd_exc e) λV s1 e1 e=>?_;refine zf (Res.bnd_exc e) λV s1 e1 e=>?_;refine zf (Res.bnd_exc e) λV s1 e1 e=>?_;cases e
theorem zc0{x:Stmt}:fp G C d sc Γ n (.setattr a i e') x:=by
 intro t st s env loc c st' A hA hT hsc F R e;rw[me]at e;refine zf (Res.bnd_exc e) λV s1 e1 e=>?_;refine zf (Res.bnd_exc e) λV s1 e1 e=>?_;refine zf (Res.bnd_exc e) λV s1 e1 e=>?_;cases e
theorem zq4{a:Xc E}{x:Stmt}:fp G C d sc Γ n (.ret a) x:=by
 intro t st s env loc c st' A hA hT hsc F R e;rw[tx]at e;cases a with
 |none=>cases e
 |some a =>
  refine zf (Res.bnd_exc e) λV s1 e1 e=>?_;cases e
set_option genCtorIdx true in
inductive OneRet:Xd S->Prop
 |mk (c:E) (o:Xc E):OneRet [.ite c [.ret o] []]
variable{P:Prog}{l:Loc}{s':MS}
theorem zlk{o:Xc E}{s:MS}(e:ex P C n (.ret o) l s=.exc c s'):False:=by
 rw[tx]at e;cases o with
 |none=>cases e
 |some a=>refine zf (Res.bnd_exc e) λV s1 e1 e=>?_;cases e
variable{b:Xd S}
theorem zlg(h:OneRet b){s:MS}(e:exs P C n b l s=.exc c s'):False:=by
 cases h with
 |mk c0 o =>
  rw[jb,bz]at e;rcases Res.bind_exc e with e|⟨⟨f1,l1⟩,s1,-,e⟩
  .refine zf (Res.bnd_exc e) λV s1 ξ e=>?_;refine zf (Res.bnd_exc e) λb s2 ξ e=>?_;cases b with
   |false=>cases e
   |true =>
    rcases Res.bind_exc e with e|⟨⟨f1,l1⟩,s1,-,e⟩
    .exact zlk e
    .cases f1<;>cases e
  .cases f1<;>cases e
theorem zaf{st₀:MS}{range:Bool}{src:V}{tg:V->Loc->MS->Res Loc}{bd:Loc->MS->Res (Fl×Loc)}{c:Nat}{s':MS}(hb:∀{l s},bd l s=.exc c s'->False):∀(xs:Xd V) {l:Loc}{s:MS},jg st₀ range src tg bd xs l s=.exc c s'->False
 | [],l,s,e=>by
  rw[yq]at e;split at e<;>cases e
 |x::xs,l,s,e=>by
  rw[vb]at e;split at e
  .refine zf (Res.bnd_exc e) λl2 s2 ξ e=>?_;rcases Res.bind_exc e with e|⟨⟨f1,l1⟩,s1,-,e⟩
   .exact hb e
   .cases f1 with
    |next=>exact zaf hb xs e
    |ret v=>cases e
  .cases e
theorem zme{ts:T ⊕ Xd T}{range:Bool}{it:E}{body:Xd S}{x:Stmt}(h:OneRet body):fp G C d sc Γ n (.for_ ts range it body) x:=by
 intro t st s env loc c st' A hA hT hsc F R e;rw[zgr]at e;refine zf (Res.bnd_exc e) λV s1 ξ e=>?_;exfalso;cases hi:z8 s1 range V with
 |none=>rw[hi]at e;cases e
 |some xs =>
  rw[hi]at e;have e:(if d7 ts range V s1 then jg s1 range V (uu G.P C ts) (exs G.P C n body) xs loc s1 else .stuck)=.exc c st':=e;by_cases hf:d7 ts range V s1=true
  .rw[Zg hf]at e;exact zaf (λe=>zlg h e) xs e
  .rw[Zh hf]at e;cases e
noncomputable def vbm:Xd Xb:=[.type "ValueError",.type "Exception",.type "BaseException",.type "object"]
noncomputable abbrev zr3 (G:Gd) (x:Xv) (c:Nat):Prop:=OwnCls x c vbm "ValueError.__new__" G.mg G.h₀
theorem zh2(hq:d.q=true)(O:G.Ok N){x:Xv}{np cpos kpos:Pos}{ms:Xd Nat}{kk:Nat}(W:zr3 G x c)(hg:ku sc x=true):
  fp G C d sc Γ n (.raise c) (.Raise (some (.Call (.Name x np) [.Constant (.str (qa ms)) kk kpos] [] cpos)) none pos):=by
 intro t st s env loc c' st' A hA hT hsc F R e Q E k;rw[zog]at e;cases e;obtain⟨bm,Nn,nm,qn,bs,hdct,sn,sub,ab,col,dd,k0,k1,k2,k3,k5,mN,hC,hN,hni,T⟩:=W.obj;refine wpAny_Raise_call_subT (nm:=nm) (q:=qn) (C:=c) (N:=Nn) (bs:=bs) (bm:=bm) (hdct:=hdct) (sn:=sn) (sub:=sub) (ab:=ab) (col:=col) (dd:=dd) (k0:=k0) (k1:=k1) (k2:=k2) (k3:=k3) (k5:=k5) PySem.F.excBase_ValueError (T.hasType PySem.F.excBase_ValueError.hasBase) (hA.hd hq) rfl hni ?_;refine v9 O F R hsc hg W.bound ⟨rfl,?_⟩;refine zii (C:=C) (l:=[.str ms]) rfl rfl (yt rfl zjn ww) hA hsc F R rfl λvs t1 σ1 S1 R1 r1=>?_;refine⟨rfl,?_,R1.base _ _ hC,hN.keeps R1.base,T.keeps R1.base,λh' e hm=>k e _ (.made (S1.mono λξ z=>z.elim) R1 (F.step R S1).sk hm)⟩;rw[r1.length];show 1<=_;decide
noncomputable def zf4(G:Gd)(C:Calls)(d:Dp)(xf:Nat->Bool):Prop :=
 ∀f vs st c st',xf f=true->C f vs st=.exc c st'->∀A,AC d A->∃a,G.fa f=some a/\∀t s args,Stk A t s.heap->Rel G t st s->VRels t s.heap vs args->∀(B:Result->Xa->Prop),
  (∀e tc s2 h,Land G noX t s st' tc s2->Fly tc t.st c e s2 h->B (.error (.ref e)) {s2 with heap:=h})->codeAny G.M A (.call (.ref a) ⟨args,[]⟩) B s
noncomputable def oy(G:Gd)(C:Calls)(n:Nat)(qf:Nat->Bool):Prop:=∀f,qf f=true->fk G C ⟨n,false⟩ f
structure CallsA(G:Gd)(xf qf:Nat->Bool)(C:Calls)(n:Nat):Prop where
 ok:nk G C ⟨n,true⟩
 x:zf4 G C ⟨n,true⟩ xf
 q:oy G C n qf
structure FnX(G:Gd)(xf qf:Nat->Bool)(fn:Fn)(a:Addr):Prop where
 ex:∃(fd:FuncData)(body:Xd Stmt),FnHd G fn a fd body/\∀(C:Calls)(n:Nat),CallsA G xf qf C n->o5 G C ⟨n,true⟩ fd.scope.names (iq fn) n fn.body body
theorem zsn(O:G.Ok N){fn:Fn}{a:Addr}{xf qf:Nat->Bool}(hfn:FnX G xf qf fn a)(CA:CallsA G xf qf C n)(hA:AC ⟨n+1,true⟩ A){Vs:Xd V}{vals:Xd Xb}(K:Stk A t s.heap)(R:Rel G t st s)(r:VRels t s.heap Vs vals)(hnp:Vs.length=fn.np)(e:exs G.P C n fn.body (Vs.map some++Jp (fn.names.length-fn.np) none) st=.exc c st'){B:Result->Xa->Prop}(k:∀e tc s2 h,Land G noX t s st' tc s2->Fly tc t.st c e s2 h->B (.error (.ref e)) {s2 with heap:=h}):
  codeAny G.M A (.call (.ref a) ⟨vals,[]⟩) B s:=by
 refine zf hfn.ex λfd body hd h15=>?_;refine zd3 O hd hA K R r hnp λenv s₁ hs hf np hk0 hg ho hA' F0 R0=>?_;refine h15 C n CA (t.hideS (own env) (env::t.st)) st s₁ env _ c st' (A.deeper env) hA' ⟨_,Around.frames_deeper K.fr,hf⟩ hs F0 R0 e _ _ λe' σ en=>?_;refine gy en.ex λtc s2 h2 eq3 Ld lv=>?_;subst eq3;refine lv.leave (Around.frames_deeper K.fr) hf λh'' fl=>k e' tc s2 h'' ⟨λh3 cov up=>?_⟩ fl;refine jj (Ld.go h3 cov up) λt' S' R' av=>?_;have hpv:t'.pv=(t.hideS (own env) (env::t.st)).pv:=S'.le.pv;have nP:∀b,t.pv b->¬own env b:=λb q z=>by
  have:=R.live b (.inr q);rw[np b z]at this;exact qi this
 have Fg:Forget (own env) noX t' {t' with pv:=t.pv,st:=t.st} {s2 with heap:=h3} {s2 with heap:=h3} :=
  ⟨rfl,rfl,λb q=>⟨by rw[hpv];exact .inl q,nP b q⟩,λb q=>by rw[hpv];exact .inr q,λb z=>z.elim,λξ ξ ξ ξ e=>e,rfl,rfl,rfl⟩
 have S'':=Step.unhideS (t:=t) (L:=noX) (l:=env::t.st) (λe he=>(Zu.1 he).elim (λz=>.inr λb q=>by rw[z,hf]at q;obtain rfl:=Je q;exact .inl rfl) .inl) (λe he=>Zk _ he) (λb q=>.inl q) np hk0 hg ho S' Fg;refine⟨_,S'',R'.forget Fg,λa q=>av a ?_⟩;rcases q with q|q
 .exact .inl q
 .exact .inr (by rw[hpv];exact .inl q)
variable{f:Nat}{vs:Xd V}
set_option tactic.hygienic true in
theorem ztn{X:V}(e:run P (n+1) f vs st=.ok X st'):∃fn p,P.fns f=some fn/\vs.length=fn.np/\exs P (run P n) n fn.body (vs.map some++Jp (fn.names.length-fn.np) none) st=.ok p st'/\X=(match p.1 with|.ret v=>v|.next=>.none):=by
 simp only[run]at e;split at e
 case h_2=>exact zb e
 rename_i fn hf;split at e
 case isFalse=>exact zb e
 rename_i hnp;refine zf (Res.bind_ok e) λp s1 e1 e=>?_;cases e;exact⟨fn,p,hf,hnp,e1,rfl⟩
set_option tactic.hygienic true in
theorem zqg(e:run P (n+1) f vs st=.exc c st'):∃fn,P.fns f=some fn/\vs.length=fn.np/\exs P (run P n) n fn.body (vs.map some++Jp (fn.names.length-fn.np) none) st=.exc c st':=by
 simp only[run]at e;split at e
 case h_2=>cases e
 rename_i fn hf;split at e
 case isFalse=>cases e
 rename_i hnp;rcases Res.bind_exc e with e1|⟨p,s1,e1,e⟩
 .exact⟨fn,hf,hnp,e1⟩
 .cases e
theorem zdr(O:G.Ok N){q:Bool}{PX:Calls->Nat->Prop}(hfn:∀fn,G.P.fns f=some fn->∃a,G.fa f=some a/\FnRec G q PX fn a)(px:PX (run G.P n) n):fk G (run G.P (n+1)) ⟨n+1,q⟩ f:=by
 intro vs st X st' e A hA;refine qo (ztn e) λfn p hf hnp e1 h1=>?_;refine zd (hfn fn hf) λa ha rec=>?_;exact⟨a,ha,λt s args K R r B k=>zn7 O rec px hA K R r hnp e1 λv t' s' S' R' rv=>k v t' s' S' R' (by rw[h1];exact rv)⟩
theorem te(O:G.Ok N){xf qf:Nat->Bool}(hfn:∀f fn,G.P.fns f=some fn->∃a,G.fa f=some a/\FnRec G true (CallsA G xf qf) fn a)(hx:∀f fn,xf f=true->G.P.fns f=some fn->∃a,G.fa f=some a/\FnX G xf qf fn a)(hq:∀f fn,qf f=true->G.P.fns f=some fn->∃a,G.fa f=some a/\FnRec G false (λC n=>oy G C n qf) fn a):∀n,CallsA G xf qf (run G.P n) n
 |0=>⟨λf vs st X st' e=>(by exact zb e),λf vs st c st' ξ e=>(by cases e),λf ξ vs st X st' e=>(by exact zb e)⟩
 |n+1=>by
  have ih:=te O hfn hx hq n;refine⟨λf=>zdr O (hfn f) ih,λf vs st c st' xq e A hA=>?_,λf qq=>zdr O (λfn=>hq f fn qq) ih.q⟩;refine jj (zqg e) λfn hf hnp e1=>?_;refine zd (hx f fn xq hf) λa ha rec=>?_;exact⟨a,ha,λt s args K R r B k=>zsn O rec ih hA K R r hnp e1 k⟩
theorem FrOk.mark{x:Xc Xb}(F:FrOk G A t env Γ loc s):FrOk G (A.mark x) t env Γ loc s:=⟨⟨F.sk.fr,F.sk.ob⟩,F.fn,F.gl,F.bl,F.pvl,F.pvc,F.apart,F.ex⟩
theorem AOk.mark{x:Xc Xb}(h:AOk d A):AOk ⟨d.n,false⟩ (A.mark x):=⟨nofun,h.dep,h.un⟩
section
variable {xf:Nat->Bool} (O:G.Ok N) (CX:zf4 G C d xf) {l:Xd E}{m:Xd Xu}{cp:Pos} (hm:qp m=true) (hlm:l.length=m.length) (hl:yl G C d sc Γ l m)
include O CX hm hlm hl
theorem zhu(hfn:∀f a,G.fa f=some a->FnOk G N f a){f:Nat}{np:Pos}(hxq:xf f=true)(hne:N.fn f≠Str.empty)(hg:ku sc (N.fn f)=true):o4 G C d sc Γ (.call f l) (.Call (.Name (N.fn f) np) m [] cp):=by
 intro t st s env loc c st' A hA hsc F R e Q E k;rw[tv]at e;refine zf (Res.bnd_exc e) λVs s2 e2 e=>?_;refine zd (CX f Vs s2 c st' hxq e A hA.ac) λa h1 h2=>?_;have fo:=hfn f a h1;refine Xi (v9 O F R hsc hg (fo.name.resolve_left hne) ?_);refine yk O (n7 fo.keep) hm hlm hl hA hsc F R e2 λvs t1 σ1 S1 R1 r1=>?_;exact wpAny_call (h2 t1 σ1 vs (F.step R S1).sk R1 r1 _ λee tc sx hh ld fly=>k ee tc sx hh (ld.pre S1) (S1.le.st▸fly))
theorem zhv(hcl:∀c Ca,G.ca c=some Ca->ClsOk G Ca)(hme:∀c k f Ca,G.P.meths c k=some f->G.ca c=some Ca->∃a,G.fa f=some a/\MethOk G Ca (N.meth k) a){k:Nat}{a:E}{x:Xu}{ap:Pos}(hx:k7 x=true)(hln:(ap.endLine==cp.line)=true)(h30:m.length<30)(ha:qe G C d sc Γ a x)(hxf:∀c f,G.P.meths c k=some f->xf f=true):
  o4 G C d sc Γ (.meth a k l) (.Call (.Attribute x (N.meth k) ap) m [] cp):=by
 intro t st s env loc c st' A hA hsc F R e Q E kk;rw[m6]at e;refine zf (Res.bnd_exc e) λU s1 e1 e=>?_;cases hmo:xx G.P U k s1 with
 |none=>rw[hmo]at e;cases e
 |some f =>
  rw[hmo]at e;refine zf (Res.bnd_exc e) λVs s2 e2 e=>?_;have hxq:xf f=true:=by
   cases U with
   |ref r =>
    have z:(match s1.heap r with|some (.inst c _)=>G.P.meths c k|_=>none)=some f:=hmo;split at z
    .exact hxf _ _ z
    .exact za z
   |_=>exact za hmo
  refine zd (CX f (U::Vs) s2 c st' hxq e A hA.ac) λfa' h1 h2=>?_;refine zjf O hcl hme hx hln h30 hm hlm ha hl hA hsc F R e1 hmo e2 λfa v vs t2 σ2 f1 S2 R2 r2=>?_;rw[f1]at h1;cases h1;exact wpAny_call (h2 t2 σ2 _ (F.step R S2).sk R2 r2 _ λee tc sx hh ld fly=>kk ee tc sx hh (ld.pre S2) (S2.le.st▸fly))
end
theorem zob{q:E}{X:V}(e:evQ P C q loc st=.ok X s'):ev P C q loc st=.ok X s':=by
 cases q with
 |call f es =>
  refine zf (Res.bnd_ok e) λvs s1 e1 e=>?_;rw[m7,e1];exact e
 |meth a m es =>
  rw[m6]at e;refine zf (Res.bnd_ok e) λx s1 e1 e=>?_;rw[m9,e1];show(match xx P x m s1 with|some f=>_|none=>_)=_;cases hf:xx P x m s1 with
  |none=>rw[hf]at e;exact zb e
  |some f =>
   rw[hf]at e;refine zf (Res.bnd_ok e) λvs s2 e2 e=>?_;show Res.bind (evL P C es loc s1) _=_;rw[e2];exact e
 |new c es =>
  refine zf (Res.bnd_ok e) λvs s1 e1 e=>?_;rw[zgp,e1];exact e
 |_=>exact zb e
variable{ep:Pos}
theorem zhw{q:E}(h:wh G C d sc Γ n (.expr q) (.Expr x ep)):wh G C d sc Γ n (.exprX q) (.Expr x ep):=by
 intro t st s env loc fl loc' st' A hA hT hsc F R e;rw[uq]at e;refine zf (Res.bind_ok e) λV s1 e1 e=>?_;refine h t st s env loc fl loc' st' A hA hT hsc F R ?_;rw[n3,zob e1];exact e
theorem zh1{q:E}(hnc:vd x=true)(h:o4 G C d sc Γ q x):fp G C d sc Γ n (.exprX q) (.Expr x ep):=by
 intro t st s env loc c st' A hA hT hsc F R e Q E k;rw[uq]at e;rcases Res.bind_exc e with e1|⟨V,s1,-,e⟩
 .exact wpAny_Expr_any (h t st s env loc c st' A hA hsc F R e1 _ _ λe tc sx hh ld fly=>k e _ (.fly F.sk ld fly)) (by unfold interactive;rw[F.fn];rfl) (gp hnc _ _ _)
 .cases e
variable{y:Xv}{yp:Pos}
theorem zcw{q:E}(h:wh G C d sc Γ n (.assign i q) (.Assign [.Name y yp] x pos)):wh G C d sc Γ n (.assignX i q) (.Assign [.Name y yp] x pos):=by
 intro t st s env loc fl loc' st' A hA hT hsc F R e;rw[u4]at e;refine zf (Res.bind_ok e) λV s1 e1 e=>?_;refine h t st s env loc fl loc' st' A hA hT hsc F R ?_;rw[uo,zob e1];exact e
theorem zcz{q:E}(hx:vd x=true)(h:o4 G C d sc Γ q x):fp G C d sc Γ n (.assignX i q) (.Assign [.Name y yp] x pos):=by
 intro t st s env loc c st' A hA hT hsc F R e Q E k;rw[u4]at e;rcases Res.bind_exc e with e1|⟨V,s1,-,e⟩
 .exact wpAny_Assign_Name (h t st s env loc c st' A hA hsc F R e1 _ _ λe tc sx hh ld fly=>k e _ (.fly F.sk ld fly)) (gp hx _ _ _)
 .split at e<;>cases e
theorem FrOk.unmark{x:Xc Xb}(F:FrOk G (A.mark x) t env Γ loc s):FrOk G A t env Γ [] s:=by
 refine qo F.ex λm cm hn hcc hz hs=>?_;exact⟨⟨F.sk.fr,F.sk.ob⟩,F.fn,F.gl,F.bl,F.pvl,F.pvc,F.apart,m,cm,hn,hcc,hz,λi y Y ξ e2=>by cases e2⟩
noncomputable def o6(G:Gd)(C:Calls)(d:Dp)(sc:Sc)(Γ:Gam)(n:Nat)(b:Xd S)(m:Xd Stmt):Prop :=
 ∀t st s env loc c st' A,AOk d A->env.scope.names=sc->FrOk G A t env Γ loc s->Rel G t st s->exs G.P C n b loc st=.exc c st'->∀(Q:Flow->Xa->Prop)(E:Xb->Xa->Prop),
  (∀e tc sx h,Land G noX t s st' tc sx->Fly tc t.st c e sx h->E (.ref e) {sx with heap:=h})->Xn G.M A (execs m env) Q E s
theorem zi2{x:S}{s:MS}(e:exs P C n [x] l s=.exc c s'):ex P C n x l s=.exc c s':=by
 rw[jb]at e;rcases Res.bind_exc e with e|⟨⟨f1,l1⟩,s1,-,e⟩
 .exact e
 .cases f1<;>cases e
theorem zmc{q:E}(hnc:vd x=true)(h:o4 G C d sc Γ q x):o6 G C d sc Γ n [.exprX q] [.Expr x ep]:=by
 intro t st s env loc c st' A hA hsc F R e Q E k;have e:=zi2 e;rw[uq]at e;rcases Res.bind_exc e with e1|⟨V,s1,-,e⟩
 .exact Xo (wpAny_Expr_any (h t st s env loc c st' A hA hsc F R e1 _ _ k) (by unfold interactive;rw[F.fn];rfl) (gp hnc _ _ _))
 .cases e
theorem zmb{c:E}(hc:bq G C d sc Γ c x)(h1:o6 G C d sc Γ n b1 m1)(h2:o6 G C d sc Γ n b2 m2):o6 G C d sc Γ n [.ite c b1 b2] [.If x m1 m2 pos]:=by
 intro t st s env loc k st' A hA hsc F R e Q E q;have e:=zi2 e;rw[bz]at e;refine zf (Res.bnd_exc e) λV s1 e1 e=>?_;refine zf (Res.bnd_exc e) λb s2 e2 e=>?_;refine zn (x4 e2) λeq0 eq1=>?_;subst eq0;subst eq1;refine Xo (wpAny_If (hc t st s env loc b _ A hA hsc F R e1 _ _ λb' t1 σ1 S1 R1 r1=>?_));subst r1;have F1:=F.step R S1;have es:t1.st=t.st:=Je (F1.sk.fr.symm.trans F.sk.fr);have q1:∀e tc sx h,Land G noX t1 σ1 st' tc sx->Fly tc t1.st k e sx h->E (.ref e) {sx with heap:=h}:=λe tc sx h L fl=>q e tc sx h (L.pre S1) (es▸fl);cases b' with
 |true=>exact h1 t1 _ σ1 env loc k st' A hA hsc F1 R1 e _ _ q1
 |false=>exact h2 t1 _ σ1 env loc k st' A hA hsc F1 R1 e _ _ q1
set_option genCtorIdx true in
inductive SimH(G:Gd)(C:Calls)(d:Dp)(sc:Sc)(Γ:Gam):Xd (Nat×E)->Xd ExceptHandler->Prop
 |nil:SimH G C d sc Γ [] []
 |cons {hn:Xv}{c:Nat}{a:E}{y:Xu}{hp rp hpos:Pos}{r:Xd (Nat×E)}{hr:Xd ExceptHandler} (W:zr3 G hn c) (hg:ku sc hn=true) (hk:∀c',(G.P.excBase c').contains c'=true->exmOne G.K (.ref c') (.ref c)=some ((G.P.excBase c').contains c)) (h:qe G C ⟨d.n,false⟩ sc Γ a y) (t:SimH G C d sc Γ r hr):SimH G C d sc Γ ((c,a)::r) (.ExceptHandler (some (.Name hn hp)) none [.Return (some y) rp] hpos::hr)
theorem zl7(O:G.Ok N){bd:Xd Stmt}{hs:Xd (Nat×E)}{h0:ExceptHandler}{hl:Xd ExceptHandler}{tpos:Pos}(hb:fm G C d sc Γ n b bd)(hx:o6 G C d sc Γ n b bd)(hh:SimH G C d sc Γ hs (h0::hl)):wh G C d sc Γ n (.tryB b hs) (.Try bd (h0::hl) [] [] tpos):=by
 intro t st s env loc fl loc' st' A hA hT hsc F R e Q E kk;rw[zi0]at e;cases hC:exs G.P C n b loc st with
 |stuck=>rw[hC]at e;exact zb e
 |ok p s3 =>
  rw[hC]at e;cases e;refine wpAny_Try_except (hb t st s env loc fl loc' _ A hA hT hsc F R hC _ _ λf8 t8 s8 S8 R8 F8 r8=>?_);cases fl with
  |next =>
   have r8:f8=.next:=r8
   subst r8;exact wpAny_execs_nil (kk _ t8 s8 S8 R8 F8 rfl)
  |ret X =>
   refine zd r8 λu eq1 ru=>?_;subst eq1;exact kk _ t8 s8 S8 R8 F8 ⟨u,rfl,ru⟩
 |exc c' s3 =>
  rw[hC]at e;replace e:(if (G.P.excBase c').contains c'=true then cg G.P C (G.P.excBase c') hs loc s3 else .stuck)=.ok (fl,loc') st':=e;by_cases q1:(G.P.excBase c').contains c'=true
  case neg=>rw[Zh q1]at e;exact zb e
  rw[Zg q1]at e;refine wpAny_Try_except (hx t st s env loc c' s3 A hA hsc F R hC _ _ λee tc sx hh' ld fly=>?_);refine zd (id hT) λouter hfr hfrm=>?_;have hst:t.st=env::outer:=Je (F.sk.fr.symm.trans hfr);refine zf fly.ex λB a0 cov hfl=>?_;rw[hst]at hfl;refine wpAny_looks_onW hfr hfrm hfl λh4 held up4=>?_;refine wpAny_landsW held λh5 fl5 up5=>?_;have up5':=(fly.up.trans up4).trans up5;refine jj (ld.go h5 (λa o q nf=>fl5.1 a o (cov a o q nf)) up5') λt5 S5 R5 av5=>?_;have F5:=F.step R S5;refine zd fl5.there λob hob hobc=>?_;have LT:Looks G.M h5 (typeOf (.ref ee)) (.ref c'):=hobc▸(Looks.ld hob).andThen .now;clear hx hb hC;generalize h0::hl=hl at hh
  induction hh with
  |nil=>exact zb e
  |@cons hn c a y hp rp hpos r hr W hg hk h tl ih =>
   replace e:(if (G.P.excBase c').contains c=true then (ev G.P C a loc s3).bnd λv s=>Res.ok (Fl.ret v,[]) s else cg G.P C (G.P.excBase c') r loc s3)=.ok (fl,loc') st':=e;refine wpAny_handleBy_cons (codeAny_handlers_test (v9 O F5.mark R5 hsc hg W.bound ?_)) (by intro q;cases q);refine(exm_one (M:=G.M) (h:=h5) (O.K.keeps R5.base) LT (hk c' q1)).here ?_;by_cases q2:(G.P.excBase c').contains c=true
   .rw[Zg q2]at e;rw[q2];refine zf (Res.bnd_ok e) λX s4 e4 e=>?_;cases e;refine codeAny_handlers_suite (lands_againW fl5 λh6 fl6 up6=>?_);refine jj (ld.go h6 (λa o q nf=>fl6.1 a o (cov a o q nf)) (up5'.trans up6)) λt6 S6 R6 av6=>?_;have F6:=F.step R S6;refine Xo (wpAny_Return_some (h t6 s3 _ env loc X _ _ hA.mark hsc F6.mark R6 e4 _ _ λv t8 s8 S8 R8 r8=>?_));exact kk _ t8 s8 ((S6.trans S8).mono λξ z=>z.elim) R8 (FrOk.unmark (x:=some (.ref ee)) (F6.mark.step R6 S8)) ⟨v,rfl,r8⟩
   .rw[Zh q2]at e;rw[show(G.P.excBase c').contains c=false from Bool.eq_false_iff.2 q2];exact ih e
end
end Internal
end
section
namespace Internal
open PySem PySem.W PyProof.Rows PySem.Spec PySem.Calls Builtin Builtin.ObjectAttr Builtin.Getset_descriptor
section
variable {G:Gd}{N:Names}{C:Calls}{d:Dp}{sc:Sc}{Γ:Gam}{A:Xe}{t t':Tie}{st st':MS}{s:Xa}{env:Env}{loc:Loc}{X Y Z:V}{v w:Xb}{n:Nat}{h:Heap}
noncomputable def zum(K:Frag)(c:Nat):Bool:=decide (findIn K (.ref c) "__getattribute__"=some (some (.builtin "BaseException.__getattribute__")))&&decide (findIn K (.ref c) "__getattr__"=some none)&&decide (mroIn K c (.type "BaseException")=some true)&&decide (findIn K (.ref c) "__class__"=some (some (.builtin "object.__class__")))&&decide (specialIn K (.builtin "object.__class__") "__get__"=some (some (.builtin "getset_descriptor.__get__"))) &&
 decide (takesIn K (.builtin "object.__class__")=some true)&&decide (mroIn K c (.type "object")=some true)&&(clsIn K c).isSome
noncomputable def zdc(k:Nat):Xb:=if k=0 then .type "ValueError" else .ref k
end
end Internal
end
section
namespace Internal
open PySem PySem.W PyProof.Rows
set_option genCtorIdx true in
inductive Ck(p:Prop):Type where
 |yes (h:p)
 |no
noncomputable def Ck.bind{p q:Prop}(a:Ck p)(k:p->Ck q):Ck q:=Ck.rec (motive:=λξ=>Ck q) k .no a
noncomputable def Ck.isYes{p:Prop}(a:Ck p):Bool:=Ck.rec (λξ=>true) false a
theorem Ck.get{p:Prop}{a:Ck p}(h:a.isYes=true):p:=by
 cases a with
 |yes g=>exact g
 |no=>exact qi h
theorem o9{a b:Bool}(h:(a&&b)=true):a=true/\b=true:=by cases a<;>cases b<;>first|exact⟨rfl,rfl⟩|exact qi h
class No (α:Type) where
 no:α
noncomputable instance {p:Prop}:No (Ck p):=⟨.no⟩
noncomputable def wb{α:Type}[No α](b:Bool)(k:b=true->α):α:=Bool.rec (motive:=λb=>(b=true->α)->α) (λξ=>No.no) (λk=>k rfl) b k
noncomputable def wk{p:Prop}{α:Type}[No α](a:Ck p)(k:p->α):α:=Ck.rec (motive:=λξ=>α) k No.no a
@[elab_as_elim] noncomputable def wq {α:Type} [BEq α] [LawfulBEq α] {P:α->Type} [∀x,No (P x)] (a b:α) (k:P a):P b:=wb (a==b) λh=>eq_of_beq h▸k
section
variable {P:Xu->Type} [∀x,No (P x)]
@[elab_as_elim] noncomputable def gw (x:Xu) (f:∀y p,P (.Name y p)):P x:=wb (Nat.beq x.ctorIdx 23) λh=>PySem.Expr.Name.elim x (Zo h) f
@[elab_as_elim] noncomputable def zru (x:Xu) (f:∀y k p,P (.Constant y k p)):P x:=wb (Nat.beq x.ctorIdx 19) λh=>PySem.Expr.Constant.elim x (Zo h) f
@[elab_as_elim] noncomputable def wUn (x:Xu) (f:∀o a p,P (.UnaryOp o a p)):P x:=wb (Nat.beq x.ctorIdx 3) λh=>PySem.Expr.UnaryOp.elim x (Zo h) f
@[elab_as_elim] noncomputable def zu6 (x:Xu) (f:∀o a p,P (.BoolOp o a p)):P x:=wb (Nat.beq x.ctorIdx 0) λh=>PySem.Expr.BoolOp.elim x (Zo h) f
@[elab_as_elim] noncomputable def z44 (x:Xu) (f:∀a o b p,P (.BinOp a o b p)):P x:=wb (Nat.beq x.ctorIdx 2) λh=>PySem.Expr.BinOp.elim x (Zo h) f
@[elab_as_elim] noncomputable def zw5 (x:Xu) (f:∀a o b p,P (.Compare a o b p)):P x:=wb (Nat.beq x.ctorIdx 15) λh=>PySem.Expr.Compare.elim x (Zo h) f
@[elab_as_elim] noncomputable def zuj (x:Xu) (f:∀a o p,P (.Tuple a o p)):P x:=wb (Nat.beq x.ctorIdx 25) λh=>PySem.Expr.Tuple.elim x (Zo h) f
@[elab_as_elim] noncomputable def zu7 (x:Xu) (f:∀a p,P (.List a p)):P x:=wb (Nat.beq x.ctorIdx 24) λh=>PySem.Expr.List.elim x (Zo h) f
@[elab_as_elim] noncomputable def z31 (x:Xu) (f:∀a b p,P (.Dict a b p)):P x:=wb (Nat.beq x.ctorIdx 6) λh=>PySem.Expr.Dict.elim x (Zo h) f
@[elab_as_elim] noncomputable def zui (x:Xu) (f:∀a b p,P (.Subscript a b p)):P x:=wb (Nat.beq x.ctorIdx 21) λh=>PySem.Expr.Subscript.elim x (Zo h) f
@[elab_as_elim] noncomputable def zw6 (x:Xu) (f:∀a b c p,P (.Slice a b c p)):P x:=wb (Nat.beq x.ctorIdx 26) λh=>PySem.Expr.Slice.elim x (Zo h) f
@[elab_as_elim] noncomputable def zrr (x:Xu) (f:∀a b p,P (.Attribute a b p)):P x:=wb (Nat.beq x.ctorIdx 20) λh=>PySem.Expr.Attribute.elim x (Zo h) f
@[elab_as_elim] noncomputable def zrs (x:Xu) (f:∀a b c p,P (.Call a b c p)):P x:=wb (Nat.beq x.ctorIdx 16) λh=>PySem.Expr.Call.elim x (Zo h) f
@[elab_as_elim] noncomputable def z30 (x:Xu) (f:∀a b c p,P (.ListComp a b c p)):P x:=wb (Nat.beq x.ctorIdx 8) λh=>PySem.Expr.ListComp.elim x (Zo h) f
end
section
variable {α:Type}{P:Xd α->Type} [∀x,No (P x)]
@[elab_as_elim] noncomputable def w0 (l:Xd α) (f:P []):P l:=List.rec (motive:=λl=>P l) f (λξ ξ ξ=>No.no) l
@[elab_as_elim] noncomputable def wc (l:Xd α) (f:∀a r,P (a::r)):P l:=List.rec (motive:=λl=>P l) No.no (λa r ξ=>f a r) l
@[elab_as_elim] noncomputable def w1 (l:Xd α) (f:∀a,P [a]):P l:=wc l λa r=>w0 (P:=λr=>P (a::r)) r (f a)
@[elab_as_elim] noncomputable def w2 (l:Xd α) (f:∀a b,P [a,b]):P l:=wc l λa r=>w1 (P:=λr=>P (a::r)) r (f a)
variable {Q:Xc α->Type} [∀x,No (Q x)]
@[elab_as_elim] noncomputable def wn (l:Xc α) (f:Q none):Q l:=Option.rec (motive:=λl=>Q l) f (λξ=>No.no) l
@[elab_as_elim] noncomputable def ws (l:Xc α) (f:∀a,Q (some a)):Q l:=Option.rec (motive:=λl=>Q l) No.no f l
end
section
variable {P:Xu->Type} [∀x,No (P x)]
@[elab_as_elim] noncomputable def gv (x:Xu) (n:Xv) (f:∀np l p,P (.Call (.Name n np) l [] p)):P x :=
 zrs x λa l k p=>gw (P:=λa=>P (.Call a l k p)) a λy np=>wq (P:=λy=>P (.Call (.Name y np) l k p)) n y (w0 (P:=λk=>P (.Call (.Name n np) l k p)) k (f np l p))
@[elab_as_elim] noncomputable def zie (x:Xu) (n:Xv) (f:∀a ap l p,k7 a=true->(ap.endLine==p.line)=true->l.length<30->P (.Call (.Attribute a n ap) l [] p)):P x :=
 zrs x λb l k p=>zrr (P:=λb=>P (.Call b l k p)) b λa y ap=>wq (P:=λy=>P (.Call (.Attribute a y ap) l k p)) n y (w0 (P:=λk=>P (.Call (.Attribute a n ap) l k p)) k
  (wb (k7 a) λh1=>wb (ap.endLine==p.line) λh2=>wb (decide (l.length<30)) λh3=>f a ap l p h1 h2 (Za h3)))
@[elab_as_elim] noncomputable def wK (v:Const) (x:Xu) (f:∀k p,P (.Constant v k p)):P x:=zru x λc k p=>wb (decide (v=c)) λh=>Za h▸f k p
end
end Internal
end
section
namespace Internal
open PySem PySem.W PyProof.Rows
structure Hyp(G:Gd)(N:Names)(C:Calls)(d:Dp):Prop where
 O:G.Ok N
 CO:d.q=true->nk G C d
 hcl:∀c Ca,G.ca c=some Ca->ClsOk G Ca
 hfn:∀f a,G.fa f=some a->FnOk G N f a
 hme:∀c k f Ca,G.P.meths c k=some f->G.ca c=some Ca->∃a,G.fa f=some a/\MethOk G Ca (N.meth k) a
 hne:∀c k f,G.P.inits c=some (k,f)->∃Ca fi,G.ca c=some Ca/\G.fa f=some fi/\NewOk G N c Ca fi
 xw:∀y c,N.xs.contains (y,c)=true->c≠0/\zr3 G y c
 xk:∀c k,(G.P.excBase c).contains c=true->(G.P.excBase c).contains k=true->kitOne G.K (.ref c) (zdc k)=some true/\(k≠0->exmOne G.K (.ref c) (.ref k)=some true)
 xz:∀c k,(G.P.excBase c).contains c=true->(∃y,N.xs.contains (y,k)=true)->exmOne G.K (.ref c) (.ref k)=some ((G.P.excBase c).contains k)
 xm:∀k c f,N.xm k=true->G.P.meths c k=some f->N.xf f=true
 xn:∀c k f,N.xm (1000+c)=true->G.P.inits c=some (k,f)->N.xf f=true
 xi:∀c k,(G.P.excBase c).contains c=true->(k=0\/∃y,N.xs.contains (y,k)=true)->zum G.K c=true/\kitOne G.K (.ref c) (zdc k)=some ((G.P.excBase c).contains k)
 CX:d.q=true->zf4 G C d N.xf
 CQ:oy G C d.n N.qf
theorem Hyp.quiet{G:Gd}{N:Names}{C:Calls}{d:Dp}(H:Hyp G N C d):Hyp G N C ⟨d.n,false⟩:=⟨H.O,nofun,H.hcl,H.hfn,H.hme,H.hne,H.xw,H.xk,H.xz,H.xm,H.xn,H.xi,nofun,H.CQ⟩
section
variable {G:Gd}{N:Names}{C:Calls}{d:Dp}{sc:Sc}{Γ:Gam}{x:Xu}
def SimET(G:Gd)(C:Calls)(d:Dp)(sc:Sc)(Γ:Gam)(e:E)(x:Xu):Prop:=isStarred x=false/\kz x=true/\qe G C d sc Γ e x/\bq G C d sc Γ e x
def SimLs(G:Gd)(C:Calls)(d:Dp)(sc:Sc)(Γ:Gam)(l:Xd E)(m:Xd Xu):Prop:=SimL G C d sc Γ l m/\yl G C d sc Γ l m/\qp m=true/\l.length=m.length
theorem x6{e:E}(h1:isStarred x=false)(h2:kz x=true)(h3:za1 x=true)(h:qe G C d sc Γ e x):SimET G C d sc Γ e x:=⟨h1,h2,h,zhz h3 h⟩
theorem SimET.e{e:E}(h:SimET G C d sc Γ e x):qe G C d sc Γ e x:=h.2.2.1
theorem SimET.t{e:E}(h:SimET G C d sc Γ e x):bq G C d sc Γ e x:=h.2.2.2
variable{l:Xd E}
theorem zs6{e:E}{m:Xd Xu}(h1:SimET G C d sc Γ e x)(h2:SimLs G C d sc Γ l m):SimLs G C d sc Γ (e::l) (x::m) :=
 ⟨.cons h1.e h1.t h2.1,yt h1.1 h1.e h2.2.1,by rw[show qp (x::m)=(!isStarred x&&qp m) from rfl,h1.1];exact h2.2.2.1,Qd Nat.succ h2.2.2.2⟩
def KeysAst(ks:Xd (Xd Nat))(m:Xd (Xc Xu)):Prop:=m.length=ks.length/\∀i:Nat,∀x,m[i]?=some x->∃y k p,ks[i]?=some y/\x=some (.Constant (.str (qa y)) k p)
variable{ks:Xd (Xd Nat)}{m:Xd (Xc Xu)}
theorem zb5{k:Xd Nat}{c:Nat}{p:Pos}(h:KeysAst ks m):KeysAst (k::ks) (some (.Constant (.str (qa k)) c p)::m) :=
 ⟨Qd Nat.succ h.1,λi x e=>by
  cases i with
  |zero=>obtain rfl:=Je e;exact⟨k,c,p,rfl,rfl⟩
  |succ i=>exact h.2 i x e⟩
noncomputable def zns:(ks:Xd (Xd Nat))->(m:Xd (Xc Xu))->Ck (KeysAst ks m)
 | [],m=>w0 m (.yes ⟨rfl,λi x e=>by cases e⟩)
 |k::ks,m=>wc m λo r=>ws o λx=>wK (.str (qa k)) x λc p=>(zns ks r).bind λh=>.yes (zb5 h)
def ItOk'(G:Gd)(C:Calls)(d:Dp)(sc:Sc)(Γ:Gam)(range:Bool)(it:E)(i:Xu):Prop:=∃j,IterAst sc range i j/\qe G C d sc Γ it j
noncomputable def zxo(range:Bool){it:E}(i:Xu)(f:(x:Xu)->Ck (SimET G C d sc Γ it x)):Ck (ItOk' G C d sc Γ range it i) :=
 match range with
 |false=>(f i).bind λh=>.yes ⟨i,.plain i,h.e⟩
 |true=>gv i "range" λnp l p=>wb (ku sc "range") λhg=>w1 l λj=>(f j).bind λh=>.yes ⟨j,.range hg h.1,h.e⟩
structure CompAst(G:Gd)(C:Calls)(d:Dp)(sc:Sc)(Γ:Gam)(slot:Nat)(range:Bool)(it:E)(cond:Xc E)(elt:E)(e i:Xu)(y:Xv)(ifs:Xd Xu)(scope:Scope):Prop where
 ok:zbn sc scope slot Γ y=true
 ns:ba i=true
 it:ItOk' G C d sc Γ range it i
 co:CondSim G C d (qu sc scope.names) (xo (qu sc scope.names) Γ slot y) cond ifs
 el:qe G C d (qu sc scope.names) (xo (qu sc scope.names) Γ slot y) elt e
@[elab_as_elim] noncomputable def zrt {P:Xu->Type} [∀x,No (P x)] {slot:Nat}{range:Bool}{it:E}{cond:Xc E}{elt:E} (x:Xu) (fi:∀x,Ck (SimET G C d sc Γ it x)) (fc:∀sc Γ m,Ck (CondSim G C d sc Γ cond m)) (fe:∀sc Γ x,Ck (SimET G C d sc Γ elt x))
  (k:∀e i y px ifs scope pos,CompAst G C d sc Γ slot range it cond elt e i y ifs scope->P (.ListComp e [⟨.Name y px,i,ifs,0⟩] scope pos)):P x :=
 z30 x λe gs scope pos=>w1 gs λg=>match g with
  |⟨t,i,ifs,a⟩=>gw t λy px=>wq (P:=λa=>P (.ListComp e [⟨.Name y px,i,ifs,a⟩] scope pos)) 0 a
   (wb (zbn sc scope slot Γ y) λh1=>wb (ba i) λh2=>wk (zxo range i fi) λh3=>wk (fc (qu sc scope.names) (xo (qu sc scope.names) Γ slot y) ifs) λh4=>wk (fe (qu sc scope.names) (xo (qu sc scope.names) Γ slot y) e) λh5=>k e i y px ifs scope pos ⟨h1,h2,h3,h4,h5.e⟩)
theorem zsj(hq:d.q=true)(H:Hyp G N C d){M:Xc Nat}{slot:Nat}{range:Bool}{it:E}{cond:Xc E}{elt:E}{e i:Xu}{y:Xv}{px pos:Pos}{ifs:Xd Xu}{scope:Scope}(K:CompAst G C d sc Γ slot range it cond elt e i y ifs scope):
  SimET G C d sc Γ (.comp M slot range it cond elt) (.ListComp e [⟨.Name y px,i,ifs,0⟩] scope pos):=by
 refine zd K.it λj h1 h2=>?_;exact x6 rfl rfl rfl (zfo hq H.O (d4 K.ok) K.ns h1 h2 K.co K.el)
noncomputable def zvn(H:Hyp G N C d)(f:Nat):Ck (fk G C d f) :=
 match d,H with
 |⟨_,true⟩,H=>.yes (H.CO rfl f)
 |⟨_,false⟩,H=>wb (N.qf f) λh=>.yes (H.CQ f h)
theorem znu(H:Hyp G N C d){k:Nat}{m':Xd Xu}{p:Pos}(h:KeysAst ks m)(h2:decide (ks.length=l.length)=true)(g:SimLs G C d sc Γ l m'):SimET G C d sc Γ (.dictM k ks l) (.Dict m m' p) :=
 x6 rfl rfl rfl (zmg H.O g.1 (Za h2) h.2 h.1)
theorem zsi(H:Hyp G N C d){a:E}{i:Nat}{p:Pos}(h2:decide (i<13)=true)(h3:k7 x=true)(g:SimET G C d sc Γ a x):SimET G C d sc Γ (.attr a i) (.Attribute x (N.attr i) p):=by
 rw[show N.attr i=G.an i from congrFun H.O.attr i];exact x6 rfl rfl rfl (zq5 H.O H.hcl (Za h2) h3 g.e)
theorem zax{n:Xv}(h:(!(n==Str.empty))=true):n≠Str.empty:=by
 intro e;subst e;exact qi h
noncomputable def z4n{a:E}(H:Hyp G N C d)(sc:Sc)(Γ:Gam)(ks:Xd Kind)(np:Pos)(y z:Xu)(p:Pos)(g:SimET G C d sc Γ a y)(hg:ku sc "isinstance"=true):Ck (SimET G C d sc Γ (.isinst a ks) (.Call (.Name "isinstance" np) [y,z] [] p)) :=
 wc ks λk r=>wb (vc k) λh1=>match r with
  | []=>wb (mw N sc k z) λh2=>.yes (x6 rfl rfl rfl (zfp H.O h1 hg g.1 h2 g.e))
  |k'::r=>w0 r (wb (vc k') λh2=>zuj z λzs cx tp=>wb (bt N sc [k,k'] zs) λh3=>.yes (x6 rfl rfl rfl (zfq H.O h1 h2 hg g.1 h3 g.e)))
noncomputable def z4t(H:Hyp G N C d){i:Nat}(sc:Sc)(Γ:Gam)(x:Xu):Ck (SimET G C d sc Γ (.loc i) x) :=
 gw x λy p=>wb (Γ[i]?==some (some y)) λh1=>wb (!(y==("__debug__":Xv))) λh2=>.yes (x6 rfl rfl rfl (ztu (eq_of_beq h1) (Jn _▸h2)))
noncomputable def zyi(H:Hyp G N C d){g:Xv}{i:Int}(sc:Sc)(Γ:Gam)(x:Xu):Ck (SimET G C d sc Γ (.gint g i) x) :=
 gw x λy p=>wq g y (wb (ku sc g) λh2=>wb (N.gi.contains (g,i)) λh3=>.yes (x6 rfl rfl rfl (zq9 H.O h2 h3)))
noncomputable def zyj(H:Hyp G N C d){g:Xv}{i:Xd Nat}(sc:Sc)(Γ:Gam)(x:Xu):Ck (SimET G C d sc Γ (.gstr g i) x) :=
 gw x λy p=>wq g y (wb (ku sc g) λh2=>wb (N.gs.contains (g,i)) λh3=>.yes (x6 rfl rfl rfl (zra H.O h2 h3)))
noncomputable def z4v(H:Hyp G N C d){a:E}(sc:Sc)(Γ:Gam)(x:Xu)(ra:∀y,Ck (SimET G C d sc Γ a y)):Ck (SimET G C d sc Γ (.neg a) x) :=
 wUn x λo y p=>wq .USub o ((ra y).bind λg=>.yes (x6 rfl rfl rfl (ztw g.e)))
noncomputable def z4x(H:Hyp G N C d){a:E}(sc:Sc)(Γ:Gam)(x:Xu)(ra:∀y,Ck (SimET G C d sc Γ a y)):Ck (SimET G C d sc Γ (.not a) x) :=
 wUn x λo y p=>wq .Not o ((ra y).bind λg=>.yes ⟨rfl,rfl,zty g.e,zq2 g.t⟩)
noncomputable def z4p(H:Hyp G N C d){l:Xd E}(sc:Sc)(Γ:Gam)(x:Xu)(rl:∀m,Ck (SimLs G C d sc Γ l m)):Ck (SimET G C d sc Γ (.and l) x) :=
 zu6 x λo m p=>wq .And o ((rl m).bind λg=>.yes ⟨rfl,rfl,zqv g.1,zl8 g.1⟩)
noncomputable def kOr(H:Hyp G N C d){l:Xd E}(sc:Sc)(Γ:Gam)(x:Xu)(rl:∀m,Ck (SimLs G C d sc Γ l m)):Ck (SimET G C d sc Γ (.or l) x) :=
 zu6 x λo m p=>wq .Or o ((rl m).bind λg=>.yes ⟨rfl,rfl,ztp g.1,zqz g.1⟩)
noncomputable def z4q(H:Hyp G N C d){o:Bop}{a:E}{b:E}(sc:Sc)(Γ:Gam)(x:Xu)(ra:∀y,Ck (SimET G C d sc Γ a y))(rb:∀y,Ck (SimET G C d sc Γ b y)):Ck (SimET G C d sc Γ (.bin o a b) x) :=
 z44 x λy q z p=>wq (zwk o) q ((ra y).bind λg1=>(rb z).bind λg2=>.yes (x6 rfl rfl rfl (ztq H.O g1.e g2.e)))
noncomputable def z4r(H:Hyp G N C d){a:E}{o:Cop}{b:E}(sc:Sc)(Γ:Gam)(x:Xu)(ra:∀y,Ck (SimET G C d sc Γ a y))(rb:∀y,Ck (SimET G C d sc Γ b y)):Ck (SimET G C d sc Γ (.cmp a o b) x) :=
 zw5 x λy qs zs p=>w1 qs λq=>w1 zs λz=>wq (jx o) q ((ra y).bind λg1=>(rb z).bind λg2=>wb (!behindInMarks (jx o) z) λh=>.yes ⟨rfl,rfl,ztr (Jn _▸h) g1.e g2.e,zq0 (Jn _▸h) g1.e g2.e⟩)
noncomputable def zyg(H:Hyp G N C d){a:E}{o:Cop}{b:E}{o2:Cop}{c:E}(sc:Sc)(Γ:Gam)(x:Xu)(ra:∀y,Ck (SimET G C d sc Γ a y))(rb:∀y,Ck (SimET G C d sc Γ b y))(rc:∀y,Ck (SimET G C d sc Γ c y)):Ck (SimET G C d sc Γ (.cmp2 a o b o2 c) x) :=
 zw5 x λy qs zs p=>w2 qs λq r=>w2 zs λz u=>wq (jx o) q (wq (jx o2) r ((ra y).bind λg1=>(rb z).bind λg2=>(rc u).bind λg3 =>
   wb (!behindInMarks (jx o2) u) λh=>.yes ⟨rfl,rfl,zq8 (Jn _▸h) g1.e g2.e g3.e,zl9 (Jn _▸h) g1.e g2.e g3.e⟩))
noncomputable def z4s(H:Hyp G N C d){n:Bool}{a:E}{v:V}(sc:Sc)(Γ:Gam)(x:Xu)(ra:∀y,Ck (SimET G C d sc Γ a y)):Ck (SimET G C d sc Γ (.isC n a v) x) :=
 zw5 x λy qs zs p=>w1 qs λq=>w1 zs λz=>(ra y).bind λg1=>wb (zal q n) λh2=>(match v with
   |.none=>wK .none z λk p=>.yes ⟨rfl,rfl,ztt h2 g1.e,zq1 h2 g1.e⟩
   |_=>.no)
noncomputable def z4z(H:Hyp G N C d){l:Xd E}(sc:Sc)(Γ:Gam)(x:Xu)(rl:∀m,Ck (SimLs G C d sc Γ l m)):Ck (SimET G C d sc Γ (.tup l) x) :=
 zuj x λm k p=>(rl m).bind λg=>.yes (x6 rfl rfl rfl (zt0 g.2.1))
noncomputable def z4u(H:Hyp G N C d){l:Xd E}(sc:Sc)(Γ:Gam)(x:Xu)(rl:∀m,Ck (SimLs G C d sc Γ l m)):Ck (SimET G C d sc Γ (.lst l) x) :=
 zu7 x λm p=>(rl m).bind λg=>.yes (x6 rfl rfl rfl (ztv g.2.1))
noncomputable def zyk(H:Hyp G N C d){k0:Nat}{l:Xd E}(sc:Sc)(Γ:Gam)(x:Xu)(rl:∀m,Ck (SimLs G C d sc Γ l m)):Ck (SimET G C d sc Γ (.lstM k0 l) x) :=
 zu7 x λm p=>(rl m).bind λg=>.yes (x6 rfl rfl rfl (zrb H.O g.2.1))
noncomputable def zv7(H:Hyp G N C d){k0:Nat}{ks:Xd (Xd Nat)}{l:Xd E}(sc:Sc)(Γ:Gam)(x:Xu)(rl:∀m,Ck (SimLs G C d sc Γ l m)):Ck (SimET G C d sc Γ (.dictM k0 ks l) x) :=
 z31 x λm m' p=>(zns ks m).bind λh=>wb (decide (ks.length=l.length)) λh2=>(rl m').bind λg=>.yes (znu H h h2 g)
noncomputable def z4y(H:Hyp G N C d){a:E}{b:E}(sc:Sc)(Γ:Gam)(x:Xu)(ra:∀y,Ck (SimET G C d sc Γ a y))(rb:∀y,Ck (SimET G C d sc Γ b y)):Ck (SimET G C d sc Γ (.sub a b) x) :=
 zui x λy z p=>(ra y).bind λg1=>(rb z).bind λg2=>.yes (x6 rfl rfl rfl (ztz g2.2.1 g1.e g2.e))
noncomputable def zv9(H:Hyp G N C d){a:E}{lo:Xc E}{hi:Xc E}(sc:Sc)(Γ:Gam)(x:Xu)(ra:∀y,Ck (SimET G C d sc Γ a y))(rlo:∀m,Ck (zf5 G C d sc Γ lo m))(rhi:∀m,Ck (zf5 G C d sc Γ hi m)):Ck (SimET G C d sc Γ (.slice a lo hi) x) :=
 zui x λy z p=>(ra y).bind λg1=>zw6 z λl u st ps=>wn st ((rlo l).bind λg2=>(rhi u).bind λg3=>.yes (x6 rfl rfl rfl (zml g1.e g2 g3)))
noncomputable def zye(H:Hyp G N C d){a:E}{i:Nat}(sc:Sc)(Γ:Gam)(x:Xu)(ra:∀y,Ck (SimET G C d sc Γ a y)):Ck (SimET G C d sc Γ (.attr a i) x) :=
 zrr x λy n p=>wq (N.attr i) n (wb (decide (i<13)) λh2=>wb (k7 y) λh3=>(ra y).bind λg=>.yes (zsi H h2 h3 g))
noncomputable def zyf(H:Hyp G N C d){f:Nat}{l:Xd E}(sc:Sc)(Γ:Gam)(x:Xu)(rl:∀m,Ck (SimLs G C d sc Γ l m)):Ck (SimET G C d sc Γ (.call f l) x) :=
 gv x (N.fn f) λnp m p=>wb (ku sc (N.fn f)) λh2=>wb (!(N.fn f==Str.empty)) λh3=>(rl m).bind λg=>wk (zvn H f) λhq=>.yes (x6 rfl rfl rfl (zq7 H.O hq H.hfn (zax h3) h2 g.2.2.1 g.2.2.2 g.2.1))
noncomputable def zyl(H:Hyp G N C d){a:E}{k:Nat}{l:Xd E}(sc:Sc)(Γ:Gam)(x:Xu)(ra:∀y,Ck (SimET G C d sc Γ a y))(rl:∀m,Ck (SimLs G C d sc Γ l m)):Ck (SimET G C d sc Γ (.meth a k l) x) :=
 zie x (N.meth k) λy ap m p q1 q2 q3=>(ra y).bind λg=>(rl m).bind λg1=>wb d.q λhq=>.yes (x6 rfl rfl rfl (zrc H.O (H.CO hq) H.hcl H.hme q1 q2 q3 g1.2.2.1 g1.2.2.2 g.e g1.2.1))
noncomputable def z4w(H:Hyp G N C d){c:Nat}{l:Xd E}(sc:Sc)(Γ:Gam)(x:Xu)(rl:∀m,Ck (SimLs G C d sc Γ l m)):Ck (SimET G C d sc Γ (.new c l) x) :=
 gv x (N.cls c) λnp m p=>wb (ku sc (N.cls c)) λh2=>(rl m).bind λg=>wb d.q λhq=>.yes (x6 rfl rfl rfl (ztx H.O (H.CO hq) H.hne h2 g.2.2.1 g.2.2.2 g.2.1))
noncomputable def zsz(H:Hyp G N C d){a:E}{ks:Xd Kind}(sc:Sc)(Γ:Gam)(x:Xu)(ra:∀y,Ck (SimET G C d sc Γ a y)):Ck (SimET G C d sc Γ (.isinst a ks) x) :=
 gv x "isinstance" λnp m p=>wb (ku sc "isinstance") λh2=>w2 m λy z=>(ra y).bind λg=>z4n H sc Γ ks np y z p g h2
noncomputable def zym(H:Hyp G N C d){q:Prim}{l:Xd E}(sc:Sc)(Γ:Gam)(x:Xu)(rl:∀m,Ck (SimLs G C d sc Γ l m)):Ck (SimET G C d sc Γ (.prim q l) x) :=
 gv x (yr q) λnp m p=>wb d.q λhq=>wb (ku sc (yr q)) λh2=>(rl m).bind λg=>.yes (x6 rfl rfl rfl (zmk hq H.O h2 g.2.2.1 g.2.2.2 g.2.1))
noncomputable def zv8(H:Hyp G N C d){k0:Nat}{a:E}(sc:Sc)(Γ:Gam)(x:Xu)(ra:∀y,Ck (SimET G C d sc Γ a y)):Ck (SimET G C d sc Γ (.listM k0 a) x) :=
 gv x "list" λnp m p=>wb (ku sc "list") λh2=>w1 m λy=>(ra y).bind λg=>.yes (x6 rfl rfl rfl (zmj H.O h2 g.1 g.e))
noncomputable def zv6(H:Hyp G N C d){k0:Nat}{a:E}(sc:Sc)(Γ:Gam)(x:Xu)(ra:∀y,Ck (SimET G C d sc Γ a y)):Ck (SimET G C d sc Γ (.dictC k0 a) x) :=
 gv x "dict" λnp m p=>wb (ku sc "dict") λh2=>w1 m λy=>(ra y).bind λg=>.yes (x6 rfl rfl rfl (zmh H.O h2 g.1 g.e))
noncomputable def kBm(H:Hyp G N C d){b:Bm}{a:E}{l:Xd E}(sc:Sc)(Γ:Gam)(x:Xu)(ra:∀y,Ck (SimET G C d sc Γ a y))(rl:∀m,Ck (SimLs G C d sc Γ l m)):Ck (SimET G C d sc Γ (.bm b a l) x) :=
 zie x (zgd b) λy ap m p q1 q2 q3=>wb (zin b) λh2=>(ra y).bind λg=>(rl m).bind λg1=>.yes (x6 rfl rfl rfl (zwt H.O h2 q1 q2 q3 g1.2.2.1 g1.2.2.2 g.e g1.2.1))
noncomputable def zyh(H:Hyp G N C d){k0:Xc Nat}{slot:Nat}{range:Bool}{it:E}{cond:Xc E}{elt:E}(sc:Sc)(Γ:Gam)(x:Xu)(rit:∀y,Ck (SimET G C d sc Γ it y))(rcond:∀sc Γ m,Ck (CondSim G C d sc Γ cond m))(re:∀sc Γ x,Ck (SimET G C d sc Γ elt x)):Ck (SimET G C d sc Γ (.comp k0 slot range it cond elt) x) :=
 zrt (slot:=slot) (range:=range) x rit rcond re λe i y px ifs scope pos K=>wb d.q λhq=>.yes (zsj hq H K)
mutual
noncomputable def ckE(H:Hyp G N C d):(e:E)->(sc:Sc)->(Γ:Gam)->(x:Xu)->Ck (SimET G C d sc Γ e x)
 |.none,sc,Γ,x=>wK .none x λk p=>.yes (x6 rfl rfl rfl zrd)
 |.bool b,sc,Γ,x=>wK (.bool b) x λk p=>.yes (x6 rfl rfl rfl zq6)
 |.int i,sc,Γ,x=>wK (.int i) x λk p=>.yes (x6 rfl rfl rfl zts)
 |.str l,sc,Γ,x=>wK (.str (qa l)) x λk p=>.yes (x6 rfl rfl rfl zjn)
 |.loc i,sc,Γ,x=>z4t H sc Γ x
 |.gint g i,sc,Γ,x=>zyi H sc Γ x
 |.gstr g i,sc,Γ,x=>zyj H sc Γ x
 |.neg a,sc,Γ,x=>z4v H sc Γ x (ckE H a sc Γ)
 |.not a,sc,Γ,x=>z4x H sc Γ x (ckE H a sc Γ)
 |.and l,sc,Γ,x=>z4p H sc Γ x (mx H l sc Γ)
 |.or l,sc,Γ,x=>kOr H sc Γ x (mx H l sc Γ)
 |.bin o a b,sc,Γ,x=>z4q H sc Γ x (ckE H a sc Γ) (ckE H b sc Γ)
 |.cmp a o b,sc,Γ,x=>z4r H sc Γ x (ckE H a sc Γ) (ckE H b sc Γ)
 |.cmp2 a o b o2 c,sc,Γ,x=>zyg H sc Γ x (ckE H a sc Γ) (ckE H b sc Γ) (ckE H c sc Γ)
 |.isC n a v,sc,Γ,x=>z4s H sc Γ x (ckE H a sc Γ)
 |.tup l,sc,Γ,x=>z4z H sc Γ x (mx H l sc Γ)
 |.lst l,sc,Γ,x=>z4u H sc Γ x (mx H l sc Γ)
 |.lstM _ l,sc,Γ,x=>zyk H sc Γ x (mx H l sc Γ)
 |.dictM _ ks l,sc,Γ,x=>zv7 H sc Γ x (mx H l sc Γ)
 |.sub a b,sc,Γ,x=>z4y H sc Γ x (ckE H a sc Γ) (ckE H b sc Γ)
 |.slice a lo hi,sc,Γ,x=>zv9 H sc Γ x (ckE H a sc Γ) (ckO H lo sc Γ) (ckO H hi sc Γ)
 |.attr a i,sc,Γ,x=>zye H sc Γ x (ckE H a sc Γ)
 |.call f l,sc,Γ,x=>zyf H sc Γ x (mx H l sc Γ)
 |.meth a k l,sc,Γ,x=>zyl H sc Γ x (ckE H a sc Γ) (mx H l sc Γ)
 |.new c l,sc,Γ,x=>z4w H sc Γ x (mx H l sc Γ)
 |.isinst a ks,sc,Γ,x=>zsz H sc Γ x (ckE H a sc Γ)
 |.prim q l,sc,Γ,x=>zym H sc Γ x (mx H l sc Γ)
 |.listM _ a,sc,Γ,x=>zv8 H sc Γ x (ckE H a sc Γ)
 |.dictC _ a,sc,Γ,x=>zv6 H sc Γ x (ckE H a sc Γ)
 |.bm b a l,sc,Γ,x=>kBm H sc Γ x (ckE H a sc Γ) (mx H l sc Γ)
 |.comp _ slot range it cond elt,sc,Γ,x=>zyh H sc Γ x (ckE H it sc Γ) (zxn H cond) (ckE H elt)
noncomputable def zxn(H:Hyp G N C d):(e:Xc E)->(sc:Sc)->(Γ:Gam)->(m:Xd Xu)->Ck (CondSim G C d sc Γ e m)
 |none,sc,Γ,m=>w0 m (.yes .none)
 |some c,sc,Γ,m=>w1 m λx=>(ckE H c sc Γ x).bind λg=>.yes (.some g.t)
noncomputable def ckO(H:Hyp G N C d):(e:Xc E)->(sc:Sc)->(Γ:Gam)->(m:Xc Xu)->Ck (zf5 G C d sc Γ e m)
 |none,sc,Γ,m=>wn m (.yes zl4)
 |some c,sc,Γ,m=>ws m λx=>(ckE H c sc Γ x).bind λg=>.yes (zl5 g.e)
noncomputable def mx(H:Hyp G N C d):(l:Xd E)->(sc:Sc)->(Γ:Gam)->(m:Xd Xu)->Ck (SimLs G C d sc Γ l m)
 | [],sc,Γ,m=>w0 m (.yes ⟨.nil,ww,rfl,rfl⟩)
 |e::l,sc,Γ,m=>wc m λx r=>(ckE H e sc Γ x).bind λg1=>(mx H l sc Γ r).bind λg2=>.yes (zs6 g1 g2)
end
end
end Internal
end
section
namespace Internal
open PySem PySem.W PyProof.Rows
noncomputable def sf(Γ:Gam):Bool:=decide ((Γ.filterMap id).Nodup)
theorem zbz:∀(Γ:Gam)(i:Nat)(y:Xv),Γ[i]?=some (some y)->y∈Γ.filterMap id
 | [],i,y,h=>by simp at h
 |a::Γ,0,y,h=>by simp at h;subst h;simp
 |a::Γ,i+1,y,h=>by
  simp only[Jy]at h;have:=zbz Γ i y h;cases a with
  |none=>simpa using this
  |some z=>simp only[Jx,id];exact Zk _ this
theorem f7:∀(Γ:Gam),sf Γ=true->j4 Γ
 | [],h=>by intro i j y h;simp at h
 |a::Γ,h=>by
  have hn:(List.filterMap id (a::Γ)).Nodup:=by simpa [sf] using h
  have h':j4 Γ:=f7 Γ (by
   cases a with
   |none=>simpa [sf] using hn
   |some z=>simp only[Jx,id]at hn;simpa [sf] using (Qu.1 hn).2)
  intro i j y hi hj
  match i,j with
  |0,0=>rfl
  |i+1,j+1=>
   simp only[Jy]at hi hj;exact Qd Nat.succ (h' i j y hi hj)
  |0,j+1 =>
   simp at hi;subst hi;simp only[Jy]at hj;simp only[Jx,id]at hn;exact((Qu.1 hn).1 (zbz Γ j y hj)).elim
  |i+1,0 =>
   simp at hj;subst hj;simp only[Jy]at hi;simp only[Jx,id]at hn;exact((Qu.1 hn).1 (zbz Γ i y hi)).elim
section
variable {P:Stmt->Type} [∀x,No (P x)]
@[elab_as_elim] noncomputable def zju (x:Stmt) (f:∀y p,P (.Expr y p)):P x:=wb (Nat.beq x.ctorIdx 24) λh=>PySem.Stmt.Expr.elim x (Zo h) f
@[elab_as_elim] noncomputable def zuf (x:Stmt) (f:∀t e p,P (.Assign t e p)):P x:=wb (Nat.beq x.ctorIdx 5) λh=>PySem.Stmt.Assign.elim x (Zo h) f
@[elab_as_elim] noncomputable def vIf (x:Stmt) (f:∀c a b p,P (.If c a b p)):P x:=wb (Nat.beq x.ctorIdx 12) λh=>PySem.Stmt.If.elim x (Zo h) f
@[elab_as_elim] noncomputable def z42 (x:Stmt) (f:∀t i b o p,P (.For t i b o p)):P x:=wb (Nat.beq x.ctorIdx 9) λh=>PySem.Stmt.For.elim x (Zo h) f
@[elab_as_elim] noncomputable def zw4 (x:Stmt) (f:∀c b o p,P (.While c b o p)):P x:=wb (Nat.beq x.ctorIdx 11) λh=>PySem.Stmt.While.elim x (Zo h) f
@[elab_as_elim] noncomputable def z3y (x:Stmt) (f:∀e p,P (.Return e p)):P x:=wb (Nat.beq x.ctorIdx 3) λh=>PySem.Stmt.Return.elim x (Zo h) f
@[elab_as_elim] noncomputable def z43 (x:Stmt) (f:∀b h o e p,P (.Try b h o e p)):P x:=wb (Nat.beq x.ctorIdx 17) λh=>PySem.Stmt.Try.elim x (Zo h) f
@[elab_as_elim] noncomputable def zw3 (x:Stmt) (f:∀e c p,P (.Raise e c p)):P x:=wb (Nat.beq x.ctorIdx 16) λh=>PySem.Stmt.Raise.elim x (Zo h) f
@[elab_as_elim] noncomputable def zmw (x:Stmt) (f:∀t e p,P (.Assign [t] e p)):P x:=zuf x λts e p=>w1 ts λt=>f t e p
end
section
variable {G:Gd}{N:Names}{C:Calls}{d:Dp}{n:Nat}{sc:Sc}{Γ:Gam}
noncomputable def ckT(H:Hyp G N C d)(t:T)(x:Xu):Ck (TgtOk G C d sc Γ t x):=match t with
 |.loc i=>gw x λy p=>wb (Γ[i]?==some (some y)) λh1=>wb (ya sc y) λh2=>.yes (.loc (eq_of_beq h1) h2)
 |.item a b=>zui x λy z p=>wk (ckE H a sc Γ y) λg1=>wk (ckE H b sc Γ z) λg2=>.yes (.item g1.e g2.e)
noncomputable def zvp(H:Hyp G N C d):(l:Xd T)->(m:Xd Xu)->Ck (TgtsOk G C d sc Γ l m)
 | [],m=>w0 m (.yes .nil)
 |t::l,m=>wc m λx r=>wk (ckT H t x) λh1=>wk (zvp H l r) λh2=>.yes (.cons h1 h2)
noncomputable def zxl(H:Hyp G N C d)(t:T ⊕ Xd T)(x:Xu):Ck (ForTgt G C d sc Γ t x):=match t with
 |.inl t=>wk (ckT H t x) λh=>.yes (.one h)
 |.inr ts=>zuj x λm k p=>wk (zvp H ts m) λh=>.yes (.many h)
variable{i:Nat}{range:Bool}{it:E}{pos:Pos}
theorem zwr(hq:d.q=true)(H:Hyp G N C d)(gi:j4 Γ){z:Xv}{zp pz:Pos}{M:Xc Nat}{slot:Nat}{cond:Xc E}{elt:E}{e j:Xu}{y:Xv}{px:Pos}{ifs:Xd Xu}{scope:Scope}(hi:(Γ[i]?==some (some z))=true)(hk:ya sc z=true)(K:CompAst G C d sc Γ slot range it cond elt e j y ifs scope):
  wh G C d sc Γ n (.assign i (.comp M slot range it cond elt)) (.Assign [.Name z zp] (.ListComp e [⟨.Name y px,j,ifs,0⟩] scope pos) pz):=by
 refine zd K.it λj h1 h2=>?_;exact cz hq H.O gi (eq_of_beq hi) hk (d4 K.ok) K.ns h1 h2 K.co K.el
variable{a:E}{y:Xu}{ap:Pos}
theorem zl0(H:Hyp G N C d){b:E}{z:Xu}{p:Pos}(h2:decide (i<13)=true)(g1:SimET G C d sc Γ a y)(g2:SimET G C d sc Γ b z):
  wh G C d sc Γ n (.setattr a i b) (.Assign [.Attribute y (N.attr i) ap] z p):=by
 rw[show N.attr i=G.an i from congrFun H.O.attr i];exact zcx H.O H.hcl (Za h2) g1.e g2.e
theorem z3q(hq:d.q=true)(H:Hyp G N C d)(gi:j4 Γ){ts:T ⊕ Xd T}{body:Xd S}{i:Xu}{m:Xd Stmt}{p:Pos}(h1:ForTgt G C d sc Γ ts y)(h2:ba i=true)(h3:ItOk' G C d sc Γ range it i)(h:fm G C d sc Γ n body m):
  wh G C d sc Γ n (.for_ ts range it body) (.For y i m [] p):=by
 refine zd h3 λj h4 h5=>?_;exact zqw hq H.O gi h1 h2 h4 h5 h
@[elab_as_elim] noncomputable def z32 {P:ExceptHandler->Type} [∀x,No (P x)] (x:ExceptHandler) (f:∀t n b p,P (.ExceptHandler t n b p)):P x:=match x with|.ExceptHandler t n b p=>f t n b p
theorem zwo(hq:d.q=true)(H:Hyp G N C d){k:Nat}{l:Xd E}{x:Xu}{m:Xd Xu}{cp:Pos}(q1:k7 x=true)(q2:(ap.endLine==cp.line)=true)(q3:m.length<30)(ga:SimET G C d sc Γ a x)(gl:SimLs G C d sc Γ l m)(h1:N.xm k=true):
  o4 G C d sc Γ (.meth a k l) (.Call (.Attribute x (N.meth k) ap) m [] cp):=zhv H.O (H.CX hq) gl.2.2.1 gl.2.2.2 gl.2.1 H.hcl H.hme q1 q2 q3 ga.e λc f e=>H.xm k c f h1 e
noncomputable def ckQ(H:Hyp G N C d)(q:E)(x:Xu):Ck (o4 G C d sc Γ q x):=wb d.q λhq=>match q with
 |.call f l=>gv x (N.fn f) λnp m cp=>wk (mx H l sc Γ m) λgl=>wb (N.xf f) λh1=>wb (ku sc (N.fn f)) λh6=>wb (!(N.fn f==Str.empty)) λh7=>.yes (zhu H.O (H.CX hq) gl.2.2.1 gl.2.2.2 gl.2.1 H.hfn h1 (zax h7) h6)
 |.meth a k l=>zie x (N.meth k) λz ap m cp q1 q2 q3=>wk (ckE H a sc Γ z) λga=>wk (mx H l sc Γ m) λgl=>wb (N.xm k) λh1=>.yes (zwo hq H q1 q2 q3 ga gl h1)
 |_=>.no
mutual
noncomputable def z4o(H:Hyp G N C d):(s:S)->(x:Stmt)->Ck (o6 G C d sc Γ n [s] [x])
 |.exprX q,x=>zju x λy p=>wb (vd y) λh1=>wk (ckQ H q y) λh=>.yes (zmc h1 h)
 |.ite c b1 b2,x=>vIf x λy m1 m2 p=>wk (ckE H c sc Γ y) λg=>wk (zvo H b1 m1) λg1=>wk (zvo H b2 m2) λg2=>.yes (zmb g.t g1 g2)
 |_,_=>.no
noncomputable def zvo(H:Hyp G N C d):(b:Xd S)->(m:Xd Stmt)->Ck (o6 G C d sc Γ n b m)
 | [],_=>.no
 |s::l,m=>wc m λx r=>match l with
  | []=>w0 r (z4o H s x)
  |_=>.no
end
noncomputable def zxm(H:Hyp G N C d):(hs:Xd (Nat×E))->(m:Xd ExceptHandler)->Ck (SimH G C d sc Γ hs m)
 | [],m=>w0 m (.yes .nil)
 |(c,a)::r,m=>wc m λh hr=>z32 h λty nm hb hpos=>ws ty λtn=>gw tn λhn hp=>wn nm (w1 hb λs0=>z3y s0 λy rp=>ws y λz=>wb (N.xs.contains (hn,c)) λh2=>wb (ku sc hn) λh3=>wk (ckE H.quiet a sc Γ z) λg=>wk (zxm H r hr) λgr=>.yes (.cons (H.xw hn c h2).2 h3 (λc' e1=>H.xz c' c e1 ⟨hn,h2⟩) g.e gr))
variable{c:Nat}
theorem zhx{x:Stmt}:wh G C d sc Γ n (.raise c) x:=by
 intro t st s env loc fl loc' st' A hA hT hsc F R e;cases e
mutual
noncomputable def ckS(H:Hyp G N C d)(gi:j4 Γ):(s:S)->(x:Stmt)->Ck (wh G C d sc Γ n s x)
 |.expr a,x=>zju x λy p=>wb (vd y) λh1=>wk (ckE H a sc Γ y) λh=>.yes (zba h1 h.e)
 |.assign i a,x=>zmw x λt z p=>gw t λy yp=>wb (Γ[i]?==some (some y)) λh1=>wb (ya sc y) λh2=>(match a with
   |.comp _ slot range it cond elt=>zrt (slot:=slot) (range:=range) z (ckE H it sc Γ) (zxn H cond) (ckE H elt) λe i y px ifs scope pos K=>wb d.q λhq=>.yes (zwr hq H gi h1 h2 K)
   |a=>wb (vd z) λh3=>wk (ckE H a sc Γ z) λh=>.yes (cu gi (eq_of_beq h1) h2 h3 h.e))
 |.setattr a i b,x=>zmw x λt z p=>zrr t λy nm ap=>wq (N.attr i) nm (wb (decide (i<13)) λh2=>wk (ckE H a sc Γ y) λg1=>wk (ckE H b sc Γ z) λg2=>.yes (zl0 H h2 g1 g2))
 |.setitem a b c,x=>zmw x λt z p=>zui t λy u ap=>wk (ckE H a sc Γ y) λg1=>wk (ckE H b sc Γ u) λg2=>wk (ckE H c sc Γ z) λg3=>.yes (zcy g1.e g2.e g3.e)
 |.unpack ts a,x=>zmw x λt z p=>zuj t λm k tp=>wk (zvp H ts m) λh1=>wb (ae z) λh2=>wk (ckE H a sc Γ z) λg=>wb d.q λhq=>.yes (zfl hq gi h1 h2 g.e)
 |.ite c b1 b2,x=>vIf x λy m1 m2 p=>wk (ckE H c sc Γ y) λg=>wk (ckB H gi b1 m1) λg1=>wk (ckB H gi b2 m2) λg2=>.yes (zqx g.t g1 g2)
 |.for_ ts range it body,x=>z42 x λy i m o p=>w0 o (wk (zxl H ts y) λh1=>wb (ba i) λh2=>wk (zxo range i (ckE H it sc Γ)) λh3=>wk (ckB H gi body m) λh=>wb d.q λhq=>.yes (z3q hq H gi h1 h2 h3 h))
 |.while_ c body,x=>zw4 x λy m o p=>w0 o (wk (ckE H c sc Γ y) λg=>wk (ckB H gi body m) λh=>.yes (zhy g.t h))
 |.ret a,x=>z3y x λy p=>(match a with
   |none=>wn y (.yes zl6)
   |some a=>ws y λz=>wk (ckE H a sc Γ z) λg=>.yes (zqy g.e))
 |.raise _,x=>.yes zhx
 |.tryB b hs,x=>z43 x λbd hl o e tp=>w0 o (w0 e (wk (ckB H gi b bd) λg=>wk (zvo H b bd) λgx=>wc hl λh0 hr=>wk (zxm H hs (h0::hr)) λgh=>.yes (zl7 H.O g gx gh)))
 |.exprX q,x=>zju x λy p=>wb (vd y) λh1=>wk (ckE H q sc Γ y) λh=>.yes (zhw (zba h1 h.e))
 |.assignX i q,x=>zmw x λt z p=>gw t λy yp=>wb (Γ[i]?==some (some y)) λh1=>wb (ya sc y) λh2=>wb (vd z) λh3=>wk (ckE H q sc Γ z) λh=>.yes (zcw (cu gi (eq_of_beq h1) h2 h3 h.e))
noncomputable def ckB(H:Hyp G N C d)(gi:j4 Γ):(l:Xd S)->(m:Xd Stmt)->Ck (fm G C d sc Γ n l m)
 | [],m=>w0 m (.yes zqu)
 |s::l,m=>wc m λx r=>wk (ckS H gi s x) λg1=>wk (ckB H gi l r) λg2=>.yes (zl3 g1 g2)
end
theorem zqp(hq:d.q=true)(H:Hyp G N C d){kk:Nat}{x:Xv}{np kpos cpos:Pos}{z:Xv}(h1:N.xs.contains (x,c)=true)(h2:ku sc x=true):fp G C d sc Γ n (.raise c) (.Raise (some (.Call (.Name x np) [.Constant (.str z) kk kpos] [] cpos)) none pos):=by
 have e:z=qa z.cps.toList:=by cases z;simp
 rw[e];exact zh2 hq H.O (H.xw x c h1).2 h2
noncomputable def zxp:(b:Xd S)->Ck (OneRet b)
 | [.ite c [.ret o] []]=>.yes (.mk c o)
 |_=>.no
mutual
noncomputable def ckX(H:Hyp G N C d)(gi:j4 Γ):(s:S)->(x:Stmt)->Ck (fp G C d sc Γ n s x)
 |.expr _,x=>.yes zmd
 |.assign _ _,x=>.yes zfn
 |.setitem _ _ _,x=>.yes zc1
 |.setattr _ _ _,x=>.yes zc0
 |.exprX q,x=>zju x λy p=>wb (vd y) λh1=>wk (ckQ H q y) λh=>.yes (zh1 h1 h)
 |.for_ ts range it body,x=>wk (zxp body) λh=>.yes (zme h)
 |.assignX i q,x=>zmw x λt z p=>gw t λy yp=>wb (vd z) λh1=>wk (ckQ H q z) λh=>.yes (zcz h1 h)
 |.ret _,x=>.yes zq4
 |.ite c b1 b2,x=>vIf x λy m1 m2 p=>wk (ckE H c sc Γ y) λg=>wk (zsh H gi b1 m1) λg1=>wk (zsh H gi b2 m2) λg2=>.yes (zq3 g.t g1 g2)
 |.raise c,x=>zw3 x λe o p=>ws e λy=>zrs y λf l k cp=>gw f λnm np=>w1 l λz=>zru z λv kk kp=>wn o (w0 k (match v with
   |.str z=>wb (N.xs.contains (nm,c)) λh1=>wb (ku sc nm) λh2=>wb d.q λhq=>.yes (zqp hq H h1 h2)
   |_=>.no))
 |_,x=>.no
noncomputable def zsh(H:Hyp G N C d)(gi:j4 Γ):(l:Xd S)->(m:Xd Stmt)->Ck (o5 G C d sc Γ n l m)
 | [],m=>.yes zma
 |s::l,m=>wc m λx r=>wk (ckS H gi s x) λg0=>wk (ckX H gi s x) λg1=>wk (zsh H gi l r) λg2=>.yes (zh0 g0 g1 g2)
end
end
end Internal
end
section
namespace Internal
open PySem PySem.W PyProof.Rows
set_option tactic.hygienic true in
theorem im:∀(names:Xd Xv)(vals:Xd Xb),vals.length=names.length->∀x∈names,((names.zip vals).lookup x).isSome=true
 | [],vals,h,x,hx=>by simp at hx
 |a::names,[],h,x,hx=>by simp at h
 |a::names,v::vals,h,x,hx=>by
  simp only[List.zip_cons_cons,Jj];split
  .rfl
  .rename_i e;refine im names vals (by simpa using h) x ?_;rcases Zu.1 hx with rfl|hx
   .simp at e
   .exact hx
theorem zed{α β:Type}{f g:α->Xc β}:∀{l:Xd α},(∀x∈l,f x=g x)->l.filterMap f=l.filterMap g
 | [],_=>rfl
 |x::l,h=>by
  have ih:l.filterMap f=l.filterMap g:=zed (l:=l) (λy hy=>h y (by simp[hy]));simp only[Jx,h x (by simp),ih]
theorem zr1:∀(names:Xd Xv)(vals:Xd Xb),vals.length=names.length->names.Nodup->names.filterMap (λn=>((names.zip vals).lookup n).map (n,·))=names.zip vals
 | [],vals,h,nd=>by simp
 |a::names,[],h,nd=>by simp at h
 |a::names,v::vals,h,nd=>by
  obtain⟨h1,h2⟩:=Qu.1 nd;have ih:=zr1 names vals (by simpa using h) h2;simp only[List.zip_cons_cons,Jx,Jj,beq_self_eq_true,Option.map_some];congr 1;refine Eq.trans (zed λx hx=>?_) ih;have:(x==a)=false:=by
   simp only[Xp];rintro rfl;exact h1 hx
  simp only[this]
noncomputable def ch(fd:FuncData)(names:Xd Xv):Bool :=
 fd.params.posonlyargs.isEmpty&&fd.params.args.map (·.arg)==names&&fd.params.kwonlyargs.isEmpty&&fd.params.vararg.isNone&&fd.params.kwarg.isNone&&(match fd.defaults with|.none=>true|_=>false)
variable{fd:FuncData}
theorem zsa(vals:Xd Xb)(h1:fd.params.posonlyargs=[])(h3:fd.params.kwonlyargs=[])(h4:fd.params.vararg=none)(h5:fd.params.kwarg=none)(h6:fd.defaults=.none)(hl:vals.length=(fd.params.args.map (·.arg)).length)(e1:((fd.params.args.map (·.arg)).filter λn=>(((fd.params.args.map (·.arg)).zip vals).lookup n).isNone)=[])(e2:(fd.params.args.map (·.arg)).filterMap (λn=>(((fd.params.args.map (·.arg)).zip vals).lookup n).map (n,·))=(fd.params.args.map (·.arg)).zip vals):bindArgs fd ⟨vals,[]⟩=pure ((fd.params.args.map (·.arg)).zip vals):=by
 obtain⟨nm,q,⟨po,pa,va,ko,kd,kw,df⟩,body,sc,g,cl,ds,kds,doc,pm,an,cd,ct,bb⟩:=fd;subst h1;subst h3;subst h4;subst h5;subst h6;have hc1:¬(decide (vals.length > (pa.map (·.arg)).length)&&true)=true:=by
  have:¬(vals.length > (pa.map (·.arg)).length):=by
   have hl:vals.length=(pa.map (·.arg)).length:=hl;omega
  rw[Zc this];exact Bool.noConfusion
 have hc2:¬(!((pa.map (·.arg)).filter λn=>(((pa.map (·.arg)).zip vals).lookup n).isNone).isEmpty)=true:=by
  have e1:((pa.map (·.arg)).filter λn=>(((pa.map (·.arg)).zip vals).lookup n).isNone)=[]:=e1;rw[e1];exact Bool.noConfusion
 have ht:List.take (pa.map (·.arg)).length (pa.map (·.arg))=pa.map (·.arg):=List.take_length;have hd:List.drop ((Option.getD (none:Xc (Array Xb)) #[]).toList.length-(pa.map (·.arg)).length) (Option.getD (none:Xc (Array Xb)) #[]).toList=[]:=List.drop_nil;refine Eq.trans (Zh hc1) (Eq.trans (Zh ?_) ?_)
 .intro h;have h:(!((List.take ((pa.map (·.arg)).length-(List.drop ((Option.getD (none:Xc (Array Xb)) #[]).toList.length-(pa.map (·.arg)).length) (Option.getD (none:Xc (Array Xb)) #[]).toList).length) (pa.map (·.arg))).filter λn=>(((pa.map (·.arg)).zip vals).lookup n).isNone).isEmpty)=true:=h;rw[hd]at h;have h:(!((List.take (pa.map (·.arg)).length (pa.map (·.arg))).filter λn=>(((pa.map (·.arg)).zip vals).lookup n).isNone).isEmpty)=true:=h;rw[ht]at h;exact hc2 h
 .have e2:(pa.map (·.arg)).filterMap (λn=>(((pa.map (·.arg)).zip vals).lookup n).map (n,·))=(pa.map (·.arg)).zip vals:=e2;clear hl e1 hc1 hc2;simp only[List.map_nil,Jv,hd,List.zip_nil_right,Z0];exact Qd (λz=>(pure z:Sem (Xd (Xv×Xb)))) e2
theorem zgc{names:Xd Xv}(h:ch fd names=true)(nd:names.Nodup)(vals:Xd Xb)(hl:vals.length=names.length):bindArgs fd ⟨vals,[]⟩=pure (names.zip vals):=by
 refine zn (o9 h) λh h6=>?_;refine zn (o9 h) λh h5=>?_;refine zn (o9 h) λh h4=>?_;refine zn (o9 h) λh h3=>?_;refine zn (o9 h) λh1 h2=>?_;have h2:fd.params.args.map (·.arg)=names:=eq_of_beq h2;subst h2;refine zsa vals (List.isEmpty_iff.1 h1) (List.isEmpty_iff.1 h3) (J2.1 h4) (J2.1 h5) ?_ hl ?_ (zr1 _ vals hl nd)
 .revert h6;cases fd.defaults<;>first|exact λξ=>rfl|exact λh=>Bool.noConfusion h
 .rw[List.filter_eq_nil_iff];intro x hx e;have:=im _ vals hl x hx;rw[J2.1 e]at this;exact qi this
structure Stat(G:Gd)(N:Names):Prop where
 O:G.Ok N
 hcl:∀c Ca,G.ca c=some Ca->ClsOk G Ca
 hfn:∀f a,G.fa f=some a->FnOk G N f a
 hme:∀c k f Ca,G.P.meths c k=some f->G.ca c=some Ca->∃a,G.fa f=some a/\MethOk G Ca (N.meth k) a
 hne:∀c k f,G.P.inits c=some (k,f)->∃Ca fi,G.ca c=some Ca/\G.fa f=some fi/\NewOk G N c Ca fi
 xw:∀y c,N.xs.contains (y,c)=true->c≠0/\zr3 G y c
 xk:∀c k,(G.P.excBase c).contains c=true->(G.P.excBase c).contains k=true->kitOne G.K (.ref c) (zdc k)=some true/\(k≠0->exmOne G.K (.ref c) (.ref k)=some true)
 xz:∀c k,(G.P.excBase c).contains c=true->(∃y,N.xs.contains (y,k)=true)->exmOne G.K (.ref c) (.ref k)=some ((G.P.excBase c).contains k)
 xm:∀k c f,N.xm k=true->G.P.meths c k=some f->N.xf f=true
 xn:∀c k f,N.xm (1000+c)=true->G.P.inits c=some (k,f)->N.xf f=true
 xi:∀c k,(G.P.excBase c).contains c=true->(k=0\/∃y,N.xs.contains (y,k)=true)->zum G.K c=true/\kitOne G.K (.ref c) (zdc k)=some ((G.P.excBase c).contains k)
noncomputable def zkd(K:Frag)(N:Names)(fn:Fn)(a:Addr):Bool :=
 match K.lookup a with
 |some o=>(match o.data with
  |.func fd=>codeIn K fd.code fd.qualname&&fd.closure.isEmpty&&fd.globals==mainGlobals&&fd.builtins==builtinsNs&&fd.scope.kind==.function&&!fd.scope.isCoroutine&&!fd.scope.isGenerator &&
   ch fd (fn.names.take fn.np)&&decide (fn.np<=fn.names.length)&&(fn.names.take fn.np).all (λx=>ya fd.scope.names x&&!(x==Str.empty))&&decide (fn.names.take fn.np).Nodup&&sf (iq fn)&&(match fd.body with|.stmts _=>true|_=>false)
  |_=>false)
 |none=>false
noncomputable def sb(K:Frag)(a:Addr):Xc (Sc×Xd Stmt):=(K.lookup a).bind λo=>match o.data with
 |.func fd=>(match fd.body with
  |.stmts body=>some (fd.scope.names,body)
  |_=>none)
 |_=>none
noncomputable def zsf{G:Gd}{N:Names}{C:Calls}{d:Dp}(n:Nat)(H:Hyp G N C d)(fn:Fn)(p:Sc×Xd Stmt):Bool:=(wb (sf (iq fn)) λhg=>ckB (sc:=p.1) (n:=n) H (f7 (iq fn) hg) fn.body p.2).isYes
noncomputable def bu(K:Frag){G:Gd}{N:Names}{C:Calls}{d:Dp}(n:Nat)(H:Hyp G N C d)(fn:Fn)(a:Addr):Bool:=(sb K a).any (zsf n H fn)
noncomputable def zry{G:Gd}{N:Names}{C:Calls}{d:Dp}(n:Nat)(H:Hyp G N C d)(fn:Fn)(p:Sc×Xd Stmt):Bool:=(wb (sf (iq fn)) λhg=>zsh (sc:=p.1) (n:=n) H (f7 (iq fn) hg) fn.body p.2).isYes
noncomputable def zbm(K:Frag){G:Gd}{N:Names}{C:Calls}{d:Dp}(n:Nat)(H:Hyp G N C d)(fn:Fn)(a:Addr):Bool:=(sb K a).any (zry n H fn)
variable{G:Gd}{N:Names}{fn:Fn}{a:Addr}
set_option tactic.hygienic true in
theorem zi5(h:zkd G.K N fn a=true):∃fd body,FnHd G fn a fd body/\sb G.K a=some (fd.scope.names,body):=by
 unfold zkd at h;split at h
 .rename_i o ho;split at h
  .rename_i fd hd;simp only[Qq,List.isEmpty_iff,Xl,Jn,Xj,Zv,Xp]at h;obtain⟨⟨⟨⟨⟨⟨⟨⟨⟨⟨⟨⟨h1,h2⟩,h3⟩,h4⟩,h5⟩,h6⟩,h7⟩,h8⟩,h9⟩,h10⟩,h11⟩,h12⟩,h13⟩:=h;cases hy:fd.body with
   |stmts body =>
    have e:sb G.K a=some (fd.scope.names,body):=by unfold sb;rw[ho];show(match o.data with|.func fd=>_|_=>none)=_;rw[hd];show(match fd.body with|.stmts body=>_|_=>none)=_;rw[hy]
    exact⟨fd,body,⟨o,ho,hd,h1,hy,h2,h3,h4,h5,h6,h7,λvals hv=>zgc h8 h11 vals (by rw[hv,Jk];lia),h9,h10,h11⟩,e⟩
   |_=>rw[hy]at h13;exact qi h13
  .exact qi h
 .exact qi h
variable{C:Calls}{n:Nat}
theorem Stat.hyp(S:Stat G N)(CA:CallsA G N.xf N.qf C n):Hyp G N C ⟨n,true⟩:=⟨S.O,λξ=>CA.ok,S.hcl,S.hfn,S.hme,S.hne,S.xw,S.xk,S.xz,S.xm,S.xn,S.xi,λξ=>CA.x,CA.q⟩
theorem Stat.hypQ(S:Stat G N)(CQ:oy G C n N.qf):Hyp G N C ⟨n,false⟩:=⟨S.O,nofun,S.hcl,S.hfn,S.hme,S.hne,S.xw,S.xk,S.xz,S.xm,S.xn,S.xi,nofun,CQ⟩
theorem zef{q:Bool}{PX:Calls->Nat->Prop}(S:∀C n,PX C n->Hyp G N C ⟨n,q⟩)(h:zkd G.K N fn a=true)(hb:∀C n (H:Hyp G N C ⟨n,q⟩),bu G.K n H fn a=true):FnRec G q PX fn a:=by
 refine zf (zi5 h) λfd body hd e=>?_;refine⟨fd,body,hd,λC n CA=>?_⟩;have g:=hb C n (S C n CA);unfold bu at g;rw[e]at g;exact Ck.get g
theorem zvz(S:Stat G N)(h:zkd G.K N fn a=true)(hb:∀C n (H:Hyp G N C ⟨n,true⟩),zbm G.K n H fn a=true):FnX G N.xf N.qf fn a:=by
 refine zf (zi5 h) λfd body hd e=>?_;refine⟨fd,body,hd,λC n CA=>?_⟩;have g:=hb C n (S.hyp CA);unfold zbm at g;rw[e]at g;exact Ck.get g
end Internal
end
section
namespace Internal
theorem td(y:Int)(h0:0<=y)(h:y<18446744073709551616):intBits y<=64:=by
 unfold intBits;split
 .lia
 .have h1:y.natAbs≠0:=by lia
  have:y.natAbs.log2<64:=(Nat.log2_lt h1).2 (by lia);lia
theorem zvh(x y:Int)(s:MS)(h0:0<=y)(h:y<18446744073709551616):uh .mul (.int x) (.int y) s=.ok (.int (x*y)) s :=
 Zg (by rw[zaw,Zb (td y h0 h),Bool.or_true,Bool.true_or])
theorem zvg(x y:Int)(s:MS)(h0:0<=x)(h:x<18446744073709551616):uh .mul (.int x) (.int y) s=.ok (.int (x*y)) s :=
 Zg (by rw[zaw,Zb (td x h0 h),Bool.true_or,Bool.true_or])
theorem zne(x y:Xd Nat)(s:MS)(h:x.length+y.length<=16777216):uh .add (.str x) (.str y) s=.ok (.str (x++y)) s:=Zg h
theorem zxi(x y:Int)(s:MS):cmpOp .ne (.int x) (.int y) s=.ok (.bool (!decide (x=y))) s:=rfl
variable{n:Nat}
theorem zom{i:Int}(h0:0<=i)(h:i<n):idx i n=some i.toNat:=(Zg h0).trans (Zg h)
theorem zyd(x:Xd Nat)(i:Int)(s:MS)(h0:0<=i)(h:i<x.length)(g:x.length<=16777216):getItem (.str x) (.int i) s=.ok (.str [x[i.toNat]'(by lia)]) s:=by
 refine(Zg g).trans ?_;rw[zom h0 h];show okV s ((x[i.toNat]?).map _)=_;rw[Zl (by lia)];rfl
variable{a b c:Nat}
theorem zqb(g:a+(b+1)<=c):a<c:=Zi (J7 (Q5 b)) g
variable{α:Type}
theorem zqc{a:Xd α}{x:α}(g:a.length+(b+1)<=c):(a++[x]).length+b<=c:=by rw[Zf];exact Zp (Qf (Qk _ _)) g
variable{s₀ s:MS}{range:Bool}{src:V}{slot:Nat}{elt:Loc->MS->Res V}
theorem znw{x v:V}{l:Loc}{r acc:Xd V}(hs:stays s₀ s range src=true)(hx:elt (l.set slot (some x)) s=.ok v s)(g:acc.length<zi):compLoop s₀ range src slot none elt l acc (x::r) s=compLoop s₀ range src slot none elt l (acc++[v]) r s:=by
 refine(Zg hs).trans ?_;show Res.bind (elt (l.set slot (some x)) s) (λv s=>if acc.length<zi then compLoop s₀ range src slot none elt l (acc++[v]) r s else .stuck)=_;rw[hx];exact Zg g
theorem bw(s₀ s:MS)(range:Bool)(src:V)(slot:Nat)(elt:Loc->MS->Res V)(l:Loc)(f:V->V)(hs:stays s₀ s range src=true):
  ∀(xs acc:Xd V) ,(∀x∈xs,elt (l.set slot (some x)) s=.ok (f x) s)->acc.length+xs.length<=zi->
   compLoop s₀ range src slot none elt l acc xs s=.ok (acc++xs.map f) s
 | [],acc,h,g=>by rw[List.map_nil,Z0];exact Zg hs
 |x::r,acc,h,g=>by
  refine(znw hs (h x (Zm ..)) (zqb g)).trans ?_;rw[bw s₀ s range src slot elt l f hs r _ (λy hy=>h y (Zk _ hy)) (zqc g),Z3];rfl
theorem yy(s₀ s:MS)(range:Bool)(src:V)(slot:Nat)(c elt:Loc->MS->Res V)(l:Loc)(p:V->Bool)(f:V->V)(hs:stays s₀ s range src=true):
  ∀(xs acc:Xd V),(∀x∈xs,c (l.set slot (some x)) s=.ok (.bool (p x)) s)->(∀x∈xs,p x=true->elt (l.set slot (some x)) s=.ok (f x) s)->acc.length+xs.length<=zi->
   compLoop s₀ range src slot (some c) elt l acc xs s=.ok (acc++(xs.filter p).map f) s
 | [],acc,_,_,_=>by rw[List.filter_nil,List.map_nil,Z0];exact Zg hs
 |x::r,acc,h1,h2,g=>by
  refine(Zg hs).trans ?_;show Res.bind (Res.bind (c (l.set slot (some x)) s) yw) _=_;rw[h1 x (Zm ..)];show(if p x=true then Res.bind (elt (l.set slot (some x)) s) (λv s=>if acc.length<zi then compLoop s₀ range src slot (some c) elt l (acc++[v]) r s else .stuck) else compLoop s₀ range src slot (some c) elt l acc r s)=_;rw[List.filter_cons];cases hp:p x with
  |true =>
   rw[Zg rfl,Zg rfl,h2 x (Zm ..) hp];show(if acc.length<zi then _ else _)=_;rw[Zg (zqb g),yy s₀ s range src slot c elt l p f hs r _ (λy hy=>h1 y (Zk _ hy)) (λy hy=>h2 y (Zk _ hy)) (zqc g),Z3];rfl
  |false =>
   rw[Zh Z8,Zh Z8];exact yy s₀ s range src slot c elt l p f hs r acc (λy hy=>h1 y (Zk _ hy)) (λy hy=>h2 y (Zk _ hy)) (Q8 g)
theorem jt(s:MS)(n:Int)(h0:0<=n)(h:n<=16777216):z8 s true (.int n)=some ((Xr n.toNat).map λ(i:Nat)=>.int i):=Zg ⟨Qo (by decide) h0,h⟩
theorem zft(s₀ s:MS)(v:V):stays s₀ s true v=true:=rfl
noncomputable def OkR{α:Type}(r:Res α)(Q:α->MS->Prop):Prop:=match r with
 |.ok a s=>Q a s
 |_=>False
variable{β:Type}
theorem om(r:Res α)(f:α->MS->Res β)(Q:β->MS->Prop):OkR (r.bnd f) Q=OkR r (λa s=>OkR (f a s) Q):=by
 cases r<;>rfl
theorem ju(r:Res α)(f:α->MS->Res β)(Q:β->MS->Prop):OkR (r.bind f) Q=OkR r (λa s=>OkR (f a s) Q):=by
 cases r<;>rfl
theorem jq{r:Res α}{Q R:α->MS->Prop}(h:OkR r Q)(g:∀a s,Q a s->R a s):OkR r R:=by
 cases r with
 |ok a s=>exact g a s h
 |_=>exact h.elim
theorem z7{r:Res α}{Q:α->MS->Prop}(h:OkR r Q):∃a s,r=.ok a s/\Q a s:=by
 cases r with
 |ok a s=>exact⟨a,s,rfl,h⟩
 |_=>exact h.elim
theorem bc{r:Res α}{a:α}{Q:α->MS->Prop}(h:r=.ok a s)(k:Q a s):OkR r Q:=by rw[h];exact k
theorem qc{r:Res α}{a:α}(h:OkR r (λb t=>b=a/\t=s)):r=.ok a s:=by
 cases r with
 |ok b t=>obtain⟨rfl,rfl⟩:=h;rfl
 |_=>exact h.elim
noncomputable def flV:Fl->V
 |.ret v=>v
 |.next=>.none
variable{P:Prog}{f:Nat}{vs:Xd V}{fn:Fn}
theorem zqf(hf:P.fns f=some fn)(hl:vs.length=fn.np):run P (n+1) f vs s=(exs P (run P n) n fn.body (vs.map some++Jp (fn.names.length-fn.np) none) s).bind λp s=>.ok (flV p.1) s:=by
 rw[run,hf];exact Zg hl
theorem zm{Q:V->MS->Prop}(hf:P.fns f=some fn)(hl:vs.length=fn.np)(h:OkR (exs P (run P n) n fn.body (vs.map some++Jp (fn.names.length-fn.np) none) s) (λp s=>Q (flV p.1) s)):OkR (run P (n+1) f vs s) Q:=by
 rw[zqf hf hl,ju];exact h
noncomputable def i4(P:Prog)(C:Calls)(n:Nat)(r:Xd S)(Q:Fl×Loc->MS->Prop)(p:Fl×Loc)(s:MS):Prop :=
 match p.1 with
 |.next=>OkR (exs P C n r p.2 s) Q
 |.ret v=>Q (.ret v,p.2) s
theorem j9(P:Prog)(C:Calls)(n:Nat)(r:Xd S)(Q:Fl×Loc->MS->Prop)(l:Loc)(s:MS):i4 P C n r Q (.next,l) s=OkR (exs P C n r l s) Q:=rfl
theorem gf(P:Prog)(C:Calls)(n:Nat)(st:S)(r:Xd S)(l:Loc)(s:MS)(Q:Fl×Loc->MS->Prop):
  OkR (exs P C n (st::r) l s) Q=OkR (ex P C n st l s) (i4 P C n r Q):=by
 rw[jb,ju];refine Qd (OkR (ex P C n st l s)) (funext λp=>funext λs=>?_);obtain⟨f,l⟩:=p;cases f<;>rfl
theorem lz{s₀:MS}{range:Bool}{src:V}{tgt:V->Loc->MS->Res Loc}{body:Loc->MS->Res (Fl×Loc)}{Q:Fl×Loc->MS->Prop}(I:Xd V->Loc->MS->Prop)(hc:∀x r l s,I (x::r) l s->stays s₀ s range src=true/\OkR (tgt x l s) λl s=>OkR (body l s) λp s=>match p.1 with
   |.next=>I r p.2 s
   |.ret v=>Q (.ret v,p.2) s)(hn:∀l s,I [] l s->stays s₀ s range src=true/\Q (.next,l) s):
  ∀(xs:Xd V)(l:Loc)(s:MS),I xs l s->OkR (jg s₀ range src tgt body xs l s) Q
 | [],l,s,h=>by
  obtain⟨h1,h2⟩:=hn l s h;rw[yq,Zg h1];exact h2
 |x::r,l,s,h=>by
  obtain⟨h1,h2⟩:=hc x r l s h;rw[vb,Zg h1,om];refine jq h2 λl s h=>?_;rw[ju];refine jq h λp s h=>?_;obtain⟨f,l⟩:=p;cases f with
  |next=>exact lz I hc hn r l s h
  |ret v=>exact h
theorem xe{α β:Type}{s₀:MS}{range:Bool}{src:V}{tgt:V->Loc->MS->Res Loc}{body:Loc->MS->Res (Fl×Loc)}{Q:Fl×Loc->MS->Prop}(f:α->V)(L:β->Loc)(I:Xd α->β->MS->Prop)(hc:∀x r y s,I (x::r) y s->stays s₀ s range src=true/\OkR (tgt (f x) (L y) s) λl s=>OkR (body l s) λp s=>match p.1 with
   |.next=>∃y,p.2=L y/\I r y s
   |.ret v=>Q (.ret v,p.2) s)(hn:∀y s,I [] y s->stays s₀ s range src=true/\Q (.next,L y) s):
  ∀(xs:Xd α)(y:β)(s:MS),I xs y s->OkR (jg s₀ range src tgt body (xs.map f) (L y) s) Q
 | [],y,s,h=>by
  obtain⟨h1,h2⟩:=hn y s h;rw[List.map_nil,yq,Zg h1];exact h2
 |x::r,y,s,h=>by
  obtain⟨h1,h2⟩:=hc x r y s h;rw[Zz,vb,Zg h1,om];refine jq h2 λl s h=>?_;rw[ju];refine jq h λp s h=>?_;obtain⟨g,l⟩:=p;cases g with
  |next =>
   obtain⟨y,rfl,h⟩:=h;exact xe f L I hc hn r y s h
  |ret v=>exact h
theorem zez{tgt:V->Loc->MS->Res Loc}{body:Loc->MS->Res (Fl×Loc)}{Q:Fl×Loc->MS->Prop}(f:α->V)(L:β->Loc)(J:MS->Prop){xs:Xd α}{y:β}(h:J s)(hs:∀t,J t->stays s t range src=true)(hc:∀x∈xs,∀y t,J t->OkR (tgt (f x) (L y) t) λl t=>OkR (body l t) λp t=>p.1=.next/\(∃y,p.2=L y)/\J t)(k:∀y t,J t->Q (.next,L y) t):OkR (jg s range src tgt body (xs.map f) (L y) s) Q:=by
 refine xe f L (λr ξ t=>(∀x∈r,x∈xs)/\J t) (λx r y t h=>⟨hs t h.2,jq (hc x (h.1 x (Zm ..)) y t h.2) λl t h2=>jq h2 λp t h3=>?_⟩) (λy t h=>⟨hs t h.2,k y t h.2⟩) xs y s ⟨λξ h=>h,h⟩;rw[h3.1];obtain⟨y,e⟩:=h3.2.1;exact⟨y,e,λx hx=>h.1 x (Zk _ hx),h3.2.2⟩
theorem dm{test:Loc->MS->Res V}{body:Loc->MS->Res (Fl×Loc)}{Q:Fl×Loc->MS->Prop}(I:Nat->Loc->MS->Prop)(hc:∀k l s,I k l s->OkR (test l s) λv s=>∃b,v=.bool b/\(if b then 0<k/\OkR (body l s) λp s=>match p.1 with
    |.next=>I (k-1) p.2 s
    |.ret v=>Q (.ret v,p.2) s
   else Q (.next,l) s)):
  ∀(n k:Nat)(l:Loc)(s:MS),k<n->I k l s->OkR (vw test body n l s) Q
 |0,k,l,s,hk,h=>absurd hk (J0 k)
 |n+1,k,l,s,hk,h=>by
  refine(om (test l s) _ Q).mpr (jq (hc k l s h) λv s h=>?_);obtain⟨b,rfl,h⟩:=h;cases b with
  |false=>exact h
  |true =>
   obtain⟨h0,h⟩:=h;refine(ju (body l s) _ Q).mpr (jq h λp s h=>?_);obtain⟨f,l⟩:=p;cases f with
   |next=>exact dm I hc n (k-1) l s (Zi (Nat.sub_lt h0 Nat.one_pos) (Nat.le_of_lt_succ hk)) h
   |ret v=>exact h
theorem zlf{l:Loc}{xs:Xd V}{Q:Xd V->MS->Prop}(f:V->V)(hs:stays s₀ s range src=true)(hl:xs.length<=zi)(he:∀x∈xs,OkR (elt (l.set slot (some x)) s) λv t=>v=f x/\t=s)(hq:Q (xs.map f) s):OkR (compLoop s₀ range src slot none elt l [] xs s) Q:=by
 have h1:=bw s₀ s range src slot elt l f hs xs [] (λx hx=>qc (he x hx)) ((Jo _).symm▸hl);rw[h1];exact hq
variable{k:V}
theorem zaa{a v:V}{r:Xd (V×V)}(h:sr a k=true):js k ((a,v)::r)=some v:=Zg h
theorem tq{a v:V}{r:Xd (V×V)}(h:sr a k=false):js k ((a,v)::r)=js k r:=Zh (by rw[h];exact Z8)
variable{w:V}
theorem zd1{a v:V}{r:Xd (V×V)}(h:sr a k=true):fx k v ((a,w)::r)=(a,v)::r:=Zg h
theorem zac{a v:V}{r:Xd (V×V)}(h:sr a k=false):fx k v ((a,w)::r)=(a,w)::fx k v r:=Zh (by rw[h];exact Z8)
variable{r:Lbl}
theorem ziv{d:Xd (V×V)}(h:s.heap r=some (.dict d)):dictAt (.ref r) s=some (r,d):=by
 show(match s.heap r with|some (.dict l)=>some (r,l)|_=>none)=_;rw[h]
variable{l:Xd V}
theorem zb9(h:s.heap r=some (.list l)):yb (.ref r) s=some (r,l):=by
 show(match s.heap r with|some (.list l)=>some (r,l)|_=>none)=_;rw[h]
theorem z5(s:MS)(r:Lbl)(d:Xd (V×V))(k:Xd Nat)(v:V)(h:s.heap r=some (.dict d))(hl:d.length<16777216):
  setItem (.ref r) (.str k) v s=.ok () (s.put r (.dict (fx (.str k) v d))):=by
 rw[setItem,ziv h];exact Zg ⟨rfl,hl⟩
theorem je(s:MS)(r:Lbl)(l:Xd V)(v:V)(h:s.heap r=some (.list l))(hl:l.length<16777216):
  mu .append (.ref r) [v] s=.ok .none (s.put r (.list (l++[v]))):=by
 show(match yb (.ref r) s with|some p=>if p.2.length<zi then Res.ok V.none (s.put p.1 (.list (p.2++[v]))) else .stuck|none=>.stuck)=_;rw[zb9 h];exact Zg hl
theorem q8(s:MS)(r:Lbl)(d:Xd (V×V))(k:Xd Nat)(v:V)(h:s.heap r=some (.dict d))(hk:js (.str k) d=some v):
  getItem (.ref r) (.str k) s=.ok v s:=by
 show(match s.heap r with|some (.dict l)=>if (V.str k).isKey then okV s (js (.str k) l) else .stuck|_=>.stuck)=_;rw[h];show okV s (js (.str k) d)=_;rw[hk];rfl
theorem zil(x y:Xd V)(s:MS)(h:x.length+y.length<=16777216):uh .add (.lst x) (.lst y) s=.ok (.lst (x++y)) s:=Zg ⟨rfl,h⟩
noncomputable def st0:MS:=⟨λξ=>none,λξ=>0,0⟩
section
variable {P:Prog}{C:Calls}{n i:Nat}{e a b:E}{r:Xd S}{l:Loc}{s s':MS}{v w:V}{Q:Fl×Loc->MS->Prop}
theorem zx(k:Q (.next,l) s):OkR (exs P C n [] l s) Q:=k
theorem ze(k:OkR (exs P C n r l s) Q):OkR (exs P C n [] l s) (i4 P C n r Q):=k
theorem zk(hv:ev P C e l s=.ok v s')(hi:decide (i<l.length)=true)(k:OkR (exs P C n r (l.set i (some v)) s') Q):OkR (exs P C n (.assign i e::r) l s) Q:=by
 have hi:=Za hi;rw[jb,ju,uo,om,hv];show OkR (if i<l.length then Res.ok (Fl.next,l.set i (some v)) s' else .stuck) _;rw[Zg hi];exact k
variable{R:V->MS->Prop}
theorem zh4(hv:OkR (ev P C e l s) R)(hi:decide (i<l.length)=true)(k:∀v s',R v s'->OkR (exs P C n r (l.set i (some v)) s') Q):OkR (exs P C n (.assign i e::r) l s) Q:=by
 refine zf (z7 hv) λv s' h1 h2=>?_;exact zk h1 hi (k v s' h2)
theorem zv(hv:ev P C e l s=.ok v s')(k:Q (.ret v,l) s'):OkR (exs P C n (.ret (some e)::r) l s) Q:=by
 rw[jb,ju,tx];show OkR ((ev P C e l s).bnd _) _;rw[hv];exact k
theorem zt5(hv:OkR (ev P C e l s) R)(k:∀v s',R v s'->Q (.ret v,l) s'):OkR (exs P C n (.ret (some e)::r) l s) Q:=by
 refine zf (z7 hv) λv s' h1 h2=>?_;exact zv h1 (k v s' h2)
theorem wd(k:Q (.ret .none,l) s):OkR (exs P C n (.ret none::r) l s) Q:=k
theorem zl{c:E}{b1 b2:Xd S}{t:Bool}(hc:ev P C c l s=.ok (.bool t) s')(k:OkR (exs P C n (if t then b1 else b2) l s') (i4 P C n r Q)):OkR (exs P C n (.ite c b1 b2::r) l s) Q:=by
 rw[gf,bz,hc];cases t<;>exact k
section
variable {X:Nat->MS->Prop}
end
set_option genCtorIdx true in
inductive IsQ:E->Prop
 |call (f:Nat) (es:Xd E):IsQ (.call f es)
 |meth (a:E) (m:Nat) (es:Xd E):IsQ (.meth a m es)
theorem zoa(hq:IsQ e)(h:ev P C e l s=.ok v s'):evQ P C e l s=.ok v s':=by
 cases hq with
 |call f es =>
  rw[m7]at h;rw[tv];cases hE:evL P C es l s with
  |ok vs s1=>rw[hE]at h;exact h
  |_=>rw[hE]at h;cases h
 |meth a m es =>
  rw[m9]at h;rw[m6];cases hA:ev P C a l s with
  |ok x s1 =>
   rw[hA]at h;have h:(match xx P x m s1 with|some f=>(evL P C es l s1).bind λvs s=>C f (x::vs) s|none=>.stuck)=.ok v s':=h;show(match xx P x m s1 with|some f=>(evL P C es l s1).bnd λvs s=>C f (x::vs) s|none=>.stuck)=.ok v s';cases hm:xx P x m s1 with
   |none=>rw[hm]at h;exact zb h
   |some f =>
    rw[hm]at h;have h:(evL P C es l s1).bind (λvs s=>C f (x::vs) s)=.ok v s':=h;show(evL P C es l s1).bnd (λvs s=>C f (x::vs) s)=.ok v s';cases hE:evL P C es l s1 with
    |ok vs s2=>rw[hE]at h;exact h
    |_=>rw[hE]at h;cases h
  |_=>rw[hA]at h;cases h
theorem ji(hv:ev P C e l s=.ok v s')(k:OkR (exs P C n r l s') Q)(hq:IsQ e:=by constructor):OkR (exs P C n (.exprX e::r) l s) Q:=by
 rw[jb,ju,uq,zoa hq hv];exact k
theorem zh3(hv:ev P C e l s=.ok v s')(hi:decide (i<l.length)=true)(k:OkR (exs P C n r (l.set i (some v)) s') Q)(hq:IsQ e:=by constructor):OkR (exs P C n (.assignX i e::r) l s) Q:=by
 rw[jb,ju,u4,zoa hq hv];show OkR (if i<l.length then _ else _) _;rw[Zg (Za hi)];exact k
theorem qj(hv:ev P C e l s=.ok v s')(k:OkR (exs P C n r l s') Q):OkR (exs P C n (.expr e::r) l s) Q:=by
 rw[jb,ju,n3,hv];exact k
theorem jr(hv:OkR (ev P C e l s) R)(k:∀v s',R v s'->OkR (exs P C n r l s') Q):OkR (exs P C n (.expr e::r) l s) Q:=by
 refine zf (z7 hv) λv s' h1 h2=>?_;exact qj h1 (k v s' h2)
variable{x y:V}{s1 s2 s3:MS}
theorem qg(h1:ev P C e l s=.ok v s1)(h2:ev P C a l s1=.ok x s2)(h3:ev P C b l s2=.ok y s3)(h4:setItem x y v s3=.ok () s')(k:OkR (exs P C n r l s') Q):OkR (exs P C n (.setitem a b e::r) l s) Q:=by
 rw[jb,ju,mh,h1];show OkR (Res.bnd (ev P C a l s1) _) _;rw[h2];show OkR (Res.bnd (ev P C b l s2) _) _;rw[h3];show OkR (Res.bnd (setItem x y v s3) _) _;rw[h4];exact k
theorem qd(h1:ev P C e l s=.ok v s1)(h2:ev P C a l s1=.ok x s2)(h3:setAttr x i v s2=.ok () s')(k:OkR (exs P C n r l s') Q):OkR (exs P C n (.setattr a i e::r) l s) Q:=by
 rw[jb,ju,me,h1];show OkR (Res.bnd (ev P C a l s1) _) _;rw[h2];show OkR (Res.bnd (setAttr x i v s2) _) _;rw[h3];exact k
theorem yg{ts:Xd T}{l':Loc}(h1:ev P C e l s=.ok v s1)(h2:fj P C ts v l s1=.ok l' s')(k:OkR (exs P C n r l' s') Q):OkR (exs P C n (.unpack ts e::r) l s) Q:=by
 rw[jb,ju,zae,h1];show OkR (Res.bnd (fj P C ts v l s1) _) _;rw[h2];exact k
variable{range:Bool}{xs:Xd V}
theorem ka{ts:T ⊕ Xd T}{body:Xd S}(h1:ev P C e l s=.ok v s')(h2:z8 s' range v=some xs)(h3:d7 ts range v s'=true)(k:OkR (jg s' range v (uu P C ts) (exs P C n body) xs l s') (i4 P C n r Q)):OkR (exs P C n (.for_ ts range e body::r) l s) Q:=by
 rw[gf,zgr,h1];show OkR (match z8 s' range v with|some xs=>_|none=>_) _;rw[h2];show OkR (if d7 ts range v s'=true then _ else _) _;rw[Zg h3];exact k
variable{f:Nat}{es:Xd E}{vs:Xd V}
theorem qb(h1:evL P C es l s=.ok vs s1)(h2:C f vs s1=.ok v s'):ev P C (.call f es) l s=.ok v s':=by
 rw[m7,h1];exact h2
theorem w4(h1:evL P C es l s=.ok vs s1)(h2:OkR (C f vs s1) R):OkR (ev P C (.call f es) l s) R:=by
 rw[m7,h1];exact h2
variable{slot:Nat}{cond:Xc E}{src:V}
theorem zbr(h1:ev P C a l s=.ok src s1)(h2:z8 s1 range src=some xs)(h3:OkR (compLoop s1 range src slot (evC P C cond) (ev P C e) l [] xs s1) (λvs t=>R (.lst vs) t)):
  OkR (ev P C (.comp none slot range a cond e) l s) R:=by
 rw[m8,h1];show OkR (match z8 s1 range src with|some xs=>_|none=>_) _;rw[h2];show OkR (Res.bind _ _) _;rw[ju];exact h3
theorem kb{o:Bop}(h1:ev P C a l s=.ok x s1)(h2:ev P C b l s1=.ok y s2)(h3:uh o x y s2=.ok v s'):ev P C (.bin o a b) l s=.ok v s':=by
 rw[zoc,h1];show Res.bind (ev P C b l s1) _=_;rw[h2];exact h3
theorem qk(h1:ev P C a l s=.ok x s1)(h2:ev P C b l s1=.ok y s2)(h3:getItem x y s2=.ok v s'):ev P C (.sub a b) l s=.ok v s':=by
 rw[zoe,h1];show Res.bind (ev P C b l s1) _=_;rw[h2];exact h3
theorem zbv{lo hi:Xc E}{y z:Xc V}(h1:ev P C a l s=.ok x s1)(h2:evO P C lo l s1=.ok y s2)(h3:evO P C hi l s2=.ok z s3)(h4:vi x y z s3=.ok v s'):ev P C (.slice a lo hi) l s=.ok v s':=by
 rw[zd9,h1];show Res.bind (evO P C lo l s1) _=_;rw[h2];show Res.bind (evO P C hi l s2) _=_;rw[h3];exact h4
theorem vz{ks:Xd Kind}{t:Bool}(h1:ev P C a l s=.ok x s1)(h2:kf P s1 x ks=some t):ev P C (.isinst a ks) l s=.ok (.bool t) s1:=by
 rw[fz,h1];show okB s1 (kf P s1 x ks)=_;rw[h2];rfl
theorem jy{o:Cop}(h1:ev P C a l s=.ok x s1)(h2:ev P C b l s1=.ok y s2)(h3:cmpOp o x y s2=.ok v s'):ev P C (.cmp a o b) l s=.ok v s':=by
 rw[zgn,h1];show Res.bind (ev P C b l s1) _=_;rw[h2];exact h3
theorem zn5{t u:Bool}(h1:ev P C a l s=.ok (.bool t) s1)(h2:t=false->ev P C b l s1=.ok (.bool u) s1):ev P C (.or [a,b]) l s=.ok (.bool (t||u)) s1:=by
 rw[zad,k9,h1];cases t with
 |true=>rfl
 |false=>exact h2 rfl
theorem vf{q:Res V}(h:ev P C a l s=q):ev P C (.and [a]) l s=q:=by rw[tw,v8];exact h
theorem ke{q:Res V}(h1:ev P C a l s=.ok (.bool true) s1)(h2:ev P C (.and (b::es)) l s1=q):ev P C (.and (a::b::es)) l s=q:=by
 rw[tw]at h2 ⊢;rw[kt,h1];exact h2
theorem ug(h1:ev P C a l s=.ok (.bool false) s1):ev P C (.and (a::b::es)) l s=.ok (.bool false) s1:=by
 rw[tw,kt,h1];rfl
theorem yv{q:Res V}(h:ev P C a l s=q):ev P C (.or [a]) l s=q:=by rw[zad,wl];exact h
theorem v0{q:Res V}(h1:ev P C a l s=.ok (.bool false) s1)(h2:ev P C (.or (b::es)) l s1=q):ev P C (.or (a::b::es)) l s=q:=by
 rw[zad]at h2 ⊢;rw[k9,h1];exact h2
theorem zx8(h1:ev P C a l s=.ok (.bool true) s1):ev P C (.or (a::b::es)) l s=.ok (.bool true) s1:=by
 rw[zad,k9,h1];rfl
theorem ve{t:Bool}(h1:ev P C a l s=.ok (.bool t) s1):ev P C (.not a) l s=.ok (.bool (!t)) s1:=by
 rw[zgq,h1];rfl
theorem z3(h1:ev P C a l s=.ok x s1)(h2:getAttr x i s1=.ok v s'):ev P C (.attr a i) l s=.ok v s':=by
 rw[ziz,h1];exact h2
theorem xt{g t:Bool}(h1:ev P C a l s=.ok v s1)(h2:decide (v=.none)=t):ev P C (.isC g a .none) l s=.ok (.bool (t != g)) s1:=by
 rw[zgo,h1,<- h2];rfl
theorem zvu{c:Nat}(h1:evL P C es l s=.ok vs s1)(h2:OkR (xb P C c vs s1) R):OkR (ev P C (.new c es) l s) R:=by
 rw[zgp,h1];exact h2
theorem zix(h1:evL P C es l s=.ok vs s1)(hn:decide (vs.length<=zi)=true):ev P C (.lst es) l s=.ok (.lst vs) s1:=by
 rw[zod,h1];exact Zg (Za hn)
theorem p4(h1:evL P C es l s=.ok vs s1)(hn:decide (vs.length<=zi)=true):ev P C (.tup es) l s=.ok (.tup vs) s1:=by
 rw[zof,h1];exact Zg (Za hn)
theorem j5{p:Prim}(h1:evL P C es l s=.ok vs s1)(h2:prim p vs s1=.ok v s'):ev P C (.prim p es) l s=.ok v s':=by
 rw[nv,h1];exact h2
theorem zsm{p:Prim}{R':V->MS->Prop}(h1:OkR (ev P C e l s) R')(h2:∀v s',R' v s'->OkR (prim p [v] s') R):OkR (ev P C (.prim p [e]) l s) R:=by
 refine zf (z7 h1) λv s' h3 h4=>?_;rw[nv,yo,h3];exact h2 v s' h4
theorem v6{m:Bm}(h1:ev P C a l s=.ok x s1)(h0:zj9 m x s1=true)(h2:evL P C es l s1=.ok vs s2)(h3:mu m x vs s2=.ok v s'):ev P C (.bm m a es) l s=.ok v s':=by
 rw[zuu,h1];show(if zj9 m x s1=true then _ else _)=_;rw[Zg h0,h2];exact h3
variable{k:Nat}
theorem zy(h1:ev P C a l s=.ok x s1)(h0:xx P x k s1=some f)(h2:evL P C es l s1=.ok vs s2)(h3:C f (x::vs) s2=.ok v s'):ev P C (.meth a k es) l s=.ok v s':=by
 rw[m9,h1];show(match xx P x k s1 with|some f=>_|none=>_)=_;rw[h0];show Res.bind (evL P C es l s1) _=_;rw[h2];exact h3
theorem yi(h1:ev P C a l s=.ok x s1)(h0:xx P x k s1=some f)(h2:evL P C es l s1=.ok vs s2)(h3:OkR (C f (x::vs) s2) R):OkR (ev P C (.meth a k es) l s) R:=by
 rw[m9,h1];show OkR (match xx P x k s1 with|some f=>_|none=>_) _;rw[h0];show OkR (Res.bind (evL P C es l s1) _) _;rw[h2];exact h3
theorem g9{r:Lbl}{d:Xd (V×V)}(h1:ev P C a l s=.ok (.ref r) s1)(h2:s1.heap r=some (.dict d))(h3:d.length<=1000):ev P C (.dictC k a) l s=.ok (.ref (k,s1.cnt k)) (s1.new k (.dict d)):=by
 rw[zd6,h1];show(match s1.heap r with|some (.dict d)=>if d.length<=1000 then Res.ok (V.ref (k,s1.cnt k)) (s1.new k (.dict d)) else .stuck|_=>.stuck)=_;rw[h2];exact Zg h3
theorem pb{b:Bool}(h1:ev P C a l s=.ok x s1)(h2:z4 s1 x=some (b,vs)):ev P C (.listM k a) l s=.ok (.ref (k,s1.cnt k)) (s1.new k (.list vs)):=by
 rw[zd8,h1];show(match z4 s1 x with|some (_,vs)=>Res.ok (V.ref (k,s1.cnt k)) (s1.new k (.list vs))|none=>.stuck)=_;rw[h2]
theorem u3(h1:ev P C a l s=.ok src s1)(h2:z8 s1 range src=some xs)(h3:compLoop s1 range src slot (evC P C cond) (ev P C e) l [] xs s1=.ok vs s2):
  ev P C (.comp none slot range a cond e) l s=.ok (.lst vs) s2:=by
 rw[m8,h1];show(match z8 s1 range src with|some xs=>_|none=>_)=_;rw[h2];show(Res.bind _ _)=_;rw[h3];rfl
theorem ziw(h1:ev P C a l s=.ok src s1)(h2:z8 s1 range src=some xs)(h3:compLoop s1 range src slot (evC P C cond) (ev P C e) l [] xs s1=.ok vs s2):
  ev P C (.comp (some k) slot range a cond e) l s=.ok (.ref (k,s2.cnt k)) (s2.new k (.list vs)):=by
 rw[m8,h1];show(match z8 s1 range src with|some xs=>_|none=>_)=_;rw[h2];show(Res.bind _ _)=_;rw[h3];rfl
theorem zg(h1:ev P C e l s=.ok v s1)(h2:evL P C es l s1=.ok vs s'):evL P C (e::es) l s=.ok (v::vs) s':=by
 rw[yo,h1];show Res.bind (evL P C es l s1) _=_;rw[h2];rfl
end
theorem qy(h:s.heap r=some (.list l)):zj9 .append (.ref r) s=true:=by
 show(yb (.ref r) s).isSome=true;delta yb;dsimp only;rw[h];rfl
theorem g6{r:Res α}{a:α}{f:α->MS->Res β}{q:Res β}(h:r=.ok a s)(k:f a s=q):r.bind f=q:=by rw[h];exact k
variable{as:Xd (Nat×V)}
theorem k8{c:Lbl}{k:Nat}(i:Nat)(v:V)(h:s.heap c=some (.inst k as))(hn:decide (as.length<1000)=true):setAttr (.ref c) i v s=.ok () (s.put c (.inst k (mt i v as))):=by
 show(match s.heap c with|some (.inst c' as)=>if as.length<1000 then Res.ok () (s.put c (.inst c' (mt i v as))) else .stuck|_=>.stuck)=_;rw[h];exact Zg (Za hn)
variable{i:Nat}
theorem qh{c:Lbl}{k:Nat}{v:V}(h:s.heap c=some (.inst k as))(hv:ym i as=some v):getAttr (.ref c) i s=.ok v s:=by
 show(match s.heap c with|some (.inst _ as)=>okV s (ym i as)|_=>.stuck)=_;rw[h];show okV s (ym i as)=_;rw[hv];rfl
theorem zh(s:MS)(c:Lbl)(o:MObj):(s.put c o).heap c=some o:=Zg rfl
variable{o:MObj}
theorem yd{c l:Lbl}(h:l≠c):(s.put c o).heap l=s.heap l:=Zh h
theorem zt(s:MS)(k:Nat)(o:MObj):(s.new k o).heap (k,s.cnt k)=some o:=Zg rfl
theorem zcd{k:Nat}{l:Lbl}(h:l≠(k,s.cnt k)):(s.new k o).heap l=s.heap l:=Zh h
variable{j:Nat}
theorem yj(h:a≠b):((a,i):Lbl)≠(b,j):=λe=>h (Qd Prod.fst e)
theorem zo(h:decide (b≠a)=true):(s.put (a,i) o).heap (b,j)=s.heap (b,j):=yd (yj (Za h))
theorem q7(h:decide (b≠a)=true):(s.new a o).heap (b,j)=s.heap (b,j):=zcd (yj (Za h))
theorem zj{m:Nat}(h:s.heap r=some (.inst c as)):xx P (.ref r) m s=P.meths c m:=by
 show(match s.heap r with|some (.inst c _)=>P.meths c m|_=>none)=_;rw[h]
theorem jh(h:s.heap r=some (.list l)):z4 s (.ref r)=some (true,l):=by
 show(match s.heap r with|some (.list l)=>some (true,l)|_=>none)=_;rw[h]
end Internal
end
section
namespace Internal
open PySem PySem.W PyProof.Rows
noncomputable def attrs:Xd Xv:=["number","begun","open_call","closed","known","written","laid","fresh","all_keys","houses","callers","post","rows"]
noncomputable def vg(i:Nat):Xv:=match attrs[i]? with
  |some x=>x
  |none=>qa [0,i]
noncomputable def zik:Bool:=attrs.all (λx=>!(x.cps[0]?==some 0))&&(Xr 13).all λi=>(Xr 13).all λj=>decide (attrs[i]?=attrs[j]?->i=j)
theorem znd:zik=true:=by decide +kernel
theorem znc(i j:Nat)(h:vg i=vg j):i=j:=by
  have hok:=znd;simp only[zik,Qq,Zv,Jn,Xp,Xj]at hok;unfold vg at h;cases hi:attrs[i]? with
  |some x =>
    cases hj:attrs[j]? with
    |some y =>
      rw[hi,hj]at h;simp only at h;subst h;have h1:i<13:=(J3.1 hi).1;have h2:j<13:=(J3.1 hj).1;exact hok.2 i (Qj.2 h1) j (Qj.2 h2) (hi.trans hj.symm)
    |none =>
      rw[hi,hj]at h;simp only at h;have:=hok.1 x (List.mem_of_getElem? hi);rw[h]at this;exact(this rfl).elim
  |none =>
    cases hj:attrs[j]? with
    |some y =>
      rw[hi,hj]at h;simp only at h;have:=hok.1 y (List.mem_of_getElem? hj);rw[<- h]at this;exact(this rfl).elim
    |none =>
      rw[hi,hj]at h;simp only[qa]at h;injection h with h
      injection h with h
      injection h with _ h
      injection h
noncomputable def zcf(x:Xv):Bool:=!(x.cps[0]?==some 0)&&attrs.all λy=>!(y==x)
variable{x:Xv}
theorem zg4(h:zcf x=true)(i:Nat):x≠vg i:=by
  simp only[zcf,Qq,Zv,Jn,Xp]at h;unfold vg;cases hi:attrs[i]? with
  |some y =>
    intro e;exact h.2 y (List.mem_of_getElem? hi) e.symm
  |none =>
    rintro rfl;exact h.1 rfl
noncomputable def u8(K:Frag)(x:Xv):Xc Xb:=match K.lookup mainGlobals with
  |some ⟨_,_,.dict es _,_⟩=>nsFind es x
  |_=>none
noncomputable def n4(K:Frag):Bool:=match K.lookup mainGlobals with
  |some ⟨_,_,.dict _ _,_⟩=>true
  |_=>false
variable{h:Heap}
set_option tactic.hygienic true in
theorem zag{K:Frag}{mg:Xv->Xc Xb}(X:K.In h)(hg:h.Ns mainGlobals mg)(hK:n4 K=true)(x:Xv):mg x=u8 K x:=by
  unfold n4 at hK;split at hK
  . rename_i c dd es n sl ho
    refine zbf hg λo es' ep h1 h2 h3 h4=>?_;have h5:=X _ _ ho;rw[h1]at h5;cases h5;cases h2;rw[<- h4];simp only[u8,ho]
  . exact qi hK
structure Tab where
  fal:Xd (Nat×Addr)
  cal:Xd (Nat×Addr)
  fnl:Xd (Nat×Fn)
  mel:Xd ((Nat×Nat)×Nat)
  inl:Xd (Nat×(Nat×Nat))
  xbl:Xd (Nat×Xd Nat)
noncomputable def noneNames:Xd Xv:=["len","max","int","sorted","tuple","list","all","isinstance","range","dict","bool","str","ValueError"]
noncomputable def zop(v:Xc Xb)(i:Int):Bool:=match v with
  |some (.int j _)=>decide (i=j)
  |_=>false
noncomputable def zor(v:Xc Xb)(x:Xv):Bool:=match v with
  |some (.str y _)=>x==y
  |_=>false
theorem zoq{v:Xc Xb}{i:Int}(h:zop v i=true):∃k,v=some (.int i k):=by
  unfold zop at h;split at h
  . simp only[Xj]at h;subst h;exact⟨_,rfl⟩
  . exact qi h
theorem zos{v:Xc Xb}(h:zor v x=true):∃k,v=some (.str x k):=by
  unfold zor at h;split at h
  . simp only[Xl]at h;subst h;exact⟨_,rfl⟩
  . exact qi h
noncomputable def zgi(K:Frag)(N:Names):Bool :=
  n4 K&&N.gi.all (λp=>zop (u8 K p.1) p.2)&&N.gs.all (λp=>zor (u8 K p.1) (qa p.2))&&noneNames.all λx=>(u8 K x).isNone
noncomputable def znq(K:Frag)(N:Names)(T:Tab):Bool:=T.fal.all λp=>keepIn K (.ref p.2)&&(N.fn p.1==Str.empty||decide (u8 K (N.fn p.1)=some (.ref p.2)))
noncomputable def zup(K:Frag)(Ca:Addr):Bool :=
  decide (findIn K (.ref Ca) "__getattribute__"=some (some (.builtin "object.__getattribute__"))) &&
  decide (findIn K (.ref Ca) "__getattr__"=some none)&&decide (findIn K (.ref Ca) "__setattr__"=some (some (.builtin "object.__setattr__"))) &&
  attrs.all (λx=>decide (findIn K (.ref Ca) x=some none))&&(clsIn K Ca).any (·.hasDict)&&plainOver K Ca
noncomputable def znp(K:Frag)(T:Tab):Bool:=T.cal.all λp=>zup K p.2
noncomputable def znt(K:Frag)(N:Names)(T:Tab):Bool:=T.mel.all λp=>match T.cal.lookup p.1.1 with
  |some Ca=>(match T.fal.lookup p.2 with
    |some a=>decide (findIn K (.ref Ca) (N.meth p.1.2)=some (some (.ref a)))&&decide (typeIn K (.ref a)=some (.type "function"))&&keepIn K (.ref a)&&zcf (N.meth p.1.2)
    |none=>false)
  |none=>true
noncomputable def znr(K:Frag)(N:Names)(T:Tab):Bool:=T.inl.all λp=>match T.cal.lookup p.1 with
  |some Ca=>(match T.fal.lookup p.2.2 with
    |some fi=>keepIn K (.ref Ca)&&decide (u8 K (N.cls p.1)=some (.ref Ca))&&makesIn K Ca&&decide (findIn K (.ref Ca) "__init__"=some (some (.ref fi)))&&decide (typeIn K (.ref fi)=some (.type "function"))
    |none=>false)
  |none=>false
noncomputable def zxw(K:Frag)(N:Names)(T:Tab):Bool:=T.xbl.all λp=>N.xs.all λx=>decide (exmOne K (.ref p.1) (.ref x.2)=some (p.2.contains x.2))
noncomputable def zxs(K:Frag)(T:Tab):Bool:=T.xbl.all λp=>p.2.all λk=>decide (kitOne K (.ref p.1) (zdc k)=some true)&&(decide (k=0)||decide (exmOne K (.ref p.1) (.ref k)=some true))
noncomputable def zxr(K:Frag)(N:Names)(T:Tab):Bool:=T.xbl.all λp=>zum K p.1&&p.2.contains 0&&N.xs.all λx=>p.2.contains x.2||decide (kitOne K (.ref p.1) (zdc x.2)=some false)
noncomputable def zxu(N:Names)(T:Tab):Bool:=(T.mel.all λp=>!N.xm p.1.2||N.xf p.2)&&T.inl.all λp=>!N.xm (1000+p.1)||N.xf p.2.2
noncomputable def zuq(K:Frag)(N:Names)(T:Tab):Bool:=T.fnl.all λp=>match T.fal.lookup p.1 with
  |some a=>zkd K N p.2 a
  |none=>false
noncomputable def zxt(K:Frag)(T:Tab){G:Gd}{N:Names}{C:Calls}{d:Dp}(n:Nat)(H:Hyp G N C d):Bool:=T.fnl.all λp=>!N.xf p.1||(T.fal.lookup p.1).any λa=>zbm K n H p.2 a
noncomputable def zxq(K:Frag)(T:Tab){G:Gd}{N:Names}{C:Calls}{d:Dp}(n:Nat)(H:Hyp G N C d):Bool:=T.fnl.all λp=>!N.qf p.1||(T.fal.lookup p.1).any λa=>bu K n H p.2 a
noncomputable def zxk(K:Frag)(T:Tab){G:Gd}{N:Names}{C:Calls}{d:Dp}(n:Nat)(H:Hyp G N C d):Bool:=T.fnl.all λp=>(T.fal.lookup p.1).any λa=>bu K n H p.2 a
set_option tactic.hygienic true in
theorem mem_of_lookup{α β:Type}[BEq α][LawfulBEq α]:∀{l:Xd (α×β)}{k:α}{v:β},l.lookup k=some v->(k,v)∈l
  | [],_,_,h=>by simp at h
  |(a,b)::l,k,v,h=>by
    rw[Jj]at h;split at h
    . rename_i e
      obtain rfl:=Je h;rw[Xl.1 e];exact Zm ..
    . exact Zk _ (mem_of_lookup h)
noncomputable def Tab.prog(T:Tab):Prog:=⟨λf=>T.fnl.lookup f,λc m=>T.mel.lookup (c,m),λc=>T.inl.lookup c,λc=>(T.xbl.lookup c).getD []⟩
noncomputable def Tab.gd(T:Tab)(prog:Program)(w:World)(K:Frag)(mg mb:Xv->Xc Xb)(h:Heap):Gd :=
  ⟨prog,w,K,mg,mb,h,T.prog,λf=>T.fal.lookup f,λc=>T.cal.lookup c,vg⟩
noncomputable def zp9:Xc (Xc Xb)->Nat->Bool
  |some (some (.ref a)),c=>decide (a=c)
  |_,_=>false
theorem zwp{o:Xc (Xc Xb)}{c:Nat}(h:zp9 o c=true):o=some (some (.ref c)):=by
  unfold zp9 at h;split at h
  . rw[Za h]
  . cases h
noncomputable def zxv(K:Frag)(xs:Xd (Xv×Nat)):Bool:=xs.all λp=>!decide (p.2=0)&&(zp9 (nsIn K mainGlobals p.1) p.2&&excIn K p.2 vbm "ValueError.__new__")
variable{mb:Xv->Xc Xb}
theorem z4a{K:Frag}{prog:Program}{loose:Xd Xv}{mg:Xv->Xc Xb}(X:K.In h)(T:TopRead prog loose mg mb h){xs:Xd (Xv×Nat)}(q:zxv K xs=true):∀y c,xs.contains (y,c)=true->c≠0/\OwnCls y c vbm "ValueError.__new__" mg h:=λy c hc=>by
  have q:=Zv.1 q (y,c) (Q7.1 hc);obtain⟨q1,q2⟩:=Zj.1 q;obtain⟨q2,q3⟩:=Zj.1 q2;exact⟨λz=>by rw[show decide (c=0)=true from Zb z]at q1;exact qi q1,own_of_in X T (zwp q2) q3⟩
variable{N:Names}{w:World}
set_option tactic.hygienic true in
theorem zt6{T:Tab}{prog:Program}{K:Frag}{mg:Xv->Xc Xb}(hN:N.attr=vg)(X:K.In h)(g:h.Ns mainGlobals mg)(b:h.Ns builtinsNs mb)(bi:∀x:Xv,x≠"__name__"->mb x=bootBuiltins x)(lim:h.NoLimit)(h1:zgi K N=true)(h2:znq K N T=true)(h3:znp K T=true)(h4:znt K N T=true)(h5:znr K N T=true)(hxw:∀y c,N.xs.contains (y,c)=true->c≠0/\OwnCls y c vbm "ValueError.__new__" mg h)(h6:zxs K T=true)(h7:zxu N T=true)(h8:zxr K N T=true)(h9:zxw K N T=true):Stat (T.gd prog w K mg mb h) N:=by
  simp only[zgi,Qq,Zv]at h1;refine zn h1 λnq0 g4=>?_;obtain⟨⟨g1,g2⟩,g3⟩:=nq0;have hm:=λx=>zag X g g1 x;simp only[znq,znp,znt,znr,Zv,Qq,Bool.or_eq_true,Xl,Xj]at h2 h3 h4 h5;constructor
  . refine⟨X,g,b,bi,lim,λx i hc=>?_,λx i hc=>?_,znc,hN,λx hx=>?_⟩
    . refine zr (zoq (g2 (x,i) (by simpa using hc))) λk e=>?_
      exact⟨k,(hm x).trans e⟩
    . refine zr (zos (g3 (x,i) (by simpa using hc))) λk e=>?_
      exact⟨k,(hm x).trans e⟩
    . exact(hm x).trans (J2.1 (g4 x hx))
  . intro c Ca hc
    have e:=h3 _ (mem_of_lookup hc);simp only[zup,Qq,Xj,Zv]at e;refine zn e λnq0 e6=>?_;obtain⟨⟨⟨⟨e1,e2⟩,e3⟩,e4⟩,e5⟩:=nq0;refine⟨e1,e2,e3,λi hi=>?_,?_,e6⟩
    . show findIn K (.ref Ca) (vg i)=some none
      unfold vg;have hlt:i<attrs.length:=hi;rw[Zl hlt];exact e4 _ (Qc _)
    . show ∃cd,clsIn K Ca=some cd/\cd.hasDict=true
      cases hc:clsIn K Ca with
      |none=>rw[hc]at e5;exact qi e5
      |some cd=>rw[hc]at e5;exact⟨cd,rfl,e5⟩
  . intro f a hf
    have e:=h2 _ (mem_of_lookup hf);exact⟨e.1,e.2.imp id λe=>(hm _).trans e⟩
  . intro c k f Ca hc hca
    have e:=h4 _ (mem_of_lookup hc);have hca:T.cal.lookup c=some Ca:=hca;simp only[hca]at e;split at e
    . rename_i a ha
      simp only[Qq,Xj]at e;refine zn e λnq0 e4=>?_;obtain⟨⟨e1,e2⟩,e3⟩:=nq0;exact⟨a,ha,e1,e2,e3,zg4 e4⟩
    . exact qi e
  . intro c k f hc
    have e:=h5 _ (mem_of_lookup hc);simp only at e;split at e
    . rename_i Ca hca
      split at e
      . rename_i fi hfi
        simp only[Qq,Xj]at e;refine zn e λnq0 e5=>?_;obtain⟨⟨⟨e1,e2⟩,e3⟩,e4⟩:=nq0;exact⟨Ca,fi,hca,hfi,e1,(hm _).trans e2,e3,e4,e5⟩
      . exact qi e
    . exact qi e
  . exact hxw
  . intro c k h1 h2
    have h1:((T.xbl.lookup c).getD []).contains c=true:=h1;have h2:((T.xbl.lookup c).getD []).contains k=true:=h2;show kitOne K (.ref c) (zdc k)=some true/\(k≠0->exmOne K (.ref c) (.ref k)=some true);cases hl:T.xbl.lookup c with
    |none=>rw[hl]at h1;exact qi h1
    |some l =>
      rw[hl]at h2;have e:=Zv.1 (Zv.1 h6 _ (mem_of_lookup hl)) k (Q7.1 h2);refine zn (Zj.1 e) λe1 e2=>?_;exact⟨Za e1,λhk=>(Q4.1 e2).elim (λz=>absurd (Za z) hk) Za⟩
  . intro c k h1 h2
    refine zr h2 λy h2=>?_;have h1:((T.xbl.lookup c).getD []).contains c=true:=h1;show exmOne K (.ref c) (.ref k)=some (((T.xbl.lookup c).getD []).contains k);cases hl:T.xbl.lookup c with
    |none=>rw[hl]at h1;exact qi h1
    |some l=>exact Za (Zv.1 (Zv.1 h9 _ (mem_of_lookup hl)) _ (Q7.1 h2))
  . intro k c f hk hc
    have e:=Zv.1 (Zj.1 h7).1 _ (mem_of_lookup hc);exact(Q4.1 e).elim (λz=>by rw[show N.xm k=true from hk]at z;exact qi z) id
  . intro c k f hk hc
    have e:=Zv.1 (Zj.1 h7).2 _ (mem_of_lookup hc);exact(Q4.1 e).elim (λz=>by rw[show N.xm (1000+c)=true from hk]at z;exact qi z) id
  . intro c k h1 h2
    have h1:((T.xbl.lookup c).getD []).contains c=true:=h1;show zum K c=true/\kitOne K (.ref c) (zdc k)=some (((T.xbl.lookup c).getD []).contains k);cases hl:T.xbl.lookup c with
    |none=>rw[hl]at h1;exact qi h1
    |some l =>
      rw[hl]at h1;refine zn (Zj.1 (Zv.1 h8 _ (mem_of_lookup hl))) λe1 e2=>?_;refine zn (Zj.1 e1) λe0 e1=>?_;refine⟨e0,?_⟩;show kitOne K (.ref c) (zdc k)=some (l.contains k);cases hk:l.contains k with
      |true =>
        have e:=Zv.1 (Zv.1 h6 _ (mem_of_lookup hl)) k (Q7.1 hk);exact Za (Zj.1 e).1
      |false =>
        rcases h2 with rfl|⟨y,h2⟩
        . rw[hk]at e1;exact qi e1
        . have e:=Zv.1 e2 _ (Q7.1 h2)
          exact Za ((Q4.1 e).resolve_left λz=>by rw[hk]at z;exact qi z)
theorem zdm:∀{ns:Xd Int}{n:Nat},PyData.weightAll (ns.map .int)<=n->∀i∈ns,intBits i<=n
  | [],_,_,i,hi=>by cases hi
  |j::ns,n,h,i,hi=>by
    simp only[Zz,PyData.weightAll,PyData.weight]at h;rcases Zu.1 hi with rfl|hi
    . unfold intBits
      by_cases e:i=0
      . simp[e]
      . simp[e]at h ⊢;lia
    . exact zdm (by lia) i hi
theorem zng{ns:Xd Int}(h:(PyData.list (ns.map .int)).layable0=true):∀i∈ns,intBits i<=1048576:=by
  simp only[PyData.layable0,Qq,PyData.weight]at h;exact zdm (Za h.2)
theorem zbj{α:Type}(n:Nat){l:Xd α}{f:α->Bool}(h1:(l.take n).all f=true)(h2:(l.drop n).all f=true):l.all f=true:=by rw[<- List.take_append_drop n l,List.all_append,h1,h2];rfl
set_option tactic.hygienic true in
theorem zk3{T:Tab}{prog:Program}{K:Frag}{mg:Xv->Xc Xb}{s:Xa}(S:Stat (T.gd prog w K mg mb s.heap) N)(hf:zuq K N T=true)(hb:∀(G:Gd)(C:Calls)(n:Nat)(H:Hyp G N C ⟨n,true⟩),zxk K T n H=true)(hbx:∀(G:Gd)(C:Calls)(n:Nat)(H:Hyp G N C ⟨n,true⟩),zxt K T n H=true)(hbq:∀(G:Gd)(C:Calls)(n:Nat)(H:Hyp G N C ⟨n,false⟩),zxq K T n H=true){n law:Nat}{fa la:Addr}{ns:Xd Int}{vals:Xd Xb}(hA:AC ⟨n,true⟩ callerA)(hfa:T.fal.lookup law=some fa)(hz:s.heap.get? la=some {cls:=.type "list",data:=.seq vals.toArray})(hlen:ns.length<=63)(hI:IntsAre vals ns){st':MS}(hrun:run T.prog n law [.lst (ns.map .int)] st0=.ok (.bool true) st'){B:Result->Xa->Prop}(k:∀s':Xa,(∀b o,s.heap.get? b=some o->s'.heap.get? b=some o)->s'.os=s.os->s'.gens=s.gens->B (.ok (.ret (.bool true))) s'):
    codeAny (model prog w) callerA (.call (.ref fa) ⟨[.ref la],[]⟩) B s:=by
  let G:=T.gd prog w K mg mb s.heap
  have hok:∀f fn,G.P.fns f=some fn->∃a,G.fa f=some a/\zkd G.K N fn a=true:=by
    intro f fn h;have e:=Zv.1 hf _ (mem_of_lookup h);simp only at e;split at e
    . rename_i a ha
      exact⟨a,ha,e⟩
    . exact qi e
  have hfn:∀f fn,G.P.fns f=some fn->∃a,G.fa f=some a/\FnRec G true (CallsA G N.xf N.qf) fn a:=by
    intro f fn h;refine zd (hok f fn h) λa ha e=>?_;refine⟨a,ha,zef (λξ ξ=>S.hyp) e λC n H=>?_⟩;have g:=Zv.1 (hb G C n H) _ (mem_of_lookup h);rw[show T.fal.lookup f=some a from ha]at g;exact g
  have hfx:∀f fn,N.xf f=true->G.P.fns f=some fn->∃a,G.fa f=some a/\FnX G N.xf N.qf fn a:=by
    intro f fn hx h;refine zd (hok f fn h) λa ha e=>?_;refine⟨a,ha,zvz S e λC n H=>?_⟩;have g:=(Q4.1 (Zv.1 (hbx G C n H) _ (mem_of_lookup h))).resolve_left λz=>by
      rw[show N.xf f=true from hx]at z;exact qi z
    rw[show T.fal.lookup f=some a from ha]at g;exact g
  have hfq:∀f fn,N.qf f=true->G.P.fns f=some fn->∃a,G.fa f=some a/\FnRec G false (λC n=>oy G C n N.qf) fn a:=by
    intro f fn hx h;refine zd (hok f fn h) λa ha e=>?_;refine⟨a,ha,zef (λξ ξ=>S.hypQ) e λC n H=>?_⟩;have g:=(Q4.1 (Zv.1 (hbq G C n H) _ (mem_of_lookup h))).resolve_left λz=>by
      rw[show N.qf f=true from hx]at z;exact qi z
    rw[show T.fal.lookup f=some a from ha]at g;exact g
  let t0:Tie:=⟨λξ=>none,λξ=>none,λξ=>False,0,[]⟩
  have hno:∀a,¬t0.Avoid a:=by
    rintro a (⟨l,e|e⟩|e)
    . exact za e
    . exact za e
    . exact e
  have R:Rel G t0 st0 s :=
    {base:=λb o e=>e,apart:=λa q=>(hno a q).elim,live:=λa q=>(hno a q).elim,pv:=λa q=>q.elim,injρ:=(λl l' a e=>by exact za e),injδ:=(λl l' a e=>by exact za e),two:=(λl l' a e=>by exact za e),
      objs:=(λl o e=>by exact za e),cnt:=(λk i ξ=>⟨rfl,rfl,rfl⟩),sys:=(λl e=>by exact za e),wr:=rfl}
  have hV:∀{vs:Xd Xb}{ms:Xd Int},IntsAre vs ms->VRels t0 s.heap (ms.map .int) vs:=by
    intro vs ms h
    induction h with
    |nil=>rfl
    |cons n t _ ih=>exact⟨_,_,rfl,⟨t,rfl⟩,ih⟩
  have rv:VRel t0 s.heap (.lst (ns.map .int)) (.ref la):=⟨la,vals.toArray,rfl,⟨_,hz⟩,hno _,by rw[Zd];unfold zi;lia,hV hI⟩
  refine zd ((te S.O hfn hfx hfq n).ok law [.lst (ns.map .int)] st0 (.bool true) st' hrun callerA hA) λa ha go=>?_;have:a=fa:=by
    have ha:T.fal.lookup law=some a:=ha;rw[hfa]at ha;cases ha;rfl
  subst this;refine go t0 s [.ref la] ⟨rfl,λe he=>by cases he⟩ R ⟨_,_,rfl,rv,rfl⟩ B λv t' s' S' R' r=>?_;have r:v=.bool true:=r;subst r;exact k s' R'.base S'.os S'.gens
end Internal
end
section
namespace Internal
noncomputable def f_cell:Fn:=⟨2,["_law_script","_law_k"],[.ite (.cmp (.loc 1) .lt (.prim .len [.loc 0])) [.ret (some (.sub (.loc 0) (.loc 1)))] [],.ret (some (.int 0))]⟩
noncomputable def lc(self:Nat)(due:Xv:="_law_due"):Fn:=⟨2,["_law_found",due,""],[.ite (.isinst (.loc 1) [.list,.tuple]) [.ite (.or [.cmp (.isinst (.loc 1) [.list]) .ne (.isinst (.loc 0) [.list]),.cmp (.isinst (.loc 1) [.tuple]) .ne (.isinst (.loc 0) [.tuple])]) [.ret (some (.bool false))] [],.ite (.cmp (.prim .len [.loc 0]) .ne (.prim .len [.loc 1])) [.ret (some (.bool false))] [],.ret (some (.prim .all1 [.comp none 2 true (.prim .len [.loc 1]) none (.call self [.sub (.loc 0) (.loc 2),.sub (.loc 1) (.loc 2)])]))] [],.ite (.isinst (.loc 1) [.str]) [.ret (some (.and [.isinst (.loc 0) [.str],.cmp (.loc 0) .eq (.loc 1)]))] [],.ret (some (.and [.isinst (.loc 0) [.int],.not (.isinst (.loc 0) [.bool]),.cmp (.loc 0) .eq (.loc 1)]))]⟩
noncomputable def f_wish:Fn:=⟨1,["_law_cell","_law_number"],[.assign 1 (.bin .sub (.bin .mod (.bin .fdiv (.loc 0) (.int 6)) (.int 7)) (.int 3)),.ite (.cmp (.bin .mod (.bin .fdiv (.loc 0) (.int 3)) (.int 2)) .eq (.int 1)) [.assign 1 (.bin .sub (.bin .mod (.bin .fdiv (.loc 0) (.int 6)) (.bin .add (.bin .mul (.int 2) (.bin .pow (.int 10) (.int 30))) (.int 1))) (.bin .pow (.int 10) (.int 30)))] [],.ret (some (.sub (.lst [.tup [.str [103,101,116]],.tup [.str [115,101,116],.loc 1],.tup [.str [97,100,100],.loc 1]]) (.bin .mod (.loc 0) (.int 3))))]⟩
noncomputable def f_keys:Fn:=⟨1,["_law_cell","_law_letters","_law_many","_law_size","_law_at","_law_turn","_law_rest","","",""],[.assign 1 (.str [97,98,99,100,101,102,103,104,105,106,107,108,109,110,111,112,113,114,115,116,117,118,119,120,121,122]),.assign 2 (.bin .add (.int 1) (.bin .mod (.loc 0) (.int 6))),.assign 3 (.bin .mod (.bin .fdiv (.loc 0) (.int 6)) (.int 8)),.assign 4 (.bin .mod (.bin .fdiv (.loc 0) (.int 48)) (.bin .add (.loc 3) (.int 1))),.assign 5 (.bin .fdiv (.loc 0) (.int 432)),.assign 6 (.bm .join (.str []) [.comp none 7 true (.loc 3) none (.sub (.loc 1) (.bin .mod (.bin .add (.bin .fdiv (.loc 5) (.int 26)) (.bin .mul (.int 5) (.loc 7))) (.int 26)))]),.ite (.cmp (.bin .mod (.loc 5) (.int 3)) .eq (.int 1)) [.ret (some (.comp none 8 true (.loc 2) none (.slice (.bin .add (.loc 6) (.str [113,119,101,114,116,121,117,105])) none (some (.bin .add (.loc 8) (.int 1))))))] [],.ret (some (.comp none 9 true (.loc 2) none (.bin .add (.bin .add (.slice (.loc 6) none (some (.loc 4))) (.sub (.loc 1) (.bin .mod (.bin .add (.loc 5) (.loc 9)) (.int 26)))) (.slice (.loc 6) (some (.loc 4)) none))))]⟩
set_option genCtorIdx true in
inductive W where|get|set (i:Int)|add (i:Int)
noncomputable def wv:W->V
 |.get=>.tup [.str [103,101,116]]
 |.set i=>.tup [.str [115,101,116],.int i]
 |.add i=>.tup [.str [97,100,100],.int i]
noncomputable def dn(a:Int):W->Int×Int
 |.get=>(a,a)
 |.set i=>(i,a)
 |.add i=>(a+i,a+i)
variable {P:Prog}
theorem li{s:MS}{a:V}{k:Bool}{l:Xd V}(h:z4 s a=some (k,l))(i:Nat)(hi:i<l.length):getItem a (.int i) s=.ok l[i] s:=by
 have h0:(0:Int)<=i:=by lia
 have h1:(i:Int)<l.length:=by lia
 cases a<;>simp[z4]at h<;>simp_all [getItem,z4,idx,okV]
variable{f:Nat}
theorem ze7(hf:P.fns f=some f_cell)(n:Nat)(l:Xd Int)(k:Nat)(s:MS):run P (n+1) f [.lst (l.map .int),.int k] s=.ok (.int (l.getD k 0)) s:=by
 refine qc (zm (fn:=f_cell) hf rfl ?_);have hc:ev P (run P n) (.cmp (.loc 1) .lt (.prim .len [.loc 0])) [some (.lst (l.map .int)),some (.int k)] s=.ok (.bool (decide ((k:Int)<((l.map V.int).length:Nat)))) s:=rfl;rw[Zd]at hc;by_cases h:k<l.length
 .refine zl (hc.trans (Qd (λb=>Res.ok (V.bool b) s) (Zb (by lia)))) (zv (qk (s1:=s) (s2:=s) rfl rfl (li (a:=.lst (l.map .int)) (k:=true) rfl k (by simpa using h))) ⟨?_,rfl⟩);simp[flV,h]
 .refine zl (hc.trans (Qd (λb=>Res.ok (V.bool b) s) (Zc (by lia)))) (ze (zv rfl ⟨?_,rfl⟩));simp[flV,h]
theorem zln(hf:P.fns f=some f_cell)(n:Nat)(l:Xd Int)(s:MS):run P (n+1) f [.lst (l.map .int),.int 0] s=.ok (.int (l.getD 0 0)) s:=ze7 hf n l 0 s
theorem zlo(hf:P.fns f=some f_cell)(n:Nat)(l:Xd Int)(s:MS):run P (n+1) f [.lst (l.map .int),.int 1] s=.ok (.int (l.getD 1 0)) s:=ze7 hf n l 1 s
noncomputable def ie(c:Int)(b:Bool):Int:=match b with
 |true=>(c.fdiv 6).fmod 2000000000000000000000000000001-1000000000000000000000000000000
 |false=>(c.fdiv 6).fmod 7-3
noncomputable def ig(k i:Int):W:=if k=0 then .get else if k=1 then .set i else .add i
noncomputable def zda(c:Int):W:=ig (c.fmod 3) (ie c (decide ((c.fdiv 3).fmod 2=1)))
theorem zji(k i:Int)(s:MS)(h:k=0\/k=1\/k=2):getItem (.lst [.tup [.str [103,101,116]],.tup [.str [115,101,116],.int i],.tup [.str [97,100,100],.int i]]) (.int k) s=.ok (wv (ig k i)) s:=by
 rcases h with rfl|rfl|rfl<;>rfl
theorem zqo(hf:P.fns f=some f_wish)(n:Nat)(c:Int)(s:MS):run P (n+1) f [.int c] s=.ok (wv (zda c)) s:=by
 refine qc (zm (fn:=f_wish) hf rfl ?_);have h3:c.fmod 3=0\/c.fmod 3=1\/c.fmod 3=2:=by
  rw[Int.fmod_eq_emod_of_nonneg c (by decide)];lia
 refine zk (v:=.int (ie c false)) rfl rfl ?_;cases hb:decide ((c.fdiv 3).fmod 2=1)
 .refine zl (t:=false) (Qd (λb=>Res.ok (V.bool b) s) hb) (ze (zv (zji (c.fmod 3) (ie c false) s h3) ⟨?_,rfl⟩));show wv (ig _ (ie c false))=wv (ig _ (ie c (decide _)));rw[hb]
 .refine zl (t:=true) (Qd (λb=>Res.ok (V.bool b) s) hb) (zk (v:=.int (ie c true)) rfl rfl (ze (zv (zji (c.fmod 3) (ie c true) s h3) ⟨?_,rfl⟩)));show wv (ig _ (ie c true))=wv (ig _ (ie c (decide _)));rw[hb]
theorem zee(x y:Int)(h:0<=y):x.fmod y=x % y:=Int.fmod_eq_emod_of_nonneg x h
noncomputable def abc:Xd Nat:=[97,98,99,100,101,102,103,104,105,106,107,108,109,110,111,112,113,114,115,116,117,118,119,120,121,122]
noncomputable def vo(x:Int):Nat:=abc[(x.fmod 26).toNat]?.getD 97
theorem jd(x m:Int)(h:0<m):0<=x.fmod m/\x.fmod m<m:=by
 rw[Int.fmod_eq_emod_of_nonneg x (Int.le_of_lt h)];exact⟨Int.emod_nonneg x (Int.ne_of_gt h),Int.emod_lt_of_pos x h⟩
theorem zm3(x:Int)(s:MS):getItem (.str abc) (.int (x.fmod 26)) s=.ok (.str [vo x]) s:=by
 refine zn (jd x 26 (by decide)) λh1 h2=>?_;have h3:(x.fmod 26).toNat<abc.length:=by show _<26;lia
 refine(zyd abc (x.fmod 26) s h1 (by show _<(26:Int);exact h2) (by decide)).trans ?_;rw[vo,Zl h3];rfl
theorem zr5:∀i:Fin 26,abc[i.1]?.getD 97=97+i.1:=by decide
theorem db(x:Int):vo x=97+(x.fmod 26).toNat:=by
 refine zn (jd x 26 (by decide)) λh1 h2=>?_;exact zr5 ⟨(x.fmod 26).toNat,by lia⟩
theorem zrg(x:Xd Nat)(j:Int)(s:MS)(h:0<=j)(hx:x.length<=16777216):vi (.str x) none (some (.int j)) s=.ok (.str (x.take j.toNat)) s:=by
 have hx:x.length<=zi:=hx;simp[vi,vp,h,hx]
theorem zt1(x:Xd Nat)(j:Int)(s:MS)(h:0<=j)(hx:x.length<=16777216):vi (.str x) (some (.int j)) none s=.ok (.str (x.drop j.toNat)) s:=by
 have hx:x.length<=zi:=hx;simp[vi,vp,h,hx]
theorem zsy{vs:Xd V}{x:Xd Nat}(s:MS)(h:uz vs=some x)(hx:x.length<=16777216):mu .join (.str []) [.lst vs] s=.ok (.str x) s:=by
 have hx:x.length<=zi:=hx;simp only[mu,bm1,h,Zg hx]
noncomputable def ye(z:Nat)(t:Int):Xd Nat:=(Xr z).map λ(k:Nat)=>vo (t.fdiv 26+5*k)
noncomputable def qwe:Xd Nat:=[113,119,101,114,116,121,117,105]
noncomputable def b7(m z a:Nat)(t:Int)(b:Bool):Xd (Xd Nat):=match b with
 |true=>(Xr m).map λ(k:Nat)=>(ye z t++qwe).take (k+1)
 |false=>(Xr m).map λ(k:Nat)=>(ye z t).take a++[vo (t+k)]++(ye z t).drop a
noncomputable def ss(c:Int):Xd (Xd Nat) :=
 b7 (1+c.fmod 6).toNat ((c.fdiv 6).fmod 8).toNat ((c.fdiv 48).fmod ((c.fdiv 6).fmod 8+1)).toNat (c.fdiv 432) (decide ((c.fdiv 432).fmod 3=1))
theorem ze5(z:Nat)(t:Int):(ye z t).length=z:=by rw[ye,Zd,Zx]
theorem zir(f:Nat->Nat):∀l:Xd Nat,uz (l.map λk=>V.str [f k])=some (l.map f)
 | []=>rfl
 |k::l=>by rw[Zz,uz,zir f l];rfl
theorem zkk(x:Xd Nat)(a:Nat)(h:x.length<8):(x.take a).length+1<=16777216:=by rw[Jk];omega
theorem znx(x:Xd Nat)(a c:Nat)(h:x.length<8):(x.take a++[c]).length+(x.drop a).length<=16777216:=by rw[Zf,Jk,Js];show min _ _+1+_<=_;omega
theorem zlq(hf:P.fns f=some f_keys)(n:Nat)(c:Int)(s:MS):run P (n+1) f [.int c] s=.ok (.lst ((ss c).map .str)) s:=by
 refine zn (jd c 6 (by decide)) λhm0 hm1=>?_;refine zn (jd (c.fdiv 6) 8 (by decide)) λhz0 hz1=>?_;refine qc (zm (fn:=f_keys) hf rfl ?_);refine zk (v:=.str abc) rfl rfl (zk (v:=.int (1+c.fmod 6)) rfl rfl (zk (v:=.int ((c.fdiv 6).fmod 8)) rfl rfl ?_));unfold ss;generalize c.fmod 6=m at hm0 hm1;generalize (c.fdiv 6).fmod 8=z at hz0 hz1;have hz2:¬(z+1=0):=by lia
 refine zk (v:=.int ((c.fdiv 48).fmod (z+1))) (Zh hz2) rfl (zk (v:=.int (c.fdiv 432)) rfl rfl ?_);refine zn (jd (c.fdiv 48) (z+1) (by lia)) λha0 ξ=>?_;generalize (c.fdiv 48).fmod (z+1)=a at ha0;generalize c.fdiv 432=t;have hzn:(0:Nat)+((Xr z.toNat).map λ(i:Nat)=>V.int i).length<=zi:=by rw[Zd,Zx];show _<=16777216;lia
 have hxl:(ye z.toNat t).length<8:=by rw[ze5];lia
 refine zk (v:=.str (ye z.toNat t)) (s':=s) (v6 (x:=.str []) (vs:=[.lst (((Xr z.toNat).map λ(i:Nat)=>V.int i).map λv=>match v with|.int i=>V.str [vo (t.fdiv 26+5*i)]|_=>.none)]) (s2:=s) rfl rfl (zg (u3 rfl (jt s z hz0 (by lia)) (bw s s true (.int z) 7 _ _ _ rfl _ [] ?_ hzn)) rfl) ?_) rfl ?_
 .intro x hx;refine zd (Z1.1 hx) λi ξ eq2=>?_;subst eq2;exact qk (s1:=s) (s2:=s) rfl (kb (x:=.int (t.fdiv 26+5*i)) (s1:=s) (s2:=s) (kb (x:=.int (t.fdiv 26)) (s1:=s) rfl (zvg 5 i s (by decide) (by decide)) rfl) rfl rfl) (zm3 (t.fdiv 26+5*i) s)
 .refine zsy s ?_ (by lia);rw[Qg];exact zir (λ(k:Nat)=>vo (t.fdiv 26+5*k)) (Xr z.toNat)
 have hmn:(0:Nat)+((Xr (1+m).toNat).map λ(i:Nat)=>V.int i).length<=zi:=by rw[Zd,Zx];show _<=16777216;lia
 have hit:z8 s true (.int (1+m))=some ((Xr (1+m).toNat).map λ(i:Nat)=>.int i):=jt s _ (by lia) (by lia);unfold b7;generalize ye z.toNat t=x at hxl;cases hb:decide (t.fmod 3=1)
 .refine zl (t:=false) (Qd (λb=>Res.ok (V.bool b) s) hb) (ze (zv (u3 rfl hit (bw s s true (.int (1+m)) 9 _ _ (λv=>match v with|.int i=>V.str (x.take a.toNat++[vo (t+i)]++x.drop a.toNat)|_=>.none) rfl _ [] ?_ hmn)) ⟨?_,rfl⟩))
  .intro y hy;refine zd (Z1.1 hy) λi ξ eq2=>?_;subst eq2;have h1:=zkk x a.toNat hxl;have h2:=znx x a.toNat (vo (t+i)) hxl;exact kb (s1:=s) (s2:=s) (x:=.str (x.take a.toNat++[vo (t+i)])) (kb (s1:=s) (s2:=s) (zrg x a s ha0 (by lia)) (qk (s1:=s) (s2:=s) rfl rfl (zm3 (t+i) s)) (zne _ _ s h1)) (zt1 x a s ha0 (by lia)) (zne _ _ s h2)
  .show V.lst ([]++_)=_;rw[Jv,Qg,Qg];rfl
 .refine zl (t:=true) (Qd (λb=>Res.ok (V.bool b) s) hb) (zv (u3 rfl hit (bw s s true (.int (1+m)) 8 _ _ (λv=>match v with|.int i=>V.str ((x++qwe).take (i+1).toNat)|_=>.none) rfl _ [] ?_ hmn)) ⟨?_,rfl⟩)
  .intro y hy;refine zd (Z1.1 hy) λi ξ eq2=>?_;subst eq2;have h1:x.length+qwe.length<=16777216:=by show x.length+8<=_;lia
   exact zbv (s1:=s) (s2:=s) (s3:=s) (kb (s1:=s) (s2:=s) rfl rfl (zne x qwe s h1)) rfl rfl (zrg (x++qwe) (i+1) s (by lia) (by rw[Zf];exact h1))
  .show V.lst ([]++_)=_;rw[Jv,Qg,Qg];rfl
structure KeysOk(ks:Xd (Xd Nat)):Prop where
 pos:0<ks.length
 six:ks.length<=6
 nd:ks.Nodup
theorem d9{α:Type}(f:Nat->α)(m:Nat)(h:∀i j,i<m->j<m->f i=f j->i=j):((Xr m).map f).Nodup:=by
 refine List.pairwise_map.2 (List.Pairwise.imp_of_mem (λha hb hlt e=>?_) List.pairwise_lt_range);have:=h _ _ (Qj.1 ha) (Qj.1 hb) e;lia
theorem s6(x:Int):97<=vo x/\vo x<=122:=by
 rw[db];refine zn (jd x 26 (by decide)) λh1 h2=>?_;lia
theorem zqa(z:Nat)(t:Int):∀c∈ye z t,97<=c/\c<=122:=by
 intro c hc;refine zd (Z1.1 hc) λk ξ eq2=>?_;subst eq2;exact s6 _
theorem zrm{l:Xd Nat}(h:8<=l.length)(i j:Nat)(hi:i<6)(hj:j<6)(e:l.take (i+1)=l.take (j+1)):i=j:=by
 have:=Qd List.length e;rw[Jk,Jk,Nat.min_eq_left (by lia),Nat.min_eq_left (by lia)]at this;exact Nat.succ.inj this
theorem zgw(t:Int)(i j:Nat)(hi:i<6)(hj:j<6)(e:vo (t+i)=vo (t+j)):i=j:=by
 rw[db,db,zee _ _ (by decide),zee _ _ (by decide)]at e;have e1:=Qd Int.ofNat (Nat.add_left_cancel e);rw[Int.ofNat_eq_natCast,Int.ofNat_eq_natCast,Int.toNat_of_nonneg (Int.emod_nonneg _ (by decide)),Int.toNat_of_nonneg (Int.emod_nonneg _ (by decide))]at e1;refine zr (Int.dvd_of_emod_eq_zero (Int.emod_eq_emod_iff_emod_sub_eq_zero.mp e1)) λk hk=>?_;rw[Int.add_sub_add_left]at hk;omega
theorem zk0{m:Nat}(h0:0<m)(h6:m<=6)(z a:Nat)(t:Int)(b:Bool):KeysOk (b7 m z a t b):=by
 cases b with
 |true=>exact⟨by rw[b7,Zd,Zx];exact h0,by rw[b7,Zd,Zx];exact h6,d9 _ _ λi j hi hj e=>zrm (by rw[Zf];exact Qs 8 _) i j (Zi hi h6) (Zi hj h6) e⟩
 |false=>exact⟨by rw[b7,Zd,Zx];exact h0,by rw[b7,Zd,Zx];exact h6,d9 _ _ λi j hi hj e=>zgw t i j (Zi hi h6) (Zi hj h6) (List.head_eq_of_cons_eq (List.append_cancel_left (List.append_cancel_right e)))⟩
theorem zs2(c:Int):KeysOk (ss c):=by
 refine zn (jd c 6 (by decide)) λh0 h1=>?_;exact zk0 (by omega) (by omega) _ _ _ _
noncomputable def AllA(R:V->V->Prop):Xd V->Xd V->Prop
 | [],[]=>True
 |x::l,y::m=>R x y/\AllA R l m
 |_,_=>False
theorem AllA.len{R:V->V->Prop}:∀{a b:Xd V},AllA R a b->a.length=b.length
 | [],[],_=>rfl
 |x::l,y::m,h=>by simp[AllA.len h.2]
 | [],_::_,h=>h.elim
 |_::_,[],h=>h.elim
theorem AllA.get{R:V->V->Prop}:∀{a b:Xd V},AllA R a b->∀(i:Nat)(h:i<a.length)(h':i<b.length),R a[i] b[i]
 |x::l,y::m,h,0,_,_=>h.1
 |x::l,y::m,h,i+1,h1,h2=>AllA.get h.2 i (by simpa using h1) (by simpa using h2)
 | [],_,_,_,h1,_=>by simp at h1
 |_::_,[],h,_,_,_=>h.elim
theorem AllA.map{α:Type}{R:V->V->Prop}{f g:α->V}:∀(l:Xd α),(∀x∈l,R (f x) (g x))->AllA R (l.map f) (l.map g)
 | [],_=>trivial
 |x::l,h=>⟨h x (by simp),AllA.map l λy hy=>h y (by simp[hy])⟩
noncomputable def kh(s:MS):Nat->V->V->Prop
 |0,a,b=>(∃x,a=.int x/\b=.int x)\/(∃x,a=.str x/\b=.str x)
 |d+1,a,b=>((∃x,a=.int x/\b=.int x)\/(∃x,a=.str x/\b=.str x)) \/
  ∃k la lb,z4 s a=some (k,la)/\z4 s b=some (k,lb)/\la.length<=16777216/\AllA (kh s d) la lb
variable{s:MS}
theorem qm(d:Nat)(x:Int):kh s d (.int x) (.int x):=by
 cases d
 .exact .inl ⟨x,rfl,rfl⟩
 .exact .inl (.inl ⟨x,rfl,rfl⟩)
theorem jl(d:Nat)(x:Xd Nat):kh s d (.str x) (.str x):=by
 cases d
 .exact .inr ⟨x,rfl,rfl⟩
 .exact .inl (.inr ⟨x,rfl,rfl⟩)
variable{d:Nat}{la lb:Xd V}
theorem j8(hl:la.length<=16777216)(h:AllA (kh s d) la lb):kh s (d+1) (.tup la) (.tup lb) :=
 .inr ⟨false,la,lb,rfl,rfl,hl,h⟩
theorem zf8{a b:Lbl}(ha:s.heap a=some (.list la))(hb:s.heap b=some (.list lb))(hl:la.length<=16777216)(h:AllA (kh s d) la lb):kh s (d+1) (.ref a) (.ref b) :=
 .inr ⟨true,la,lb,by simp only[z4,ha],by simp only[z4,hb],hl,h⟩
noncomputable def zqr(k:Bool):Tag:=match k with|true=>.list|false=>.tuple
variable{a:V}{k:Bool}{l:Xd V}
theorem zjq(h:z4 s a=some (k,l)):ma s a=some (zqr k):=by
 cases a with
 |tup=>cases h;rfl
 |lst=>cases h;rfl
 |ref r =>
  have h:(match s.heap r with|some (.list l)=>some (true,l)|_=>none)=some (k,l):=h;show(match s.heap r with|some (.list _)=>some Tag.list|some (.dict _)=>some .dict|_=>none)=_;cases e:s.heap r with
  |none=>rw[e]at h;exact za h
  |some o =>
   rw[e]at h;cases o with
   |list m=>cases h;rfl
   |_=>exact za h
 |_=>exact za h
variable{g:Tag}
theorem zaq{v:V}(h:ma s v=some g)(k:Kind):b6 P s v k=u9 g k:=by
 cases v with
 |exc=>exact za h
 |ref r =>
  show(match ma s (.ref r)with|some g=>u9 g k|none=>none)=_;rw[h]
 |_=>cases h;rfl
theorem lq{v:V}{k:Kind}{t:Bool}(h:ma s v=some g)(hk:u9 g k=some t):kf P s v [k]=some t:=by
 rw[kf,zaq h,hk];cases t<;>rfl
theorem zyn{v:V}(h:ma s v=some (zqr k)):kf P s v [.list,.tuple]=some true:=by
 rw[kf,zaq h];cases k
 .show kf P s v [.tuple]=_;exact lq h rfl
 .rfl
theorem zdi:∀xs:Xd V,allTrue (xs.map λξ=>V.bool true)=some true
 | []=>rfl
 |x::r=>by rw[Zz,allTrue,zdi r];rfl
theorem y0(h:z4 s a=some (k,l)):zo6 a s=.ok (.int l.length) s:=by
 cases a with
 |tup=>cases h;rfl
 |lst=>cases h;rfl
 |ref r =>
  show(match z4 s (.ref r)with|some p=>Res.ok (V.int p.2.length) s|none=>.stuck)=_;rw[h]
 |_=>exact za h
theorem ux{due:Xv}(hf:P.fns f=some (lc f due))(n:Nat)(a b:V)(s:MS)(h:(∃x,a=.int x/\b=.int x)\/(∃x,a=.str x/\b=.str x)):run P (n+1) f [a,b] s=.ok (.bool true) s:=by
 refine qc (zm (fn:=lc f due) hf rfl ?_);rcases h with ⟨x,rfl,rfl⟩|⟨x,rfl,rfl⟩
 .exact zl (t:=false) rfl (ze (zl (t:=false) rfl (ze (zv (Qd (λt=>Res.ok (V.bool t) s) (Zb (rfl:x=x))) ⟨rfl,rfl⟩))))
 .exact zl (t:=false) rfl (ze (zl (t:=true) rfl (zv (Qd (λt=>Res.ok (V.bool t) s) (Zb (rfl:x=x))) ⟨rfl,rfl⟩)))
theorem za8{f:Nat}{due:Xv}(hf:P.fns f=some (lc f due)):∀(d n:Nat)(a b:V)(s:MS),kh s d a b->run P (n+d+1) f [a,b] s=.ok (.bool true) s
 |0,n,a,b,s,h=>ux hf n a b s h
 |d+1,n,a,b,s,h=>by
  rcases h with h|⟨k,la,lb,ha,hb,h0,h⟩
  .exact ux hf (n+(d+1)) a b s h
  .have hl:=h.len;have t1:=zjq ha;have t2:=zjq hb;refine qc (zm (fn:=lc f due) hf rfl ?_);refine zl (t:=true) (vz rfl (zyn t2)) (zl (t:=false) (s':=s) ?_ (ze (zl (t:=false) (s':=s) ?_ (ze (zt5 (R:=λv t=>v=.bool true/\t=s) ?_ λv t h=>h)))))
   .cases k
    .exact zn5 (t:=false) (u:=false) (jy (vz rfl (lq t2 rfl)) (vz rfl (lq t1 rfl)) rfl) λξ=>jy (vz rfl (lq t2 rfl)) (vz rfl (lq t1 rfl)) rfl
    .exact zn5 (t:=false) (u:=false) (jy (vz rfl (lq t2 rfl)) (vz rfl (lq t1 rfl)) rfl) λξ=>jy (vz rfl (lq t2 rfl)) (vz rfl (lq t1 rfl)) rfl
   .refine jy (j5 rfl (y0 ha)) (j5 rfl (y0 hb)) ?_;rw[hl,zxi];simp
   .refine zsm (R':=λv t=>v=.lst (((Xr lb.length).map λ(i:Nat)=>V.int i).map λξ=>.bool true)/\t=s) (zbr (j5 rfl (y0 hb)) (jt s lb.length (by lia) (by lia)) ?_) ?_
    .refine zlf (λξ=>.bool true) (zft ..) (by simp[zi];lia) ?_ ⟨rfl,rfl⟩;intro x hx;refine zd (Z1.1 hx) λi hi eq2=>?_;subst eq2;have hi:i<lb.length:=by simpa using hi
     exact bc (qb (zg (qk rfl rfl (li ha i (by lia))) (zg (qk rfl rfl (li hb i hi)) rfl)) (za8 hf d n _ _ s (h.get i (by lia) hi))) ⟨rfl,rfl⟩
    .rintro v t ⟨rfl,rfl⟩;exact bc (Qd (okB t) (zdi _)) ⟨rfl,rfl⟩
end Internal
end
section
namespace Internal
set_option genCtorIdx true in
inductive St where|here|owes|gone
 deriving DecidableEq
noncomputable def stS:St->Xd Nat
 |.here=>[104,101,114,101]
 |.owes=>[111,119,101,115]
 |.gone=>[103,111,110,101]
noncomputable abbrev q9:=Int×Int×Int
structure Row where
 st:St
 turn:Int
 amt:Int
 marks:Xd q9
noncomputable abbrev Key:=Xd Nat
noncomputable abbrev q6:=Xd (Key×Row)
set_option genCtorIdx true in
inductive Letter where
 |call (h c n:Int) (k:Key) (w:W)
 |parcel (h:Int) (k:Key) (t a:Int) (ms:Xd q9)
 |taken (h:Int) (k:Key) (t:Int)
 |answer (c n told:Int)
structure LRow where
 c:Int
 n:Int
 k:Key
 w:W
 told:Int
noncomputable def qt(m:q9):V:=.tup [.int m.1,.int m.2.1,.int m.2.2]
noncomputable def qz(ms:Xd q9):V:=.tup (ms.map qt)
noncomputable def zcn(r:Row):V:=.tup [.str (stS r.st),.int r.turn,.int r.amt,qz r.marks]
noncomputable def z9(k:q6):Xd (V×V):=k.map λp=>(.str p.1,zcn p.2)
noncomputable def zu:Letter->V
 |.call h c n k w=>.tup [.str [99,97,108,108],.int h,.int c,.int n,.str k,wv w]
 |.parcel h k t a ms=>.tup [.str [112,97,114,99,101,108],.int h,.str k,.int t,.int a,qz ms]
 |.taken h k t=>.tup [.str [116,97,107,101,110],.int h,.str k,.int t]
 |.answer c n told=>.tup [.str [97,110,115,119,101,114],.int c,.int n,.int told]
noncomputable def xl(r:LRow):V:=.tup [.int r.c,.int r.n,.str r.k,wv r.w,.int r.told]
noncomputable def qv(key:Key):q6->Xc Row
 | []=>none
 |(a,r)::l=>if a=key then some r else qv key l
noncomputable def qw(key:Key)(x:Row):q6->q6
 | []=>[(key,x)]
 |(a,r)::l=>if a=key then (a,x)::l else (a,r)::qw key x l
theorem yn(key:Key):∀k:q6,js (.str key) (z9 k)=(qv key k).map zcn
 | []=>rfl
 |(a,r)::l=>by
  by_cases h:a=key
  .rw[qv,Zg h];exact zaa (Zb h)
  .rw[qv,Zh h];exact(tq (a:=.str a) (k:=.str key) (Zc h)).trans (yn key l)
theorem vm(key:Key)(x:Row):∀k:q6,fx (.str key) (zcn x) (z9 k)=z9 (qw key x k)
 | []=>rfl
 |(a,r)::l=>by
  by_cases h:a=key
  .rw[qw,Zg h];exact zd1 (Zb h)
  .rw[qw,Zh h];exact(zac (a:=.str a) (k:=.str key) (Zc h)).trans (Qd (_::·) (vm key x l))
theorem da(key key':Key)(x:Row):∀k:q6,qv key' (qw key x k)=if key'=key then some x else qv key' k
 | []=>by
  by_cases h:key'=key
  .subst h;rw[Zg rfl];exact Zg rfl
  .rw[Zh h];exact Zh λe=>h e.symm
 |(a,r)::l=>by
  have ih:=da key key' x l;by_cases h1:a=key
  .subst h1;rw[qw,Zg rfl];by_cases h:key'=a
   .subst h;rw[Zg rfl];exact Zg rfl
   .rw[Zh h,qv,qv,Zh λe=>h e.symm,Zh λe=>h e.symm]
  .rw[qw,Zh h1,qv];by_cases h2:a=key'
   .subst h2;rw[Zg rfl,Zh h1,qv,Zg rfl]
   .rw[Zh h2,ih,qv,Zh h2]
theorem f9(key:Key)(x:Row):∀(k:q6)(r:Row),qv key k=some r->(qw key x k).map (·.1)=k.map (·.1)
 | [],_,h=>by cases h
 |(a,r')::l,r,h=>by
  by_cases h1:a=key
  .rw[qw,Zg h1];rfl
  .rw[qv,Zh h1]at h;rw[qw,Zh h1,Zz,Zz,f9 key x l r h]
theorem rh{key:Key}{x:Row}:∀{k:q6}{p:Key×Row},p∈qw key x k->p=(key,x)\/p∈k
 | [],p,h=>by
  rcases Zu.1 h with h|h
  .exact .inl h
  .cases h
 |(a,r)::l,p,h=>by
  by_cases h1:a=key
  .rw[qw,Zg h1]at h;rcases Zu.1 h with h|h
   .rw[h1]at h;exact .inl h
   .exact .inr (Zk _ h)
  .rw[qw,Zh h1]at h;rcases Zu.1 h with h|h
   .exact .inr (h▸Zm ..)
   .exact(rh h).imp id (Zk _)
theorem b8{key:Key}:∀{k:q6}{r:Row},qv key k=some r->(key,r)∈k
 | [],_,h=>by cases h
 |(a,r')::l,r,h=>by
  by_cases h1:a=key
  .rw[qv,Zg h1]at h;cases h;subst h1;exact Zm ..
  .rw[qv,Zh h1]at h;exact Zk _ (b8 h)
theorem n8{key:Key}:∀{k:q6},key∈k.map (·.1)->∃r,qv key k=some r
 | [],h=>by cases h
 |(a,r')::l,h=>by
  by_cases h1:a=key
  .exact⟨r',Zg h1⟩
  .rcases Zu.1 h with h|h
   .exact(h1 h.symm).elim
   .refine zr (n8 h) λr hr=>?_;exact⟨r,(Zh h1).trans hr⟩
noncomputable def vq(c:Int):Xd q9->Xc (Int×Int)
 | []=>none
 |m::l=>if m.1=c then some m.2 else vq c l
noncomputable def mins(x:q9):Xd q9->Xd q9
 | []=>[x]
 |m::l=>if x.1<m.1 then x::m::l else m::mins x l
noncomputable def dh(x:q9)(ms:Xd q9):Xd q9:=mins x (ms.filter λm=>!decide (m.1=x.1))
noncomputable def Up(a:Int):Xd q9->Prop
 | []=>True
 |m::l=>a<=m.1/\m.1<6/\Up (m.1+1) l
noncomputable def MOk(ms:Xd q9):Prop:=Up 0 ms
theorem Up.le{a b:Int}(h:a<=b):∀{ms:Xd q9},Up b ms->Up a ms
 | [],_=>trivial
 |m::l,⟨h1,h2,h3⟩=>⟨Qo h h1,h2,h3⟩
theorem Up.len:∀{ms:Xd q9}{a:Int},0<=a->a<=6->Up a ms->(ms.length:Int)<=6-a
 | [],a,h0,h6,_=>by show(0:Int)<=_;lia
 |m::l,a,h0,h6,⟨h1,h2,h3⟩=>by
  have:=Up.len (a:=m.1+1) (by lia) (by lia) h3;rw[Z4];lia
theorem Up.filter(p:q9->Bool):∀{ms:Xd q9}{a:Int},Up a ms->Up a (ms.filter p)
 | [],_,_=>trivial
 |m::l,a,⟨h1,h2,h3⟩=>by
  rw[List.filter_cons];split
  .exact⟨h1,h2,Up.filter p h3⟩
  .exact(Up.filter p h3).le (by lia)
theorem Up.mem:∀{ms:Xd q9}{a:Int},Up a ms->∀m∈ms,a<=m.1
 | [],_,_,m,h=>by cases h
 |x::l,a,⟨h1,h2,h3⟩,m,h=>by
  rcases Zu.1 h with rfl|h
  .exact h1
  .have:=Up.mem h3 m h;lia
set_option tactic.hygienic true in
theorem Up.mins{x:q9}:∀{ms:Xd q9}{a:Int},Up a ms->(∀m∈ms,m.1≠x.1)->a<=x.1->x.1<6->Up a (mins x ms)
 | [],a,_,_,h1,h2=>⟨h1,h2,trivial⟩
 |m::l,a,⟨g1,g2,g3⟩,hn,h1,h2=>by
  have hm:=hn m (Zm ..);rw[Internal.mins];split
  .rename_i h;exact⟨h1,h2,by lia,g2,g3⟩
  .rename_i h;exact⟨g1,g2,Up.mins g3 (λy hy=>hn y (Zk _ hy)) (by lia) h2⟩
theorem gb(ms:Xd q9)(c:Int):∀m∈ms.filter λm=>!decide (m.1=c),m.1≠c:=λm h=>by
 have:=(Q3.1 h).2;simpa using this
variable{ms:Xd q9}{x:q9}
theorem MOk.put(h:MOk ms)(h0:0<=x.1)(h6:x.1<6):MOk (dh x ms) :=
 Up.mins (Up.filter _ h) (gb ms x.1) h0 h6
theorem Up.rising:∀{ms:Xd q9}{a:Int},Up a ms->Internal.rising (ms.map (·.1))=true
 | [],_,_=>rfl
 | [m],_,_=>rfl
 |m::m'::l,a,⟨_,_,h⟩=>by
  have hr:=Up.rising h;show(decide (m.1<m'.1)&&Internal.rising (m'.1::l.map (·.1)))=true;rw[Zb (by have:=h.1;omega)];exact hr
theorem rg:∀ms:Xd q9,(ms.map qt).mapM jo=some (ms.map (·.1))
 | []=>rfl
 |m::l=>by rw[Zz,List.mapM_cons,rg l];rfl
theorem zet(L:Xd V):∀(n k:Nat),k+n<=L.length->(Xr n).map (λi=>L.getD (k+i) .none)=(L.drop k).take n:=λn k h=>by
 refine List.ext_getElem? λi=>?_;by_cases hi:i<n
 .rw[Jq,List.getElem?_range hi,List.getElem?_take,Zg hi,List.getElem?_drop];show some (L.getD (k+i) .none)=_;rw[J1,Zl (by lia)];rfl
 .rw[List.getElem?_eq_none (by rw[Zd,Zx];lia),List.getElem?_take,Zh hi]
theorem ze1(x:q9):∀ms:Xd q9,vj x.1 (ms.map (·.1))<=ms.length/\mins x ms=ms.take (vj x.1 (ms.map (·.1)))++x::ms.drop (vj x.1 (ms.map (·.1)))
 | []=>⟨Zs _,rfl⟩
 |m::l=>by
  refine zn (ze1 x l) λh1 h2=>?_;rw[Zz,vj,mins];split
  .exact⟨Ql _,rfl⟩
  .exact⟨Qp h1,Qd (m::·) h2⟩
theorem zek(x:q9)(ms:Xd q9):(uv ms.length (vj x.1 (ms.map (·.1)))).map (λi=>(ms.map qt++[qt x]).getD i .none)=(mins x ms).map qt:=by
 refine zn (ze1 x ms) λh1 h2=>?_;rw[h2];generalize vj x.1 (ms.map (·.1))=p at h1;have hl:(ms.map qt).length=ms.length:=Zd ..;have e1:=zet (ms.map qt++[qt x]) p 0 (by rw[Zf,hl];lia);have e2:=zet (ms.map qt++[qt x]) (ms.length-p) p (by rw[Zf,hl];show p+_<=_+1;lia);have e3:(ms.map qt++[qt x]).getD ms.length .none=qt x:=by
  rw[J1,Ju (by lia),hl,Nat.sub_self];rfl
 rw[uv,Qb,Zz,Qg,e3,Qb,Zz];congr 1
 .refine Eq.trans (Jw λi ξ=>by rw[Jo]) (e1.trans ?_);rw[List.drop_zero,List.take_append_of_le_length (by lia),List.map_take]
 .congr 1;refine e2.trans ?_;rw[List.drop_append_of_le_length (by lia),List.take_append_of_le_length (by rw[Js];lia),List.take_of_length_le (by rw[Js];lia),List.map_drop]
theorem zc3(h:Up 0 ms)(hn:∀m∈ms,m.1≠x.1)(h0:0<=x.1)(h6:x.1<6):x9 (ms.map qt++[qt x])=some ((mins x ms).map qt):=by
 have hl:((mins x ms).length:Int)<=6:=by have:=Up.len (by lia) (by lia) (Up.mins h hn h0 h6);lia
 have hlen:∀ms:Xd q9,(mins x ms).length=ms.length+1:=by
  intro ms
  induction ms with
  |nil=>rfl
  |cons m l ih=>rw[mins];split;rfl;rw[Z4,ih];rfl
 rw[hlen]at hl;have e:(ms.map qt++[qt x]).reverse=qt x::(ms.map qt).reverse:=by rw[List.reverse_append];rfl
 rw[x9,e];dsimp only;rw[List.reverse_reverse,rg];show(if (rising (ms.map (·.1))&&!(ms.map (·.1)).contains x.1&&decide ((ms.map qt++[qt x]).length<=6))=true then some ((uv (ms.map (·.1)).length (vj x.1 (ms.map (·.1)))).map λi=>(ms.map qt++[qt x]).getD i .none) else none)=_;rw[Zd,zek,h.rising,Zb (by rw[Zf,Zd];show ms.length+1<=6;lia)];have hc:(ms.map (·.1)).contains x.1=false:=by
  cases q:(ms.map (·.1)).contains x.1 with
  |false=>rfl
  |true =>
   rw[Q7]at q;refine zd (Z1.1 q) λm hm e=>?_;exact(hn m hm e).elim
 rw[hc];rfl
structure HS where
 num:Int
 known:q6
 written:q6
 laid:Xd Letter
 fresh:Xd LRow
noncomputable def HS.has(h:HS)(key:Key):Bool:=match qv key h.known with
 |some r=>decide (r.st=.here)
 |none=>false
noncomputable def HS.owes(h:HS):Xd Key:=(h.known.filter λp=>decide (p.2.st=.owes)).map (·.1)
noncomputable def jc(num:Int)(key:Key)(r:Row):Letter:=.parcel (1-num) key (r.turn+1) r.amt r.marks
noncomputable def HS.nudge(h:HS):Xd Letter:=(h.written.filter λp=>decide (p.2.st=.owes)).map λp=>jc h.num p.1 p.2
noncomputable def HS.move(h:HS)(key:Key)(r:Row):HS:={h with known:=qw key {r with st:=.owes} h.known,laid:=h.laid++[jc h.num key r]}
noncomputable def HS.write(h:HS):HS:={h with written:=h.known,laid:=[],fresh:=[]}
noncomputable def HS.sleep(h:HS):HS:={h with known:=h.written,laid:=[],fresh:=[]}
noncomputable def HS.again(h:HS)(c n told:Int):HS:={h with laid:=h.laid++[.answer c n told]}
noncomputable def HS.first(h:HS)(c n:Int)(key:Key)(w:W)(r:Row):HS :=
 {h with known:=qw key ⟨.here,r.turn,(dn r.amt w).1,dh (c,n,(dn r.amt w).2) r.marks⟩ h.known,laid:=h.laid++[.answer c n (dn r.amt w).2],fresh:=h.fresh++[⟨c,n,key,w,(dn r.amt w).2⟩]}
noncomputable def HS.called(h:HS)(c n:Int)(key:Key)(w:W)(r:Row):HS:=match vq c r.marks with
 |some p=>if n<p.1 then h else if p.1=n then h.again c n p.2 else h.first c n key w r
 |none=>h.first c n key w r
noncomputable def HS.came(h:HS):Letter->HS
 |.call _ c n key w=>(match qv key h.known with
  |some r=>if r.st=.here then h.called c n key w r else h
  |none=>h)
 |.parcel _ key t a ms=>(match qv key h.known with
  |some r=>{h with known:=if r.turn<t then qw key ⟨.here,t,a,ms⟩ h.known else h.known,laid:=h.laid++[.taken (1-h.num) key t]}
  |none=>h)
 |.taken _ key t=>(match qv key h.known with
  |some r=>if r.st=.owes/\t=r.turn+1 then {h with known:=qw key ⟨.gone,r.turn,0,[]⟩ h.known} else h
  |none=>h)
 |.answer _ _ _=>h
section
variable {h:HS}{hh c n tn am:Int}{key:Key}{w:W}{r:Row}{ms:Xd q9}
theorem g8(hk:qv key h.known=some r):h.came (.call hh c n key w)=if r.st=.here then h.called c n key w r else h:=by delta HS.came;dsimp only;rw[hk]
theorem w3(hk:qv key h.known=some r):h.came (.parcel hh key tn am ms)={h with known:=if r.turn<tn then qw key ⟨.here,tn,am,ms⟩ h.known else h.known,laid:=h.laid++[.taken (1-h.num) key tn]}:=by delta HS.came;dsimp only;rw[hk]
theorem uy(hk:qv key h.known=some r):h.came (.taken hh key tn)=if r.st=.owes/\tn=r.turn+1 then {h with known:=qw key ⟨.gone,r.turn,0,[]⟩ h.known} else h:=by delta HS.came;dsimp only;rw[hk]
end
noncomputable def HS.new(num:Int)(keys:Xd Key):HS :=
 let k:q6:=keys.foldl (λk key=>qw key (if num=0 then ⟨.here,0,0,[]⟩ else ⟨.gone,-1,0,[]⟩) k) []
 ⟨num,k,k,[],[]⟩
end Internal
end
section
namespace Internal
noncomputable def f_done:Fn:=⟨2,["amount","wish"],[.ite (.cmp (.sub (.loc 1) (.int 0)) .eq (.str [115,101,116])) [.ret (some (.tup [.sub (.loc 1) (.int 1),.loc 0]))] [],.ite (.cmp (.sub (.loc 1) (.int 0)) .eq (.str [97,100,100])) [.ret (some (.tup [.bin .add (.loc 0) (.sub (.loc 1) (.int 1)),.bin .add (.loc 0) (.sub (.loc 1) (.int 1))]))] [],.ret (some (.tup [.loc 0,.loc 0]))]⟩
noncomputable def zi9:Xd S:=[.setitem (.attr (.loc 0) 4) (.loc 3) (.tup [.str [104,101,114,101],.int 0,.int 0,.tup []]),.ite (.cmp (.loc 1) .ne (.int 0)) [.setitem (.attr (.loc 0) 4) (.loc 3) (.tup [.str [103,111,110,101],.neg (.int 1),.int 0,.tup []])] []]
noncomputable def zu0:Xd S:=[.setattr (.loc 0) 5 (.dictC 5 (.attr (.loc 0) 4)),.setattr (.loc 0) 6 (.lstM 6 []),.setattr (.loc 0) 7 (.lstM 7 [])]
noncomputable def u5:Fn:=⟨3,["self","number","keys","key"],.setattr (.loc 0) 0 (.loc 1)::.setattr (.loc 0) 4 (.dictM 4 [] [])::.for_ (.inl (.loc 3)) false (.loc 2) zi9::zu0⟩
noncomputable def f_House_has:Fn:=⟨2,["self","key"],[.ret (some (.and [.cmp (.loc 1) .isin (.attr (.loc 0) 4),.cmp (.sub (.sub (.attr (.loc 0) 4) (.loc 1)) (.int 0)) .eq (.str [104,101,114,101])]))]⟩
noncomputable def f_House_owes:Fn:=⟨1,["self",""],[.ret (some (.comp (some 14) 1 false (.attr (.loc 0) 4) (some (.cmp (.sub (.sub (.attr (.loc 0) 4) (.loc 1)) (.int 0)) .eq (.str [111,119,101,115]))) (.loc 1)))]⟩
noncomputable def f_House_came:Fn:=⟨2,["self","letter","one"],[.ite (.cmp (.sub (.loc 1) (.int 0)) .eq (.str [99,97,108,108])) [.ite (.meth (.loc 0) 0 [.sub (.loc 1) (.int 4)]) [.expr (.meth (.loc 0) 3 [.sub (.loc 1) (.int 2),.sub (.loc 1) (.int 3),.sub (.loc 1) (.int 4),.sub (.loc 1) (.int 5)])] []] [.ite (.cmp (.sub (.loc 1) (.int 0)) .eq (.str [112,97,114,99,101,108])) [.ite (.cmp (.sub (.loc 1) (.int 3)) .gt (.sub (.sub (.attr (.loc 0) 4) (.sub (.loc 1) (.int 2))) (.int 1))) [.setitem (.attr (.loc 0) 4) (.sub (.loc 1) (.int 2)) (.tup [.str [104,101,114,101],.sub (.loc 1) (.int 3),.sub (.loc 1) (.int 4),.sub (.loc 1) (.int 5)])] [],.expr (.bm .append (.attr (.loc 0) 6) [.tup [.str [116,97,107,101,110],.bin .sub (.int 1) (.attr (.loc 0) 0),.sub (.loc 1) (.int 2),.sub (.loc 1) (.int 3)]])] [.assign 2 (.sub (.attr (.loc 0) 4) (.sub (.loc 1) (.int 2))),.ite (.and [.cmp (.sub (.loc 2) (.int 0)) .eq (.str [111,119,101,115]),.cmp (.sub (.loc 1) (.int 3)) .eq (.bin .add (.sub (.loc 2) (.int 1)) (.int 1))]) [.setitem (.attr (.loc 0) 4) (.sub (.loc 1) (.int 2)) (.tup [.str [103,111,110,101],.sub (.loc 2) (.int 1),.int 0,.tup []])] []]]]⟩
noncomputable def zvk:Xd S:=[.ite (.and [.cmp (.sub (.loc 6) (.int 0)) .eq (.loc 1),.cmp (.sub (.loc 6) (.int 1)) .gt (.loc 2)]) [.ret none] [],.ite (.and [.cmp (.sub (.loc 6) (.int 0)) .eq (.loc 1),.cmp (.sub (.loc 6) (.int 1)) .eq (.loc 2)]) [.expr (.bm .append (.attr (.loc 0) 6) [.tup [.str [97,110,115,119,101,114],.loc 1,.loc 2,.sub (.loc 6) (.int 2)]]),.ret none] []]
noncomputable def zxj:Xd S:=[.assign 7 (.call 2 [.sub (.loc 5) (.int 2),.loc 4]),.assign 8 (.bin .add (.comp none 9 false (.sub (.loc 5) (.int 3)) (some (.cmp (.sub (.loc 9) (.int 0)) .ne (.loc 1))) (.loc 9)) (.lst [.tup [.loc 1,.loc 2,.sub (.loc 7) (.int 1)]])),.setitem (.attr (.loc 0) 4) (.loc 3) (.tup [.str [104,101,114,101],.sub (.loc 5) (.int 1),.sub (.loc 7) (.int 0),.prim .tuple1 [.prim .sorted [.loc 8]]]),.expr (.bm .append (.attr (.loc 0) 6) [.tup [.str [97,110,115,119,101,114],.loc 1,.loc 2,.sub (.loc 7) (.int 1)]]),.expr (.bm .append (.attr (.loc 0) 7) [.tup [.loc 1,.loc 2,.loc 3,.loc 4,.sub (.loc 7) (.int 1)]])]
noncomputable def wm:Fn:=⟨5,["self","caller","number","key","wish","one","mark","pair","marks",""],.assign 5 (.sub (.attr (.loc 0) 4) (.loc 3))::.for_ (.inl (.loc 6)) false (.sub (.loc 5) (.int 3)) zvk::zxj⟩
noncomputable def f_House_parcel:Fn:=⟨3,["self","key","one"],[.ret (some (.tup [.str [112,97,114,99,101,108],.bin .sub (.int 1) (.attr (.loc 0) 0),.loc 1,.bin .add (.sub (.loc 2) (.int 1)) (.int 1),.sub (.loc 2) (.int 2),.sub (.loc 2) (.int 3)]))]⟩
noncomputable def f_House_move(xc:Nat):Fn:=⟨2,["self","key","one"],[.ite (.not (.meth (.loc 0) 0 [.loc 1])) [.raise xc] [],.assign 2 (.sub (.attr (.loc 0) 4) (.loc 1)),.setitem (.attr (.loc 0) 4) (.loc 1) (.tup [.str [111,119,101,115],.sub (.loc 2) (.int 1),.sub (.loc 2) (.int 2),.sub (.loc 2) (.int 3)]),.expr (.bm .append (.attr (.loc 0) 6) [.meth (.loc 0) 4 [.loc 1,.loc 2]])]⟩
noncomputable def f_House_write:Fn:=⟨1,["self","found"],[.setattr (.loc 0) 5 (.dictC 5 (.attr (.loc 0) 4)),.assign 1 (.tup [.attr (.loc 0) 6,.attr (.loc 0) 7]),.setattr (.loc 0) 6 (.lstM 6 []),.setattr (.loc 0) 7 (.lstM 7 []),.ret (some (.loc 1))]⟩
noncomputable def f_House_sleep:Fn:=⟨1,["self"],[.setattr (.loc 0) 4 (.dictC 4 (.attr (.loc 0) 5)),.setattr (.loc 0) 6 (.lstM 6 []),.setattr (.loc 0) 7 (.lstM 7 [])]⟩
noncomputable def f_House_nudge:Fn:=⟨1,["self",""],[.ret (some (.comp none 1 false (.attr (.loc 0) 5) (some (.cmp (.sub (.sub (.attr (.loc 0) 5) (.loc 1)) (.int 0)) .eq (.str [111,119,101,115]))) (.meth (.loc 0) 4 [.loc 1,.sub (.attr (.loc 0) 5) (.loc 1)])))]⟩
structure HouseP(P:Prog):Prop where
 done:P.fns 2=some f_done
 init:P.fns 20=some u5
 has:P.fns 21=some f_House_has
 came:P.fns 23=some f_House_came
 called:P.fns 24=some wm
 parcel:P.fns 25=some f_House_parcel
 mhas:P.meths 1 0=some 21
 mowes:P.meths 1 1=some 22
 mcame:P.meths 1 2=some 23
 mcalled:P.meths 1 3=some 24
 mparcel:P.meths 1 4=some 25
noncomputable def Fr(F:Lbl->Prop)(s s':MS):Prop:=(∀l:Lbl,l.2<s.cnt l.1->¬F l->s'.heap l=s.heap l)/\∀k,s.cnt k<=s'.cnt k
theorem Fr.refl(F:Lbl->Prop)(s:MS):Fr F s s:=⟨λξ ξ ξ=>rfl,λξ=>Zs _⟩
variable{F:Lbl->Prop}{s s':MS}
theorem Fr.trans{s'':MS}(a:Fr F s s')(b:Fr F s' s''):Fr F s s'' :=
 ⟨λl h n=>(b.1 l (Zi h (a.2 l.1)) n).trans (a.1 l h n),λk=>Zp (a.2 k) (b.2 k)⟩
theorem Fr.mono{G:Lbl->Prop}(a:Fr F s s')(h:∀l,F l->G l):Fr G s s':=⟨λl hl n=>a.1 l hl λq=>n (h l q),a.2⟩
theorem Fr.put(a:Fr F s s'){l:Lbl}(h:F l)(o:MObj):Fr F s (s'.put l o) :=
 ⟨λx hx n=>(yd λ(e:x=l)=>n (e.symm▸h)).trans (a.1 x hx n),a.2⟩
noncomputable def At1(l:Lbl):Lbl->Prop:=λx=>x=l
theorem at1(l:Lbl):At1 l l:=rfl
set_option tactic.hygienic true in
theorem zsk(s:MS)(k:Nat)(o:MObj)(j:Nat):s.cnt j<=(s.new k o).cnt j:=by
 show s.cnt j<=if j=k then s.cnt k+1 else s.cnt j;split
 .rename_i e;subst e;exact Zw _
 .exact Zs _
theorem mz(s:MS)(k:Nat)(o:MObj):(s.new k o).cnt k=s.cnt k+1:=Zg rfl
theorem Fr.new(a:Fr F s s')(k:Nat)(o:MObj):Fr F s (s'.new k o) :=
 ⟨λx hx n=>(zcd λe=>by
   have h1:=a.2 x.1;rw[e]at h1 hx;exact Nat.lt_irrefl _ (Zi hx h1)).trans (a.1 x hx n),λj=>Zp (a.2 j) (zsk s' k o j)⟩
structure HIx where
 k:Nat
 w:Nat
 la:Nat
 fr:Nat
noncomputable def kc(num:Int)(x:HIx):MObj:=.inst 1 [(0,.int num),(4,.ref (4,x.k)),(5,.ref (5,x.w)),(6,.ref (6,x.la)),(7,.ref (7,x.fr))]
structure HAt(s:MS)(i:Nat)(x:HIx)(h:HS):Prop where
 o:s.heap (2,i)=some (kc h.num x)
 k:s.heap (4,x.k)=some (.dict (z9 h.known))
 w:s.heap (5,x.w)=some (.dict (z9 h.written))
 la:s.heap (6,x.la)=some (.list (h.laid.map zu))
 fr:s.heap (7,x.fr)=some (.list (h.fresh.map xl))
 io:i<s.cnt 2
 ik:x.k<s.cnt 4
 iw:x.w<s.cnt 5
 il:x.la<s.cnt 6
 ir:x.fr<s.cnt 7
noncomputable def HF(i:Nat)(x:HIx)(l:Lbl):Prop:=l=(2,i)\/l=(4,x.k)\/l=(5,x.w)\/l=(6,x.la)\/l=(7,x.fr)
variable{i:Nat}{x:HIx}{h:HS}
theorem HAt.step(a:HAt s i x h)(f:Fr F s s')(n:∀l,HF i x l->¬F l):HAt s' i x h where
 o:=(f.1 _ a.io (n _ (.inl rfl))).trans a.o
 k:=(f.1 _ a.ik (n _ (.inr (.inl rfl)))).trans a.k
 w:=(f.1 _ a.iw (n _ (.inr (.inr (.inl rfl))))).trans a.w
 la:=(f.1 _ a.il (n _ (.inr (.inr (.inr (.inl rfl)))))).trans a.la
 fr:=(f.1 _ a.ir (n _ (.inr (.inr (.inr (.inr rfl)))))).trans a.fr
 io:=Zi a.io (f.2 2)
 ik:=Zi a.ik (f.2 4)
 iw:=Zi a.iw (f.2 5)
 il:=Zi a.il (f.2 6)
 ir:=Zi a.ir (f.2 7)
theorem HAt.laid(a:HAt s i x h)(l:Xd Letter):HAt (s.put (6,x.la) (.list (l.map zu))) i x {h with laid:=l} :=
 ⟨(zo (by rfl)).trans a.o,(zo (by rfl)).trans a.k,(zo (by rfl)).trans a.w,zh _ _ _,(zo (by rfl)).trans a.fr,a.io,a.ik,a.iw,a.il,a.ir⟩
theorem HAt.fresh(a:HAt s i x h)(l:Xd LRow):HAt (s.put (7,x.fr) (.list (l.map xl))) i x {h with fresh:=l} :=
 ⟨(zo (by rfl)).trans a.o,(zo (by rfl)).trans a.k,(zo (by rfl)).trans a.w,(zo (by rfl)).trans a.la,zh _ _ _,a.io,a.ik,a.iw,a.il,a.ir⟩
theorem HAt.known(a:HAt s i x h)(k:q6):HAt (s.put (4,x.k) (.dict (z9 k))) i x {h with known:=k} :=
 ⟨(zo (by rfl)).trans a.o,zh _ _ _,(zo (by rfl)).trans a.w,(zo (by rfl)).trans a.la,(zo (by rfl)).trans a.fr,a.io,a.ik,a.iw,a.il,a.ir⟩
theorem HAt.laid1(a:HAt s i x h)(L:Letter):HAt (s.put (6,x.la) (.list (h.laid.map zu++[zu L]))) i x {h with laid:=h.laid++[L]}:=by
 have:=a.laid (h.laid++[L])
 rwa [Qb]at this
theorem HAt.fresh1(a:HAt s i x h)(L:LRow):HAt (s.put (7,x.fr) (.list (h.fresh.map xl++[xl L]))) i x {h with fresh:=h.fresh++[L]}:=by
 have:=a.fresh (h.fresh++[L])
 rwa [Qb]at this
structure HZ(h:HS):Prop where
 la:h.laid.length<16777000
 fr:h.fresh.length<16777000
 k:h.known.length<1000
 w:h.written.length<1000
noncomputable def KOk(k:q6):Prop:=∀p∈k,MOk p.2.marks
section
variable {P:Prog} (H:HouseP P) {n i:Nat}{x:HIx}{s:MS}{h:HS}{key:Key}{r:Row}
variable{α:Type}
theorem ua{f:α->V}{l:Xd α}(h:l.length<16777000):(l.map f).length<16777216:=by rw[Zd];lia
variable{k:q6}
theorem ur(h:k.length<1000):(z9 k).length<16777216:=by rw[z9,Zd];lia
theorem mj(h:k.length<1000):(z9 k).length<=1000:=by rw[z9,Zd];lia
theorem zt4(st:St):decide (stS st=[104,101,114,101])=decide (st=.here):=by cases st<;>rfl
theorem fg(st:St):decide (stS st=[111,119,101,115])=decide (st=.owes):=by cases st<;>rfl
theorem du(hk:qv key h.known=some r):js (.str key) (z9 h.known)=some (.tup [.str (stS r.st),.int r.turn,.int r.amt,qz r.marks]):=by
 rw[yn,hk];rfl
variable{s:MS}
theorem zxh{l:Lbl}{d:Xd (V×V)}(h:s.heap l=some (.dict d))(key:Key):cmpOp .isin (.str key) (.ref l) s=.ok (.bool (js (.str key) d).isSome) s:=by
 have e:cmpOp.memb (.str key) (.ref l) s=some (js (.str key) d).isSome:=by
  delta cmpOp.memb z4;dsimp only;rw[h];rfl
 show okB s (cmpOp.memb (.str key) (.ref l) s)=_;rw[e];rfl
include H
theorem zqe(n:Nat)(a:Int)(w:W)(s:MS):run P (n+1) 2 [.int a,wv w] s=.ok (.tup [.int (dn a w).1,.int (dn a w).2]) s:=by
 refine qc (zm H.done rfl ?_);cases w with
 |get=>exact zl (t:=false) rfl (ze (zl (t:=false) rfl (ze (zv rfl ⟨rfl,rfl⟩))))
 |set j=>exact zl (t:=true) rfl (zv rfl ⟨rfl,rfl⟩)
 |add j=>exact zl (t:=false) rfl (ze (zl (t:=true) rfl (zv rfl ⟨rfl,rfl⟩)))
theorem bf(n:Nat)(a:HAt s i x h)(key:Key):run P (n+1) 21 [.ref (2,i),.str key] s=.ok (.bool (h.has key)) s:=by
 refine qc (zm H.has rfl ?_);obtain⟨ho,hk,-⟩:=a;have hin:ev P (run P n) (.cmp (.loc 1) .isin (.attr (.loc 0) 4)) [some (.ref (2,i)),some (.str key)] s=.ok (.bool (js (.str key) (z9 h.known)).isSome) s :=
  jy rfl (by (repeat' first|exact rfl|apply z3|exact qh (by assumption) rfl)) (zxh hk key)
 rw[yn]at hin;unfold HS.has;cases e:qv key h.known with
 |none =>
  rw[e]at hin;exact zv (ug hin) ⟨rfl,rfl⟩
 |some r =>
  rw[e]at hin;have hd:=du e;refine zv (ke hin (vf (by (repeat' first|exact rfl|apply z3|apply qk|apply jy|exact qh (by assumption) rfl|exact q8 _ _ _ _ _ (by assumption) (by first|exact rfl|assumption))))) ⟨Qd V.bool (zt4 r.st),rfl⟩
variable{num:Int}
theorem ao(n:Nat)(ho:s.heap (2,i)=some (kc num x))(key:Key)(r:Row):
  run P (n+1) 25 [.ref (2,i),.str key,.tup [.str (stS r.st),.int r.turn,.int r.amt,qz r.marks]] s=.ok (zu (jc num key r)) s:=by
 refine qc (zm H.parcel rfl ?_);exact zv (by (repeat' first|exact rfl|apply z3|apply kb|apply p4|apply zg|exact qh (by assumption) rfl)) ⟨rfl,rfl⟩
omit H
noncomputable def yu(c:Int)(ms:Xd q9):Xd q9:=ms.filter λm=>!decide (m.1=c)
noncomputable def zpn(c:Int)(m:V):Bool:=match m with|.tup [.int a,_,_]=>!decide (a=c)|_=>false
theorem u7(c:Int):∀ms:Xd q9,(ms.map qt).filter (zpn c)=(yu c ms).map qt
 | []=>rfl
 |m::l=>by
  rw[yu,Zz,List.filter_cons,List.filter_cons];show(if (!decide (m.1=c))=true then _ else _)=_;rw[u7 c l,yu];split<;>rfl
theorem ls{f:α->V}{l:Xd α}{v:V}(h:v∈l.map f):∃a,a∈l/\v=f a:=by
 refine zd (Z1.1 h) λa h1 h2=>?_;exact⟨a,h1,h2.symm⟩
variable{ms:Xd q9}
theorem zpc(h:MOk ms):ms.length<=6:=by have:=Up.len (by lia) (by lia) h;lia
variable{c:Int}
theorem fh{n t:Int}(h:MOk ms)(h0:0<=c)(h6:c<6):
  prim .sorted [.lst ((yu c ms).map qt++[.tup [.int c,.int n,.int t]])] s=.ok (.lst ((dh (c,n,t) ms).map qt)) s:=by
 have e:x9 ((yu c ms).map qt++[V.tup [.int c,.int n,.int t]])=some ((dh (c,n,t) ms).map qt):=zc3 (x:=(c,n,t)) (Up.filter _ h) (gb ms c) h0 h6;show(match x9 ((yu c ms).map qt++[V.tup [.int c,.int n,.int t]])with|some m=>Res.ok (V.lst m) s|none=>.stuck)=_;rw[e]
noncomputable def MI(c n:Int)(all rem:Xd q9):Prop:=vq c all=vq c rem\/(∃p,vq c all=some p/\p.1<n/\∀x∈rem,x.1≠c)
variable{rem:Xd q9}{m:q9}
theorem MI.next{n:Int}{all:Xd q9}(h:MI c n all (m::rem))(hc:m.1≠c):MI c n all rem:=by
 rcases h with h|⟨p,h1,h2,h3⟩
 .rw[vq,Zh hc]at h;exact .inl h
 .exact .inr ⟨p,h1,h2,λx hx=>h3 x (Zk _ hx)⟩
theorem MI.here{n:Int}{all:Xd q9}(h:MI c n all (m::rem))(hc:m.1=c):vq c all=some m.2:=by
 rcases h with h|⟨p,h1,h2,h3⟩
 .rw[vq,Zg hc]at h;exact h
 .exact(h3 m (Zm ..) hc).elim
theorem zue{a:Int}(h:Up a (m::rem))(hc:m.1=c):∀x∈rem,x.1≠c:=λx hx e=>by
 have:=Up.mem h.2.2 x hx;lia
include H
omit H
variable{w:W}
theorem zgg{n:Int}{p:Int×Int}(e:vq c r.marks=some p)(hn:n<p.1):h.called c n key w r=h:=by
 delta HS.called;rw[e];exact Zg hn
theorem zdu{n:Int}{p:Int×Int}(e:vq c r.marks=some p)(hn:p.1=n):h.called c n key w r=h.again c n p.2:=by
 delta HS.called;rw[e];exact(Zh (by omega)).trans (Zg hn)
theorem zgf{n:Int}(e:MI c n r.marks []):h.called c n key w r=h.first c n key w r:=by
 delta HS.called;rcases e with e|⟨p,e,q,-⟩
 .rw[e];rfl
 .rw[e];exact(Zh (by omega)).trans (Zh (by omega))
theorem MI.more{n:Int}{all:Xd q9}{b:Int}(h:MI c n all (m::rem))(u:Up b (m::rem))(k:m.1=c->m.2.1<n):MI c n all rem:=by
 by_cases hc:m.1=c
 .exact .inr ⟨_,h.here hc,k hc,zue u hc⟩
 .exact h.next hc
variable{C:Calls}{l:Loc}
theorem zn1{a b:E}{q:Lbl}{xs:Xd V}{v:V}(h1:ev P C a l s=.ok (.ref q) s)(h2:s.heap q=some (.list xs))(h3:ev P C b l s=.ok v s)(h4:xs.length<16777216):ev P C (.bm .append a [b]) l s=.ok .none (s.put q (.list (xs++[v]))) :=
 v6 h1 (qy h2) (zg h3 rfl) (je _ _ _ _ h2 h4)
noncomputable def zdq(i:Nat)(c num:Int)(key:Key)(w:W)(r:Row)(y:Xc V):Loc:=[some (.ref (2,i)),some (.int c),some (.int num),some (.str key),some (wv w),some (.tup [.str (stS r.st),.int r.turn,.int r.amt,qz r.marks]),y,none,none,none]
variable{Q:Fl×Loc->MS->Prop}
theorem zdw(a:HAt s i x h)(hl:(h.laid.map zu).length<16777216)(k1:m.1=c->num<m.2.1->Q (.ret .none,zdq i c num key w r (some (qt m))) s)(k2:m.1=c->m.2.1=num->Q (.ret .none,zdq i c num key w r (some (qt m))) (s.put (6,x.la) (.list (h.laid.map zu++[zu (.answer c num m.2.2)]))))(k3:(m.1=c->m.2.1<num)->Q (.next,zdq i c num key w r (some (qt m))) s):
  OkR (exs P C n zvk (zdq i c num key w r (some (qt m))) s) Q:=by
 have hb:∀{b t:Bool},b=t->Res.ok (V.bool b) s=.ok (V.bool t) s:=λe=>e▸rfl;by_cases hc:m.1=c
 .have h1:=hb (Zb hc);by_cases hgt:num<m.2.1
  .exact zl (t:=true) (ke h1 (vf (hb (Zb hgt)))) (wd (k1 hc hgt))
  .refine zl (t:=false) (ke h1 (vf (hb (Zc hgt)))) (ze ?_);by_cases heq:m.2.1=num
   .exact zl (t:=true) (ke h1 (vf (hb (Zb heq)))) (qj (zn1 (z3 rfl (qh a.o rfl)) a.la rfl hl) (wd (k2 hc heq)))
   .exact zl (t:=false) (ke h1 (vf (hb (Zc heq)))) (ze (zx (k3 λξ=>by omega)))
 .have h1:=hb (Zc hc);exact zl (t:=false) (ug h1) (ze (zl (t:=false) (ug h1) (ze (zx (k3 λh=>(hc h).elim)))))
noncomputable def z4c(c num:Int)(r:Row)(s:MS)(rm:Xd q9)(_:Xc V)(t:MS):Prop:=s=t/\MI c num r.marks rm/\∃b,Up b rm
theorem zdt(a:HAt s i x h)(hl:(h.laid.map zu).length<16777216)(hm:MOk r.marks)(kr:∀l t,HAt t i x (h.called c num key w r)->Fr (HF i x) s t->Q (.ret .none,l) t)(kn:∀y,h.called c num key w r=h.first c num key w r->Q (.next,zdq i c num key w r y) s):
  OkR (jg s false (qz r.marks) (uu P C (.inl (.loc 6))) (exs P C n zvk) (r.marks.map qt) (zdq i c num key w r none) s) Q :=
 xe qt (zdq i c num key w r) (z4c c num r s) (λm rm y t ⟨e,e1,b,e2⟩=>e▸⟨rfl,zdw a hl
   (λhc hn=>kr _ _ (by rw[zgg (e1.here hc) hn];exact a) (.refl _ _))
   (λhc hn=>kr _ _ (by rw[zdu (e1.here hc) hn];exact a.laid1 (.answer c num m.2.2)) ((Fr.refl _ _).put (.inr (.inr (.inr (.inl rfl)))) _))
   λhn=>⟨_,rfl,rfl,e1.more e2 hn,_,e2.2.2⟩⟩)
  (λy t e=>e.1▸⟨rfl,kn y (zgf e.2.1)⟩) _ _ _ ⟨rfl,.inl rfl,_,hm⟩
theorem zkn{a0 a2 a3 a4 a6 a7 a8 a9:Xc V}{b0 b1 b2:V}(hm:MOk ms):
  ev P C (.comp none 9 false (.sub (.loc 5) (.int 3)) (some (.cmp (.sub (.loc 9) (.int 0)) .ne (.loc 1))) (.loc 9)) [a0,some (.int c),a2,a3,a4,some (.tup [b0,b1,b2,qz ms]),a6,a7,a8,a9] s=.ok (.lst ((yu c ms).map qt)) s:=by
 have hl:(0:Nat)+(ms.map qt).length<=zi:=by rw[Zd,Jo];exact Zp (zpc hm) (by decide)
 refine u3 (src:=qz ms) (xs:=ms.map qt) rfl rfl ?_;rw[<- u7];refine(yy s s false (qz ms) 9 _ _ _ (zpn c) id rfl (ms.map qt) [] (λv hv=>?_) (λv hv ξ=>rfl) hl).trans (by rw[Q1];rfl);refine zd (ls hv) λm ξ eq2=>?_;subst eq2;rfl
theorem zg7(hm:MOk ms):((yu c ms).map qt).length+1<=16777216:=by
 rw[Zd,yu];exact Qp (Zp (List.length_filter_le _ _) (Zp (zpc hm) (by decide)))
include H
variable{y:Xc V}
theorem zdv(n:Nat)(a:HAt s i x h)(z:HZ h)(hm:MOk r.marks)(h0:0<=c)(h6:c<6)(k:∀l t,HAt t i x (h.first c num key w r)->Fr (HF i x) s t->Q (.next,l) t):
  OkR (exs P (run P (n+1)) (n+1) zxj (zdq i c num key w r y) s) Q:=by
 refine zk (qb (zg rfl (zg rfl rfl)) (zqe H n r.amt w s)) rfl ?_;refine zk (kb (zkn hm) rfl (zil _ _ _ (zg7 hm))) rfl ?_;refine qg (v:=zcn ⟨.here,r.turn,(dn r.amt w).1,dh (c,num,(dn r.amt w).2) r.marks⟩) (p4 (zg rfl (zg (v:=.int r.turn) rfl (zg (v:=.int (dn r.amt w).1) rfl (zg (j5 (zg (j5 (zg rfl rfl) (fh hm h0 h6)) rfl) rfl) rfl)))) rfl) (z3 rfl (qh a.o rfl)) rfl (z5 _ _ _ _ _ a.k (ur z.k)) ?_;rw[vm];have a1:=a.known (qw key ⟨.here,r.turn,(dn r.amt w).1,dh (c,num,(dn r.amt w).2) r.marks⟩ h.known);have a2:=a1.laid1 (.answer c num (dn r.amt w).2);refine qj (zn1 (z3 rfl (qh a1.o rfl)) a1.la rfl (ua z.la)) (qj (zn1 (z3 rfl (qh a2.o rfl)) a2.fr rfl (ua z.fr)) (zx (k _ _ (a2.fresh1 ⟨c,num,key,w,(dn r.amt w).2⟩) ((((Fr.refl (HF i x) s).put (.inr (.inl rfl)) _).put (.inr (.inr (.inr (.inl rfl)))) _).put (.inr (.inr (.inr (.inr rfl)))) _))))
theorem zhf(n:Nat)(a:HAt s i x h)(z:HZ h)(hk:qv key h.known=some r)(hm:MOk r.marks)(h0:0<=c)(h6:c<6)(w:W):
  OkR (run P (n+2) 24 [.ref (2,i),.int c,.int num,.str key,wv w] s) λv s'=>v=.none/\HAt s' i x (h.called c num key w r)/\Fr (HF i x) s s' :=
 zm H.called rfl (zk (qk (z3 rfl (qh a.o rfl)) rfl (q8 _ _ _ _ _ a.k (du hk))) rfl (ka rfl rfl rfl (zdt a (ua z.la) hm (λl t b f=>⟨rfl,b,f⟩) λy e=>zdv H n a z hm h0 h6 λl t b f=>⟨rfl,by rw[e];exact b,f⟩)))
noncomputable def LOk(h:HS):Letter->Prop
 |.call _ c _ key _=>0<=c/\c<6/\∃r,qv key h.known=some r
 |.parcel _ key _ _ _=>∃r,qv key h.known=some r
 |.taken _ key _=>∃r,qv key h.known=some r
 |.answer _ _ _=>False
theorem zqd(n:Nat)(a:HAt s i x h)(z:HZ h)(km:KOk h.known)(L:Letter)(hL:LOk h L):
  OkR (run P (n+3) 23 [.ref (2,i),zu L] s) λv s'=>v=.none/\HAt s' i x (h.came L)/\Fr (HF i x) s s':=by
 have ho:=a.o;have hkn:=a.k;have hla:=a.la;have hll:=ua (f:=zu) z.la;have hks:=ur z.k;have hm0:=H.mhas;have hm3:=H.mcalled;refine zm H.came rfl ?_;cases L with
 |answer=>exact hL.elim
 |call hh c num key w =>
  obtain⟨h0,h6,r,hk⟩:=hL;have hv:=bf H (n+1) a key;refine zl (t:=true) rfl ?_;have hhas:h.has key=decide (r.st=.here):=by rw[HS.has,hk]
  rw[hhas]at hv;have e:h.came (.call hh c num key w)=if r.st=.here then h.called c num key w r else h:=g8 hk;rw[e];by_cases hs:r.st=.here
  .rw[Zb hs]at hv;rw[Zg hs];refine zl (t:=true) (by (repeat' first|exact rfl|apply zy|exact(zj (by assumption)).trans (by assumption)|assumption)) (jr (yi rfl ((zj ho).trans hm3) rfl (zhf H n a z hk (km _ (b8 hk)) h0 h6 w)) ?_);rintro v s' ⟨rfl,h1,h2⟩;exact ze (ze (zx ⟨rfl,h1,h2⟩))
  .rw[Zc hs]at hv;rw[Zh hs];exact zl (t:=false) (by (repeat' first|exact rfl|apply zy|exact(zj (by assumption)).trans (by assumption)|assumption)) (ze (ze (zx ⟨rfl,a,.refl _ _⟩)))
 |parcel hh key tn am ms =>
  obtain⟨r,hk⟩:=hL;have hd:=du hk;refine zl (t:=false) rfl (zl (t:=true) rfl ?_);have e:h.came (.parcel hh key tn am ms)={h with known:=if r.turn<tn then qw key ⟨.here,tn,am,ms⟩ h.known else h.known,laid:=h.laid++[.taken (1-h.num) key tn]}:=w3 hk;rw[e];have fin:∀(k:q6)(t:MS)(Q:Fl×Loc->MS->Prop),HAt t i x {h with known:=k}->Fr (HF i x) s t->(∀l s',HAt s' i x {h with known:=k,laid:=h.laid++[.taken (1-h.num) key tn]}->Fr (HF i x) s s'->Q (.next,l) s')->
    OkR (exs P (run P (n+2)) (n+2) [.expr (.bm .append (.attr (.loc 0) 6) [.tup [.str [116,97,107,101,110],.bin .sub (.int 1) (.attr (.loc 0) 0),.sub (.loc 1) (.int 2),.sub (.loc 1) (.int 3)]])] [some (.ref (2,i)),some (zu (.parcel hh key tn am ms)),none] t) Q:=by
   intro k t Q a1 f1 hQ;have ho1:=a1.o;have hla1:=a1.la;exact qj (v:=.none) (s':=t.put (6,x.la) (.list (h.laid.map zu++[zu (.taken (1-h.num) key tn)]))) (by (repeat' first|exact rfl|apply z3|apply kb|apply p4|apply v6|apply zg|exact qh (by assumption) rfl|exact qy (by assumption)|exact je _ _ _ _ (by assumption) (by assumption))) (zx (hQ _ _ (a1.laid1 (.taken (1-h.num) key tn)) (f1.put (.inr (.inr (.inr (.inl rfl)))) _)))
  by_cases hs:r.turn<tn
  .rw[Zg hs];refine zl (t:=true) ((show _=Res.ok (V.bool (decide (r.turn<tn))) s by (repeat' first|exact rfl|apply z3|apply qk|apply jy|exact qh (by assumption) rfl|exact q8 _ _ _ _ _ (by assumption) (by first|exact rfl|assumption))).trans (Qd (λq=>Res.ok (V.bool q) s) (Zb hs))) (qg (v:=zcn ⟨.here,tn,am,ms⟩) rfl (by (repeat' first|exact rfl|apply z3|exact qh (by assumption) rfl)) rfl (z5 _ _ _ _ _ hkn hks) ?_);rw[vm];exact ze (fin _ _ _ (a.known _) ((Fr.refl _ _).put (.inr (.inl rfl)) _) λl s' q1 q2=>⟨rfl,q1,q2⟩)
  .rw[Zh hs];refine zl (t:=false) ((show _=Res.ok (V.bool (decide (r.turn<tn))) s by (repeat' first|exact rfl|apply z3|apply qk|apply jy|exact qh (by assumption) rfl|exact q8 _ _ _ _ _ (by assumption) (by first|exact rfl|assumption))).trans (Qd (λq=>Res.ok (V.bool q) s) (Zc hs))) (ze ?_);exact fin _ _ _ a (.refl _ _) λl s' q1 q2=>⟨rfl,q1,q2⟩
 |taken hh key tn =>
  obtain⟨r,hk⟩:=hL;have hd:=du hk;refine zl (t:=false) rfl (zl (t:=false) rfl (zk (by (repeat' first|exact rfl|apply z3|apply qk|exact qh (by assumption) rfl|exact q8 _ _ _ _ _ (by assumption) (by first|exact rfl|assumption))) rfl ?_));have e:h.came (.taken hh key tn)=if r.st=.owes/\tn=r.turn+1 then {h with known:=qw key ⟨.gone,r.turn,0,[]⟩ h.known} else h:=uy hk;rw[e];by_cases hs:r.st=.owes
  .by_cases ht:tn=r.turn+1
   .rw[Zg ⟨hs,ht⟩];refine zl (t:=true) (ke (Qd (λq=>Res.ok (V.bool q) s) ((fg r.st).trans (Zb hs))) (vf (Qd (λq=>Res.ok (V.bool q) s) (Zb ht)))) (qg (v:=zcn ⟨.gone,r.turn,0,[]⟩) rfl (by (repeat' first|exact rfl|apply z3|exact qh (by assumption) rfl)) rfl (z5 _ _ _ _ _ hkn hks) ?_);rw[vm];exact ze (ze (ze (zx ⟨rfl,a.known _,(Fr.refl _ _).put (.inr (.inl rfl)) _⟩)))
   .rw[Zh λq=>ht q.2];exact zl (t:=false) (ke (Qd (λq=>Res.ok (V.bool q) s) ((fg r.st).trans (Zb hs))) (vf (Qd (λq=>Res.ok (V.bool q) s) (Zc ht)))) (ze (ze (ze (zx ⟨rfl,a,.refl _ _⟩))))
  .rw[Zh λq=>hs q.1];exact zl (t:=false) (ug (Qd (λq=>Res.ok (V.bool q) s) ((fg r.st).trans (Zc hs)))) (ze (ze (ze (zx ⟨rfl,a,.refl _ _⟩))))
theorem zql{xc:Nat}(hf:P.fns 26=some (f_House_move xc))(n:Nat)(a:HAt s i x h)(z:HZ h)(hk:qv key h.known=some r)(hs:r.st=.here):
  OkR (run P (n+2) 26 [.ref (2,i),.str key] s) λv s'=>v=.none/\HAt s' i x (h.move key r)/\Fr (HF i x) s s':=by
 have ho:=a.o;have hkn:=a.k;have hd:=du hk;have hll:=ua (f:=zu) z.la;have hks:=ur z.k;have hm0:=H.mhas;have hm4:=H.mparcel;have hh:=bf H n a key;have hhas:h.has key=true:=by rw[HS.has,hk];exact Zb hs
 rw[hhas]at hh;refine zm hf rfl ?_;refine zl (t:=false) (s':=s) (ve (t:=true) (by (repeat' first|exact rfl|apply zy|exact(zj (by assumption)).trans (by assumption)|assumption))) (ze (zk (by (repeat' first|exact rfl|apply z3|apply qk|exact qh (by assumption) rfl|exact q8 _ _ _ _ _ (by assumption) (by first|exact rfl|assumption))) rfl (qg (v:=zcn {r with st:=.owes}) rfl (by (repeat' first|exact rfl|apply z3|exact qh (by assumption) rfl)) rfl (z5 _ _ _ _ _ hkn hks) ?_)));rw[vm];have a1:=a.known (qw key {r with st:=.owes} h.known);have f1:Fr (HF i x) s _:=(Fr.refl (HF i x) s).put (.inr (.inl rfl)) (.dict (z9 (qw key {r with st:=.owes} h.known)));generalize s.put (4,x.k) (.dict (z9 (qw key {r with st:=.owes} h.known)))=t1 at a1 f1;have ho1:=a1.o;have hla1:=a1.la;have hp:=ao H n ho1 key r;exact qj (v:=.none) (s':=t1.put (6,x.la) (.list (h.laid.map zu++[zu (jc h.num key r)]))) (by (repeat' first|exact rfl|apply z3|apply zy|apply v6|apply zg|exact qh (by assumption) rfl|exact(zj (by assumption)).trans (by assumption)|exact qy (by assumption)|exact je _ _ _ _ (by assumption) (by assumption)|assumption)) (zx ⟨rfl,a1.laid1 (jc h.num key r),f1.put (.inr (.inr (.inr (.inl rfl)))) _⟩)
noncomputable def HIx.fresh(x:HIx)(s:MS):Prop:=s.cnt 4<=x.k/\s.cnt 5<=x.w/\s.cnt 6<=x.la/\s.cnt 7<=x.fr
theorem zlz(hf:P.fns 27=some f_House_write)(n:Nat)(a:HAt s i x h)(z:HZ h):
  OkR (run P (n+1) 27 [.ref (2,i)] s) λv s'=>v=.tup [.ref (6,x.la),.ref (7,x.fr)]/\HAt s' i ⟨x.k,s.cnt 5,s.cnt 6,s.cnt 7⟩ h.write/\Fr (At1 (2,i)) s s':=by
 have ho:=a.o;have hkn:=a.k;have hkz:=mj z.k;refine zm hf rfl ?_;have h1:(s.new 5 (.dict (z9 h.known))).heap (2,i)=some (kc h.num x):=by (repeat' first|assumption|exact zh _ _ _|exact zt _ _ _|refine(zo (by rfl)).trans ?_|refine(q7 (by rfl)).trans ?_)
 refine qd (s':=(s.new 5 (.dict (z9 h.known))).put (2,i) (kc h.num ⟨x.k,s.cnt 5,x.la,x.fr⟩)) (by (repeat' first|exact rfl|apply z3|apply g9|exact qh (by assumption) rfl|assumption)) rfl (k8 5 _ h1 rfl) ?_;have f1:Fr (At1 (2,i)) s ((s.new 5 (.dict (z9 h.known))).put (2,i) (kc h.num ⟨x.k,s.cnt 5,x.la,x.fr⟩)):=((Fr.refl _ _).new _ _).put (at1 _) _;have h2:((s.new 5 (.dict (z9 h.known))).put (2,i) (kc h.num ⟨x.k,s.cnt 5,x.la,x.fr⟩)).heap (2,i)=some (kc h.num ⟨x.k,s.cnt 5,x.la,x.fr⟩):=zh _ _ _;have w2:((s.new 5 (.dict (z9 h.known))).put (2,i) (kc h.num ⟨x.k,s.cnt 5,x.la,x.fr⟩)).heap (5,s.cnt 5)=some (.dict (z9 h.known)):=by (repeat' first|assumption|exact zh _ _ _|exact zt _ _ _|refine(zo (by rfl)).trans ?_|refine(q7 (by rfl)).trans ?_)
 have c5:((s.new 5 (.dict (z9 h.known))).put (2,i) (kc h.num ⟨x.k,s.cnt 5,x.la,x.fr⟩)).cnt 5=s.cnt 5+1:=rfl;have c6:((s.new 5 (.dict (z9 h.known))).put (2,i) (kc h.num ⟨x.k,s.cnt 5,x.la,x.fr⟩)).cnt 6=s.cnt 6:=rfl;have c7:((s.new 5 (.dict (z9 h.known))).put (2,i) (kc h.num ⟨x.k,s.cnt 5,x.la,x.fr⟩)).cnt 7=s.cnt 7:=rfl;generalize (s.new 5 (.dict (z9 h.known))).put (2,i) (kc h.num ⟨x.k,s.cnt 5,x.la,x.fr⟩)=t at f1 h2 w2 c5 c6 c7;refine zk (v:=.tup [.ref (6,x.la),.ref (7,x.fr)]) (s':=t) (by (repeat' first|exact rfl|apply z3|apply p4|apply zg|exact qh (by assumption) rfl)) rfl ?_;have h3:(t.new 6 (.list [])).heap (2,i)=some (kc h.num ⟨x.k,s.cnt 5,x.la,x.fr⟩):=by (repeat' first|assumption|exact zh _ _ _|exact zt _ _ _|refine(zo (by rfl)).trans ?_|refine(q7 (by rfl)).trans ?_)
 refine qd (v:=.ref (6,t.cnt 6)) (s':=(t.new 6 (.list [])).put (2,i) (kc h.num ⟨x.k,s.cnt 5,t.cnt 6,x.fr⟩)) rfl rfl (k8 6 _ h3 rfl) ?_;have h4:(((t.new 6 (.list [])).put (2,i) (kc h.num ⟨x.k,s.cnt 5,t.cnt 6,x.fr⟩)).new 7 (.list [])).heap (2,i)=some (kc h.num ⟨x.k,s.cnt 5,t.cnt 6,x.fr⟩):=by (repeat' first|assumption|exact zh _ _ _|exact zt _ _ _|refine(zo (by rfl)).trans ?_|refine(q7 (by rfl)).trans ?_)
 refine qd (v:=.ref (7,t.cnt 7)) (s':=(((t.new 6 (.list [])).put (2,i) (kc h.num ⟨x.k,s.cnt 5,t.cnt 6,x.fr⟩)).new 7 (.list [])).put (2,i) (kc h.num ⟨x.k,s.cnt 5,t.cnt 6,t.cnt 7⟩)) rfl rfl (k8 7 _ h4 rfl) ?_;have f2:=(((f1.new 6 (.list [])).put (at1 _) (kc h.num ⟨x.k,s.cnt 5,t.cnt 6,x.fr⟩)).new 7 (.list [])).put (at1 _) (kc h.num ⟨x.k,s.cnt 5,t.cnt 6,t.cnt 7⟩);refine zv (v:=.tup [.ref (6,x.la),.ref (7,x.fr)]) rfl ⟨rfl,?_,f2⟩;have hk':=(f2.1 (4,x.k) a.ik (yj (by decide))).trans a.k;rw[c6,c7]at hk' f2 ⊢;refine⟨zh _ _ _,hk',by (repeat' first|assumption|exact zh _ _ _|exact zt _ _ _|refine(zo (by rfl)).trans ?_|refine(q7 (by rfl)).trans ?_),?_,?_,Zi a.io (f2.2 2),Zi a.ik (f2.2 4),?_,?_,?_⟩
 .rw[<- c6];(repeat' first|assumption|exact zh _ _ _|exact zt _ _ _|refine(zo (by rfl)).trans ?_|refine(q7 (by rfl)).trans ?_)
 .rw[<- c7];exact(zo (by rfl)).trans (zt _ 7 _)
 .show s.cnt 5<t.cnt 5;rw[c5];exact Zy _
 .show s.cnt 6<t.cnt 6+1;rw[c6];exact Zy _
 .show s.cnt 7<t.cnt 7+1;rw[c7];exact Zy _
theorem zlv(hf:P.fns 28=some f_House_sleep)(n:Nat)(a:HAt s i x h)(z:HZ h):
  OkR (run P (n+1) 28 [.ref (2,i)] s) λv s'=>v=.none/\HAt s' i ⟨s.cnt 4,x.w,s.cnt 6,s.cnt 7⟩ h.sleep/\Fr (At1 (2,i)) s s':=by
 have ho:=a.o;have hwn:=a.w;have hwz:=mj z.w;refine zm hf rfl ?_;have h1:(s.new 4 (.dict (z9 h.written))).heap (2,i)=some (kc h.num x):=by (repeat' first|assumption|exact zh _ _ _|exact zt _ _ _|refine(zo (by rfl)).trans ?_|refine(q7 (by rfl)).trans ?_)
 refine qd (s':=(s.new 4 (.dict (z9 h.written))).put (2,i) (kc h.num ⟨s.cnt 4,x.w,x.la,x.fr⟩)) (by (repeat' first|exact rfl|apply z3|apply g9|exact qh (by assumption) rfl|assumption)) rfl (k8 4 _ h1 rfl) ?_;have f1:Fr (At1 (2,i)) s ((s.new 4 (.dict (z9 h.written))).put (2,i) (kc h.num ⟨s.cnt 4,x.w,x.la,x.fr⟩)):=((Fr.refl _ _).new _ _).put (at1 _) _;have h2:((s.new 4 (.dict (z9 h.written))).put (2,i) (kc h.num ⟨s.cnt 4,x.w,x.la,x.fr⟩)).heap (2,i)=some (kc h.num ⟨s.cnt 4,x.w,x.la,x.fr⟩):=zh _ _ _;have w2:((s.new 4 (.dict (z9 h.written))).put (2,i) (kc h.num ⟨s.cnt 4,x.w,x.la,x.fr⟩)).heap (4,s.cnt 4)=some (.dict (z9 h.written)):=by (repeat' first|assumption|exact zh _ _ _|exact zt _ _ _|refine(zo (by rfl)).trans ?_|refine(q7 (by rfl)).trans ?_)
 have c4:((s.new 4 (.dict (z9 h.written))).put (2,i) (kc h.num ⟨s.cnt 4,x.w,x.la,x.fr⟩)).cnt 4=s.cnt 4+1:=rfl;have c6:((s.new 4 (.dict (z9 h.written))).put (2,i) (kc h.num ⟨s.cnt 4,x.w,x.la,x.fr⟩)).cnt 6=s.cnt 6:=rfl;have c7:((s.new 4 (.dict (z9 h.written))).put (2,i) (kc h.num ⟨s.cnt 4,x.w,x.la,x.fr⟩)).cnt 7=s.cnt 7:=rfl;generalize (s.new 4 (.dict (z9 h.written))).put (2,i) (kc h.num ⟨s.cnt 4,x.w,x.la,x.fr⟩)=t at f1 h2 w2 c4 c6 c7;have h3:(t.new 6 (.list [])).heap (2,i)=some (kc h.num ⟨s.cnt 4,x.w,x.la,x.fr⟩):=by (repeat' first|assumption|exact zh _ _ _|exact zt _ _ _|refine(zo (by rfl)).trans ?_|refine(q7 (by rfl)).trans ?_)
 refine qd (v:=.ref (6,t.cnt 6)) (s':=(t.new 6 (.list [])).put (2,i) (kc h.num ⟨s.cnt 4,x.w,t.cnt 6,x.fr⟩)) rfl rfl (k8 6 _ h3 rfl) ?_;have h4:(((t.new 6 (.list [])).put (2,i) (kc h.num ⟨s.cnt 4,x.w,t.cnt 6,x.fr⟩)).new 7 (.list [])).heap (2,i)=some (kc h.num ⟨s.cnt 4,x.w,t.cnt 6,x.fr⟩):=by (repeat' first|assumption|exact zh _ _ _|exact zt _ _ _|refine(zo (by rfl)).trans ?_|refine(q7 (by rfl)).trans ?_)
 refine qd (v:=.ref (7,t.cnt 7)) (s':=(((t.new 6 (.list [])).put (2,i) (kc h.num ⟨s.cnt 4,x.w,t.cnt 6,x.fr⟩)).new 7 (.list [])).put (2,i) (kc h.num ⟨s.cnt 4,x.w,t.cnt 6,t.cnt 7⟩)) rfl rfl (k8 7 _ h4 rfl) ?_;have f2:=(((f1.new 6 (.list [])).put (at1 _) (kc h.num ⟨s.cnt 4,x.w,t.cnt 6,x.fr⟩)).new 7 (.list [])).put (at1 _) (kc h.num ⟨s.cnt 4,x.w,t.cnt 6,t.cnt 7⟩);refine zx ⟨rfl,?_,f2⟩;have hw':=(f2.1 (5,x.w) a.iw (yj (by decide))).trans a.w;rw[c6,c7]at hw' f2 ⊢;refine⟨zh _ _ _,by (repeat' first|assumption|exact zh _ _ _|exact zt _ _ _|refine(zo (by rfl)).trans ?_|refine(q7 (by rfl)).trans ?_),hw',?_,?_,Zi a.io (f2.2 2),?_,Zi a.iw (f2.2 5),?_,?_⟩
 .rw[<- c6];(repeat' first|assumption|exact zh _ _ _|exact zt _ _ _|refine(zo (by rfl)).trans ?_|refine(q7 (by rfl)).trans ?_)
 .rw[<- c7];exact(zo (by rfl)).trans (zt _ 7 _)
 .show s.cnt 4<t.cnt 4;rw[c4];exact Zy _
 .show s.cnt 6<t.cnt 6+1;rw[c6];exact Zy _
 .show s.cnt 7<t.cnt 7+1;rw[c7];exact Zy _
omit H
theorem sj{r:Lbl}{d:Xd (V×V)}(h:s.heap r=some (.dict d)):z8 s false (.ref r)=some (d.map (·.1)):=by
 show(match dictAt (.ref r) s with|some p=>some (p.2.map λq:V×V=>q.1)|none=>(z4 s (.ref r)).map λq:Bool×Xd V=>q.2)=_;rw[ziv h]
theorem wy(s:MS)(v:V)(b:Bool):stays s s b v=true:=by
 cases b with
 |true=>rfl
 |false=>cases v<;>first|rfl|(show(decide _&&(_||decide _))=true;rw[Zb rfl,Zb rfl,Bool.or_true];rfl)
theorem vn{key:Key}{r:Row}:∀{k:q6},(k.map (·.1)).Nodup->(key,r)∈k->qv key k=some r
 | [],_,h=>by cases h
 |(a,r')::l,nd,h=>by
  rw[Zz,Qu]at nd;rcases Zu.1 h with h|h
  .cases h;exact Zg rfl
  .by_cases e:a=key
   .exact(nd.1 (e▸Z1.2 ⟨_,h,rfl⟩)).elim
   .exact(Zh e).trans (vn nd.2 h)
noncomputable def za7(k:q6)(st:St)(v:V):Bool:=match v with
 |.str key=>(match qv key k with|some r=>decide (r.st=st)|none=>false)
 |_=>false
theorem b5{st:St}(nd:(k.map (·.1)).Nodup):((z9 k).map (·.1)).filter (za7 k st)=(k.filter λp=>decide (p.2.st=st)).map λp=>V.str p.1:=by
 have e:(z9 k).map (·.1)=k.map λp=>V.str p.1:=by rw[z9,Qg];rfl
 rw[e,List.filter_map];congr 1;refine List.filter_congr λp hp=>?_;show(match qv p.1 k with|some r=>decide (r.st=st)|none=>false)=_;rw[vn nd hp]
theorem dg{v:V}(h:v∈(z9 k).map (·.1)):∃key r,v=.str key/\qv key k=some r:=by
 refine zd (Z1.1 h) λp hp eq2=>?_;subst eq2;refine zd (Z1.1 hp) λq hq eq2=>?_;subst eq2;refine zr (n8 (Z1.2 ⟨q,hq,rfl⟩)) λr hr=>?_;exact⟨q.1,r,rfl,hr⟩
theorem zkh{L:Loc}(a:HAt s i x h)(z:HZ h)(nd:(h.known.map (·.1)).Nodup):
  compLoop s false (.ref (4,x.k)) 1 (evC P C (some (.cmp (.sub (.sub (.attr (.loc 0) 4) (.loc 1)) (.int 0)) .eq (.str [111,119,101,115])))) (ev P C (.loc 1)) [some (.ref (2,i)),none] [] ((z9 h.known).map (·.1)) s=.ok (h.owes.map .str) s:=by
 have ho:=a.o;have hkn:=a.k;have hl:(0:Nat)+((z9 h.known).map (·.1)).length<=zi:=by have:=ur z.k;rw[Zd];show _<=16777216;lia
 refine(yy s s false (.ref (4,x.k)) 1 _ _ _ (za7 h.known .owes) id (wy _ _ _) _ [] ?_ ?_ hl).trans ?_
 .intro v hv;refine zf (dg hv) λkey r eq2 hk=>?_;subst eq2;have hd:=du hk;show ev P C _ [some (.ref (2,i)),some (.str key)] s=.ok (.bool (match qv key h.known with|some r=>decide (r.st=.owes)|none=>false)) s;rw[hk];show _=Res.ok (V.bool (decide (r.st=.owes))) s;rw[<- fg]
  (repeat' first|exact rfl|apply z3|apply qk|apply jy|exact qh (by assumption) rfl|exact q8 _ _ _ _ _ (by assumption) (by first|exact rfl|assumption))
 .intro v hv _;rfl
 .rw[b5 nd,Q1,HS.owes,Qg];rfl
include H
theorem al{fo:Fn}(hfo:fo=f_House_owes)(hf:P.fns 22=some fo)(n:Nat)(a:HAt s i x h)(z:HZ h)(nd:(h.known.map (·.1)).Nodup):
  run P (n+1) 22 [.ref (2,i)] s=.ok (.ref (14,s.cnt 14)) (s.new 14 (.list (h.owes.map .str))):=by
 subst hfo;have ho:=a.o;have hkn:=a.k;refine qc (zm hf rfl ?_);exact zv (ziw (src:=.ref (4,x.k)) (by (repeat' first|exact rfl|apply z3|exact qh (by assumption) rfl)) (sj hkn) (zkh (L:=[]) a z nd)) ⟨rfl,rfl⟩
theorem zlt(hf:P.fns 29=some f_House_nudge)(n:Nat)(a:HAt s i x h)(z:HZ h)(nd:(h.written.map (·.1)).Nodup):
  run P (n+2) 29 [.ref (2,i)] s=.ok (.lst (h.nudge.map zu)) s:=by
 have ho:=a.o;have hwn:=a.w;have hm4:=H.mparcel;refine qc (zm hf rfl ?_);have hl:(0:Nat)+((z9 h.written).map (·.1)).length<=zi:=by have:=ur z.w;rw[Zd];show _<=16777216;lia
 refine zv (u3 (src:=.ref (5,x.w)) (by (repeat' first|exact rfl|apply z3|exact qh (by assumption) rfl)) (sj hwn) (yy s s false (.ref (5,x.w)) 1 _ _ _ (za7 h.written .owes) (λv=>match v with|.str key=>(match qv key h.written with|some r=>zu (jc h.num key r)|none=>.none)|_=>.none) (wy _ _ _) _ [] ?_ ?_ hl)) ⟨?_,rfl⟩
 .intro v hv;refine zf (dg hv) λkey r eq2 hk=>?_;subst eq2;have hd:js (.str key) (z9 h.written)=some (.tup [.str (stS r.st),.int r.turn,.int r.amt,qz r.marks]):=by rw[yn,hk];rfl
  show ev P _ _ [some (.ref (2,i)),some (.str key)] s=.ok (.bool (match qv key h.written with|some r=>decide (r.st=.owes)|none=>false)) s;rw[hk];show _=Res.ok (V.bool (decide (r.st=.owes))) s;rw[<- fg]
  (repeat' first|exact rfl|apply z3|apply qk|apply jy|exact qh (by assumption) rfl|exact q8 _ _ _ _ _ (by assumption) (by first|exact rfl|assumption))
 .intro v hv _;refine zf (dg hv) λkey r eq2 hk=>?_;subst eq2;have hd:js (.str key) (z9 h.written)=some (.tup [.str (stS r.st),.int r.turn,.int r.amt,qz r.marks]):=by rw[yn,hk];rfl
  have hp:=ao H n ho key r;show ev P _ _ [some (.ref (2,i)),some (.str key)] s=.ok (match qv key h.written with|some r=>zu (jc h.num key r)|none=>.none) s;rw[hk]
  (repeat' first|exact rfl|apply z3|apply qk|apply zy|apply zg|exact qh (by assumption) rfl|exact q8 _ _ _ _ _ (by assumption) (by first|exact rfl|assumption)|exact(zj (by assumption)).trans (by assumption)|assumption)
 .show V.lst ([]++_)=_;rw[Jv,b5 nd,HS.nudge,Qg,Qg];congr 1;refine Jw λp hp=>?_;show(match qv p.1 h.written with|some r=>zu (jc h.num p.1 r)|none=>V.none)=zu (jc h.num p.1 p.2);rw[vn nd (Q3.1 hp).1]
omit H
theorem zar(key:Key)(a b:Row):∀k:q6,qw key b (qw key a k)=qw key b k
 | []=>Zg rfl
 |(c,r)::l=>by
  by_cases h:c=key
  .rw[qw,Zg h,qw,Zg h,qw,Zg h]
  .rw[qw,Zh h,qw,Zh h,zar key a b l,qw,Zh h]
noncomputable def wu(num:Int):Row:=if num=0 then ⟨.here,0,0,[]⟩ else ⟨.gone,-1,0,[]⟩
noncomputable def KeysV(kv:V)(ks:Xd Key)(s:MS):Prop:=kv=.lst (ks.map .str)\/∃r:Lbl,kv=.ref r/\r.1≠2/\r.1≠4/\r.2<s.cnt r.1/\s.heap r=some (.list (ks.map .str))
theorem zbp{r:Lbl}{l:Xd V}(h:s.heap r=some (.list l)):dictAt (.ref r) s=none:=by
 show(match s.heap r with|some (.dict l)=>some (r,l)|_=>none)=_;rw[h]
theorem sm{r:Lbl}{l:Xd V}(h:s.heap r=some (.list l)):z8 s false (.ref r)=some l:=by
 show(match dictAt (.ref r) s with|some p=>some (p.2.map λq:V×V=>q.1)|none=>(z4 s (.ref r)).map λq:Bool×Xd V=>q.2)=_;rw[zbp h,jh h];rfl
variable{kv:V}{ks:Xd Key}
theorem KeysV.items(h:KeysV kv ks s):z8 s false kv=some (ks.map .str):=by
 rcases h with rfl|⟨r,rfl,-,-,-,h⟩
 .rfl
 .exact sm h
variable{F:Lbl->Prop}
theorem KeysV.stays{t:MS}(h:KeysV kv ks s)(f:Fr F s t)(hF:∀l,F l->l.1=2\/l.1=4):stays s t false kv=true:=by
 rcases h with rfl|⟨r,rfl,h2,h4,hc,h⟩
 .rfl
 .show(decide _&&((dictAt (.ref r) s).isNone||_))=true;rw[Zb (f.1 r hc λq=>(hF r q).elim h2 h4).symm,zbp h];rfl
theorem KeysV.step{t:MS}(h:KeysV kv ks s)(f:Fr F s t)(hF:∀l,F l->l.1=2\/l.1=4):KeysV kv ks t:=by
 rcases h with rfl|⟨r,rfl,h2,h4,hc,h⟩
 .exact .inl rfl
 .exact .inr ⟨r,rfl,h2,h4,Zi hc (f.2 _),(f.1 r hc λq=>(hF r q).elim h2 h4).trans h⟩
include H
variable{u:MS}
omit H in
theorem Fr.fresh{t:MS}{r:Lbl}(a:Fr F s t)(b:Fr (At1 r) t u)(h:s.cnt r.1<=r.2):Fr F s u :=
 ⟨λx hx n=>(b.1 x (Zi hx (a.2 _)) λ(e:x=r)=>Nat.not_lt_of_le h (e▸hx)).trans (a.1 x hx n),λk=>Zp (a.2 k) (b.2 k)⟩
omit H in
theorem zb6(key:Key)(a:Row):∀k:q6,(qw key a k).length<=k.length+1
 | []=>Zs _
 |p::l=>by
  rw[qw];split
  .exact Zw _
  .exact Qp (zb6 key a l)
noncomputable def zg6(num:Int)(d:Nat):MObj:=.inst 1 [(0,.int num),(4,.ref (4,d))]
noncomputable def si(num:Int)(kv:V)(i:Nat)(y:Xc V):Loc:=[some (.ref (2,i)),some (.int num),some kv,y]
variable{d:Nat}{k0:q6}
omit H in
theorem zkv{n:Nat}(hu:u.heap (2,i)=some (zg6 num d))(e3:u.heap (4,d)=some (.dict (z9 k0)))(hz:k0.length<1000)(hi:i<u.cnt 2)(hd:d<u.cnt 4)(k:∀t,HAt t i ⟨d,u.cnt 5,u.cnt 6,u.cnt 7⟩ ⟨num,k0,k0,[],[]⟩->Fr (At1 (2,i)) u t->(∀k,k≠5->k≠6->k≠7->t.cnt k=u.cnt k)->Q (.next,some (.ref (2,i))::l) t):
  OkR (exs P C n zu0 (some (.ref (2,i))::l) u) Q:=by
 refine qd (g9 (z3 rfl (qh hu rfl)) e3 (mj hz)) rfl (k8 5 _ ((q7 (by rfl)).trans hu) rfl) (qd rfl rfl (k8 6 _ ((q7 (by rfl)).trans (zh _ _ _)) rfl) (qd rfl rfl (k8 7 _ ((q7 (by rfl)).trans (zh _ _ _)) rfl) (zx (k _ ⟨zh _ _ _,by (repeat' first|assumption|exact zh _ _ _|exact zt _ _ _|refine(zo (by rfl)).trans ?_|refine(q7 (by rfl)).trans ?_),by (repeat' first|assumption|exact zh _ _ _|exact zt _ _ _|refine(zo (by rfl)).trans ?_|refine(q7 (by rfl)).trans ?_),?_,(zo (by rfl)).trans (zt _ 7 _),hi,hd,Zy _,Zy _,Zy _⟩ (((((((Fr.refl _ _).new _ _).put (at1 _) _).new _ _).put (at1 _) _).new _ _).put (at1 _) _) λξ h5 h6 h7=>(Zh h7).trans ((Zh h6).trans (Zh h5))))));exact(zo (by rfl)).trans ((q7 (by rfl)).trans ((zo (by rfl)).trans (zt _ 6 _)))
omit H in
theorem zkw{n:Nat}(key:Key)(hu:u.heap (2,i)=some (zg6 num d))(e3:u.heap (4,d)=some (.dict (z9 k0)))(hz:k0.length<1000)(k:∀t:MS,t.heap (4,d)=some (.dict (z9 (qw key (wu num) k0)))->t.heap (2,i)=some (zg6 num d)->Fr (At1 (4,d)) u t->t.cnt=u.cnt->Q (.next,si num kv i (some (.str key))) t):
  OkR (exs P C n zi9 (si num kv i (some (.str key))) u) Q:=by
 have hl:∀{k:q6},k.length<=1000->(z9 k).length<16777216:=λh=>by rw[z9,Zd];exact Z7 h (by decide)
 refine qg (v:=zcn ⟨.here,0,0,[]⟩) rfl (z3 rfl (qh hu rfl)) rfl (z5 _ _ _ _ _ e3 (hl (Qn hz))) ?_;rw[vm];have h1:∀o,(u.put (4,d) o).heap (2,i)=some (zg6 num d):=λξ=>(zo (by rfl)).trans hu;have f1:∀o,Fr (At1 (4,d)) u (u.put (4,d) o):=λξ=>(Fr.refl _ _).put (at1 _) _;by_cases hz0:num=0
 .exact zl (t:=false) (Qd (λq=>Res.ok (V.bool (!q)) _) (Zb hz0)) (ze (zx (k _ (by rw[wu,Zg hz0];exact zh _ _ _) (h1 _) (f1 _) rfl)))
 .refine zl (t:=true) (Qd (λq=>Res.ok (V.bool (!q)) _) (Zc hz0)) (qg (v:=zcn ⟨.gone,-1,0,[]⟩) rfl (z3 rfl (qh (h1 _) rfl)) rfl (z5 _ _ _ _ _ (zh _ _ _) (hl (Zp (zb6 _ _ _) hz))) ?_);rw[vm,zar];exact ze (zx (k _ (by rw[wu,Zh hz0];exact zh _ _ _) ((zo (by rfl)).trans (h1 _)) ((f1 _).put (at1 _) _) rfl))
structure InitI(num:Int)(ks:Xd Key)(i d:Nat)(t:MS)(rk:Xd Key)(_:Xc V)(u:MS):Prop where
 c:u.cnt=t.cnt
 e:∃dk,ks=dk++rk/\u.heap (4,d)=some (.dict (z9 (HS.new num dk).known))/\(HS.new num dk).known.length<=dk.length
 o:u.heap (2,i)=some (zg6 num d)
 f:Fr (At1 (4,d)) t u
omit H in
theorem zku{n:Nat}{rk:Xd Key}{t:MS}{key:Key}(hn:ks.length<1000)(e:InitI num ks i d t (key::rk) y u)(k:∀y u,InitI num ks i d t rk y u->Q (.next,si num kv i y) u):
  OkR (exs P C n zi9 (si num kv i (some (.str key))) u) Q:=by
 refine jj e.e λdk e1 e3 e4=>?_;refine zkw key e.o e3 (Z7 e4 (Z7 ?_ hn)) λt' q1 q2 q3 q4=>k _ t' ⟨q4.trans e.c,⟨dk++[key],by rw[e1,Z3];rfl,?_⟩,q2,e.f.trans q3⟩
 .rw[e1,Zf];exact Qr _ _
 .have e:(HS.new num (dk++[key])).known=qw key (wu num) (HS.new num dk).known:=List.foldl_append ..;rw[e,Zf];exact⟨q1,Zp (zb6 _ _ _) (Qp e4)⟩
omit H in
theorem zkt{n:Nat}{t:MS}(hkt:KeysV kv ks t)(hn:ks.length<1000)(h2:t.heap (2,i)=some (zg6 num d))(h3:t.heap (4,d)=some (.dict []))(k:∀y u,InitI num ks i d t [] y u->Q (.next,si num kv i y) u):
  OkR (jg t false kv (uu P C (.inl (.loc 3))) (exs P C n zi9) (ks.map .str) (si num kv i none) t) Q :=
 have hs:∀{u},Fr (At1 (4,d)) t u->stays t u false kv=true:=λf=>hkt.stays f λξ e=>.inr (Qd Prod.fst e)
 xe .str (si num kv i) (InitI num ks i d t) (λkey rk y u e=>⟨hs e.f,zku hn e λy u e=>⟨y,rfl,e⟩⟩) (λy u e=>⟨hs e.f,k y u e⟩) _ _ _ ⟨rfl,⟨[],rfl,h3,Zs _⟩,h2,.refl _ _⟩
theorem zqh(n:Nat)(num:Int)(kv:V)(ks:Xd Key)(ho:s.heap (2,i)=some (.inst 1 []))(hi:i<s.cnt 2)(hkv:KeysV kv ks s)(hn:ks.length<1000):
  OkR (run P (n+1) 20 [.ref (2,i),.int num,kv] s) λv s'=>v=.none/\∃x:HIx,x.fresh s/\HAt s' i x (HS.new num ks)/\Fr (At1 (2,i)) s s'/\s'.cnt 2=s.cnt 2/\∀k,7<k\/k=3->s'.cnt k=s.cnt k:=by
 refine zm H.init rfl (qd rfl rfl (k8 0 _ ho rfl) (qd rfl rfl (k8 4 _ ((q7 (by rfl)).trans (zh _ _ _)) rfl) ?_));have f1:Fr (At1 (2,i)) s (((s.put (2,i) (.inst 1 [(0,.int num)])).new 4 (.dict [])).put (2,i) (zg6 num (s.cnt 4))):=(((Fr.refl _ _).put (at1 _) _).new _ _).put (at1 _) _;have hkt:=hkv.step f1 λl e=>.inl (Qd Prod.fst e);refine ka rfl hkt.items rfl (zkt hkt hn (zh _ _ _) ((zo (by rfl)).trans (zt _ 4 _)) λy u e=>?_);refine jj e.e λdk e1 e3 e4=>?_;cases e1.trans (Z0 _);have c:∀k,k≠4->u.cnt k=s.cnt k:=λk hk=>(congrFun e.c k).trans (Zh hk);refine zkv e.o e3 (Z7 e4 hn) (Nat.lt_of_lt_of_eq hi (c 2 (by decide)).symm) (Nat.lt_of_lt_of_eq (Zy _) (congrFun e.c 4).symm) λt a f hc=>⟨rfl,_,⟨Zs _,Qf (c 5 (by decide)).symm,Qf (c 6 (by decide)).symm,Qf (c 7 (by decide)).symm⟩,a,(f1.fresh e.f (Zs _)).trans f,(hc 2 (by decide) (by decide) (by decide)).trans (c 2 (by decide)),λk hk=>?_⟩;have hk:k≠4/\k≠5/\k≠6/\k≠7:=by lia
 exact(hc k hk.2.1 hk.2.2.1 hk.2.2.2).trans (c k hk.1)
theorem s9(hin:P.inits 1=some (2,20))(n:Nat)(num:Int)(kv:V)(ks:Xd Key)(hkv:KeysV kv ks s)(hn:ks.length<1000):
  OkR (xb P (run P (n+1)) 1 [.int num,kv] s) λv s'=>v=.ref (2,s.cnt 2)/\∃x:HIx,x.fresh s/\HAt s' (s.cnt 2) x (HS.new num ks)/\Fr (λξ=>False) s s'/\s'.cnt 2=s.cnt 2+1/\∀k,7<k\/k=3->s'.cnt k=s.cnt k:=by
 have f0:Fr (λξ=>False) s (s.new 2 (.inst 1 [])):=(Fr.refl _ _).new _ _;have h:=zqh H n num kv ks (i:=s.cnt 2) (s:=s.new 2 (.inst 1 [])) (zt _ _ _) (by rw[mz];exact Zy _) (hkv.step f0 λξ q=>q.elim) hn;obtain⟨v,s',h1,rfl,x,hx,h2,h3,h4,h5⟩:=z7 h;rw[xb,hin];show OkR (Res.bind (run P (n+1) 20 [.ref (2,s.cnt 2),.int num,kv] (s.new 2 (.inst 1 []))) _) _;rw[h1];refine⟨rfl,x,⟨Zp (f0.2 4) hx.1,Zp (f0.2 5) hx.2.1,Zp (f0.2 6) hx.2.2.1,Zp (f0.2 7) hx.2.2.2⟩,h2,⟨λl hl ξ=>(h3.1 l (Zi hl (f0.2 l.1)) λ(e:l=(2,s.cnt 2))=>by rw[e]at hl;exact Nat.lt_irrefl _ hl).trans (f0.1 l hl λq=>q),λk=>Zp (f0.2 k) (h3.2 k)⟩,h4.trans (mz _ _ _),λk hk=>(h5 k hk).trans (Zh λe=>absurd (e▸hk) (by decide))⟩
end
end Internal
end
section
namespace Internal
noncomputable def LMk:Letter->Prop
 |.parcel _ _ _ _ ms=>MOk ms
 |.call _ c _ _ _=>0<=c/\c<6
 |_=>True
section
variable {h:HS}{ks:Xd Key}{m:Nat}{key:Key}{r:Row}
theorem lr{α:Type}{P:α->Prop}{l:Xd α}{a:α}(h:∀x∈l,P x)(ha:P a):∀x∈l++[a],P x:=λx hx=>by
 rcases Zt.1 hx with hx|hx
 .exact h x hx
 .rw[Zq.1 hx];exact ha
theorem zen(key:Key)(x:Row):∀k:q6,key ∉ k.map (·.1)->qw key x k=k++[(key,x)]
 | [],_=>rfl
 |(a,r)::l,hn=>by
  have h1:¬a=key:=λe=>hn (e▸Zm ..);rw[qw,Zh h1,zen key x l λq=>hn (Zk _ q)];rfl
theorem zeg(x:Row):∀(ks:Xd Key)(k:q6),(k.map (·.1)++ks).Nodup->ks.foldl (λk key=>qw key x k) k=k++ks.map λkey=>(key,x)
 | [],k,_=>(Z0 k).symm
 |key::ks,k,nd=>by
  have hn:key ∉ k.map (·.1):=λq=>(Qt.1 nd).2.2 _ q _ (Zm ..) rfl;rw[List.foldl_cons,zen key x k hn,zeg x ks,Z3];rfl;rw[Qb,Z3];exact nd
theorem di(num:Int){ks:Xd Key}(nd:ks.Nodup):(HS.new num ks).known=ks.map λkey=>(key,wu num):=zeg (wu num) ks [] nd
variable{s:MS}
theorem zdg(d:Nat){ms:Xd q9}(h:MOk ms):kh s (d+2) (qz ms) (qz ms) :=
 j8 (by have:=zpc h;rw[Zd];lia) (AllA.map _ λm ξ=>j8 (by show 3<=16777216;decide) ⟨qm _ _,qm _ _,qm _ _,trivial⟩)
theorem zbi(d:Nat)(w:W):kh s (d+1) (wv w) (wv w):=by
 cases w
 .exact j8 (by show 1<=16777216;decide) ⟨jl _ _,trivial⟩
 .exact j8 (by show 2<=16777216;decide) ⟨jl _ _,qm _ _,trivial⟩
 .exact j8 (by show 2<=16777216;decide) ⟨jl _ _,qm _ _,trivial⟩
theorem zj5(d:Nat)(L:Letter)(h:LMk L):kh s (d+3) (zu L) (zu L):=by
 cases L with
 |call=>exact j8 (by show 6<=16777216;decide) ⟨jl _ _,qm _ _,qm _ _,qm _ _,jl _ _,zbi _ _,trivial⟩
 |parcel=>exact j8 (by show 6<=16777216;decide) ⟨jl _ _,qm _ _,jl _ _,qm _ _,qm _ _,zdg _ h,trivial⟩
 |taken=>exact j8 (by show 4<=16777216;decide) ⟨jl _ _,qm _ _,jl _ _,qm _ _,trivial⟩
 |answer=>exact j8 (by show 4<=16777216;decide) ⟨jl _ _,qm _ _,qm _ _,qm _ _,trivial⟩
theorem zf7(d:Nat)(r:LRow):kh s (d+2) (xl r) (xl r) :=
 j8 (by show 5<=16777216;decide) ⟨qm _ _,qm _ _,jl _ _,zbi _ _,qm _ _,trivial⟩
end
end Internal
end
section
namespace Internal
noncomputable def f_is_whole:Fn:=⟨1,["thing"],[.ret (some (.and [.isinst (.loc 0) [.int],.not (.isinst (.loc 0) [.bool])]))]⟩
noncomputable def f_need_wish(xc:Nat):Fn:=⟨1,["wish"],[.ite (.or [.not (.isinst (.loc 0) [.tuple]),.cmp (.prim .len [.loc 0]) .lt (.int 1),.not (.isinst (.sub (.loc 0) (.int 0)) [.str])]) [.raise xc] [],.ite (.and [.cmp (.sub (.loc 0) (.int 0)) .eq (.str [103,101,116]),.cmp (.prim .len [.loc 0]) .eq (.int 1)]) [.ret none] [],.ite (.or [.cmp (.sub (.loc 0) (.int 0)) .notin (.tup [.str [115,101,116],.str [97,100,100]]),.cmp (.prim .len [.loc 0]) .ne (.int 2),.not (.call 0 [.sub (.loc 0) (.int 1)])]) [.raise xc] [],.ite (.not (.cmp2 (.neg (.gint "GREATEST" 1000000000000000000000000000000)) .le (.sub (.loc 0) (.int 1)) .le (.gint "GREATEST" 1000000000000000000000000000000))) [.raise xc] []]⟩
noncomputable def f_is_key:Fn:=⟨1,["thing","sign"],[.ite (.or [.not (.isinst (.loc 0) [.str]),.not (.cmp2 (.int 1) .le (.prim .len [.loc 0]) .le (.gint "LONGEST" 8))]) [.ret (some (.bool false))] [],.for_ (.inl (.loc 1)) false (.loc 0) [.ite (.cmp (.loc 1) .notin (.gstr "LETTERS" [97,98,99,100,101,102,103,104,105,106,107,108,109,110,111,112,113,114,115,116,117,118,119,120,121,122])) [.ret (some (.bool false))] []],.ret (some (.bool true))]⟩
noncomputable def f_need_world(xc:Nat):Fn:=⟨2,["keys","callers","k"],[.ite (.or [.not (.isinst (.loc 0) [.list]),.not (.cmp2 (.int 1) .le (.prim .len [.loc 0]) .le (.gint "MOST" 6))]) [.raise xc] [],.for_ (.inl (.loc 2)) true (.prim .len [.loc 0]) [.ite (.or [.not (.call 4 [.sub (.loc 0) (.loc 2)]),.cmp (.sub (.loc 0) (.loc 2)) .isin (.slice (.loc 0) none (some (.loc 2)))]) [.raise xc] []],.ite (.or [.not (.call 0 [.loc 1]),.not (.cmp2 (.int 1) .le (.loc 1) .le (.gint "MOST" 6))]) [.raise xc] []]⟩
noncomputable def f_Caller_init:Fn:=⟨2,["self","number"],[.setattr (.loc 0) 0 (.loc 1),.setattr (.loc 0) 1 (.int 0),.setattr (.loc 0) 2 .none,.setattr (.loc 0) 3 (.lstM 8 [])]⟩
noncomputable def f_Caller_begin:Fn:=⟨3,["self","key","wish"],[.setattr (.loc 0) 1 (.bin .add (.attr (.loc 0) 1) (.int 1)),.setattr (.loc 0) 2 (.tup [.attr (.loc 0) 1,.loc 1,.loc 2]),.ret (some (.attr (.loc 0) 1))]⟩
noncomputable def f_Caller_letter:Fn:=⟨2,["self","house","call"],[.assign 2 (.attr (.loc 0) 2),.ret (some (.tup [.str [99,97,108,108],.loc 1,.attr (.loc 0) 0,.sub (.loc 2) (.int 0),.sub (.loc 2) (.int 1),.sub (.loc 2) (.int 2)]))]⟩
noncomputable def f_Caller_asking:Fn:=⟨1,["self"],[.ret (some (.attr (.loc 0) 2))]⟩
noncomputable def f_Caller_answers:Fn:=⟨1,["self"],[.ret (some (.listM 13 (.attr (.loc 0) 3)))]⟩
noncomputable def zrx:Xd S:=[.setattr (.loc 0) 8 (.prim .list1 [.loc 1]),.setattr (.loc 0) 9 (.lst [.new 1 [.int 0,.loc 1],.new 1 [.int 1,.loc 1]]),.setattr (.loc 0) 10 (.comp none 3 true (.loc 2) none (.new 2 [.loc 3])),.setattr (.loc 0) 11 (.lstM 9 []),.setattr (.loc 0) 12 (.lstM 10 [])]
noncomputable def u6:Fn:=⟨3,["self","keys","callers",""],.expr (.call 5 [.loc 1,.loc 2])::zrx⟩
noncomputable def f_World_need_caller(xc:Nat):Fn:=⟨2,["self","caller"],[.ite (.or [.not (.call 0 [.loc 1]),.not (.cmp2 (.int 0) .le (.loc 1) .lt (.prim .len [.attr (.loc 0) 10]))]) [.raise xc] []]⟩
noncomputable def f_World_need_house(xc:Nat):Fn:=⟨2,["self","house"],[.ite (.or [.not (.call 0 [.loc 1]),.not (.cmp2 (.int 0) .le (.loc 1) .lt (.int 2))]) [.raise xc] []]⟩
noncomputable def f_World_need_key(xc:Nat):Fn:=⟨2,["self","key"],[.ite (.or [.not (.isinst (.loc 1) [.str]),.cmp (.loc 1) .notin (.attr (.loc 0) 8)]) [.raise xc] []]⟩
noncomputable def f_World_need_place(xc:Nat):Fn:=⟨2,["self","place"],[.ite (.or [.not (.call 0 [.loc 1]),.not (.cmp2 (.int 0) .le (.loc 1) .lt (.prim .len [.attr (.loc 0) 11]))]) [.raise xc] []]⟩
noncomputable def f_World_call(xc:Nat):Fn:=⟨5,["self","caller","house","key","wish","number"],[.exprX (.meth (.loc 0) 13 [.loc 1]),.exprX (.meth (.loc 0) 14 [.loc 2]),.exprX (.meth (.loc 0) 15 [.loc 3]),.exprX (.call 1 [.loc 4]),.ite (.isC true (.meth (.sub (.attr (.loc 0) 10) (.loc 1)) 11 []) .none) [.raise xc] [],.assign 5 (.meth (.sub (.attr (.loc 0) 10) (.loc 1)) 9 [.loc 3,.loc 4]),.expr (.bm .append (.attr (.loc 0) 11) [.meth (.sub (.attr (.loc 0) 10) (.loc 1)) 10 [.loc 2]]),.ret (some (.loc 5))]⟩
noncomputable def f_World_again(xc:Nat):Fn:=⟨3,["self","caller","house"],[.exprX (.meth (.loc 0) 13 [.loc 1]),.exprX (.meth (.loc 0) 14 [.loc 2]),.ite (.isC false (.meth (.sub (.attr (.loc 0) 10) (.loc 1)) 11 []) .none) [.raise xc] [],.expr (.bm .append (.attr (.loc 0) 11) [.meth (.sub (.attr (.loc 0) 10) (.loc 1)) 10 [.loc 2]])]⟩
noncomputable def f_World_letters:Fn:=⟨1,["self"],[.ret (some (.listM 11 (.attr (.loc 0) 11)))]⟩
noncomputable def f_World_brought:Fn:=⟨2,["self","letter"],[.ite (.cmp (.sub (.loc 1) (.int 0)) .eq (.str [97,110,115,119,101,114])) [.expr (.meth (.sub (.attr (.loc 0) 10) (.sub (.loc 1) (.int 1))) 2 [.sub (.loc 1) (.int 2),.sub (.loc 1) (.int 3)])] [.expr (.meth (.sub (.attr (.loc 0) 9) (.sub (.loc 1) (.int 1))) 2 [.loc 1])]]⟩
noncomputable def f_World_hand:Fn:=⟨2,["self","place"],[.exprX (.meth (.loc 0) 16 [.loc 1]),.expr (.meth (.loc 0) 20 [.bm .pop (.attr (.loc 0) 11) [.loc 1]])]⟩
noncomputable def f_World_twice:Fn:=⟨2,["self","place"],[.exprX (.meth (.loc 0) 16 [.loc 1]),.expr (.meth (.loc 0) 20 [.sub (.attr (.loc 0) 11) (.loc 1)])]⟩
noncomputable def f_World_lose:Fn:=⟨2,["self","place"],[.exprX (.meth (.loc 0) 16 [.loc 1]),.expr (.bm .pop (.attr (.loc 0) 11) [.loc 1])]⟩
noncomputable def f_World_sleep:Fn:=⟨2,["self","house"],[.exprX (.meth (.loc 0) 14 [.loc 1]),.expr (.meth (.sub (.attr (.loc 0) 9) (.loc 1)) 7 [])]⟩
noncomputable def f_World_ledger:Fn:=⟨1,["self"],[.ret (some (.listM 12 (.attr (.loc 0) 12)))]⟩
noncomputable def f_World_asking:Fn:=⟨2,["self","caller"],[.exprX (.meth (.loc 0) 13 [.loc 1]),.ret (some (.meth (.sub (.attr (.loc 0) 10) (.loc 1)) 11 []))]⟩
noncomputable def f_World_answers:Fn:=⟨2,["self","caller"],[.exprX (.meth (.loc 0) 13 [.loc 1]),.ret (some (.meth (.sub (.attr (.loc 0) 10) (.loc 1)) 12 []))]⟩
structure WorldP(P:Prog):Prop where
 whole:P.fns 0=some f_is_whole
 ncal:∃xc,P.fns 41=some (f_World_need_caller xc)
 nhou:∃xc,P.fns 42=some (f_World_need_house xc)
 nkey:∃xc,P.fns 43=some (f_World_need_key xc)
 npla:∃xc,P.fns 44=some (f_World_need_place xc)
 cask:P.fns 14=some f_Caller_asking
 clet:P.fns 12=some f_Caller_letter
 brou:P.fns 48=some f_World_brought
 m13:P.meths 0 13=some 41
 m14:P.meths 0 14=some 42
 m15:P.meths 0 15=some 43
 m16:P.meths 0 16=some 44
 m20:P.meths 0 20=some 48
 c9:P.meths 2 9=some 11
 c10:P.meths 2 10=some 12
 c11:P.meths 2 11=some 14
noncomputable def hn:Bool->Int
 |false=>0
 |true=>1
noncomputable def hx:Bool->Nat
 |false=>0
 |true=>1
noncomputable def upd{α:Type}(f:Bool->α)(i:Bool)(v:α):Bool->α:=λk=>if k=i then v else f k
section
variable {α:Type}{f:Bool->α}{i k:Bool}{v:α}
theorem v4:upd f i v i=v:=Zg rfl
theorem dz(h:k≠i):upd f i v k=f k:=Zh h
theorem ox{P:Bool->α->Prop}(h:P i v)(g:∀k,k≠i->P k (f k)):∀k,P k (upd f i v k):=λk=>by
 by_cases e:k=i
 .subst e;rw[v4];exact h
 .rw[dz e];exact g k e
end
theorem zb0{i k:Bool}(h:k≠i):hx k≠hx i:=by
 cases i<;>cases k<;>first|exact absurd rfl h|decide
structure HH(s:MS)(x:Bool->HIx)(h:Bool->HS):Prop where
 at_:∀i,HAt s (hx i) (x i) (h i)
 k:(x false).k≠(x true).k
 w:(x false).w≠(x true).w
 la:(x false).la≠(x true).la
 fr:(x false).fr≠(x true).fr
noncomputable def NH(l:Lbl):Prop:=l.1≠2/\l.1≠4/\l.1≠5/\l.1≠6/\l.1≠7
theorem zya{i:Nat}{x:HIx}{l:Lbl}(q:HF i x l):¬NH l:=λz=>by
 rcases q with rfl|rfl|rfl|rfl|rfl
 .exact z.1 rfl
 .exact z.2.1 rfl
 .exact z.2.2.1 rfl
 .exact z.2.2.2.1 rfl
 .exact z.2.2.2.2 rfl
section
variable {s s':MS}{x:Bool->HIx}{h:Bool->HS}{i:Bool}
theorem HH.step(a:HH s x h)(f:Fr NH s s'):HH s' x h:=⟨λi=>(a.at_ i).step f λl q z=>zya q z,a.k,a.w,a.la,a.fr⟩
variable{i k:Bool}
theorem HH.ne(a:HH s x h)(e:k≠i):∀l,HF (hx k) (x k) l->¬HF (hx i) (x i) l:=by
 have sy:∀{α:Type}{g:Bool->α},g false≠g true->g k≠g i:=by
  intro α g hg;cases i<;>cases k<;>first|exact absurd rfl e|exact hg|exact hg.symm
 have h1:=zb0 e;have h2:=sy (g:=λi=>(x i).k) a.k;have h3:=sy (g:=λi=>(x i).w) a.w;have h4:=sy (g:=λi=>(x i).la) a.la;have h5:=sy (g:=λi=>(x i).fr) a.fr;rintro l (rfl|rfl|rfl|rfl|rfl) (q|q|q|q|q)<;>first|exact absurd (Qd Prod.fst q) (Za rfl)|skip
 .exact h1 (Qd Prod.snd q)
 .exact h2 (Qd Prod.snd q)
 .exact h3 (Qd Prod.snd q)
 .exact h4 (Qd Prod.snd q)
 .exact h5 (Qd Prod.snd q)
variable{h':HS}
theorem HH.deed(a:HH s x h)(g:HAt s' (hx i) (x i) h')(f:Fr (HF (hx i) (x i)) s s'):HH s' x (upd h i h') :=
 ⟨ox (P:=λk g=>HAt s' (hx k) (x k) g) g λk e=>(a.at_ k).step f (a.ne e),a.k,a.w,a.la,a.fr⟩
theorem hf2(e:k≠i){x:HIx}:∀l,HF (hx k) x l->¬At1 (2,hx i) l:=by
 rintro l (rfl|rfl|rfl|rfl|rfl) q<;>first|exact absurd (Qd Prod.fst q) (Za rfl)|skip
 exact zb0 e (Qd Prod.snd q)
theorem HH.slept(a:HH s x h)(g:HAt s' (hx i) ⟨s.cnt 4,(x i).w,s.cnt 6,s.cnt 7⟩ h')(f:Fr (At1 (2,hx i)) s s'):HH s' (upd x i ⟨s.cnt 4,(x i).w,s.cnt 6,s.cnt 7⟩) (upd h i h'):=by
 have hk:=λk=>Z9 (a.at_ k).ik;have hl:=λk=>Z9 (a.at_ k).il;have hr:=λk=>Z9 (a.at_ k).ir;refine⟨λk=>?_,?_,?_,?_,?_⟩
 .by_cases e:k=i
  .subst e;rw[v4,v4];exact g
  .rw[dz e,dz e];exact(a.at_ k).step f (hf2 e)
 .cases i
  .exact(hk true).symm
  .exact hk false
 .cases i<;>exact a.w
 .cases i
  .exact(hl true).symm
  .exact hl false
 .cases i
  .exact(hr true).symm
  .exact hr false
end
structure CS where
 begun:Int
 op:Xc (Int×Key×W)
 closed:Xd (Int×Int)
noncomputable def opV:Xc (Int×Key×W)->V
 |none=>.none
 |some p=>.tup [.int p.1,.str p.2.1,wv p.2.2]
noncomputable def ue(p:Int×Int):V:=.tup [.int p.1,.int p.2]
noncomputable def vx(i:Nat)(c:CS):MObj:=.inst 2 [(0,.int i),(1,.int c.begun),(2,opV c.op),(3,.ref (8,i))]
structure WS where
 nc:Nat
 h:Bool->HS
 c:Nat->CS
 post:Xd Letter
 rows:Xd LRow
noncomputable def xa(nc:Nat):Xd V:=(Xr nc).map λ(i:Nat)=>.ref (3,i)
noncomputable def z45(ks:Xd Key)(nc:Nat):MObj:=.inst 0 [(8,.lst (ks.map .str)),(9,.lst [.ref (2,0),.ref (2,1)]),(10,.lst (xa nc)),(11,.ref (9,0)),(12,.ref (10,0))]
structure WAt(s:MS)(ks:Xd Key)(W:WS)(x:Bool->HIx):Prop where
 o:s.heap (1,0)=some (z45 ks W.nc)
 hh:HH s x W.h
 co:∀i,i<W.nc->s.heap (3,i)=some (vx i (W.c i))
 cl:∀i,i<W.nc->s.heap (8,i)=some (.list ((W.c i).closed.map ue))
 po:s.heap (9,0)=some (.list (W.post.map zu))
 ro:s.heap (10,0)=some (.list (W.rows.map xl))
 i1:0<s.cnt 1
 i3:W.nc<=s.cnt 3
 i8:W.nc<=s.cnt 8
 i9:0<s.cnt 9
 i10:0<s.cnt 10
noncomputable def jw(f:Nat->CS)(i:Nat)(v:CS):Nat->CS:=λk=>if k=i then v else f k
noncomputable def NW(l:Lbl):Prop:=11<=l.1
section
variable {s s':MS}{ks:Xd Key}{W:WS}{x:Bool->HIx}
variable{l:Lbl}
theorem zyq(h:NW l):NH l:=by
 have h:11<=l.1:=h;exact⟨by lia,by lia,by lia,by lia,by lia⟩
theorem WAt.step(a:WAt s ks W x)(f:Fr NW s s'):WAt s' ks W x where
 o:=(f.1 (1,0) a.i1 (Za (p:=¬11<=1) rfl)).trans a.o
 hh:=a.hh.step (f.mono λξ=>zyq)
 co i hi:=(f.1 (3,i) (Zi hi a.i3) (Za (p:=¬11<=3) rfl)).trans (a.co i hi)
 cl i hi:=(f.1 (8,i) (Zi hi a.i8) (Za (p:=¬11<=8) rfl)).trans (a.cl i hi)
 po:=(f.1 (9,0) a.i9 (Za (p:=¬11<=9) rfl)).trans a.po
 ro:=(f.1 (10,0) a.i10 (Za (p:=¬11<=10) rfl)).trans a.ro
 i1:=Zi a.i1 (f.2 _)
 i3:=Zp a.i3 (f.2 _)
 i8:=Zp a.i8 (f.2 _)
 i9:=Zi a.i9 (f.2 _)
 i10:=Zi a.i10 (f.2 _)
noncomputable def HO(l:Lbl):Prop:=l.1=2\/l.1=4\/l.1=5\/l.1=6\/l.1=7
theorem WAt.houses(a:WAt s ks W x)(f:Fr HO s s'){x':Bool->HIx}{h':Bool->HS}(hh:HH s' x' h'):WAt s' ks {W with h:=h'} x' where
 o:=(f.1 (1,0) a.i1 (Za (p:=¬(1=2\/1=4\/1=5\/1=6\/1=7)) rfl)).trans a.o
 hh:=hh
 co i hi:=(f.1 (3,i) (Zi hi a.i3) (Za (p:=¬(3=2\/3=4\/3=5\/3=6\/3=7)) rfl)).trans (a.co i hi)
 cl i hi:=(f.1 (8,i) (Zi hi a.i8) (Za (p:=¬(8=2\/8=4\/8=5\/8=6\/8=7)) rfl)).trans (a.cl i hi)
 po:=(f.1 (9,0) a.i9 (Za (p:=¬(9=2\/9=4\/9=5\/9=6\/9=7)) rfl)).trans a.po
 ro:=(f.1 (10,0) a.i10 (Za (p:=¬(10=2\/10=4\/10=5\/10=6\/10=7)) rfl)).trans a.ro
 i1:=Zi a.i1 (f.2 _)
 i3:=Zp a.i3 (f.2 _)
 i8:=Zp a.i8 (f.2 _)
 i9:=Zi a.i9 (f.2 _)
 i10:=Zi a.i10 (f.2 _)
variable{i:Nat}
theorem zuz{y:HIx}(f:Fr (HF i y) s s'):Fr HO s s':=f.mono λl q=>by
 rcases q with rfl|rfl|rfl|rfl|rfl
 .exact .inl rfl
 .exact .inr (.inl rfl)
 .exact .inr (.inr (.inl rfl))
 .exact .inr (.inr (.inr (.inl rfl)))
 .exact .inr (.inr (.inr (.inr rfl)))
theorem zuy(f:Fr (At1 (2,i)) s s'):Fr HO s s':=f.mono λl q=>.inl (Qd Prod.fst (show l=(2,i) from q))
theorem zce(h:NH l)(o:MObj):Fr NH s (s.put l o):=(Fr.refl _ _).put h o
theorem WAt.setPost(a:WAt s ks W x)(l:Xd Letter):WAt (s.put (9,0) (.list (l.map zu))) ks {W with post:=l} x :=
 ⟨(zo (by rfl)).trans a.o,a.hh.step (zce (l:=(9,0)) (Za (p:=9≠2/\9≠4/\9≠5/\9≠6/\9≠7) rfl) _),λi hi=>(zo (by rfl)).trans (a.co i hi),λi hi=>(zo (by rfl)).trans (a.cl i hi),zh _ _ _,(zo (by rfl)).trans a.ro,a.i1,a.i3,a.i8,a.i9,a.i10⟩
theorem WAt.setCaller(a:WAt s ks W x)(i:Nat)(c:CS)(hc:c.closed=(W.c i).closed):WAt (s.put (3,i) (vx i c)) ks {W with c:=jw W.c i c} x:=by
 refine⟨(zo (by rfl)).trans a.o,a.hh.step (zce (l:=(3,i)) (Za (p:=3≠2/\3≠4/\3≠5/\3≠6/\3≠7) rfl) _),λk hk=>?_,λk hk=>?_,(zo (by rfl)).trans a.po,(zo (by rfl)).trans a.ro,a.i1,a.i3,a.i8,a.i9,a.i10⟩
 .show(s.put (3,i) (vx i c)).heap (3,k)=some (vx k (if k=i then c else W.c k));by_cases e:k=i
  .subst e;rw[Zg rfl];exact zh _ _ _
  .rw[Zh e];exact(yd λq=>e (Qd Prod.snd q)).trans (a.co k hk)
 .show(s.put (3,i) (vx i c)).heap (8,k)=some (.list (List.map ue (if k=i then c else W.c k).closed));refine((zo (by rfl)).trans (a.cl k hk)).trans ?_;by_cases e:k=i
  .rw[Zg e,hc,e]
  .rw[Zh e]
end
section
variable {P:Prog} (H:WorldP P) {n:Nat}{s:MS}{ks:Xd Key}{W:WS}{x:Bool->HIx}{i:Nat}
variable{C:Calls}{l:Loc}{a b c:E}
theorem zn2{o o2:Cop}{x y z v:V}(ha:ev P C a l s=.ok x s)(hb:ev P C b l s=.ok y s)(h1:cmpOp o x y s=.ok (.bool true) s)(hc:ev P C c l s=.ok z s)(h2:cmpOp o2 y z s=.ok v s):ev P C (.cmp2 a o b o2 c) l s=.ok v s:=by
 rw[nt,ha];show Res.bind (ev P C b l s) _=_;rw[hb];show Res.bind (cmpOp o x y s) _=_;rw[h1];show Res.bind (ev P C c l s) _=_;rw[hc];exact h2
variable{y:Int}
theorem zgm{x z:Int}(ha:ev P C a l s=.ok (.int x) s)(hb:ev P C b l s=.ok (.int y) s)(hc:ev P C c l s=.ok (.int z) s)(h1:x<=y)(h2:y<z):ev P C (.cmp2 a .le b .lt c) l s=.ok (.bool true) s :=
 zn2 ha hb (Qd (λq=>Res.ok (V.bool q) s) (Zb h1)) hc (Qd (λq=>Res.ok (V.bool q) s) (Zb h2))
theorem zbu{x z:Int}(ha:ev P C a l s=.ok (.int x) s)(hb:ev P C b l s=.ok (.int y) s)(hc:ev P C c l s=.ok (.int z) s)(h1:x<=y)(h2:y<=z):ev P C (.cmp2 a .le b .le c) l s=.ok (.bool true) s :=
 zn2 ha hb (Qd (λq=>Res.ok (V.bool q) s) (Zb h1)) hc (Qd (λq=>Res.ok (V.bool q) s) (Zb h2))
theorem d0(nc:Nat):(xa nc).length=nc:=by rw[xa,Zd,Zx]
theorem zgh{nc:Nat}(hi:i<nc)(s:MS):getItem (.lst (xa nc)) (.int i) s=.ok (.ref (3,i)) s:=by
 have h:i<(xa nc).length:=by rw[d0];exact hi
 refine(li (s:=s) (a:=.lst (xa nc)) (k:=true) rfl i h).trans ?_;congr 1;rw[show(xa nc)[i]=V.ref (3,(Xr nc)[i]'(by rw[Zx];exact hi)) from Q9 ..,List.getElem_range]
theorem zjv{key:Key}(s:MS):∀{ks:Xd Key},key∈ks->vin s (.str key) (ks.map .str)=some true
 |k::ks,h=>by
  have e:vin s (.str key) ((k::ks).map .str)=(match some (decide (k=key)),vin s (.str key) (ks.map .str)with|some p,some q=>some (p||q)|_,_=>none):=rfl;rw[e];by_cases hk:k=key
  .have:∀l:Xd Key,∃q,vin s (.str key) (l.map .str)=some q:=λl=>by
    induction l with
    |nil=>exact⟨false,rfl⟩
    |cons a l ih =>
     refine zr ih λq hq=>?_;refine⟨decide (a=key)||q,?_⟩;show(match some (decide (a=key)),vin s (.str key) (l.map .str)with|some p,some q=>some (p||q)|_,_=>none)=_;rw[hq]
   refine zr (this ks) λq hq=>?_;rw[hq,Zb hk];rfl
  .rw[zjv s ((Zu.1 h).resolve_left λq=>hk q.symm)];show some (_||true)=_;rw[Bool.or_true]
include H
theorem yf(n:Nat)(i:Int)(s:MS):run P (n+1) 0 [.int i] s=.ok (.bool true) s:=qc (zm H.whole rfl (zv rfl ⟨rfl,rfl⟩))
theorem vr(n:Nat)(a:WAt s ks W x)(hi:i<W.nc):run P (n+2) 41 [.ref (1,0),.int i] s=.ok .none s:=by
 refine zr H.ncal λxc hf=>?_;refine qc (zm hf rfl ?_);have hw:=yf H n i s;exact zl (t:=false) (s':=s) (v0 (ve (t:=true) (qb (vs:=[.int i]) rfl hw)) (yv (ve (t:=true) (zgm (x:=0) (y:=i) (z:=(xa W.nc).length) rfl rfl (j5 (zg (z3 rfl (qh a.o rfl)) rfl) rfl) (by lia) (by rw[d0];lia))))) (ze (zx ⟨rfl,rfl⟩))
theorem x7(n:Nat)(b:Bool)(s:MS):run P (n+2) 42 [.ref (1,0),.int (hn b)] s=.ok .none s:=by
 refine zr H.nhou λxc hf=>?_;refine qc (zm hf rfl ?_);have hw:=yf H n (hn b) s;exact zl (t:=false) (s':=s) (v0 (ve (t:=true) (qb (vs:=[.int (hn b)]) rfl hw)) (yv (ve (t:=true) (zgm (x:=0) (y:=hn b) (z:=2) rfl rfl rfl (by cases b<;>decide) (by cases b<;>decide))))) (ze (zx ⟨rfl,rfl⟩))
variable{key:Key}
theorem lx(n:Nat)(a:WAt s ks W x)(hk:key∈ks):run P (n+1) 43 [.ref (1,0),.str key] s=.ok .none s:=by
 refine zr H.nkey λxc hf=>?_;refine qc (zm hf rfl ?_);refine zl (t:=false) (s':=s) (v0 rfl (yv (jy rfl (z3 rfl (qh a.o rfl)) ?_))) (ze (zx ⟨rfl,rfl⟩));show okB s ((vin s (.str key) (ks.map .str)).map (!·))=_;rw[zjv s hk];rfl
theorem ml(n:Nat)(a:WAt s ks W x){p:Nat}(hp:p<W.post.length):run P (n+2) 44 [.ref (1,0),.int p] s=.ok .none s:=by
 refine zr H.npla λxc hf=>?_;refine qc (zm hf rfl ?_);have hw:=yf H n p s;exact zl (t:=false) (s':=s) (v0 (ve (t:=true) (qb (vs:=[.int p]) rfl hw)) (yv (ve (t:=true) (zgm (x:=0) (y:=p) (z:=(W.post.map zu).length) rfl rfl (j5 (zg (z3 rfl (qh a.o rfl)) rfl) (y0 (jh a.po))) (by lia) (by rw[Zd];lia))))) (ze (zx ⟨rfl,rfl⟩))
theorem vt(n:Nat)(a:WAt s ks W x)(hi:i<W.nc):run P (n+1) 14 [.ref (3,i)] s=.ok (opV (W.c i).op) s :=
 qc (zm H.cask rfl (zv (z3 rfl (qh (a.co i hi) rfl)) ⟨rfl,rfl⟩))
theorem gj(n:Nat)(a:WAt s ks W x)(hi:i<W.nc){p:Int×Key×Internal.W}(hp:(W.c i).op=some p)(b:Bool):run P (n+1) 12 [.ref (3,i),.int (hn b)] s=.ok (zu (.call (hn b) i p.1 p.2.1 p.2.2)) s:=by
 have ho:=a.co i hi;refine qc (zm H.clet rfl ?_);refine zk (v:=.tup [.int p.1,.str p.2.1,wv p.2.2]) (s':=s) (z3 rfl (qh ho (Qd (λq=>some (opV q)) hp))) rfl ?_;exact zv (by (repeat' first|exact rfl|apply z3|apply p4|apply zg|exact qh (by assumption) rfl)) ⟨rfl,rfl⟩
omit H
theorem zbq(A:WAt s ks W x)(hi:i<W.nc)(ha:ev P C a l s=.ok (.ref (1,0)) s)(hb:ev P C b l s=.ok (.int i) s):ev P C (.sub (.attr a 10) b) l s=.ok (.ref (3,i)) s :=
 qk (z3 ha (qh A.o rfl)) hb (zgh hi s)
theorem zks(b:Bool)(s:MS):getItem (.lst [.ref (2,0),.ref (2,1)]) (.int (hn b)) s=.ok (.ref (2,hx b)) s:=by cases b<;>rfl
theorem m4{e:E}{b:Bool}(A:WAt s ks W x)(ha:ev P C a l s=.ok (.ref (1,0)) s)(hb:ev P C e l s=.ok (.int (hn b)) s):ev P C (.sub (.attr a 9) e) l s=.ok (.ref (2,hx b)) s :=
 qk (z3 ha (qh A.o rfl)) hb (zks b s)
theorem WAt.post1(a:WAt s ks W x)(L:Letter):WAt (s.put (9,0) (.list (W.post.map zu++[zu L]))) ks {W with post:=W.post++[L]} x:=by
 have:=a.setPost (W.post++[L])
 rwa [Qb]at this
noncomputable def NWp(l:Lbl):Prop:=l.1<11
theorem pf{l:Lbl}(h:l.1<11)(o:MObj):Fr NWp s (s.put l o):=(Fr.refl _ _).put h o
include H
theorem zll(hf:P.fns 11=some f_Caller_begin)(n:Nat)(a:WAt s ks W x)(hi:i<W.nc)(key:Key)(w:Internal.W):
  ∃u,run P (n+1) 11 [.ref (3,i),.str key,wv w] s=.ok (.int ((W.c i).begun+1)) u/\WAt u ks {W with c:=jw W.c i ⟨(W.c i).begun+1,some ((W.c i).begun+1,key,w),(W.c i).closed⟩} x/\Fr NWp s u:=by
 have ho:=a.co i hi;have h1:(s.put (3,i) (vx i ⟨(W.c i).begun+1,(W.c i).op,(W.c i).closed⟩)).heap (3,i)=some (vx i ⟨(W.c i).begun+1,(W.c i).op,(W.c i).closed⟩):=zh _ _ _;have f1:Fr NWp s (s.put (3,i) (vx i ⟨(W.c i).begun+1,(W.c i).op,(W.c i).closed⟩)):=pf (Za (p:=3<11) rfl) _;have a1:=a.setCaller i ⟨(W.c i).begun+1,(W.c i).op,(W.c i).closed⟩ rfl;refine⟨(s.put (3,i) (vx i ⟨(W.c i).begun+1,(W.c i).op,(W.c i).closed⟩)).put (3,i) (vx i ⟨(W.c i).begun+1,some ((W.c i).begun+1,key,w),(W.c i).closed⟩),qc (zm hf rfl ?_),?_,f1.put (Za (p:=3<11) rfl) _⟩
 .refine qd (v:=.int ((W.c i).begun+1)) (s':=s.put (3,i) (vx i ⟨(W.c i).begun+1,(W.c i).op,(W.c i).closed⟩)) (by (repeat' first|exact rfl|apply z3|apply kb|exact qh (by assumption) rfl)) rfl (k8 1 _ ho rfl) ?_;generalize s.put (3,i) (vx i ⟨(W.c i).begun+1,(W.c i).op,(W.c i).closed⟩)=t at h1;refine qd (v:=opV (some ((W.c i).begun+1,key,w))) (s':=t.put (3,i) (vx i ⟨(W.c i).begun+1,some ((W.c i).begun+1,key,w),(W.c i).closed⟩)) (by (repeat' first|exact rfl|apply z3|apply p4|apply zg|exact qh (by assumption) rfl)) rfl (k8 2 _ h1 rfl) ?_;have h2:(t.put (3,i) (vx i ⟨(W.c i).begun+1,some ((W.c i).begun+1,key,w),(W.c i).closed⟩)).heap (3,i)=some (vx i ⟨(W.c i).begun+1,some ((W.c i).begun+1,key,w),(W.c i).closed⟩):=zh _ _ _;exact zv (by (repeat' first|exact rfl|apply z3|exact qh (by assumption) rfl)) ⟨rfl,rfl⟩
 .have a2:=a1.setCaller i ⟨(W.c i).begun+1,some ((W.c i).begun+1,key,w),(W.c i).closed⟩ (by show _=(if i=i then _ else _:CS).closed;rw[Zg rfl]);have e:jw (jw W.c i ⟨(W.c i).begun+1,(W.c i).op,(W.c i).closed⟩) i ⟨(W.c i).begun+1,some ((W.c i).begun+1,key,w),(W.c i).closed⟩=jw W.c i ⟨(W.c i).begun+1,some ((W.c i).begun+1,key,w),(W.c i).closed⟩:=by
   funext k;show(if k=i then _ else if k=i then _ else W.c k)=if k=i then _ else W.c k;split<;>rfl
  exact e▸a2
variable{xc:Nat}
theorem zlw{yc:Nat}(hb:P.fns 11=some f_Caller_begin)(hw:P.fns 1=some (f_need_wish yc))(hf:P.fns 45=some (f_World_call xc))(n:Nat)(a:WAt s ks W x)(hi:i<W.nc)(b:Bool)(hk:key∈ks){w:Internal.W}(hn1:run P (n+2) 1 [wv w] s=.ok .none s)(ho:(W.c i).op=none)(hz:W.post.length<16777000):
  ∃u,run P (n+3) 45 [.ref (1,0),.int i,.int (hn b),.str key,wv w] s=.ok (.int ((W.c i).begun+1)) u /\
   WAt u ks {W with c:=jw W.c i ⟨(W.c i).begun+1,some ((W.c i).begun+1,key,w),(W.c i).closed⟩,post:=W.post++[.call (hn b) i ((W.c i).begun+1) key w]} x/\Fr NWp s u:=by
 have hco:=a.co i hi;refine jj (zll H hb (n+1) a hi key w) λt e1 a1 f1=>?_;have hco1:=a1.co i hi;have hlet:=gj H (n+1) a1 hi (p:=((W.c i).begun+1,key,w)) (by show(if i=i then _ else _:CS).op=_;rw[Zg rfl]) b;have hll:(W.post.map zu).length<16777216:=by rw[Zd];lia
 refine⟨t.put (9,0) (.list (W.post.map zu++[zu (.call (hn b) i ((W.c i).begun+1) key w)])),qc (zm hf rfl ?_),a1.post1 _,f1.put (Za (p:=9<11) rfl) _⟩;refine ji (zy (vs:=[.int i]) rfl ((zj a.o).trans H.m13) rfl (vr H n a hi)) ?_;refine ji (zy (vs:=[.int (hn b)]) rfl ((zj a.o).trans H.m14) rfl (x7 H n b s)) ?_;refine ji (zy (vs:=[.str key]) rfl ((zj a.o).trans H.m15) rfl (lx H (n+1) a hk)) ?_;refine ji (qb (vs:=[wv w]) rfl hn1) ?_;refine zl (t:=false) (xt (g:=true) (t:=true) (zy (zbq a hi rfl rfl) ((zj hco).trans H.c11) rfl (vt H (n+1) a hi)) (by rw[ho];exact Zb rfl)) (ze ?_);refine zk (zy (vs:=[.str key,wv w]) (zbq a hi rfl rfl) ((zj hco).trans H.c9) rfl e1) rfl ?_;refine qj (v:=.none) (v6 (x:=.ref (9,0)) (z3 rfl (qh a1.o rfl)) (qy a1.po) (zg (zy (vs:=[.int (hn b)]) (zbq a1 hi rfl rfl) ((zj hco1).trans H.c10) rfl hlet) rfl) (je _ _ _ _ a1.po hll)) ?_;exact zv rfl ⟨rfl,rfl⟩
theorem zhq(hf:P.fns 46=some (f_World_again xc))(n:Nat)(a:WAt s ks W x)(hi:i<W.nc)(b:Bool){p:Int×Key×Internal.W}(ho:(W.c i).op=some p)(hz:W.post.length<16777000):
  ∃u,run P (n+3) 46 [.ref (1,0),.int i,.int (hn b)] s=.ok .none u/\WAt u ks {W with post:=W.post++[.call (hn b) i p.1 p.2.1 p.2.2]} x/\Fr NWp s u:=by
 have hco:=a.co i hi;have hlet:=gj H (n+1) a hi ho b;have hll:(W.post.map zu).length<16777216:=by rw[Zd];lia
 refine⟨s.put (9,0) (.list (W.post.map zu++[zu (.call (hn b) i p.1 p.2.1 p.2.2)])),qc (zm hf rfl ?_),a.post1 _,pf (Za (p:=9<11) rfl) _⟩;refine ji (zy (vs:=[.int i]) rfl ((zj a.o).trans H.m13) rfl (vr H n a hi)) ?_;refine ji (zy (vs:=[.int (hn b)]) rfl ((zj a.o).trans H.m14) rfl (x7 H n b s)) ?_;refine zl (t:=false) (xt (g:=false) (t:=false) (zy (zbq a hi rfl rfl) ((zj hco).trans H.c11) rfl (vt H (n+1) a hi)) (by rw[ho];exact Zc nofun)) (ze ?_);exact qj (v:=.none) (v6 (x:=.ref (9,0)) (z3 rfl (qh a.o rfl)) (qy a.po) (zg (zy (vs:=[.int (hn b)]) (zbq a hi rfl rfl) ((zj hco).trans H.c10) rfl hlet) rfl) (je _ _ _ _ a.po hll)) (zx ⟨rfl,rfl⟩)
theorem zfh(hf:P.fns 59=some f_World_asking)(n:Nat)(a:WAt s ks W x)(hi:i<W.nc):run P (n+3) 59 [.ref (1,0),.int i] s=.ok (opV (W.c i).op) s:=by
 refine qc (zm hf rfl ?_);refine ji (zy (vs:=[.int i]) rfl ((zj a.o).trans H.m13) rfl (vr H n a hi)) ?_;exact zv (zy (zbq a hi rfl rfl) ((zj (a.co i hi)).trans H.c11) rfl (vt H (n+1) a hi)) ⟨rfl,rfl⟩
theorem zcq(hc:P.fns 15=some f_Caller_answers)(hm:P.meths 2 12=some 15)(hf:P.fns 60=some f_World_answers)(n:Nat)(a:WAt s ks W x)(hi:i<W.nc):run P (n+3) 60 [.ref (1,0),.int i] s=.ok (.ref (13,s.cnt 13)) (s.new 13 (.list ((W.c i).closed.map ue))):=by
 have hans:run P (n+2) 15 [.ref (3,i)] s=.ok (.ref (13,s.cnt 13)) (s.new 13 (.list ((W.c i).closed.map ue))):=qc (zm hc rfl (zv (pb (z3 rfl (qh (a.co i hi) rfl)) (jh (a.cl i hi))) ⟨rfl,rfl⟩));refine qc (zm hf rfl ?_);refine ji (zy (vs:=[.int i]) rfl ((zj a.o).trans H.m13) rfl (vr H n a hi)) ?_;exact zv (zy (zbq a hi rfl rfl) ((zj (a.co i hi)).trans hm) rfl hans) ⟨rfl,rfl⟩
theorem zcr(hf:P.fns 47=some f_World_letters)(n:Nat)(a:WAt s ks W x):run P (n+1) 47 [.ref (1,0)] s=.ok (.ref (11,s.cnt 11)) (s.new 11 (.list (W.post.map zu))) :=
 qc (zm hf rfl (zv (pb (z3 rfl (qh a.o rfl)) (jh a.po)) ⟨rfl,rfl⟩))
theorem zfj(hf:P.fns 58=some f_World_ledger)(n:Nat)(a:WAt s ks W x):run P (n+1) 58 [.ref (1,0)] s=.ok (.ref (12,s.cnt 12)) (s.new 12 (.list (W.rows.map xl))) :=
 qc (zm hf rfl (zv (pb (z3 rfl (qh a.o rfl)) (jh a.ro)) ⟨rfl,rfl⟩))
omit H
theorem zg9(s:MS)(r:Lbl)(l:Xd V)(p:Nat)(h:s.heap r=some (.list l))(hp:p<l.length):mu .pop (.ref r) [.int p] s=.ok l[p] (s.put r (.list (l.eraseIdx p))):=by
 show(match yb (.ref r) s with|some q=>(match idx (p:Int) q.2.length with|some j=>(match q.2[j]? with|some v=>Res.ok v (s.put q.1 (.list (q.2.eraseIdx j)))|none=>.stuck)|none=>.stuck)|none=>.stuck)=_;rw[zb9 h];show(match idx (p:Int) l.length with|some j=>(match l[j]? with|some v=>Res.ok v (s.put r (.list (l.eraseIdx j)))|none=>.stuck)|none=>.stuck)=_;rw[zom (by lia) (by lia)];show(match l[p]? with|some v=>Res.ok v (s.put r (.list (l.eraseIdx p)))|none=>.stuck)=_;rw[Zl hp]
theorem zck{p:Nat}(hp:p<W.post.length):(W.post.map zu)[p]'(by rw[Zd];exact hp)=zu W.post[p]:=Q9 ..
theorem de{α:Type}(f:α->V):∀(l:Xd α)(p:Nat),(l.map f).eraseIdx p=(l.eraseIdx p).map f
 | [],_=>rfl
 |_::_,0=>rfl
 |a::l,p+1=>Qd (f a::·) (de f l p)
theorem WAt.pop(a:WAt s ks W x)(p:Nat):WAt (s.put (9,0) (.list ((W.post.map zu).eraseIdx p))) ks {W with post:=W.post.eraseIdx p} x:=by
 rw[de];exact a.setPost _
noncomputable def ud(b:Bool):Letter->Prop
 |.call h _ _ _ _=>h=hn b
 |.parcel h _ _ _ _=>h=hn b
 |.taken h _ _=>h=hn b
 |.answer _ _ _=>False
variable{L:Letter}
theorem zok{b:Bool}(hL:ud b L)(s:MS):getItem (zu L) (.int 1) s=.ok (.int (hn b)) s:=by
 cases L with
 |answer=>exact hL.elim
 |call=>rw[<- show _=hn b from hL];rfl
 |parcel=>rw[<- show _=hn b from hL];rfl
 |taken=>rw[<- show _=hn b from hL];rfl
theorem zlc{b:Bool}(hL:ud b L){l0:V}(s:MS):ev P C (.cmp (.sub (.loc 1) (.int 0)) .eq (.str [97,110,115,119,101,114])) [some l0,some (zu L)] s=.ok (.bool false) s:=by
 cases L with
 |answer=>exact hL.elim
 |call=>rfl
 |parcel=>rfl
 |taken=>rfl
variable{u:MS}{j:Nat}
theorem zpr{y:HIx}(f:Fr (HF j y) s u):Fr NWp s u:=f.mono λl q=>by
 rcases q with rfl|rfl|rfl|rfl|rfl
 .exact Za (p:=2<11) rfl
 .exact Za (p:=4<11) rfl
 .exact Za (p:=5<11) rfl
 .exact Za (p:=6<11) rfl
 .exact Za (p:=7<11) rfl
theorem zpq(f:Fr (At1 (2,j)) s u):Fr NWp s u:=f.mono λl q=>by
 rw[show l=(2,j) from q];exact Za (p:=2<11) rfl
include H
theorem ze6(HP:HouseP P)(n:Nat)(a:WAt s ks W x){b:Bool}(hL:ud b L)(z:HZ (W.h b))(km:KOk (W.h b).known)(hk:LOk (W.h b) L):
  OkR (run P (n+4) 48 [.ref (1,0),zu L] s) λv u=>v=.none/\WAt u ks {W with h:=upd W.h b ((W.h b).came L)} x/\Fr NWp s u:=by
 refine zm H.brou rfl (zl (t:=false) (zlc hL s) ?_);refine jr (yi (vs:=[zu L]) (m4 a rfl (qk (x:=zu L) (y:=.int 1) rfl rfl (zok hL s))) ((zj (a.hh.at_ b).o).trans HP.mcame) rfl (zqd HP n (a.hh.at_ b) z km L hk)) ?_;rintro v u ⟨rfl,h1,h2⟩;exact ze (zx ⟨rfl,a.houses (zuz h2) (a.hh.deed h1 h2),zpr h2⟩)
theorem zqj(hf:P.fns 51=some f_World_lose)(n:Nat)(a:WAt s ks W x){p:Nat}(hp:p<W.post.length):
  ∃u,run P (n+3) 51 [.ref (1,0),.int p] s=.ok .none u/\WAt u ks {W with post:=W.post.eraseIdx p} x/\Fr NWp s u:=by
 have hp':p<(W.post.map zu).length:=by rw[Zd];exact hp
 refine⟨_,qc (zm hf rfl ?_),a.pop p,pf (Za (p:=9<11) rfl) _⟩;refine ji (zy (vs:=[.int p]) rfl ((zj a.o).trans H.m16) rfl (ml H n a hp)) ?_;exact qj (v6 (x:=.ref (9,0)) (vs:=[.int p]) (z3 rfl (qh a.o rfl)) (qy a.po) rfl (zg9 s (9,0) _ p a.po hp')) (zx ⟨rfl,rfl⟩)
theorem zhs(HP:HouseP P)(hs:P.fns 28=some f_House_sleep)(hm:P.meths 1 7=some 28)(hf:P.fns 56=some f_World_sleep)(n:Nat)(a:WAt s ks W x)(b:Bool)(z:HZ (W.h b)):
  OkR (run P (n+3) 56 [.ref (1,0),.int (hn b)] s) λv u=>v=.none/\(∃x',WAt u ks {W with h:=upd W.h b (W.h b).sleep} x')/\Fr NWp s u:=by
 refine zm hf rfl ?_;refine ji (zy (vs:=[.int (hn b)]) rfl ((zj a.o).trans H.m14) rfl (x7 H n b s)) ?_;refine jr (yi (vs:=[]) (m4 a rfl rfl) ((zj (a.hh.at_ b).o).trans hm) rfl (zlv HP hs (n+1) (a.hh.at_ b) z)) ?_;rintro v u ⟨rfl,h1,h2⟩;exact zx ⟨rfl,⟨_,a.houses (zuy h2) (a.hh.slept h1 h2)⟩,zpq h2⟩
end
end Internal
end
section
namespace Internal
section
variable {P:Prog} (H:WorldP P) {n:Nat}{s:MS}{ks:Xd Key}
structure KeyFine(k:Key):Prop where
 pos:1<=k.length
 eig:k.length<=8
 abc:∀c∈k,97<=c/\c<=122
theorem zr4:∀i:Fin 26,abc.contains (97+i.1)=true:=by decide
theorem zr6{c:Nat}(h:97<=c/\c<=122):c∈abc:=by
 have:=zr4 ⟨c-97,by omega⟩;rw[show 97+(⟨c-97,by omega⟩:Fin 26).1=c from by show 97+(c-97)=c;omega]at this;exact Q7.1 this
variable{k:Key}
theorem zr8(h:∀c∈k,97<=c/\c<=122):k.all (λc=>decide (c<128))=true:=Zv.2 λc hc=>Zb (by have:=h c hc;lia)
theorem zhg(hf:P.fns 4=some f_is_key)(n:Nat)(h:KeyFine k)(s:MS):run P (n+1) 4 [.str k] s=.ok (.bool true) s:=by
 have hp:=h.pos;have he:=h.eig;refine qc (zm hf rfl ?_);have hl:ev P (run P n) (.prim .len [.loc 0]) [some (.str k),none] s=.ok (.int k.length) s:=j5 (vs:=[.str k]) rfl (Zg (by show _<=16777216;lia));refine zl (t:=false) (s':=s) (v0 rfl (yv (ve (t:=true) (zbu (x:=1) (y:=k.length) (z:=8) rfl hl rfl (by lia) (by lia))))) (ze ?_);refine ka (v:=.str k) (s':=s) (xs:=k.map λc=>.str [c]) rfl (Zg (zr8 h.abc)) rfl (lz (λrem l u=>u=s/\(∀v∈rem,∃c,v=V.str [c]/\c∈abc)/\∃a,l=[some (.str k),a]) ?_ ?_ _ _ _ ⟨rfl,λv hv=>?_,_,rfl⟩)
 .rintro v rem l u ⟨rfl,hv,a,rfl⟩;refine zd (hv v (Zm ..)) λc eq1 hc=>?_;subst eq1;refine⟨rfl,?_⟩;show OkR (exs P _ _ _ [some (.str k),some (.str [c])] u) _;exact zl (t:=false) (Qd (λq=>Res.ok (V.bool (!q)) u) (Zb hc)) (ze (zx ⟨rfl,λv hv'=>hv v (Zk _ hv'),_,rfl⟩))
 .rintro l u ⟨rfl,-,a,rfl⟩;refine⟨rfl,?_⟩;rw[j9];exact zv rfl ⟨rfl,rfl⟩
 .refine zd (ls hv) λc hc eq2=>?_;subst eq2;exact⟨c,rfl,zr6 (h.abc c hc)⟩
theorem zf1{key:Key}(s:MS):∀{ks:Xd Key},key ∉ ks->vin s (.str key) (ks.map .str)=some false
 | [],_=>rfl
 |k::ks,h=>by
  show(match some (decide (k=key)),vin s (.str key) (ks.map .str)with|some p,some q=>some (p||q)|_,_=>none)=_;have e:¬k=key:=λq=>h (by rw[q];exact Zm ..);rw[zf1 s λq=>h (Zk _ q),Zc e];rfl
theorem zt2(l:Xd V)(i:Nat)(s:MS):vi (.lst l) none (some (.int i)) s=.ok (.lst (l.take i)) s:=by
 show(match some 0,(if (0:Int)<=i then some (i:Int).toNat else none)with|some i,some j=>Res.ok (V.lst ((l.take j).drop i)) s|_,_=>.stuck)=_;rw[Zg (Qi i)];rfl
theorem rq{key:Key}:∀{ks:Xd Key}{i:Nat},ks.Nodup->ks[i]?=some key->key ∉ ks.take i
 | [],i,_,h=>by simp at h
 |a::ks,0,_,_=>by rw[List.take_zero];exact List.not_mem_nil
 |a::ks,i+1,nd,h=>by
  rw[Qu]at nd;rw[Jy]at h;rw[List.take_succ_cons];intro q;rcases Zu.1 q with e|q
  .exact nd.1 (e▸List.mem_of_getElem? h)
  .exact rq nd.2 h q
structure KeysFine(ks:Xd Key):Prop where
 pos:1<=ks.length
 six:ks.length<=6
 nd:ks.Nodup
 all:∀k∈ks,KeyFine k
include H
theorem ak{xc:Nat}(hk:P.fns 4=some f_is_key)(hf:P.fns 5=some (f_need_world xc))(n:Nat)(K:KeysFine ks){nc:Nat}(h1:1<=nc)(h6:nc<=6)(s:MS):run P (n+2) 5 [.lst (ks.map .str),.int nc] s=.ok .none s:=by
 have hp:=K.pos;have h6':=K.six;have hw:=yf H n nc s;refine qc (zm hf rfl ?_);have hl:(ks.map V.str).length=ks.length:=Zd ..;refine zl (t:=false) (s':=s) (v0 rfl (yv (ve (t:=true) (zbu (x:=1) (y:=(ks.map V.str).length) (z:=6) rfl rfl rfl (by lia) (by lia))))) (ze ?_);refine ka (v:=.int (ks.map V.str).length) (s':=s) (xs:=(Xr (ks.map V.str).length).map λ(i:Nat)=>.int i) rfl (jt s _ (by lia) (by lia)) rfl (lz (λrem l u=>u=s/\(∀v∈rem,∃i:Nat,v=V.int i/\i<ks.length)/\∃a,l=[some (.lst (ks.map .str)),some (.int nc),a]) ?_ ?_ _ _ _ ⟨rfl,λv hv=>?_,_,rfl⟩)
 .rintro v rem l u ⟨rfl,hv,a,rfl⟩;refine zd (hv v (Zm ..)) λi eq1 hi=>?_;subst eq1;refine⟨rfl,?_⟩;show OkR (exs P _ _ _ [some (.lst (ks.map .str)),some (.int nc),some (.int i)] u) _;have hi':i<(ks.map V.str).length:=by rw[hl];exact hi
  have e1:=li (s:=u) (a:=.lst (ks.map .str)) (k:=true) rfl i hi';rw[show(ks.map V.str)[i]=V.str ks[i] from Q9 ..]at e1;have e2:ev P (run P (n+1)) (.sub (.loc 0) (.loc 2)) [some (.lst (ks.map .str)),some (.int nc),some (.int i)] u=.ok (.str ks[i]) u:=qk rfl rfl e1;refine zl (t:=false) (s':=u) (v0 (ve (t:=true) (qb (zg e2 rfl) (zhg hk n (K.all _ (Qc _)) u))) (yv (jy e2 (zbv (x:=.lst (ks.map .str)) (y:=none) (z:=some (.int i)) rfl rfl rfl (zt2 _ i u)) ?_))) (ze (zx ⟨rfl,λv hv'=>hv v (Zk _ hv'),_,rfl⟩));show okB u (vin u (.str ks[i]) ((ks.map .str).take i))=_;rw[<- List.map_take,zf1 u (rq K.nd (Zl hi))];rfl
 .rintro l u ⟨rfl,-,a,rfl⟩;refine⟨rfl,?_⟩;rw[j9];exact zl (t:=false) (s':=u) (v0 (ve (t:=true) (qb (vs:=[.int nc]) rfl hw)) (yv (ve (t:=true) (zbu (x:=1) (y:=nc) (z:=6) rfl rfl rfl (by lia) (by lia))))) (ze (zx ⟨rfl,rfl⟩))
 .refine zd (ls hv) λi hi eq2=>?_;subst eq2;rw[Qj,hl]at hi;exact⟨i,rfl,hi⟩
omit H
theorem dl{C:Calls}{s₀:MS}{nc slot:Nat}{e:E}{l:Loc}(f:Nat->V)(I:Nat->MS->Prop)(hz:nc<=1000)(he:∀j s,j<nc->I j s->OkR (ev P C e (l.set slot (some (.int j))) s) λv t=>v=f j/\I (j+1) t):
  ∀(m j:Nat)(s:MS),j+m=nc->I j s->OkR (compLoop s₀ true (.int nc) slot none (ev P C e) l ((Xr j).map f) ((List.range' j m).map λ(i:Nat)=>V.int i) s) λvs t=>vs=(Xr nc).map f/\I nc t
 |0,j,s,hj,h=>by
  have hj:j=nc:=hj;subst hj;rw[show(List.range' j 0).map (λ(i:Nat)=>V.int i)=[] from rfl,u0];exact⟨rfl,h⟩
 |m+1,j,s,hj,h=>by
  rw[List.range'_succ,Zz,uf];show OkR (Res.bind (ev P C e (l.set slot (some (.int j))) s) _) _;refine jz (z7 (he j s (by lia) h)) λv t e1 eq3 h1=>?_;subst eq3;rw[e1];show OkR (if ((Xr j).map f).length<zi then _ else _) _;rw[Zg (by rw[Zd,Zx];show _<16777216;lia)];have ih:=dl (s₀:=s₀) f I hz he m (j+1) t (by lia) h1;rw[List.range_succ,Qb]at ih;exact ih
noncomputable def c0:CS:=⟨0,none,[]⟩
variable{F:Lbl->Prop}
theorem zby{s':MS}(a:Fr F s s'){l:Lbl}(h:s.cnt l.1<=l.2)(o:MObj):Fr F s (s'.put l o) :=
 ⟨λx hx n=>(yd λ(e:x=l)=>by rw[e]at hx;lia).trans (a.1 x hx n),a.2⟩
theorem zep(hin:P.inits 2=some (3,10))(hf:P.fns 10=some f_Caller_init)(n:Nat){i:Nat}(h3:s.cnt 3=i)(h8:s.cnt 8=i):
  ∃u,xb P (run P (n+1)) 2 [.int i] s=.ok (.ref (3,i)) u/\u.heap (3,i)=some (vx i c0)/\u.heap (8,i)=some (.list [])/\Fr (λξ=>False) s u/\u.cnt 3=i+1/\u.cnt 8=i+1/\∀k,k≠3->k≠8->u.cnt k=s.cnt k:=by
 subst h3;have q0:(s.new 3 (.inst 2 [])).heap (3,s.cnt 3)=some (.inst 2 []):=zt _ _ _;have f0:Fr (λξ=>False) s (s.new 3 (.inst 2 [])):=(Fr.refl _ _).new _ _;have c3:(s.new 3 (.inst 2 [])).cnt 3=s.cnt 3+1:=rfl;have ck:∀k,k≠3->(s.new 3 (.inst 2 [])).cnt k=s.cnt k:=λk hk=>Zh hk;have c8:=(ck 8 (by decide)).trans h8;have ge:s.cnt 3<=s.cnt 3:=Zs _;have e:∃u,run P (n+1) 10 [.ref (3,s.cnt 3),.int (s.cnt 3)] (s.new 3 (.inst 2 []))=.ok .none u/\u.heap (3,s.cnt 3)=some (vx (s.cnt 3) c0)/\u.heap (8,s.cnt 3)=some (.list [])/\Fr (λξ=>False) s u/\u.cnt 3=s.cnt 3+1/\u.cnt 8=s.cnt 3+1/\∀k,k≠3->k≠8->u.cnt k=s.cnt k:=by
  generalize s.new 3 (.inst 2 [])=t at q0 f0 c3 ck c8;have q1:(t.put (3,s.cnt 3) (.inst 2 [(0,.int (s.cnt 3))])).heap (3,s.cnt 3)=some (.inst 2 [(0,.int (s.cnt 3))]):=zh _ _ _;have f1:=zby (l:=(3,s.cnt 3)) f0 ge (.inst 2 [(0,.int (s.cnt 3))]);have q2:((t.put (3,s.cnt 3) (.inst 2 [(0,.int (s.cnt 3))])).put (3,s.cnt 3) (.inst 2 [(0,.int (s.cnt 3)),(1,.int 0)])).heap (3,s.cnt 3)=some (.inst 2 [(0,.int (s.cnt 3)),(1,.int 0)]):=zh _ _ _;have f2:=zby (l:=(3,s.cnt 3)) f1 ge (.inst 2 [(0,.int (s.cnt 3)),(1,.int 0)]);have q3:(((t.put (3,s.cnt 3) (.inst 2 [(0,.int (s.cnt 3))])).put (3,s.cnt 3) (.inst 2 [(0,.int (s.cnt 3)),(1,.int 0)])).put (3,s.cnt 3) (.inst 2 [(0,.int (s.cnt 3)),(1,.int 0),(2,.none)])).heap (3,s.cnt 3)=some (.inst 2 [(0,.int (s.cnt 3)),(1,.int 0),(2,.none)]):=zh _ _ _;have f3:=zby (l:=(3,s.cnt 3)) f2 ge (.inst 2 [(0,.int (s.cnt 3)),(1,.int 0),(2,.none)]);have k3:(((t.put (3,s.cnt 3) (.inst 2 [(0,.int (s.cnt 3))])).put (3,s.cnt 3) (.inst 2 [(0,.int (s.cnt 3)),(1,.int 0)])).put (3,s.cnt 3) (.inst 2 [(0,.int (s.cnt 3)),(1,.int 0),(2,.none)])).cnt=t.cnt:=rfl;refine⟨((((t.put (3,s.cnt 3) (.inst 2 [(0,.int (s.cnt 3))])).put (3,s.cnt 3) (.inst 2 [(0,.int (s.cnt 3)),(1,.int 0)])).put (3,s.cnt 3) (.inst 2 [(0,.int (s.cnt 3)),(1,.int 0),(2,.none)])).new 8 (.list [])).put (3,s.cnt 3) (vx (s.cnt 3) c0),qc (zm hf rfl ?_),zh _ _ _,?_,zby (f3.new 8 _) ge _,c3,Qd (·+1) c8,λk h1 h2=>(Zh h2).trans (ck k h1)⟩
  .refine qd (v:=.int (s.cnt 3)) rfl rfl (k8 0 _ q0 rfl) (qd (v:=.int 0) rfl rfl (k8 1 _ q1 rfl) (qd (v:=.none) rfl rfl (k8 2 _ q2 rfl) ?_));refine qd (v:=.ref (8,t.cnt 8)) (s':=((((t.put (3,s.cnt 3) (.inst 2 [(0,.int (s.cnt 3))])).put (3,s.cnt 3) (.inst 2 [(0,.int (s.cnt 3)),(1,.int 0)])).put (3,s.cnt 3) (.inst 2 [(0,.int (s.cnt 3)),(1,.int 0),(2,.none)])).new 8 (.list [])).put (3,s.cnt 3) (vx (s.cnt 3) c0)) rfl rfl ?_ (zx ⟨rfl,rfl⟩);refine(k8 3 _ ((q7 (by rfl)).trans q3) rfl).trans ?_;rw[c8];rfl
  .refine(zo (by rfl)).trans ?_;rw[<- c8];exact zt _ 8 _
 refine zd e λu e1 e2=>?_;refine⟨u,?_,e2⟩;rw[xb,hin];show Res.bind (run P (n+1) 10 [.ref (3,s.cnt 3),.int (s.cnt 3)] (s.new 3 (.inst 2 []))) _=_;rw[e1];rfl
noncomputable def W0(ks:Xd Key)(nc:Nat):WS:=⟨nc,λb=>HS.new (hn b) ks,λξ=>c0,[],[]⟩
structure CI(s:MS)(j:Nat)(u:MS):Prop where
 c3:u.cnt 3=j
 c8:u.cnt 8=j
 co:∀i,i<j->u.heap (3,i)=some (vx i c0)
 cl:∀i,i<j->u.heap (8,i)=some (.list [])
 fr:Fr (λξ=>False) s u
 ck:∀k,k≠3->k≠8->u.cnt k=s.cnt k
theorem CI.next{u v:MS}{j:Nat}(a:CI s j u)(h1:v.heap (3,j)=some (vx j c0))(h2:v.heap (8,j)=some (.list []))(f:Fr (λξ=>False) u v)(h3:v.cnt 3=j+1)(h8:v.cnt 8=j+1)(hk:∀k,k≠3->k≠8->v.cnt k=u.cnt k):CI s (j+1) v:=by
 refine⟨h3,h8,λi hi=>?_,λi hi=>?_,a.fr.trans f,λk q1 q2=>(hk k q1 q2).trans (a.ck k q1 q2)⟩
 .by_cases e:i=j
  .rw[e];exact h1
  .exact(f.1 (3,i) (by show i<u.cnt 3;rw[a.c3];lia) λq=>q).trans (a.co i (by lia))
 .by_cases e:i=j
  .rw[e];exact h2
  .exact(f.1 (8,i) (by show i<u.cnt 8;rw[a.c8];lia) λq=>q).trans (a.cl i (by lia))
theorem zcm(n:Nat):Xr n=List.range' 0 n:=Q6
noncomputable def KeysW(kv:V)(ks:Xd Key)(s:MS):Prop:=kv=.lst (ks.map .str)\/∃r:Lbl,kv=.ref r/\11<=r.1/\r.2<s.cnt r.1/\s.heap r=some (.list (ks.map .str))
variable{kv:V}
theorem KeysW.v(h:KeysW kv ks s):KeysV kv ks s :=
 h.imp id λ⟨r,e,h1,h2,h3⟩=>⟨r,e,Qm (Zi (by decide) h1),Qm (Zi (by decide) h1),h2,h3⟩
theorem KeysW.step{t:MS}(h:KeysW kv ks s)(f:Fr F s t)(hF:∀l,F l->l.1<11):KeysW kv ks t :=
 h.imp id λ⟨r,e,h1,h2,h3⟩=>⟨r,e,h1,Zi h2 (f.2 _),(f.1 r h2 λq=>Nat.not_lt_of_le h1 (hF r q)).trans h3⟩
variable{C:Calls}{l:Loc}
theorem KeysW.list{e:E}(h:KeysW kv ks s)(he:ev P C e l s=.ok kv s):ev P C (.prim .list1 [e]) l s=.ok (.lst (ks.map .str)) s:=by
 rcases h with rfl|⟨r,rfl,-,-,h⟩
 .exact j5 (zg he rfl) rfl
 .refine j5 (zg he rfl) ?_;show(match z4 s (.ref r)with|some p=>Res.ok (V.lst p.2) s|none=>.stuck)=_;rw[jh h]
theorem zib(HP:HouseP P)(i1:P.inits 1=some (2,20))(n:Nat)(hk:KeysW kv ks s)(hn6:ks.length<1000)(z:s.cnt 2=0):
  ∃s1 s2 x,xb P (run P (n+1)) 1 [.int 0,kv] s=.ok (.ref (2,0)) s1/\xb P (run P (n+1)) 1 [.int 1,kv] s1=.ok (.ref (2,1)) s2/\HH s2 x (λb=>HS.new (hn b) ks)/\Fr (λξ=>False) s s2/\∀k,7<k\/k=3->s2.cnt k=s.cnt k:=by
 obtain⟨v,s1,e1,rfl,x1,-,hH1,u1,c1,m1⟩:=z7 (s9 HP i1 n (s:=s) 0 kv ks hk.v hn6);obtain⟨v,s2,e2,rfl,x2,hx2,hH2,u2,c2,m2⟩:=z7 (s9 HP i1 n (s:=s1) 1 kv ks (hk.step u1 λξ q=>q.elim).v hn6);rw[z]at c1 e1 hH1;rw[c1]at e2 hH2;refine⟨s1,s2,λb=>cond b x2 x1,e1,e2,⟨λb=>?_,Z9 (Zi hH1.ik hx2.1),Z9 (Zi hH1.iw hx2.2.1),Z9 (Zi hH1.il hx2.2.2.1),Z9 (Zi hH1.ir hx2.2.2.2)⟩,u1.trans u2,λk hk=>(m2 k hk).trans (m1 k hk)⟩;cases b
 .exact hH1.step u2 λξ ξ q=>q
 .exact hH2
variable{nc:Nat}
theorem zdh(i2:P.inits 2=some (3,10))(hci:P.fns 10=some f_Caller_init)(n:Nat)(h3:s.cnt 3=0)(h8:s.cnt 8=0)(h6:nc<=6){a b:Xc V}:
  ∃t,ev P (run P (n+1)) (.comp none 3 true (.loc 2) none (.new 2 [.loc 3])) [a,b,some (.int nc),none] s=.ok (.lst (xa nc)) t/\CI s nc t:=by
 have hz:nc<=1000:=Zp h6 (by decide);obtain⟨vs,t,e,rfl,ci⟩:=z7 (dl (P:=P) (C:=run P (n+1)) (s₀:=s) (slot:=3) (e:=.new 2 [.loc 3]) (l:=[a,b,some (.int nc),none]) (nc:=nc) (λi=>.ref (3,i)) (CI s) hz (λj u hj a=>by
  obtain⟨v,r1,r2,r3,r4,r5,r6,r7⟩:=zep i2 hci n a.c3 a.c8;exact bc (g6 (a:=[.int j]) (s:=u) rfl r1) ⟨rfl,a.next r2 r3 r4 r5 r6 r7⟩) nc 0 s (Jo nc) ⟨h3,h8,λi hi=>absurd hi (J0 i),λi hi=>absurd hi (J0 i),.refl _ _,λξ ξ ξ=>rfl⟩)
 exact⟨t,u3 (src:=.int nc) rfl ((jt s nc (Qo (by decide) (Qi nc)) (Qw.2 (Zp hz (by decide)))).trans (by rw[Qy,zcm])) e,ci⟩
noncomputable def zrw(ks:Xd Key)(nc:Nat):MObj:=.inst 0 [(8,.lst (ks.map .str)),(9,.lst [.ref (2,0),.ref (2,1)]),(10,.lst (xa nc))]
variable{Q:Fl×Loc->MS->Prop}
theorem zmy{x:Bool->HIx}(q0:s.heap (1,0)=some (zrw ks nc))(hh:HH s x (λb=>HS.new (hn b) ks))(co:∀i,i<nc->s.heap (3,i)=some (vx i c0))(cl:∀i,i<nc->s.heap (8,i)=some (.list []))(i1:0<s.cnt 1)(i3:nc<=s.cnt 3)(i8:nc<=s.cnt 8)(c9:s.cnt 9=0)(c10:s.cnt 10=0)(k:∀u,WAt u ks (W0 ks nc) x->Fr (At1 (1,0)) s u->(∀k,10<k->u.cnt k=s.cnt k)->Q (.next,some (.ref (1,0))::l) u):
  OkR (exs P C n [.setattr (.loc 0) 11 (.lstM 9 []),.setattr (.loc 0) 12 (.lstM 10 [])] (some (.ref (1,0))::l) s) Q:=by
 have g:∀{a b:MObj}{l:Lbl}{o:MObj},s.heap l=some o->l.1≠1->l.1≠9->l.1≠10->((((s.new 9 (.list [])).put (1,0) a).new 10 (.list [])).put (1,0) b).heap l=some o :=
  λe h1 h9 h10=>(yd λq=>h1 (Qd Prod.fst q)).trans ((zcd λq=>h10 (Qd Prod.fst q)).trans ((yd λq=>h1 (Qd Prod.fst q)).trans ((zcd λq=>h9 (Qd Prod.fst q)).trans e)))
 have f:∀{a b:MObj},Fr (At1 (1,0)) s ((((s.new 9 (.list [])).put (1,0) a).new 10 (.list [])).put (1,0) b):=((((Fr.refl _ _).new _ _).put (at1 _) _).new _ _).put (at1 _) _;refine qd rfl rfl (k8 11 _ ((q7 (by rfl)).trans q0) rfl) (qd rfl rfl (k8 12 _ ((q7 (by rfl)).trans (zh _ _ _)) rfl) (zx (k _ ⟨?_,hh.step (f.mono λl (e:l=(1,0))=>e▸Za (p:=1≠2/\1≠4/\1≠5/\1≠6/\1≠7) rfl),λi hi=>g (co i hi) (Za (p:=3≠1) rfl) (Za (p:=3≠9) rfl) (Za (p:=3≠10) rfl),λi hi=>g (cl i hi) (Za (p:=8≠1) rfl) (Za (p:=8≠9) rfl) (Za (p:=8≠10) rfl),?_,?_,i1,i3,i8,Q5 _,Q5 _⟩ f λk hk=>(Zh (Qm hk)).trans (Zh (Qm (Nat.lt_of_succ_lt hk))))))
 .refine(zh _ _ _).trans ?_;show some (MObj.inst 0 [(8,.lst (ks.map .str)),(9,.lst [.ref (2,0),.ref (2,1)]),(10,.lst (xa nc)),(11,.ref (9,s.cnt 9)),(12,.ref (10,s.cnt 10))])=_;rw[c9,c10];rfl
 .refine(zo (by rfl)).trans ((q7 (by rfl)).trans ((zo (by rfl)).trans ?_));rw[<- c9];exact zt _ 9 _
 .refine(zo (by rfl)).trans ?_;have e:((s.new 9 (.list [])).put (1,0) (.inst 0 (mt 11 (.ref (9,s.cnt 9)) [(8,.lst (ks.map .str)),(9,.lst [.ref (2,0),.ref (2,1)]),(10,.lst (xa nc))]))).cnt 10=0:=c10;rw[<- e];exact zt _ 10 _
theorem zig(HP:HouseP P)(i1:P.inits 1=some (2,20))(i2:P.inits 2=some (3,10))(hci:P.fns 10=some f_Caller_init)(n:Nat)(hk:KeysW kv ks s)(hn6:ks.length<1000)(h6:nc<=6)(q0:s.heap (1,0)=some (.inst 0 []))(l1:0<s.cnt 1)(hc:∀k,k≠1->k<11->s.cnt k=0)(k:∀u l x,WAt u ks (W0 ks nc) x->Fr (At1 (1,0)) s u->(∀k,10<k->u.cnt k=s.cnt k)->Q (.next,l) u):
  OkR (exs P (run P (n+1)) (n+1) zrx [some (.ref (1,0)),some kv,some (.int nc),none] s) Q:=by
 refine qd (hk.list rfl) rfl (k8 8 _ q0 rfl) ?_;have f1:Fr (At1 (1,0)) s (s.put (1,0) (.inst 0 [(8,.lst (ks.map .str))])):=(Fr.refl _ _).put (at1 _) _;refine zjz (zib HP i1 n (hk.step f1 λl (e:l=(1,0))=>e▸Za (p:=1<11) rfl) hn6 (hc 2 (by decide) (by decide))) λs1 s2 x e1 e2 hh f2 c2=>?_;refine qd (zix (vs:=[.ref (2,0),.ref (2,1)]) (zg (g6 (a:=[.int 0,kv]) rfl e1) (zg (g6 (a:=[.int 1,kv]) rfl e2) rfl)) rfl) rfl (k8 9 _ ((f2.1 (1,0) l1 λq=>q).trans (zh _ _ _)) rfl) ?_;have hz:∀k,7<k\/k=3->k≠1->k<11->s2.cnt k=0:=λk h h1 h2=>(c2 k h).trans (hc k h1 h2);refine zd (zdh (s:=s2.put (1,0) (.inst 0 [(8,.lst (ks.map .str)),(9,.lst [.ref (2,0),.ref (2,1)])])) i2 hci n (hz 3 (.inr rfl) (by decide) (by decide)) (hz 8 (.inl (by decide)) (by decide) (by decide)) h6 (a:=some (.ref (1,0))) (b:=some kv)) λt e3 ci=>?_;have l2:0<s2.cnt 1:=Zi l1 (f2.2 1);have l3:0<t.cnt 1:=Zi l2 (ci.fr.2 1);have fN:Fr NH s2 (s2.put (1,0) (.inst 0 [(8,.lst (ks.map .str)),(9,.lst [.ref (2,0),.ref (2,1)])])):=(Fr.refl _ _).put (Za (p:=1≠2/\1≠4/\1≠5/\1≠6/\1≠7) rfl) _;have f3:Fr (At1 (1,0)) s t:=((f1.trans (f2.mono λξ q=>q.elim)).put (at1 _) _).trans (ci.fr.mono λξ q=>q.elim);have hput:∀{l:Lbl}{o:MObj},t.heap l=some o->l.1≠1->(t.put (1,0) (zrw ks nc)).heap l=some o:=λe h=>(yd λq=>h (Qd Prod.fst q)).trans e;refine qd e3 rfl (k8 10 _ ((ci.fr.1 (1,0) l2 λq=>q).trans (zh _ _ _)) rfl) (zmy (x:=x) (zh _ _ _) ?_ (λi hi=>hput (ci.co i hi) (Za (p:=3≠1) rfl)) (λi hi=>hput (ci.cl i hi) (Za (p:=8≠1) rfl)) l3 (Qf ci.c3.symm) (Qf ci.c8.symm) ((ci.ck 9 (by decide) (by decide)).trans (hz 9 (.inl (by decide)) (by decide) (by decide))) ((ci.ck 10 (by decide) (by decide)).trans (hz 10 (.inl (by decide)) (by decide) (by decide))) λu A f hu=>k u _ x A ((f3.put (at1 _) _).trans f) λk hk=>?_)
 .exact(hh.step fN).step ((ci.fr.mono λξ q=>q.elim).put (Za (p:=1≠2/\1≠4/\1≠5/\1≠6/\1≠7) rfl) _)
 .have h:k≠3/\k≠8/\7<k:=by omega
  exact(hu k hk).trans ((ci.ck k h.1 h.2.1).trans (c2 k (.inl h.2.2)))
theorem zk9{Q:V->MS->Prop}(i0:P.inits 0=some (1,40)){n:Nat}{vs:Xd V}(hc:∀k,k<11->s.cnt k=0)(h:∀t,t.heap (1,0)=some (.inst 0 [])->0<t.cnt 1->(∀k,k≠1->t.cnt k=s.cnt k)->Fr (λξ=>False) s t->OkR (run P n 40 (.ref (1,0)::vs) t) λv u=>v=.none/\Q (.ref (1,0)) u):
  OkR (xb P (run P n) 0 vs s) Q:=by
 have g1:=hc 1 (by decide);rw[xb,i0];show OkR (Res.bind (run P n 40 (.ref (1,s.cnt 1)::vs) (s.new 1 (.inst 0 []))) _) _;rw[g1,ju];exact jq (h (s.new 1 (.inst 0 [])) (by rw[<- g1];exact zt _ 1 _) (by rw[mz];exact Q5 _) (λk hk=>Zh hk) ((Fr.refl _ _).new _ _)) λv u q=>by obtain⟨rfl,q⟩:=q;exact q
include H
variable{xc:Nat}
theorem zg1(HP:HouseP P)(i0:P.inits 0=some (1,40))(i1:P.inits 1=some (2,20))(i2:P.inits 2=some (3,10))(hci:P.fns 10=some f_Caller_init)(hk:P.fns 4=some f_is_key)(hnw:P.fns 5=some (f_need_world xc))(hf:P.fns 40=some u6)(n:Nat)(K:KeysFine ks)(h1:1<=nc)(h6:nc<=6)(hc:∀k,k<11->s.cnt k=0):
  OkR (xb P (run P (n+3)) 0 [.lst (ks.map .str),.int nc] s) λv u=>v=.ref (1,0)/\(∃x,WAt u ks (W0 ks nc) x)/\Fr (λξ=>False) s u/\∀k,10<k->u.cnt k=s.cnt k :=
 zk9 i0 hc λt q0 l1 ck f0=>zm hf rfl (qj (qb (vs:=[.lst (ks.map .str),.int nc]) rfl (ak H hk hnw n K h1 h6 t)) (zig HP i1 i2 hci (n+1) (.inl rfl) (Z7 K.six (by decide)) h6 q0 l1 (λk h h'=>(ck k h).trans (hc k h')) λu l x A f hu=>⟨rfl,rfl,⟨x,A⟩,f0.fresh f (Qf (hc 1 (by decide))),λk hk=>(hu k hk).trans (ck k (Qm (Qe (by decide) hk)))⟩))
omit H
noncomputable abbrev big:Int:=1000000000000000000000000000000
theorem zus{a:E}{i:Int}(ha:ev P C a l s=.ok (.int i) s)(h1:-big<=i)(h2:i<=big):
  ev P C (.not (.cmp2 (.neg (.gint "GREATEST" 1000000000000000000000000000000)) .le a .le (.gint "GREATEST" 1000000000000000000000000000000))) l s=.ok (.bool false) s :=
 ve (t:=true) (zbu (x:=-big) (y:=i) (z:=big) rfl ha rfl h1 h2)
noncomputable def WOk:W->Prop
 |.get=>True
 |.set i=>-big<=i/\i<=big
 |.add i=>-big<=i/\i<=big
include H
theorem zfd(hf:P.fns 1=some (f_need_wish xc))(n:Nat)(w:W)(h:WOk w)(s:MS):run P (n+2) 1 [wv w] s=.ok .none s:=by
 refine qc (zm hf rfl ?_);cases w with
 |get=>exact zl (t:=false) (s':=s) rfl (ze (zl (t:=true) (s':=s) rfl (wd ⟨rfl,rfl⟩)))
 |set i =>
  have hw:=yf H n i s;exact zl (t:=false) (s':=s) rfl (ze (zl (t:=false) (s':=s) rfl (ze (zl (t:=false) (s':=s) (v0 rfl (v0 rfl (yv (ve (t:=true) (qb (vs:=[.int i]) rfl hw))))) (ze (zl (t:=false) (zus rfl h.1 h.2) (ze (zx ⟨rfl,rfl⟩))))))))
 |add i =>
  have hw:=yf H n i s;exact zl (t:=false) (s':=s) rfl (ze (zl (t:=false) (s':=s) rfl (ze (zl (t:=false) (s':=s) (v0 rfl (v0 rfl (yv (ve (t:=true) (qb (vs:=[.int i]) rfl hw))))) (ze (zl (t:=false) (zus rfl h.1 h.2) (ze (zx ⟨rfl,rfl⟩))))))))
omit H
theorem zvi:big=1000000000000000000000000000000:=rfl
theorem zjx(c:Int)(b:Bool):-big<=ie c b/\ie c b<=big:=by
 rw[zvi];cases b with
 |true =>
  refine zn (jd (c.fdiv 6) 2000000000000000000000000000001 (by decide)) λh1 h2=>?_;show _<=_-_/\_-_<=_;constructor<;>omega
 |false =>
  refine zn (jd (c.fdiv 6) 7 (by decide)) λh1 h2=>?_;show _<=_-_/\_-_<=_;constructor<;>omega
theorem zul(c:Int):WOk (zda c):=by
 unfold zda ig;split
 .trivial
 .split
  .exact zjx c _
  .exact zjx c _
theorem ztg:∀c∈qwe,97<=c/\c<=122:=by decide
theorem zem{m z:Nat}(h6:m<=6)(hz:z<8)(a:Nat)(t:Int)(b:Bool):∀k∈b7 m z a t b,KeyFine k:=by
 have hl:(ye z t).length=z:=ze5 z t;have ha:=zqa z t;cases b with
 |true =>
  intro k hk;refine zd (Z1.1 hk) λi hi eq2=>?_;subst eq2;have hi:=Qj.1 hi;have e:((ye z t++qwe).take (i+1)).length=i+1:=by rw[Jk,Zf,hl];show min (i+1) (z+8)=i+1;lia
  exact⟨by lia,by lia,λc hc=>(Zt.1 (List.mem_of_mem_take hc)).elim (ha c) (ztg c)⟩
 |false =>
  intro k hk;refine zd (Z1.1 hk) λi hi eq2=>?_;subst eq2;have e:((ye z t).take a++[vo (t+i)]++(ye z t).drop a).length=z+1:=by rw[Zf,Zf,Jk,Js,hl];show min a z+1+(z-a)=z+1;lia
  refine⟨by lia,by lia,λc hc=>?_⟩;rcases Zt.1 hc with hc|hc
  .rcases Zt.1 hc with hc|hc
   .exact ha c (List.mem_of_mem_take hc)
   .rw[Zq.1 hc];exact s6 _
  .exact ha c (List.mem_of_mem_drop hc)
theorem zk1(c:Int):KeysFine (ss c):=by
 refine zn (jd c 6 (by decide)) λh0 h1=>?_;refine zn (jd (c.fdiv 6) 8 (by decide)) λh2 h3=>?_;have K:=zs2 c;exact⟨K.pos,K.six,K.nd,zem (by omega) (by omega) _ _ _⟩
theorem lh(k:Int){N:Nat}(h:0<N):∃p:Nat,p<N/\k.fmod (N:Int)=p:=by
 refine zn (jd k (N:Int) (by omega)) λh1 h2=>?_;exact⟨(k.fmod (N:Int)).toNat,by omega,by omega⟩
end
end Internal
end
section
namespace Internal
noncomputable def f_Caller_came:Fn:=⟨3,["self","number","told"],[.ite (.and [.isC true (.attr (.loc 0) 2) .none,.cmp (.sub (.attr (.loc 0) 2) (.int 0)) .eq (.loc 1)]) [.expr (.bm .append (.attr (.loc 0) 3) [.tup [.loc 1,.loc 2]]),.setattr (.loc 0) 2 .none] []]⟩
noncomputable def f_World_home:Fn:=⟨2,["self","key","house"],[.exprX (.meth (.loc 0) 15 [.loc 1]),.for_ (.inl (.loc 2)) false (.attr (.loc 0) 9) [.ite (.meth (.loc 2) 0 [.loc 1]) [.ret (some (.attr (.loc 2) 0))] []],.ret (some .none)]⟩
noncomputable def f_World_move(xc:Nat):Fn:=⟨2,["self","key","home"],[.assignX 2 (.meth (.loc 0) 24 [.loc 1]),.ite (.isC false (.loc 2) .none) [.raise xc] [],.expr (.meth (.sub (.attr (.loc 0) 9) (.loc 2)) 5 [.loc 1])]⟩
noncomputable def f_World_has:Fn:=⟨3,["self","house","key"],[.exprX (.meth (.loc 0) 14 [.loc 1]),.exprX (.meth (.loc 0) 15 [.loc 2]),.ret (some (.meth (.sub (.attr (.loc 0) 9) (.loc 1)) 0 [.loc 2]))]⟩
noncomputable def f_World_write:Fn:=⟨2,["self","house","found"],[.exprX (.meth (.loc 0) 14 [.loc 1]),.assign 2 (.meth (.sub (.attr (.loc 0) 9) (.loc 1)) 6 []),.expr (.bm .extend (.attr (.loc 0) 11) [.sub (.loc 2) (.int 0)]),.expr (.bm .extend (.attr (.loc 0) 12) [.sub (.loc 2) (.int 1)])]⟩
noncomputable def f_World_nudge:Fn:=⟨2,["self","house"],[.exprX (.meth (.loc 0) 14 [.loc 1]),.expr (.bm .extend (.attr (.loc 0) 11) [.meth (.sub (.attr (.loc 0) 9) (.loc 1)) 8 []])]⟩
noncomputable def f_World_owes:Fn:=⟨2,["self","house"],[.exprX (.meth (.loc 0) 14 [.loc 1]),.ret (some (.meth (.sub (.attr (.loc 0) 9) (.loc 1)) 1 []))]⟩
noncomputable def CS.came(c:CS)(n told:Int):CS:=match c.op with
 |some p=>if p.1=n then ⟨c.begun,none,c.closed++[(n,told)]⟩ else c
 |none=>c
noncomputable def jp(W:WS)(key:Key):V:=if (W.h false).has key then .int (W.h false).num else if (W.h true).has key then .int (W.h true).num else .none
section
variable {P:Prog} (H:WorldP P) {n:Nat}{s:MS}{ks:Xd Key}{W:WS}{x:Bool->HIx}{i:Nat}
theorem b4(s:MS)(r:Lbl)(l:Xd V){v:V}{k:Bool}{l2:Xd V}(h:s.heap r=some (.list l))(h2:z4 s v=some (k,l2))(hz:l.length+l2.length<=16777216):mu .extend (.ref r) [v] s=.ok .none (s.put r (.list (l++l2))):=by
 show(match yb (.ref r) s with|some p=>(match z4 s v with|some q=>if p.2.length+q.2.length<=zi then Res.ok V.none (s.put p.1 (.list (p.2++q.2))) else .stuck|none=>.stuck)|none=>.stuck)=_;rw[zb9 h];show(match z4 s v with|some q=>if l.length+q.2.length<=zi then Res.ok V.none (s.put r (.list (l++q.2))) else .stuck|none=>.stuck)=_;rw[h2];exact Zg hz
theorem WAt.setRows(a:WAt s ks W x)(l:Xd LRow):WAt (s.put (10,0) (.list (l.map xl))) ks {W with rows:=l} x :=
 ⟨(zo (by rfl)).trans a.o,a.hh.step (zce (l:=(10,0)) (Za (p:=10≠2/\10≠4/\10≠5/\10≠6/\10≠7) rfl) _),λi hi=>(zo (by rfl)).trans (a.co i hi),λi hi=>(zo (by rfl)).trans (a.cl i hi),(zo (by rfl)).trans a.po,zh _ _ _,a.i1,a.i3,a.i8,a.i9,a.i10⟩
theorem WAt.setClosed(a:WAt s ks W x)(i:Nat)(c:CS)(h1:c.begun=(W.c i).begun)(h2:c.op=(W.c i).op):WAt (s.put (8,i) (.list (c.closed.map ue))) ks {W with c:=jw W.c i c} x:=by
 refine⟨(zo (by rfl)).trans a.o,a.hh.step (zce (l:=(8,i)) (Za (p:=8≠2/\8≠4/\8≠5/\8≠6/\8≠7) rfl) _),λk hk=>?_,λk hk=>?_,(zo (by rfl)).trans a.po,(zo (by rfl)).trans a.ro,a.i1,a.i3,a.i8,a.i9,a.i10⟩
 .refine((zo (by rfl)).trans (a.co k hk)).trans ?_;show some (vx k (W.c k))=some (vx k (if k=i then c else W.c k));by_cases e:k=i
  .rw[Zg e,vx,vx,h1,h2,e]
  .rw[Zh e]
 .show(s.put (8,i) (.list (c.closed.map ue))).heap (8,k)=some (.list (List.map ue (if k=i then c else W.c k).closed));by_cases e:k=i
  .subst e;rw[Zg rfl];exact zh _ _ _
  .rw[Zh e];exact(yd λq=>e (Qd Prod.snd q)).trans (a.cl k hk)
theorem zmu(f:Nat->CS)(i:Nat)(a b:CS):jw (jw f i a) i b=jw f i b:=by
 funext k;show(if k=i then _ else if k=i then _ else f k)=if k=i then _ else f k;split<;>rfl
set_option tactic.hygienic true in
theorem zbd(f:Nat->CS)(i:Nat):jw f i (f i)=f:=by
 funext k;show(if k=i then f i else f k)=f k;split
 .rename_i e;rw[e]
 .rfl
include H
theorem zlm(hf:P.fns 13=some f_Caller_came)(n:Nat)(a:WAt s ks W x)(hi:i<W.nc)(num told:Int)(hz:(W.c i).closed.length<16777000):
  OkR (run P (n+1) 13 [.ref (3,i),.int num,.int told] s) λv u=>v=.none/\WAt u ks {W with c:=jw W.c i ((W.c i).came num told)} x/\Fr NWp s u:=by
 have ho:=a.co i hi;have hcl:=a.cl i hi;refine zm hf rfl ?_;have eo:ev P (run P n) (.attr (.loc 0) 2) [some (.ref (3,i)),some (.int num),some (.int told)] s=.ok (opV (W.c i).op) s:=z3 rfl (qh ho rfl);cases hop:(W.c i).op with
 |none =>
  have e:(W.c i).came num told=W.c i:=by rw[CS.came,hop]
  rw[e,zbd];rw[hop]at eo;exact zl (t:=false) (s':=s) (ug (xt (g:=true) (t:=true) eo (Zb rfl))) (ze (zx ⟨rfl,a,.refl _ _⟩))
 |some p =>
  rw[hop]at eo;have e0:ev P (run P n) (.cmp (.sub (.attr (.loc 0) 2) (.int 0)) .eq (.loc 1)) [some (.ref (3,i)),some (.int num),some (.int told)] s=.ok (.bool (decide (p.1=num))) s:=jy (qk eo rfl rfl) rfl rfl;have e1:=xt (g:=true) (t:=false) eo (Zc nofun);by_cases hn:p.1=num
  .have e:(W.c i).came num told=⟨(W.c i).begun,none,(W.c i).closed++[(num,told)]⟩:=by rw[CS.came,hop];exact Zg hn
   rw[e];have hll:((W.c i).closed.map ue).length<16777216:=by rw[Zd];lia
   refine zl (t:=true) (s':=s) (ke e1 (vf (e0.trans (Qd (λq=>Res.ok (V.bool q) s) (Zb hn))))) ?_;have a1:=a.setClosed i ⟨(W.c i).begun,(W.c i).op,(W.c i).closed++[(num,told)]⟩ rfl rfl;have f1:Fr NWp s (s.put (8,i) (.list (((W.c i).closed++[(num,told)]).map ue))):=pf (Za (p:=8<11) rfl) _;refine qj (v:=.none) (s':=s.put (8,i) (.list (((W.c i).closed++[(num,told)]).map ue))) (v6 (x:=.ref (8,i)) (vs:=[ue (num,told)]) (z3 rfl (qh ho rfl)) (qy hcl) rfl (by rw[Qb];exact je _ _ _ _ hcl hll)) ?_;generalize s.put (8,i) (.list (((W.c i).closed++[(num,told)]).map ue))=t at a1 f1;have hself:jw W.c i ⟨(W.c i).begun,(W.c i).op,(W.c i).closed++[(num,told)]⟩ i=⟨(W.c i).begun,(W.c i).op,(W.c i).closed++[(num,told)]⟩:=Zg rfl;have ho1:t.heap (3,i)=some (vx i ⟨(W.c i).begun,(W.c i).op,(W.c i).closed++[(num,told)]⟩):=(a1.co i hi).trans (Qd (λc=>some (vx i c)) hself);have a2:WAt (t.put (3,i) (vx i ⟨(W.c i).begun,none,(W.c i).closed++[(num,told)]⟩)) ks {W with c:=jw (jw W.c i ⟨(W.c i).begun,(W.c i).op,(W.c i).closed++[(num,told)]⟩) i ⟨(W.c i).begun,none,(W.c i).closed++[(num,told)]⟩} x:=a1.setCaller i ⟨(W.c i).begun,none,(W.c i).closed++[(num,told)]⟩ (Qd CS.closed hself).symm;rw[zmu]at a2;exact qd (v:=.none) (s':=t.put (3,i) (vx i ⟨(W.c i).begun,none,(W.c i).closed++[(num,told)]⟩)) rfl rfl (k8 2 _ ho1 rfl) (ze (zx ⟨rfl,a2,f1.put (Za (p:=3<11) rfl) _⟩))
  .have e:(W.c i).came num told=W.c i:=by rw[CS.came,hop];exact Zh hn
   rw[e,zbd];exact zl (t:=false) (s':=s) (ke e1 (vf (e0.trans (Qd (λq=>Res.ok (V.bool q) s) (Zc hn))))) (ze (zx ⟨rfl,a,.refl _ _⟩))
variable{key:Key}
theorem zfi(HP:HouseP P)(hf:P.fns 54=some f_World_has)(n:Nat)(a:WAt s ks W x)(b:Bool)(hk:key∈ks):run P (n+3) 54 [.ref (1,0),.int (hn b),.str key] s=.ok (.bool ((W.h b).has key)) s:=by
 refine qc (zm hf rfl ?_);refine ji (zy (vs:=[.int (hn b)]) rfl ((zj a.o).trans H.m14) rfl (x7 H n b s)) ?_;refine ji (zy (vs:=[.str key]) rfl ((zj a.o).trans H.m15) rfl (lx H (n+1) a hk)) ?_;exact zv (zy (vs:=[.str key]) (m4 a rfl rfl) ((zj (a.hh.at_ b).o).trans HP.mhas) rfl (bf HP (n+1) (a.hh.at_ b) key)) ⟨rfl,rfl⟩
theorem ah(HP:HouseP P)(hf:P.fns 52=some f_World_home)(n:Nat)(a:WAt s ks W x)(hk:key∈ks):run P (n+3) 52 [.ref (1,0),.str key] s=.ok (jp W key) s:=by
 have h0:=bf HP (n+1) (a.hh.at_ false) key;have h1:=bf HP (n+1) (a.hh.at_ true) key;have o0:=(a.hh.at_ false).o;have o1:=(a.hh.at_ true).o;refine qc (zm hf rfl ?_);refine ji (zy (vs:=[.str key]) rfl ((zj a.o).trans H.m15) rfl (lx H (n+1) a hk)) ?_;refine ka (v:=.lst [.ref (2,0),.ref (2,1)]) (s':=s) (xs:=[.ref (2,0),.ref (2,1)]) (z3 rfl (qh a.o rfl)) rfl rfl ?_;have turn:∀(b:Bool)(l2:Xc V)(rest:Xd V),(W.h b).has key=false->OkR (jg s false (.lst [.ref (2,0),.ref (2,1)]) (uu P (run P (n+2)) (.inl (.loc 2))) (exs P (run P (n+2)) (n+2) [.ite (.meth (.loc 2) 0 [.loc 1]) [.ret (some (.attr (.loc 2) 0))] []]) rest [some (.ref (1,0)),some (.str key),some (.ref (2,hx b))] s) (i4 P (run P (n+2)) (n+2) [.ret (some .none)] λp t=>flV p.1=jp W key/\t=s)->
   OkR (jg s false (.lst [.ref (2,0),.ref (2,1)]) (uu P (run P (n+2)) (.inl (.loc 2))) (exs P (run P (n+2)) (n+2) [.ite (.meth (.loc 2) 0 [.loc 1]) [.ret (some (.attr (.loc 2) 0))] []]) (.ref (2,hx b)::rest) [some (.ref (1,0)),some (.str key),l2] s) (i4 P (run P (n+2)) (n+2) [.ret (some .none)] λp t=>flV p.1=jp W key/\t=s):=by
  intro b l2 rest hb k;have hr:=bf HP (n+1) (a.hh.at_ b) key;rw[hb]at hr;rw[vb];show OkR (Res.bind (exs P (run P (n+2)) (n+2) [.ite (.meth (.loc 2) 0 [.loc 1]) [.ret (some (.attr (.loc 2) 0))] []] [some (.ref (1,0)),some (.str key),some (.ref (2,hx b))] s) _) _;have e:exs P (run P (n+2)) (n+2) [.ite (.meth (.loc 2) 0 [.loc 1]) [.ret (some (.attr (.loc 2) 0))] []] [some (.ref (1,0)),some (.str key),some (.ref (2,hx b))] s=.ok (.next,[some (.ref (1,0)),some (.str key),some (.ref (2,hx b))]) s:=qc (zl (t:=false) (s':=s) (zy (vs:=[.str key]) rfl ((zj (a.hh.at_ b).o).trans HP.mhas) rfl hr) (ze (zx ⟨rfl,rfl⟩)));rw[e];exact k
 have hit:∀(b:Bool)(l2:Xc V)(rest:Xd V),(W.h b).has key=true->jp W key=.int (W.h b).num->OkR (jg s false (.lst [.ref (2,0),.ref (2,1)]) (uu P (run P (n+2)) (.inl (.loc 2))) (exs P (run P (n+2)) (n+2) [.ite (.meth (.loc 2) 0 [.loc 1]) [.ret (some (.attr (.loc 2) 0))] []]) (.ref (2,hx b)::rest) [some (.ref (1,0)),some (.str key),l2] s) (i4 P (run P (n+2)) (n+2) [.ret (some .none)] λp t=>flV p.1=jp W key/\t=s):=by
  intro b l2 rest hb hv;have hr:=bf HP (n+1) (a.hh.at_ b) key;rw[hb]at hr;rw[vb];show OkR (Res.bind (exs P (run P (n+2)) (n+2) [.ite (.meth (.loc 2) 0 [.loc 1]) [.ret (some (.attr (.loc 2) 0))] []] [some (.ref (1,0)),some (.str key),some (.ref (2,hx b))] s) _) _;have e:exs P (run P (n+2)) (n+2) [.ite (.meth (.loc 2) 0 [.loc 1]) [.ret (some (.attr (.loc 2) 0))] []] [some (.ref (1,0)),some (.str key),some (.ref (2,hx b))] s=.ok (.ret (.int (W.h b).num),[some (.ref (1,0)),some (.str key),some (.ref (2,hx b))]) s:=qc (zl (t:=true) (s':=s) (zy (vs:=[.str key]) rfl ((zj (a.hh.at_ b).o).trans HP.mhas) rfl hr) (zv (z3 rfl (qh (a.hh.at_ b).o rfl)) ⟨rfl,rfl⟩));rw[e];exact⟨hv.symm,rfl⟩
 cases c0:(W.h false).has key with
 |true=>exact hit false none [.ref (2,1)] c0 (by rw[jp,c0];exact Zg rfl)
 |false =>
  refine turn false none [.ref (2,1)] c0 ?_;cases c1:(W.h true).has key with
  |true=>exact hit true _ [] c1 (by rw[jp,c0,c1];rfl)
  |false =>
   refine turn true _ [] c1 ?_;rw[yq];show OkR (exs P (run P (n+2)) (n+2) [.ret (some .none)] [some (.ref (1,0)),some (.str key),some (.ref (2,hx true))] s) λp t=>flV p.1=jp W key/\t=s;exact zv (v:=.none) (s':=s) rfl ⟨by rw[jp,c0,c1];rfl,rfl⟩
theorem zly(HP:HouseP P)(ho:P.fns 22=some f_House_owes)(hf:P.fns 61=some f_World_owes)(n:Nat)(a:WAt s ks W x)(b:Bool)(z:HZ (W.h b))(nd:((W.h b).known.map (·.1)).Nodup):
  run P (n+3) 61 [.ref (1,0),.int (hn b)] s=.ok (.ref (14,s.cnt 14)) (s.new 14 (.list ((W.h b).owes.map .str))):=by
 refine qc (zm hf rfl ?_);refine ji (zy (vs:=[.int (hn b)]) rfl ((zj a.o).trans H.m14) rfl (x7 H n b s)) ?_;exact zv (zy (vs:=[]) (m4 a rfl rfl) ((zj (a.hh.at_ b).o).trans HP.mowes) rfl (al HP rfl ho (n+1) (a.hh.at_ b) z nd)) ⟨rfl,rfl⟩
theorem zlx{xc yc:Nat}(HP:HouseP P)(hm:P.fns 26=some (f_House_move yc))(hh:P.fns 52=some f_World_home)(h24:P.meths 0 24=some 52)(h5:P.meths 1 5=some 26)(hf:P.fns 53=some (f_World_move xc))(n:Nat)(a:WAt s ks W x)(hk:key∈ks)(b:Bool)(hv:jp W key=.int (hn b))(z:HZ (W.h b)){r:Row}(hr:qv key (W.h b).known=some r)(hs:r.st=.here):
  OkR (run P (n+4) 53 [.ref (1,0),.str key] s) λv u=>v=.none/\WAt u ks {W with h:=upd W.h b ((W.h b).move key r)} x/\Fr NWp s u:=by
 have e1:=ah H HP hh n a hk;rw[hv]at e1;refine zm hf rfl ?_;refine zh3 (zy (vs:=[.str key]) rfl ((zj a.o).trans h24) rfl e1) rfl ?_;refine zl (t:=false) (s':=s) (xt (g:=false) (t:=false) rfl (Zc nofun)) (ze ?_);refine jr (yi (vs:=[.str key]) (m4 a rfl rfl) ((zj (a.hh.at_ b).o).trans h5) rfl (zql HP hm (n+1) (a.hh.at_ b) z hr hs)) ?_;rintro v u ⟨rfl,h1,h2⟩;exact zx ⟨rfl,a.houses (zuz h2) (a.hh.deed h1 h2),zpr h2⟩
theorem zhr(HP:HouseP P)(hu:P.fns 29=some f_House_nudge)(h8:P.meths 1 8=some 29)(hf:P.fns 57=some f_World_nudge)(n:Nat)(a:WAt s ks W x)(b:Bool)(z:HZ (W.h b))(nd:((W.h b).written.map (·.1)).Nodup)(hz:W.post.length+(W.h b).nudge.length<=16777000):
  ∃u,run P (n+3) 57 [.ref (1,0),.int (hn b)] s=.ok .none u/\WAt u ks {W with post:=W.post++(W.h b).nudge} x/\Fr NWp s u:=by
 have a1:=a.setPost (W.post++(W.h b).nudge);rw[Qb]at a1;refine⟨_,qc (zm hf rfl ?_),a1,pf (Za (p:=9<11) rfl) _⟩;refine ji (zy (vs:=[.int (hn b)]) rfl ((zj a.o).trans H.m14) rfl (x7 H n b s)) ?_;exact qj (v:=.none) (v6 (x:=.ref (9,0)) (vs:=[.lst ((W.h b).nudge.map zu)]) (z3 rfl (qh a.o rfl)) (qy a.po) (zg (zy (vs:=[]) (m4 a rfl rfl) ((zj (a.hh.at_ b).o).trans h8) rfl (zlt HP hu n (a.hh.at_ b) z nd)) rfl) (b4 s (9,0) _ a.po rfl (by rw[Zd,Zd];lia))) (zx ⟨rfl,rfl⟩)
omit H
theorem HH.wrote{h:Bool->HS}{s':MS}{b:Bool}(a:HH s x h){h':HS}(g:HAt s' (hx b) ⟨(x b).k,s.cnt 5,s.cnt 6,s.cnt 7⟩ h')(f:Fr (At1 (2,hx b)) s s'):HH s' (upd x b ⟨(x b).k,s.cnt 5,s.cnt 6,s.cnt 7⟩) (upd h b h'):=by
 have hw:=λk=>Z9 (a.at_ k).iw;have hl:=λk=>Z9 (a.at_ k).il;have hr:=λk=>Z9 (a.at_ k).ir;refine⟨λk=>?_,?_,?_,?_,?_⟩
 .by_cases e:k=b
  .subst e;rw[v4,v4];exact g
  .rw[dz e,dz e];exact(a.at_ k).step f (hf2 e)
 .cases b<;>exact a.k
 .cases b
  .exact(hw true).symm
  .exact hw false
 .cases b
  .exact(hl true).symm
  .exact hl false
 .cases b
  .exact(hr true).symm
  .exact hr false
include H
theorem zht(HP:HouseP P)(hw:P.fns 27=some f_House_write)(h6:P.meths 1 6=some 27)(hf:P.fns 55=some f_World_write)(n:Nat)(a:WAt s ks W x)(b:Bool)(z:HZ (W.h b))(hz:W.post.length+(W.h b).laid.length<=16777000)(hz2:W.rows.length+(W.h b).fresh.length<=16777000):
  OkR (run P (n+3) 55 [.ref (1,0),.int (hn b)] s) λv u=>v=.none/\(∃x',WAt u ks {W with h:=upd W.h b (W.h b).write,post:=W.post++(W.h b).laid,rows:=W.rows++(W.h b).fresh} x')/\Fr NWp s u:=by
 refine zm hf rfl ?_;refine ji (zy (vs:=[.int (hn b)]) rfl ((zj a.o).trans H.m14) rfl (x7 H n b s)) ?_;refine qo (z7 (zlz HP hw (n+1) (a.hh.at_ b) z)) λv s1 e1 eq3 h1 f1=>?_;subst eq3;have a1:=a.houses (zuy f1) (a.hh.wrote h1 f1);have la1:s1.heap (6,(x b).la)=some (.list ((W.h b).laid.map zu)):=(f1.1 (6,(x b).la) (a.hh.at_ b).il (yj (by decide))).trans (a.hh.at_ b).la;have fr1:s1.heap (7,(x b).fr)=some (.list ((W.h b).fresh.map xl)):=(f1.1 (7,(x b).fr) (a.hh.at_ b).ir (yj (by decide))).trans (a.hh.at_ b).fr;refine zk (zy (vs:=[]) (m4 a rfl rfl) ((zj (a.hh.at_ b).o).trans h6) rfl e1) rfl ?_;refine qj (v:=.none) (v6 (x:=.ref (9,0)) (vs:=[.ref (6,(x b).la)]) (z3 rfl (qh a1.o rfl)) (qy a1.po) rfl (b4 s1 (9,0) _ a1.po (jh la1) (by rw[Zd,Zd];show W.post.length+_<=_;lia))) ?_;have a2:=a1.setPost (W.post++(W.h b).laid);rw[Qb]at a2;have f2:=(zpq f1).put (l:=(9,0)) (Za (p:=9<11) rfl) (.list (W.post.map zu++(W.h b).laid.map zu));have fr2:(s1.put (9,0) (.list (W.post.map zu++(W.h b).laid.map zu))).heap (7,(x b).fr)=some (.list ((W.h b).fresh.map xl)):=(zo (by rfl)).trans fr1;generalize s1.put (9,0) (.list (W.post.map zu++(W.h b).laid.map zu))=s2 at a2 f2 fr2;have a3:=a2.setRows (W.rows++(W.h b).fresh);rw[Qb]at a3;exact qj (v:=.none) (v6 (x:=.ref (10,0)) (vs:=[.ref (7,(x b).fr)]) (z3 rfl (qh a2.o rfl)) (qy a2.ro) rfl (b4 s2 (10,0) _ a2.ro (jh fr2) (by rw[Zd,Zd];show W.rows.length+_<=_;lia))) (zx ⟨rfl,⟨_,a3⟩,f2.put (Za (p:=10<11) rfl) _⟩)
theorem zco(hcc:P.fns 13=some f_Caller_came)(h2:P.meths 2 2=some 13)(n:Nat)(a:WAt s ks W x)(hi:i<W.nc)(num told:Int)(hz:(W.c i).closed.length<16777000):
  OkR (run P (n+4) 48 [.ref (1,0),zu (.answer i num told)] s) λv u=>v=.none/\WAt u ks {W with c:=jw W.c i ((W.c i).came num told)} x/\Fr NWp s u:=by
 refine zm H.brou rfl (zl (t:=true) (s':=s) rfl ?_);refine jr (yi (vs:=[.int num,.int told]) (zbq a hi rfl rfl) ((zj (a.co i hi)).trans h2) rfl (zlm H hcc (n+2) a hi num told hz)) ?_;rintro v u ⟨rfl,h3,h4⟩;exact ze (zx ⟨rfl,h3,h4⟩)
variable{W':WS}
theorem zlp(hf:P.fns 49=some f_World_hand)(n:Nat)(a:WAt s ks W x){p:Nat}(hp:p<W.post.length)(hb:∀t,WAt t ks {W with post:=W.post.eraseIdx p} x->OkR (run P (n+4) 48 [.ref (1,0),zu W.post[p]] t) λv u=>v=.none/\WAt u ks W' x/\Fr NWp t u):
  OkR (run P (n+5) 49 [.ref (1,0),.int p] s) λv u=>v=.none/\WAt u ks W' x/\Fr NWp s u:=by
 have hp':p<(W.post.map zu).length:=by rw[Zd];exact hp
 refine zm hf rfl ?_;refine ji (zy (vs:=[.int p]) rfl ((zj a.o).trans H.m16) rfl (ml H (n+2) a hp)) ?_;have e1:=zg9 s (9,0) (W.post.map zu) p a.po hp';rw[zck hp]at e1;have a1:=a.pop p;have f1:Fr NWp s (s.put (9,0) (.list ((W.post.map zu).eraseIdx p))):=pf (Za (p:=9<11) rfl) _;generalize s.put (9,0) (.list ((W.post.map zu).eraseIdx p))=t at e1 a1 f1;refine jr (yi (x:=.ref (1,0)) (vs:=[zu W.post[p]]) (s2:=t) rfl ((zj a.o).trans H.m20) (zg (v6 (x:=.ref (9,0)) (vs:=[.int p]) (z3 rfl (qh a.o rfl)) (qy a.po) rfl e1) rfl) (hb t a1)) ?_;rintro v u ⟨rfl,h1,h2⟩;exact zx ⟨rfl,h1,f1.trans h2⟩
theorem zhp(hf:P.fns 50=some f_World_twice)(n:Nat)(a:WAt s ks W x){p:Nat}(hp:p<W.post.length)(hb:OkR (run P (n+4) 48 [.ref (1,0),zu W.post[p]] s) λv u=>v=.none/\WAt u ks W' x/\Fr NWp s u):
  OkR (run P (n+5) 50 [.ref (1,0),.int p] s) λv u=>v=.none/\WAt u ks W' x/\Fr NWp s u:=by
 have hp':p<(W.post.map zu).length:=by rw[Zd];exact hp
 refine zm hf rfl ?_;refine ji (zy (vs:=[.int p]) rfl ((zj a.o).trans H.m16) rfl (ml H (n+2) a hp)) ?_;have e1:=li (jh a.po) p hp';rw[zck hp]at e1;refine jr (yi (x:=.ref (1,0)) (vs:=[zu W.post[p]]) (s2:=s) rfl ((zj a.o).trans H.m20) (zg (qk (x:=.ref (9,0)) (y:=.int p) (z3 rfl (qh a.o rfl)) rfl e1) rfl) hb) ?_;rintro v u ⟨rfl,h1,h2⟩;exact zx ⟨rfl,h1,h2⟩
end
end Internal
end
section
namespace Internal
theorem gg(i:Bool):(1:Int)-hn i=hn (!i):=by cases i<;>rfl
theorem zux(i:Bool):hn (!i)≠hn i:=by cases i<;>decide
noncomputable def zw(k:q6)(key:Key):Row:=(qv key k).getD ⟨.gone,0,0,[]⟩
variable{key:Key}{r:Row}
theorem ja{k:q6}(h:qv key k=some r):zw k key=r:=by rw[zw,h];rfl
theorem pi(k:q6)(key key':Key)(x:Row):zw (qw key x k) key'=if key'=key then x else zw k key':=by
 rw[zw,da];split<;>rfl
noncomputable def RU(r q:Row):Prop:=r.turn<=q.turn/\(q.turn=r.turn->r.st≠.here->q.st≠.here)
noncomputable def LP(T:Int)(r:Row):Prop:=T-1<=r.turn/\(r.turn=T-1->r.st≠.here)
theorem LP.up{T:Int}{q:Row}(a:LP T r)(h:RU r q):LP T q:=⟨Qo a.1 h.1,λe=>by
 have e2:r.turn=T-1:=by have:=a.1;have:=h.1;lia
 exact h.2 (e.trans e2.symm) (a.2 e2)⟩
theorem RU.refl(r:Row):RU r r:=⟨Q0 _,λξ h=>h⟩
structure Side(p:Int)(K D K' D':Row):Prop where
 pk:(K.turn-p) % 2=0
 pd:(D.turn-p) % 2=0
 ru:RU D K
 up:K.turn<=D'.turn+1
 hk:K.st=.here->K'.turn<K.turn
 hd:D.st=.here->K'.turn<D.turn
 gk:K.st=.gone->K.turn+1<=D'.turn
 gd:D.st=.gone->D.turn+1<=D'.turn
noncomputable def TS(b:Bool)(K D K' D':Row):Prop:=Side (hn b) K D K' D'/\Side (hn (!b)) K' D' K D
section
variable {b:Bool}{T:Int}{K D K' D' K1:Row}
theorem TS.swap(a:TS b K D K' D'):TS (!b) K' D' K D:=⟨a.2,by rw[Jc];exact a.1⟩
theorem TS.stay(a:TS b K D K' D')(h:K1.turn=K.turn)(hh:K1.st=.here->K.st=.here)(hg:K1.st=.gone->K.st=.gone\/K.turn+1<=D'.turn):TS b K1 D K' D' :=
 ⟨⟨h▸a.1.pk,a.1.pd,⟨h▸a.1.ru.1,λe n q=>a.1.ru.2 (h▸e) n (hh q)⟩,h▸a.1.up,λq=>h▸a.1.hk (hh q),a.1.hd,λq=>h▸(hg q).elim a.1.gk id,a.1.gd⟩,
  ⟨a.2.pk,a.2.pd,a.2.ru,a.2.up,λq=>h▸a.2.hk q,λq=>h▸a.2.hd q,a.2.gk,a.2.gd⟩⟩
theorem TS.lt(a:TS b K D K' D')(ht:(T-hn b) % 2=0)(h:K.turn<T):K'.turn<T:=by
 have h1:=a.2.up;have h2:=a.1.ru.1;have h3:=a.2.pk;have h4:=gg b
 rw[<- h4]at h3;omega
theorem TS.parcel(a:TS b K D K' D')(ht:(T-hn b) % 2=0)(h:K.turn<T)(h1:LP T K')(h2:LP T D')(e:K1.turn=T)(es:K1.st=.here):TS b K1 D K' D':=by
 have l:=a.lt ht h;have d1:=a.1.ru.1;have d2:=a.2.ru.1;refine⟨⟨e.symm▸ht,a.1.pd,⟨by lia,λq=>by lia⟩,by have:=h2.1;lia,λξ=>e.symm▸l,a.1.hd,λq=>(nomatch es.symm.trans q),a.1.gd⟩,⟨a.2.pk,a.2.pd,a.2.ru,a.2.up,λq=>absurd q (h1.2 ?_),λq=>absurd q (h2.2 ?_),a.2.gk,a.2.gd⟩⟩
 .have:=h1.1;lia
 .have:=h2.1;lia
theorem TS.write(a:TS b K D K' D'):TS b K K K' D' :=
 have h:=a.1.ru.1
 ⟨⟨a.1.pk,a.1.pk,.refl K,a.1.up,a.1.hk,a.1.hk,a.1.gk,a.1.gk⟩,⟨a.2.pk,a.2.pd,a.2.ru,Qo a.2.up (Int.add_le_add_right h 1),a.2.hk,a.2.hd,λe=>Qo (a.2.gk e) h,λe=>Qo (a.2.gd e) h⟩⟩
theorem TS.sleep(a:TS b K D K' D'):TS b D D K' D' :=
 have h:=a.1.ru.1
 ⟨⟨a.1.pd,a.1.pd,.refl D,Qo h a.1.up,a.1.hd,a.1.hd,a.1.gd,a.1.gd⟩,⟨a.2.pk,a.2.pd,a.2.ru,a.2.up,λe=>Int.lt_of_le_of_lt h (a.2.hk e),λe=>Int.lt_of_le_of_lt h (a.2.hd e),a.2.gk,a.2.gd⟩⟩
theorem TS.one(a:TS b K D K' D')(h:K.st=.here)(h':K'.st=.here):False:=by
 have h1:=a.1.hk h;have h2:=a.2.hk h'
 lia
theorem TS.ko(a:TS b K D K' D'):(K.st=.here\/(K'.st=.owes/\K.turn<=K'.turn))\/(K'.st=.here\/(K.st=.owes/\K'.turn<=K.turn)):=by
 cases h:K.st with
 |here=>exact .inl (.inl rfl)
 |owes =>
  cases h':K'.st with
  |here=>exact .inr (.inl rfl)
  |owes=>exact(Int.le_total K.turn K'.turn).imp (λq=>.inr ⟨rfl,q⟩) λq=>.inr ⟨rfl,q⟩
  |gone=>exact .inr (.inr ⟨rfl,by have:=a.2.gk h';have:=a.1.ru.1;lia⟩)
 |gone =>
  cases h':K'.st with
  |here=>exact .inr (.inl rfl)
  |owes=>exact .inl (.inr ⟨rfl,by have:=a.1.gk h;have:=a.2.ru.1;lia⟩)
  |gone=>have:=a.1.gk h;have:=a.2.gk h';have:=a.1.ru.1;have:=a.2.ru.1;lia
end
noncomputable def QL(key:Key)(b:Bool)(r:Row):Letter->Prop
 |.parcel h k T _ _=>h=hn (!b)->k=key->(T-hn (!b)) % 2=0/\LP T r
 |.taken h k T=>h=hn (!b)->k=key->T<=r.turn
 |_=>True
theorem QL.up{b:Bool}{q:Row}{L:Letter}(a:QL key b r L)(h:RU r q):QL key b q L:=by
 cases L with
 |parcel=>exact λh1 h2=>⟨(a h1 h2).1,(a h1 h2).2.up h⟩
 |taken=>exact λh1 h2=>Qo (a h1 h2) h.1
 |_=>trivial
structure KI(key:Key)(h:Bool->HS)(post:Xd Letter):Prop where
 ts:∀b,TS b (zw (h b).known key) (zw (h b).written key) (zw (h (!b)).known key) (zw (h (!b)).written key)
 po:∀b,∀L∈post,QL key b (zw (h b).written key) L
 la:∀b,∀L∈(h b).laid,QL key b (zw (h b).known key) L
section
variable {key:Key}{h:Bool->HS}{post post':Xd Letter}{b:Bool}{y:HS}
theorem zex(i:Bool):(!i)≠i:=by cases i<;>decide
variable{L:Letter}
theorem KI.pk(a:KI key h post)(b:Bool)(hL:L∈post):QL key b (zw (h b).known key) L:=(a.po b L hL).up (a.ts b).1.ru
theorem KI.house(a:KI key h post)(ts:TS b (zw y.known key) (zw y.written key) (zw (h (!b)).known key) (zw (h (!b)).written key))(hp:∀L∈post',QL key b (zw y.written key) L/\QL key (!b) (zw (h (!b)).written key) L)(hl:∀L∈y.laid,QL key b (zw y.known key) L):KI key (upd h b y) post':=by
 have two:∀{P:Bool->HS->HS->Prop},P b y (h (!b))->P (!b) (h (!b)) y->∀k,P k (upd h b y k) (upd h b y (!k)):=λh1 h2 k=>by
  cases b<;>cases k<;>assumption
 exact⟨two (P:=λk x z=>TS k (zw x.known key) (zw x.written key) (zw z.known key) (zw z.written key)) ts ts.swap,two (P:=λk x ξ=>∀L∈post',QL key k (zw x.written key) L) (λL q=>(hp L q).1) (λL q=>(hp L q).2),two (P:=λk x ξ=>∀L∈x.laid,QL key k (zw x.known key) L) hl (a.la (!b))⟩
theorem KI.put(a:KI key h post){k:Key}{r r':Row}(hk:qv k (h b).known=some r){la:Xd Letter}{fr:Xd LRow}(hs:key=k->TS b r (zw (h b).written key) (zw (h (!b)).known key) (zw (h (!b)).written key)->TS b r' (zw (h b).written key) (zw (h (!b)).known key) (zw (h (!b)).written key))(ru:RU r r')(hl:∀L∈la,∀q,(key=k->q=r')->QL key b q L):KI key (upd h b {h b with known:=qw k r' (h b).known,laid:=(h b).laid++la,fresh:=fr}) post:=by
 have e:zw (qw k r' (h b).known) key=if key=k then r' else zw (h b).known key:=pi ..;have t:=a.ts b;have up:RU (zw (h b).known key) (zw (qw k r' (h b).known) key):=by
  rw[e];by_cases ek:key=k
  .rw[Zg ek,ek,ja hk];exact ru
  .rw[Zh ek];exact .refl _
 refine a.house (y:={h b with known:=qw k r' (h b).known,laid:=(h b).laid++la,fresh:=fr}) ?_ (λL q=>⟨a.po b L q,a.po (!b) L q⟩) λL q=>(Zt.1 q).elim (λq=>(a.la b L q).up up) λq=>hl L q _ λek=>e.trans (Zg ek);show TS b (zw (qw k r' (h b).known) key) _ _ _;rw[e];by_cases ek:key=k
 .rw[Zg ek];refine hs ek ?_;have e2:zw (h b).known key=r:=by rw[ek];exact ja hk
  rw[<- e2];exact t
 .rw[Zh ek];exact t
theorem KI.lay(a:KI key h post)(hl:QL key b (zw (h b).known key) L):KI key (upd h b {h b with laid:=(h b).laid++[L]}) post :=
 a.house (y:={h b with laid:=(h b).laid++[L]}) (a.ts b) (λL q=>⟨a.po b L q,a.po (!b) L q⟩) (lr (a.la b) hl)
theorem KI.inPost(a:KI key h post)(hp:∀L∈post',L∈post\/∀b,QL key b (zw (h b).written key) L):KI key h post':=⟨a.ts,λb L q=>(hp L q).elim (a.po b L) λz=>z b,a.la⟩
theorem zic{α:Type}(f:Bool->α)(b:Bool):upd f b (f b)=f:=by
 funext k;by_cases e:k=b
 .subst e;rw[v4]
 .rw[dz e]
noncomputable def zdd(b:Bool):Letter->Prop
 |.parcel h _ _ _ _=>h=hn (!b)
 |.taken h _ _=>h=hn (!b)
 |_=>True
theorem zp3(h:zdd b L)(r:Row):QL key (!b) r L:=by
 cases L with
 |parcel=>exact λe=>absurd (h.symm.trans e) (by rw[Jc];exact zux b)
 |taken=>exact λe=>absurd (h.symm.trans e) (by rw[Jc];exact zux b)
 |_=>trivial
theorem KI.write(a:KI key h post)(ha:∀L∈(h b).laid,zdd b L):KI key (upd h b (h b).write) (post++(h b).laid) :=
 a.house (y:=(h b).write) (a.ts b).write (λL q=>(Zt.1 q).elim (λq=>⟨a.pk b q,a.po (!b) L q⟩) λq=>⟨a.la b L q,zp3 (ha L q) _⟩) λL q=>(nomatch q)
theorem KI.sleep(a:KI key h post):KI key (upd h b (h b).sleep) post :=
 a.house (y:=(h b).sleep) (a.ts b).sleep (λL q=>⟨a.po b L q,a.po (!b) L q⟩) λL q=>(nomatch q)
theorem KI.nudge(a:KI key h post)(nu:(h b).num=hn b)(nd:((h b).written.map (·.1)).Nodup):KI key h (post++(h b).nudge):=a.inPost λL q=>(Zt.1 q).imp id λq=>by
 refine zd (Z1.1 q) λp hp eq2=>?_;subst eq2;refine zn (Q3.1 hp) λh1 h2=>?_;have eL:jc (h b).num p.1 p.2=.parcel (hn (!b)) p.1 (p.2.turn+1) p.2.amt p.2.marks:=by rw[jc,nu,gg]
 rw[eL];have both:∀{P:Bool->Prop},P b->P (!b)->∀k,P k:=λh1 h2 k=>by cases b<;>cases k<;>assumption
 refine both (λξ e=>?_) (zp3 (b:=b) (show zdd b (.parcel (hn (!b)) p.1 (p.2.turn+1) p.2.amt p.2.marks) from rfl) _);have er:zw (h b).written key=p.2:=ja (e▸vn nd h1);have hd:=(a.ts b).1.pd;have h4:=gg b;rw[er]at hd ⊢;exact⟨by lia,by lia,λξ q=>nomatch (Za h2:p.2.st=.owes).symm.trans q⟩
theorem KI.new{ks:Xd Key}(nd:ks.Nodup)(hk:key∈ks):KI key (λb=>HS.new (hn b) ks) []:=by
 have e:∀b,zw (HS.new (hn b) ks).known key=wu (hn b):=λb=>by
  refine ja (vn ?_ ?_)
  .rw[di (hn b) nd,Qg];exact(Q1 ks).symm▸nd
  .rw[di (hn b) nd];exact Z1.2 ⟨key,hk,rfl⟩
 have e':∀b,zw (HS.new (hn b) ks).written key=wu (hn b):=e;refine⟨λb=>?_,λb L q=>(nomatch q),λb L q=>(nomatch q)⟩;show TS b (zw (HS.new (hn b) ks).known key) (zw (HS.new (hn b) ks).written key) (zw (HS.new (hn (!b)) ks).known key) (zw (HS.new (hn (!b)) ks).written key);rw[e,e',e,e'];have s:TS false (wu (hn false)) (wu (hn false)) (wu (hn true)) (wu (hn true)):=by
  unfold wu;exact⟨⟨by decide,by decide,.refl _,by decide,λξ=>by decide,λξ=>by decide,nofun,nofun⟩,⟨by decide,by decide,.refl _,by decide,nofun,nofun,λξ=>by decide,λξ=>by decide⟩⟩
 cases b
 .exact s
 .exact s.swap
end
end Internal
end
section
namespace Internal
noncomputable def MG(β:Nat->Int)(ms:Xd q9):Prop:=MOk ms/\∀m∈ms,∃i:Nat,m.1=i/\m.2.1<=β i
noncomputable def KG(β:Nat->Int)(k:q6):Prop:=∀p∈k,MG β p.2.marks
theorem zev{x m:q9}:∀{ms:Xd q9},x∈mins m ms->x=m\/x∈ms
 | [],h=>.inl (Zq.1 h)
 |a::l,h=>by
  rw[mins]at h;split at h
  .exact Zu.1 h
  .rcases Zu.1 h with h|h
   .exact .inr (h▸Zm ..)
   .exact(zev h).imp id (Zk _)
variable{β:Nat->Int}{ms:Xd q9}{i:Nat}{n:Int}
theorem MG.put(a:MG β ms){t:Int}(h6:i<6)(h1:n<=β i):MG β (dh ((i:Int),n,t) ms) :=
 ⟨a.1.put (Qi i) (Qx.2 h6),λx hx=>(zev hx).elim (λe=>⟨i,e▸rfl,e▸h1⟩) λq=>a.2 x (Q3.1 q).1⟩
variable{β':Nat->Int}
theorem MG.mono(h:∀i,β i<=β' i)(a:MG β ms):MG β' ms:=⟨a.1,λm q=>let ⟨i,e,z⟩:=a.2 m q;⟨i,e,Qo z (h i)⟩⟩
set_option tactic.hygienic true in
theorem zau{c:Int}:∀{ms:Xd q9}{p:Int×Int},vq c ms=some p->(c,p)∈ms
 |m::l,p,h=>by
  rw[vq]at h;split at h
  .rename_i e;obtain rfl:=Je h;exact e▸Zm ..
  .exact Zk _ (zau h)
theorem MG.le(a:MG β ms){q:Int×Int}(hq:vq i ms=some q):q.1<=β i:=by
 refine zd (a.2 _ (zau hq)) λj e h=>?_;cases Int.ofNat.inj e;exact h
noncomputable def LetOk(ks:Xd Key)(nc:Nat)(β:Nat->Int):Letter->Prop
 |.call h c n k _=>(∃b,h=hn b)/\(∃i:Nat,i<nc/\c=i/\1<=n/\n<=β i)/\k∈ks
 |.parcel h k _ _ ms=>(∃b,h=hn b)/\k∈ks/\MG β ms
 |.taken h k _=>(∃b,h=hn b)/\k∈ks
 |.answer c _ _=>∃i:Nat,i<nc/\c=i
variable{ks:Xd Key}{nc:Nat}{L:Letter}
theorem LetOk.mono(h:∀i,β i<=β' i)(a:LetOk ks nc β L):LetOk ks nc β' L:=by
 cases L with
 |call=>refine xg a λh1 nq1 h6=>?_;obtain⟨i,h2,h3,h4,h5⟩:=nq1;exact⟨h1,⟨i,h2,h3,h4,Qo h5 (h i)⟩,h6⟩
 |parcel=>exact⟨a.1,a.2.1,a.2.2.mono h⟩
 |taken=>exact a
 |answer=>exact a
structure HJ(ks:Xd Key)(nc:Nat)(β:Nat->Int)(b:Bool)(h:HS):Prop where
 hk:h.known.map (·.1)=ks
 hw:h.written.map (·.1)=ks
 kk:KG β h.known
 kw:KG β h.written
 la:∀L∈h.laid,LetOk ks nc β L/\zdd b L
 nu:h.num=hn b
variable{b:Bool}{x:HS}
theorem HJ.mono(h:∀i,β i<=β' i)(a:HJ ks nc β b x):HJ ks nc β' b x:=⟨a.hk,a.hw,λp q=>(a.kk p q).mono h,λp q=>(a.kw p q).mono h,λL q=>⟨(a.la L q).1.mono h,(a.la L q).2⟩,a.nu⟩
noncomputable def RwR(p q:Row):Prop:=q.st=.here\/(q.turn=p.turn/\p.st≠.here/\(q.st=.owes->q=p))
theorem RwR.refl(p:Row):RwR p p:=(Classical.em (p.st=.here)).imp id λh=>⟨rfl,h,λξ=>rfl⟩
theorem RwR.trans{p q r:Row}(a:RwR p q)(b:RwR q r):RwR p r:=b.imp id λ⟨t,n,e⟩=>a.elim (λh=>absurd h n) λ⟨t',n',e'⟩=>⟨t.trans t',n',λo=>(e o).trans (e' (e o▸o))⟩
structure CM(x y:HS):Prop where
 ro:∀key,RwR (zw x.known key) (zw y.known key)
 la:∀L∈x.laid,L∈y.laid
theorem CM.refl(x:HS):CM x x:=⟨λξ=>.refl _,λξ q=>q⟩
theorem CM.trans{y z:HS}(a:CM x y)(b:CM y z):CM x z:=⟨λk=>(a.ro k).trans (b.ro k),λL q=>b.la L (a.la L q)⟩
noncomputable def ll(h:HS):Nat:=h.laid.length
noncomputable def lf(h:HS):Nat:=h.fresh.length
section
variable {ks:Xd Key}{nc m:Nat}{β:Nat->Int}{b:Bool}{x y:HS}{key:Key}{r:Row}{L:Letter}
theorem HJ.get(a:HJ ks nc β b x)(hk:key∈ks):∃r,qv key x.known=some r:=n8 (a.hk.symm▸hk)
theorem HJ.mg(a:HJ ks nc β b x)(hk:qv key x.known=some r):MG β r.marks:=a.kk _ (b8 hk)
structure Nx(ks:Xd Key)(nc:Nat)(β:Nat->Int)(b:Bool)(L:Letter)(x y:HS):Prop where
 hj:HJ ks nc β b y
 cm:CM x y
 le:ll y<=ll x+1
 lg:lf y<=lf x+1
 ki:∀{key post h},h b=x->L∈post->KI key h post->KI key (upd h b y) post
theorem Nx.refl(a:HJ ks nc β b x):Nx ks nc β b L x x:=⟨a,.refl x,Zw _,Zw _,λe ξ q=>by rw[<- e,zic];exact q⟩
theorem zb7{α:Type}{l la:Xd α}(h:la.length<=1):(l++la).length<=l.length+1:=by rw[Zf];exact Qh h _
theorem Nx.lay(a:HJ ks nc β b x){L':Letter}(h:LetOk ks nc β L'/\zdd b L')(hq:∀key,QL key b (zw x.known key) L'):Nx ks nc β b L x {x with laid:=x.laid++[L']} :=
 ⟨⟨a.hk,a.hw,a.kk,a.kw,lr a.la h,a.nu⟩,⟨λξ=>.refl _,λξ q=>Z6 _ q⟩,zb7 (Zs _),Zw _,λe ξ q=>by subst e;exact q.lay (hq _)⟩
theorem Nx.put(a:HJ ks nc β b x)(hk:qv key x.known=some r){r':Row}(h1:MG β r'.marks)(h2:RwR r r'){la:Xd Letter}(h3:∀L∈la,LetOk ks nc β L/\zdd b L)(hl:la.length<=1){fr:Xd LRow}(hf:fr.length<=1)(ru:RU r r')(hq:∀L∈la,∀k q,(k=key->q=r')->QL k b q L)(hs:∀{post}{h:Bool->HS},h b=x->L∈post->KI key h post->TS b r (zw (h b).written key) (zw (h (!b)).known key) (zw (h (!b)).written key)->TS b r' (zw (h b).written key) (zw (h (!b)).known key) (zw (h (!b)).written key)):Nx ks nc β b L x {x with known:=qw key r' x.known,laid:=x.laid++la,fresh:=x.fresh++fr} :=
 ⟨⟨(f9 _ _ _ _ hk).trans a.hk,a.hw,λp hp=>(rh hp).elim (λe=>e▸h1) (a.kk p),a.kw,λL q=>(Zt.1 q).elim (a.la L) (h3 L),a.nu⟩,⟨λk=>by
  show RwR _ (zw (qw key r' x.known) k);rw[pi];by_cases e:k=key
  .rw[Zg e,e,ja hk];exact h2
  .rw[Zh e];exact .refl _,λξ q=>Z6 _ q⟩,zb7 hl,zb7 hf,λ{k post h} e hL q=>by subst e;exact q.put hk (λek=>by subst ek;exact hs rfl hL q) ru λL q=>hq L q k⟩
theorem HJ.came(a:HJ ks nc β b x)(h6:nc<=6)(hL:LetOk ks nc β L)(hb:ud b L):Nx ks nc β b L x (x.came L):=by
 cases L with
 |answer=>exact .refl a
 |call hh c n k w =>
  obtain⟨-,⟨i,hi,rfl,-,h1⟩,hk⟩:=hL;obtain⟨r,hr⟩:=a.get hk;rw[g8 hr];by_cases hs:r.st=.here
  .rw[Zg hs];have fi:Nx ks nc β b (.call hh i n k w) x (x.first i n k w r):=Nx.put a hr (r':=⟨.here,r.turn,(dn r.amt w).1,dh (i,n,(dn r.amt w).2) r.marks⟩) (la:=[.answer i n (dn r.amt w).2]) ((a.mg hr).put (Zi hi h6) h1) (.inl rfl) (λL q=>by rw[Zq.1 q];exact⟨⟨i,hi,rfl⟩,trivial⟩) (Zs _) (Zs _) ⟨Q0 _,λξ n=>absurd hs n⟩ (λL q k q' ξ=>by rw[Zq.1 q];exact trivial) λξ ξ ξ t=>t.stay rfl (λξ=>hs) nofun
   unfold HS.called;split
   .split
    .exact .refl a
    .split
     .exact .lay a ⟨⟨i,hi,rfl⟩,trivial⟩ λξ=>trivial
     .exact fi
   .exact fi
  .rw[Zh hs];exact .refl a
 |parcel hh k T am ms =>
  obtain⟨-,hk,h1⟩:=hL;obtain⟨r,hr⟩:=a.get hk;have hb:hh=hn b:=hb;subst hb;rw[w3 hr];have e0:1-x.num=hn (!b):=a.nu.symm▸gg b;have la:LetOk ks nc β (.taken (1-x.num) k T)/\zdd b (.taken (1-x.num) k T):=⟨⟨⟨!b,e0⟩,hk⟩,e0⟩
  by_cases ht:r.turn<T
  .rw[Zg ht];have:=Nx.put (L:=.parcel (hn b) k T am ms) a hr (r':=⟨.here,T,am,ms⟩) h1 (.inl rfl) (la:=[.taken (1-x.num) k T]) (λL q=>by rw[Zq.1 q];exact la) (Zs _) (fr:=[]) (Ql _) ⟨Int.le_of_lt ht,λe=>absurd (show T=r.turn from e) (Int.ne_of_gt ht)⟩
    (λL q k' q' e=>by rw[Zq.1 q];exact λξ e2=>by rw[e e2.symm];exact Q0 T)
    λe hL q t=>by
     have l1:=q.po (!b) _ hL (by rw[Jc]) rfl;have l2:=q.pk (!b) hL (by rw[Jc]) rfl;exact t.parcel (by rw[Jc]at l1;exact l1.1) ht l2.2 l1.2 rfl rfl
   rw[Z0]at this;exact this
  .rw[Zh ht];exact .lay a la λk' ξ e=>by rw[<- e,ja hr];exact Jg.1 ht
 |taken hh k T =>
  obtain⟨-,hk⟩:=hL;obtain⟨r,hr⟩:=a.get hk;have hb:hh=hn b:=hb;subst hb;rw[uy hr];by_cases h:r.st=.owes/\T=r.turn+1
  .rw[Zg h];have:=Nx.put (L:=.taken (hn b) k T) a hr (r':=⟨.gone,r.turn,0,[]⟩) ⟨trivial,λm q=>(nomatch q)⟩ (.inr ⟨rfl,h.1▸nofun,λq=>(nomatch q)⟩) (la:=[]) (λL q=>(nomatch q)) (Ql _) (fr:=[]) (Ql _) ⟨Q0 _,λξ ξ=>nofun⟩ (λL q=>(nomatch q))
    λe hL q t=>t.stay rfl nofun λξ=>.inr (h.2▸q.po (!b) _ hL (by rw[Jc]) rfl)
   rw[Z0,Z0]at this;exact this
  .rw[Zh h];exact .refl a
theorem HJ.par(a:HJ ks nc β b x){k:q6}(hk:KG β k)(h:k.map (·.1)=ks){p:Key×Row}(hp:p∈k):LetOk ks nc β (jc x.num p.1 p.2)/\zdd b (jc x.num p.1 p.2) :=
 have e0:1-x.num=hn (!b):=a.nu.symm▸gg b
 ⟨⟨⟨!b,e0⟩,h▸Z1.2 ⟨p,hp,rfl⟩,hk p hp⟩,e0⟩
theorem HJ.moved(a:HJ ks nc β b x)(hk:qv key x.known=some r):HJ ks nc β b (x.move key r)/\ll (x.move key r)<=ll x+1/\∀{k post h},h b=x->KI k h post->KI k (upd h b (x.move key r)) post:=by
 refine⟨⟨(f9 _ _ _ _ hk).trans a.hk,a.hw,λp hp=>(rh hp).elim (λe=>by rw[e];exact(show MG β r.marks from a.mg hk)) (a.kk p),a.kw,lr a.la (a.par a.kk a.hk (b8 hk)),a.nu⟩,zb7 (Zs _),λ{k post h} e q=>?_⟩
 .subst e;refine q.put (r':={r with st:=.owes}) hk (λξ t=>t.stay rfl nofun nofun) ⟨Q0 _,λξ ξ=>nofun⟩ λL hL q' e=>?_;rw[Zq.1 hL];show _->_->_;intro e1 e2;have t:=(q.ts b).1.pk;rw[<- e2,ja hk]at t;have e4:=gg b;rw[e e2.symm];exact⟨by lia,show r.turn+1-1<=r.turn by lia,λξ=>nofun⟩
theorem HJ.write(a:HJ ks nc β b x):HJ ks nc β b x.write:=⟨a.hk,a.hk,a.kk,a.kk,λξ q=>(nomatch q),a.nu⟩
theorem HJ.sleep(a:HJ ks nc β b x):HJ ks nc β b x.sleep:=⟨a.hw,a.hw,a.kw,a.kw,λξ q=>(nomatch q),a.nu⟩
theorem HJ.nudge(a:HJ ks nc β b x):(∀L∈x.nudge,LetOk ks nc β L)/\x.nudge.length<=ks.length:=by
 have h2:=Qd List.length a.hw;rw[Zd]at h2;refine⟨λL q=>?_,by rw[HS.nudge,Zd,<- h2];exact List.length_filter_le ..⟩;refine zd (Z1.1 q) λp hp eq2=>?_;subst eq2;exact(a.par a.kw a.hw (Q3.1 hp).1).1
theorem HJ.new(nd:ks.Nodup)(b:Bool):HJ ks nc β b (HS.new (hn b) ks):=by
 have e:=di (hn b) nd;have hk:(HS.new (hn b) ks).known.map (·.1)=ks:=by rw[e,Qg];exact Q1 ks
 have ok:KG β (HS.new (hn b) ks).known:=λp hp=>by
  rw[e]at hp;refine zd (Z1.1 hp) λkey ξ eq2=>?_;subst eq2;cases b<;>exact⟨trivial,λm q=>(nomatch q)⟩
 exact⟨hk,hk,ok,ok,λξ q=>(nomatch q),rfl⟩
end
structure CC(c d:CS):Prop where
 op:∀p,d.op=some p->c.op=some p
 be:d.begun=c.begun
 cl:d.closed.length<=c.closed.length+1
theorem CC.came(c:CS)(n t:Int):CC c (c.came n t):=by
 have h0:CC c c:=⟨λξ h=>h,rfl,Zw _⟩
 unfold CS.came;split
 .split
  .exact⟨λξ h=>(nomatch h),rfl,by rw[Zf];exact Zs _⟩
  .exact h0
 .exact h0
noncomputable def tot(W:WS):Nat:=W.post.length+(ll (W.h false)+ll (W.h true))
noncomputable def rt(W:WS):Nat:=W.rows.length+(lf (W.h false)+lf (W.h true))
noncomputable def bg(W:WS)(i:Nat):Int:=(W.c i).begun
structure WI(ks:Xd Key)(nc τ m:Nat)(W:WS):Prop where
 nc_:W.nc=nc
 hi:∀b,HJ ks nc (bg W) b (W.h b)
 ki:∀key∈ks,KI key W.h W.post
 po:∀L∈W.post,LetOk ks nc (bg W) L
 pl:tot W<=τ
 rl:rt W<=m
 co:∀i,i<nc->(∀p,(W.c i).op=some p->p.1=(W.c i).begun/\1<=p.1/\p.2.1∈ks)/\0<=(W.c i).begun/\(W.c i).closed.length<=m
noncomputable def toB:Letter->Bool
 |.call h _ _ _ _=>decide (h=1)
 |.parcel h _ _ _ _=>decide (h=1)
 |.taken h _ _=>decide (h=1)
 |_=>false
noncomputable def bring(W:WS)(L:Letter):WS:=match L with
 |.answer c n t=>{W with c:=jw W.c c.toNat ((W.c c.toNat).came n t)}
 |L=>{W with h:=upd W.h (toB L) ((W.h (toB L)).came L)}
noncomputable def z6(W:WS):Xd Letter->WS
 | []=>W
 |L::l=>z6 (bring W L) l
theorem zgk(b:Bool):decide (hn b=1)=b:=by cases b<;>rfl
theorem zwz(h:ud b L):toB L=b:=by
 cases L with
 |answer=>exact h.elim
 |call=>rw[toB,show _=hn b from h];exact zgk b
 |parcel=>rw[toB,show _=hn b from h];exact zgk b
 |taken=>rw[toB,show _=hn b from h];exact zgk b
theorem x5{W:WS}(h:ud b L):bring W L={W with h:=upd W.h b ((W.h b).came L)}:=by
 have e:=zwz h;cases L with
 |answer=>exact h.elim
 |call hh c n k w=>show {W with h:=upd W.h (toB (.call hh c n k w)) _}=_;rw[e]
 |parcel hh k T a ms=>show {W with h:=upd W.h (toB (.parcel hh k T a ms)) _}=_;rw[e]
 |taken hh k T=>show {W with h:=upd W.h (toB (.taken hh k T)) _}=_;rw[e]
theorem g7{W:WS}{t:Int}:bring W (.answer i n t)={W with c:=jw W.c i ((W.c i).came n t)}:=by
 delta bring;dsimp only;rw[Qy]
theorem ui(l2:Xd Letter):∀(l1:Xd Letter)(W:WS),z6 W (l1++l2)=z6 (z6 W l1) l2
 | [],_=>rfl
 |L::l,W=>ui l2 l (bring W L)
structure WM(W W':WS):Prop where
 h:∀b,CM (W.h b) (W'.h b)
 op:∀i p,(W'.c i).op=some p->(W.c i).op=some p
 be:∀i,(W'.c i).begun=(W.c i).begun
theorem WM.refl(W:WS):WM W W:=⟨λξ=>.refl _,λξ ξ h=>h,λξ=>rfl⟩
theorem WM.trans{W W1 W2:WS}(a:WM W W1)(b:WM W1 W2):WM W W2:=⟨λk=>(a.h k).trans (b.h k),λi p h=>a.op i p (b.op i p h),λi=>(b.be i).trans (a.be i)⟩
section
variable {ks:Xd Key}{nc τ m:Nat}{W:WS}{b:Bool}{key:Key}
variable{f:Bool->HS}{y:HS}{k:Nat}
theorem zjs(b:Bool)(g:HS->Nat)(h:g y<=g (f b)+k):g (upd f b y false)+g (upd f b y true)<=g (f false)+g (f true)+k:=by
 cases b
 .exact Zp (Nat.add_le_add_right h _) (Qf (Nat.add_right_comm ..))
 .exact Zp (Qh h _) (Qf (Nat.add_assoc ..).symm)
theorem wj(W:WS)(L:Letter)(l:Xd Letter):bring {W with post:=l} L={bring W L with post:=l}:=by cases L<;>rfl
variable{τ':Nat}
theorem WI.mono(a:WI ks nc τ m W){m':Nat}(h1:τ<=τ')(h:m<=m'):WI ks nc τ' m' W:=⟨a.nc_,a.hi,a.ki,a.po,Zp a.pl h1,Zp a.rl h,λi hi=>⟨(a.co i hi).1,(a.co i hi).2.1,Zp (a.co i hi).2.2 h⟩⟩
variable{l:Xd Letter}
theorem WI.setPost(a:WI ks nc τ m W)(h:∀L∈l,LetOk ks nc (bg W) L)(hq:∀key∈ks,KI key W.h l)(hl:tot {W with post:=l}<=τ'):WI ks nc τ' m {W with post:=l}:=⟨a.nc_,a.hi,hq,h,hl,a.rl,a.co⟩
theorem zw1{p q:Nat}(h:p+q<=τ):p+k+q<=τ+k:=by lia
theorem zw0{p q:Nat}(h:p+1+q<=τ+1):p+q<=τ:=by lia
theorem WI.house(a:WI ks nc τ m W)(b:Bool)(h:HJ ks nc (bg W) b y)(h1:ll y<=ll (W.h b)+1)(h2:lf y<=lf (W.h b)+1)(hq:∀key∈ks,KI key (upd W.h b y) W.post):WI ks nc (τ+1) (m+1) {W with h:=upd W.h b y} :=
 ⟨a.nc_,ox (P:=λk (h:HS)=>HJ ks nc (bg W) k h) h λk ξ=>a.hi k,hq,a.po,Zp (Qh (zjs b ll h1) _) (Qp a.pl),Zp (Qh (zjs b lf h2) _) (Qp a.rl),λi hi=>⟨(a.co i hi).1,(a.co i hi).2.1,Z2 (a.co i hi).2.2⟩⟩
variable{r:Row}
theorem WI.move(a:WI ks nc τ m W){b:Bool}(hk:qv key (W.h b).known=some r):WI ks nc (τ+1) (m+1) {W with h:=upd W.h b ((W.h b).move key r)} :=
 let ⟨h1,h2,h3⟩:=(a.hi b).moved hk
 a.house b h1 h2 (Zw _) λk hk=>h3 rfl (a.ki k hk)
theorem WI.sleep(a:WI ks nc τ m W)(b:Bool):WI ks nc (τ+1) (m+1) {W with h:=upd W.h b (W.h b).sleep}:=a.house b (a.hi b).sleep (Ql _) (Ql _) λk hk=>(a.ki k hk).sleep
theorem zbe{α:Type}(g:HS->Nat)(b:Bool){p l:Xd α}(h:l.length=g (f b))(h0:g (f b).write=0):(p++l).length+(g (upd f b (f b).write false)+g (upd f b (f b).write true))=p.length+(g (f false)+g (f true)):=by
 rw[Zf,h];cases b
 .show _+g (f false)+(g (f false).write+g (f true))=_;rw[h0,Jo];exact Nat.add_assoc ..
 .show _+g (f true)+(g (f false)+g (f true).write)=_;rw[h0,Nat.add_zero,Nat.add_assoc,Nat.add_comm (g (f true))]
theorem WI.write(a:WI ks nc τ m W)(b:Bool):WI ks nc τ m {W with h:=upd W.h b (W.h b).write,post:=W.post++(W.h b).laid,rows:=W.rows++(W.h b).fresh} :=
 ⟨a.nc_,ox (P:=λk (h:HS)=>HJ ks nc (bg W) k h) (a.hi b).write λk ξ=>a.hi k,λk hk=>(a.ki k hk).write λL q=>((a.hi b).la L q).2,λL q=>(Zt.1 q).elim (a.po L) λq=>((a.hi b).la L q).1,Zp (Qf (zbe (f:=W.h) ll b rfl rfl)) a.pl,Zp (Qf (zbe (f:=W.h) lf b rfl rfl)) a.rl,a.co⟩
theorem WI.more(a:WI ks nc τ m W)(h:∀L∈l,LetOk ks nc (bg W) L)(hq:∀key∈ks,KI key W.h (W.post++l))(hl:l.length<=k):WI ks nc (τ+k) m {W with post:=W.post++l} :=
 a.setPost (λL q=>(Zt.1 q).elim (a.po L) (h L)) hq (by
  show(W.post++l).length+_<=_;rw[Zf];exact Zp (Nat.add_le_add_right (Qh hl _) _) (zw1 a.pl))
theorem WI.nudge(a:WI ks nc τ m W)(b:Bool)(nd:ks.Nodup)(k6:ks.length<=6):WI ks nc (τ+6) m {W with post:=W.post++(W.h b).nudge} :=
 a.more (a.hi b).nudge.1 (λk hk=>(a.ki k hk).nudge (a.hi b).nu (by rw[(a.hi b).hw];exact nd)) (Zp (a.hi b).nudge.2 k6)
theorem WI.calls(a:WI ks nc τ m W)(h:∀L∈l,LetOk ks nc (bg W) L/\∃h c n k w,L=.call h c n k w)(hl:l.length<=k):WI ks nc (τ+k) m {W with post:=W.post++l} :=
 a.more (λL q=>(h L q).1) (λk hk=>(a.ki k hk).inPost λL q=>(Zt.1 q).imp id λq b=>by refine z38 ((h L q).2) λξ ξ ξ ξ ξ eq5=>?_;subst eq5;exact trivial) hl
theorem WI.erase(a:WI ks nc τ m W)(h:∀L∈l,L∈W.post)(hl:tot {W with post:=l}<=τ'):WI ks nc τ' m {W with post:=l} :=
 a.setPost (λL q=>a.po L (h L q)) (λk hk=>(a.ki k hk).inPost λL q=>.inl (h L q)) hl
set_option tactic.hygienic true in
theorem WI.caller(a:WI ks nc τ m W)(i:Nat){c:CS}(hb:(W.c i).begun<=c.begun)(h1:i<nc->∀p,c.op=some p->p.1=c.begun/\1<=p.1/\p.2.1∈ks)(h2:i<nc->c.closed.length<=m+1):WI ks nc τ (m+1) {W with c:=jw W.c i c}:=by
 have h:∀j,bg W j<=bg {W with c:=jw W.c i c} j:=λj=>by
  show(W.c j).begun<=(if j=i then c else W.c j).begun;split
  .rename_i e;rw[e];exact hb
  .exact Q0 _
 refine⟨a.nc_,λb=>(a.hi b).mono h,a.ki,λL q=>(a.po L q).mono h,a.pl,Z2 a.rl,λj hj=>?_⟩;refine xg (a.co j hj) λg1 g2 g3=>?_;show(∀p,(if j=i then c else W.c j).op=some p->p.1=(if j=i then c else W.c j).begun/\_)/\0<=(if j=i then c else W.c j).begun/\(if j=i then c else W.c j).closed.length<=m+1;split
 .rename_i e;subst e;exact⟨h1 hj,Qo g2 hb,h2 hj⟩
 .exact⟨g1,g2,Z2 g3⟩
variable{L:Letter}
theorem zk5{β:Nat->Int}(h:LetOk ks nc β L):(∃b,ud b L)\/∃(i:Nat)(n t:Int),i<nc/\L=.answer i n t:=by
 cases L with
 |answer c n t=>obtain⟨i,hi,rfl⟩:=h;exact .inr ⟨i,n,t,hi,rfl⟩
 |call=>obtain⟨⟨b,rfl⟩,-⟩:=h;exact .inl ⟨b,rfl⟩
 |parcel=>obtain⟨⟨b,rfl⟩,-⟩:=h;exact .inl ⟨b,rfl⟩
 |taken=>obtain⟨⟨b,rfl⟩,-⟩:=h;exact .inl ⟨b,rfl⟩
set_option tactic.hygienic true in
theorem WI.bring0(a:WI ks nc τ m W)(h6:nc<=6)(hm:L∈W.post):WI ks nc (τ+1) (m+1) (Internal.bring W L)/\WM W (Internal.bring W L):=by
 have hL:=a.po L hm;rcases zk5 hL with ⟨b,hb⟩|⟨i,n,t,hi,rfl⟩
 .obtain⟨h1,h2,h3,h4,h5⟩:=(a.hi b).came h6 hL hb;rw[x5 hb];exact⟨a.house b h1 h3 h4 λk hk=>h5 rfl hm (a.ki k hk),ox (P:=λk (x:HS)=>CM (W.h k) x) h2 λξ ξ=>.refl _,λξ ξ h=>h,λξ=>rfl⟩
 .obtain⟨h1,h2,h3⟩:=CC.came (W.c i) n t;refine xg (a.co i hi) λg1 g2 g3=>?_;rw[g7];have hc:∀j,CC (W.c j) (jw W.c i ((W.c i).came n t) j):=λj=>by
   unfold jw;split
   .rename_i e;rw[e];exact⟨h1,h2,h3⟩
   .exact⟨λξ h=>h,rfl,Zw _⟩
  exact⟨(a.caller i (Qz h2.symm) (λξ p q=>h2.symm▸g1 p (h1 p q)) (λξ=>Zp h3 (Qp g3))).mono (Zw _) (Zs _),λξ=>.refl _,λj=>(hc j).op,λj=>(hc j).be⟩
theorem WI.bring(a:WI ks nc τ m {W with post:=L::l})(h6:nc<=6):WI ks nc τ (m+1) {Internal.bring W L with post:=l}/\WM W (Internal.bring W L):=by
 obtain⟨h1,h2,h3,h4⟩:=a.bring0 h6 (Zm ..);rw[wj]at h1 h2 h3 h4;have h0:l.length+1+(ll ((Internal.bring W L).h false)+ll ((Internal.bring W L).h true))<=τ+1:=h1.pl;exact⟨h1.erase (λL' q=>Zk _ q) (zw0 h0),h2,h3,h4⟩
theorem WI.brings(h6:nc<=6)(l2:Xd Letter):∀(l1:Xd Letter)(W:WS)(m:Nat),WI ks nc τ m {W with post:=l1++l2}->WI ks nc τ (m+l1.length) {z6 W l1 with post:=l2}/\WM W (z6 W l1)
 | [],W,m,a=>⟨a,.refl W⟩
 |L::l,W,m,a=>by
  obtain⟨a1,w1⟩:=WI.bring (l:=l++l2) a h6;obtain⟨a2,w2⟩:=WI.brings h6 l2 l (Internal.bring W L) (m+1) a1;exact⟨Qk m l.length▸a2,w1.trans w2⟩
theorem sh(h6:nc<=6){l3:Xd Letter}(h:L∈l)(a:WI ks nc τ m {W with post:=l++l3}):∃l1 l2 m',WI ks nc τ m' {z6 W l1 with post:=L::l2}/\WM W (z6 W l1)/\WM (bring (z6 W l1) L) (z6 W l):=by
 refine ij (List.append_of_mem h) λl1 l2 eq2=>?_;subst eq2;rw[Z3]at a;refine zn (WI.brings h6 (L::l2++l3) l1 W m a) λa1 w1=>?_;refine zn (WI.bring (l:=l2++l3) a1 h6) λa2 w2=>?_;exact⟨l1,l2++l3,_,a1,w1,by rw[ui];exact(WI.brings h6 l3 l2 (Internal.bring (z6 W l1) L) _ a2).2⟩
theorem tu{T a:Int}{ms:Xd q9}(nu:(W.h b).num=hn b){r:Row}(hk:qv key (W.h b).known=some r):((zw ((bring W (.parcel (hn b) key T a ms)).h b).known key).st=.here\/(T<=r.turn/\zw ((bring W (.parcel (hn b) key T a ms)).h b).known key=r))/\Letter.taken (hn (!b)) key T∈((bring W (.parcel (hn b) key T a ms)).h b).laid:=by
 rw[x5 (b:=b) (L:=.parcel (hn b) key T a ms) rfl];show((zw (upd W.h b _ b).known key).st=_\/_/\zw (upd W.h b _ b).known key=r)/\_∈(upd W.h b _ b).laid;rw[v4,w3 hk,nu,gg];refine⟨?_,Qa _ (Zq.2 rfl)⟩;show(zw (if r.turn<T then qw key ⟨.here,T,a,ms⟩ (W.h b).known else (W.h b).known) key).st=.here\/(_/\zw (if r.turn<T then qw key ⟨.here,T,a,ms⟩ (W.h b).known else (W.h b).known) key=r);by_cases h:r.turn<T
 .rw[Zg h,pi,Zg rfl];exact .inl rfl
 .rw[Zh h,ja hk];exact .inr ⟨Jg.1 h,rfl⟩
set_option tactic.hygienic true in
theorem zkl{T:Int}(hk:qv key (W.h b).known=some r):¬((zw ((bring W (.taken (hn b) key T)).h b).known key).st=.owes/\T=(zw ((bring W (.taken (hn b) key T)).h b).known key).turn+1):=by
 rw[x5 (b:=b) (L:=.taken (hn b) key T) rfl];show ¬((zw (upd W.h b _ b).known key).st=.owes/\T=(zw (upd W.h b _ b).known key).turn+1);rw[v4,uy hk];split
 .show ¬((zw (qw key ⟨.gone,r.turn,0,[]⟩ (W.h b).known) key).st=.owes/\_);rw[pi,Zg rfl];exact λq=>nomatch q.1
 .rename_i h;rw[ja hk];exact h
variable{i:Nat}{n:Int}
set_option tactic.hygienic true in
theorem zgl{t:Int}{p:Int×Key×Internal.W}(h:((bring W (.answer i n t)).c i).op=some p):p.1≠n:=by
 rw[g7]at h;have h:(if i=i then (W.c i).came n t else W.c i).op=some p:=h;rw[Zg rfl]at h;unfold CS.came at h;split at h
 .rename_i q hq;split at h
  .cases h
  .rename_i hn;rw[hq]at h;cases h;exact hn
 .rename_i hq;rw[hq]at h;cases h
set_option tactic.hygienic true in
theorem zn0{c:Int}{w:Internal.W}(hk:qv key (W.h b).known=some r)(hs:r.st=.here)(hm:∀p,vq c r.marks=some p->p.1<=n):∃t,Letter.answer c n t∈((bring W (.call (hn b) c n key w)).h b).laid:=by
 rw[x5 (b:=b) (L:=.call (hn b) c n key w) rfl];show ∃t,_∈(upd W.h b _ b).laid;rw[v4,g8 hk,Zg hs];have fi:∃t,Letter.answer c n t∈((W.h b).first c n key w r).laid:=⟨_,Qa _ (Zq.2 rfl)⟩
 unfold HS.called;split
 .rename_i p hp;have:=hm p hp;split
  .rename_i hh;exact absurd hh (Jg.2 this)
  .split
   .exact⟨_,Qa _ (Zq.2 rfl)⟩
   .exact fi
 .exact fi
noncomputable def KO(ks:Xd Key)(W:WS):Prop:=∀key∈ks,∃b,(zw (W.h b).known key).st=.here\/((zw (W.h (!b)).known key).st=.owes/\(zw (W.h b).known key).turn<=(zw (W.h (!b)).known key).turn)
structure RD(ks:Xd Key)(nc τ m:Nat)(W:WS)(P2 Cl:Xd Letter):Prop where
 wk:WI ks nc τ m {W with post:=P2++Cl}
 nu:∀b,∀key∈ks,(zw (W.h b).known key).st=.owes->∃a ms,Letter.parcel (hn (!b)) key ((zw (W.h b).known key).turn+1) a ms∈P2
 ca:∀i,i<nc->∀p,(W.c i).op=some p->∀b,Letter.call (hn b) i p.1 p.2.1 p.2.2∈Cl
variable {P2 Cl:Xd Letter}
variable{x:HS}
theorem CM.owe(a:CM x y)(h:(zw y.known key).st=.owes):zw y.known key=zw x.known key:=(a.ro key).elim (λq=>nomatch h.symm.trans q) λq=>q.2.2 h
theorem CM.here(a:CM x y)(h:(zw x.known key).st=.here):(zw y.known key).st=.here:=(a.ro key).elim id λq=>absurd h q.2.1
theorem RD.owed(d:RD ks nc τ m W P2 Cl)(h6:nc<=6)(hk:key∈ks)(b:Bool)(ho:(zw ((z6 W (P2++Cl)).h b).known key).st=.owes):
  Letter.taken (hn b) key ((zw ((z6 W (P2++Cl)).h b).known key).turn+1)∈((z6 W (P2++Cl)).h (!b)).laid:=by
 have wk:WI ks nc τ m {W with post:=(P2++Cl)++[]}:=by rw[Z0];exact d.wk
 have e:=((WI.brings h6 [] (P2++Cl) W m wk).2.h b).owe ho;rw[e]at ho ⊢;refine ij (d.nu b key hk ho) λa ms hp=>?_;refine gy (sh h6 (Z6 _ hp) wk) λl1 l2 m' a1 w1 w2=>?_;refine zr ((a1.hi (!b)).get hk) λr hr=>?_;have h2:=(tu (W:=z6 W l1) (T:=(zw (W.h b).known key).turn+1) (a:=a) (ms:=ms) (a1.hi (!b)).nu hr).2;rw[Jc]at h2;exact(w2.h (!b)).la _ h2
theorem RD.here(d:RD ks nc τ m W P2 Cl)(h6:nc<=6)(ko:KO ks W)(hk:key∈ks):∃b,(zw ((z6 W P2).h b).known key).st=.here:=by
 obtain⟨b,h|⟨ho,ht⟩⟩:=ko key hk
 .exact⟨b,((WI.brings h6 Cl P2 W m d.wk).2.h b).here h⟩
 .refine ij (d.nu (!b) key hk ho) λa ms hp=>?_;rw[Jc]at hp;refine gy (sh h6 hp d.wk) λl1 l2 m' a1 w1 w2=>?_;refine zr ((a1.hi b).get hk) λr hr=>?_;refine⟨b,(w2.h b).here ?_⟩;rcases(tu (W:=z6 W l1) (T:=(zw (W.h (!b)).known key).turn+1) (a:=a) (ms:=ms) (a1.hi b).nu hr).1 with h|⟨h1,h2⟩
  .exact h
  .have q:=(w1.h b).ro key;rw[ja hr]at q;rw[h2];exact q.elim id λq=>absurd (Qo (Qo h1 (Qz q.1)) ht) (Int.not_le.2 (Int.lt_succ _))
theorem RD.answered(d:RD ks nc τ m W P2 Cl)(h6:nc<=6)(ko:KO ks W)(hi:i<nc){p:Int×Key×Internal.W}(hp:((z6 W (P2++Cl)).c i).op=some p):∃b t,Letter.answer i p.1 t∈((z6 W (P2++Cl)).h b).laid:=by
 refine zn (WI.brings h6 Cl P2 W m d.wk) λkm w0=>?_;have km:WI ks nc τ (m+P2.length) {z6 W P2 with post:=Cl++[]}:=by rw[Z0];exact km
 rw[ui]at hp ⊢;have hp0:=(w0.trans (WI.brings h6 [] Cl (z6 W P2) _ km).2).op i p hp;refine xg ((d.wk.co i hi).1 p hp0) λhpn ξ hkey=>?_;refine zr (d.here h6 ko hkey) λb hb=>?_;refine gy (sh h6 (d.ca i hi p hp0 b) km) λl1 l2 m' a1 w1 w2=>?_;refine zr ((a1.hi b).get hkey) λr hr=>?_;have hs:=(w1.h b).here hb;rw[ja hr]at hs;have hbe:(bg (z6 (z6 W P2) l1) i)=p.1:=((w0.trans w1).be i).trans hpn.symm;refine zr (zn0 (W:=z6 (z6 W P2) l1) (c:=i) (n:=p.1) (w:=p.2.2) hr hs λq hq=>hbe▸((a1.hi b).mg hr).le hq) λt ht=>?_;exact⟨b,t,(w2.h b).la _ ht⟩
theorem RD.closes(h6:nc<=6)(a:WI ks nc τ m {W with post:=l})(ha:∀p,(W.c i).op=some p->∃t,Letter.answer i p.1 t∈l):((z6 W l).c i).op=none:=by
 have a':WI ks nc τ m {W with post:=l++[]}:=by rw[Z0];exact a
 cases h:((z6 W l).c i).op with
 |none=>rfl
 |some p =>
  refine zr (ha p ((WI.brings h6 [] l W m a').2.op i p h)) λt ht=>?_;refine gy (sh h6 ht a') λl1 l2 m' a1 w1 w2=>?_;exact absurd rfl (zgl (w2.op i p h))
theorem RD.ends(h6:nc<=6)(a:WI ks nc τ m {W with post:=l})(hk:key∈ks)(b:Bool)(ha:(zw (W.h b).known key).st=.owes->Letter.taken (hn b) key ((zw (W.h b).known key).turn+1)∈l):(zw ((z6 W l).h b).known key).st≠.owes:=λho=>by
 have a':WI ks nc τ m {W with post:=l++[]}:=by rw[Z0];exact a
 have e:=((WI.brings h6 [] l W m a').2.h b).owe ho;refine gy (sh h6 (ha (e▸ho)) a') λl1 l2 m' a1 w1 w2=>?_;refine zr ((a1.hi b).get hk) λr hr=>?_;have e2:=(w2.h b).owe ho;refine zkl (W:=z6 W l1) (T:=(zw (W.h b).known key).turn+1) hr ⟨e2▸ho,?_⟩;rw[<- e2,e]
end
end Internal
end
section
namespace Internal
structure DeedP(P:Prog):Prop where
 beg:P.fns 11=some f_Caller_begin
 cca:P.fns 13=some f_Caller_came
 nwi:∃xc,P.fns 1=some (f_need_wish xc)
 cal:∃xc,P.fns 45=some (f_World_call xc)
 aga:∃xc,P.fns 46=some (f_World_again xc)
 han:P.fns 49=some f_World_hand
 twi:P.fns 50=some f_World_twice
 los:P.fns 51=some f_World_lose
 hom:P.fns 52=some f_World_home
 mov:∃xc,P.fns 53=some (f_World_move xc)
 hmo:∃xc,P.fns 26=some (f_House_move xc)
 wri:P.fns 55=some f_World_write
 hwr:P.fns 27=some f_House_write
 sle:P.fns 56=some f_World_sleep
 hsl:P.fns 28=some f_House_sleep
 nud:P.fns 57=some f_World_nudge
 hnu:P.fns 29=some f_House_nudge
 w5:P.meths 0 5=some 53
 w7:P.meths 0 7=some 56
 w6:P.meths 0 6=some 55
 w8:P.meths 0 8=some 57
 w11:P.meths 0 11=some 59
 w17:P.meths 0 17=some 45
 w18:P.meths 0 18=some 46
 w19:P.meths 0 19=some 47
 w21:P.meths 0 21=some 49
 w22:P.meths 0 22=some 50
 w23:P.meths 0 23=some 51
 w24:P.meths 0 24=some 52
 h5:P.meths 1 5=some 26
 h6:P.meths 1 6=some 27
 h7:P.meths 1 7=some 28
 h8:P.meths 1 8=some 29
 c2:P.meths 2 2=some 13
noncomputable def f_World_is_settled:Fn:=⟨1,["self","caller"],[.for_ (.inl (.loc 1)) false (.attr (.loc 0) 10) [.ite (.isC true (.meth (.loc 1) 11 []) .none) [.ret (some (.bool false))] []],.ret (some (.cmp (.bin .add (.prim .len [.meth (.sub (.attr (.loc 0) 9) (.int 0)) 1 []]) (.prim .len [.meth (.sub (.attr (.loc 0) 9) (.int 1)) 1 []])) .eq (.int 0)))]⟩
noncomputable def f_World_one_round:Fn:=⟨1,["self","house","caller","k"],[.for_ (.inl (.loc 1)) true (.int 2) [.expr (.meth (.loc 0) 6 [.loc 1])],.for_ (.inl (.loc 1)) true (.int 2) [.expr (.meth (.loc 0) 8 [.loc 1])],.for_ (.inl (.loc 2)) false (.attr (.loc 0) 10) [.ite (.isC true (.meth (.loc 2) 11 []) .none) [.expr (.bm .append (.attr (.loc 0) 11) [.meth (.loc 2) 10 [.int 0]]),.expr (.bm .append (.attr (.loc 0) 11) [.meth (.loc 2) 10 [.int 1]])] []],.for_ (.inl (.loc 3)) true (.prim .len [.attr (.loc 0) 11]) [.expr (.meth (.loc 0) 21 [.int 0])]]⟩
noncomputable def f_World_settle:Fn:=⟨1,["self","rounds"],[.assign 1 (.int 0),.while_ (.not (.meth (.loc 0) 26 [])) [.expr (.meth (.loc 0) 27 []),.assign 1 (.bin .add (.loc 1) (.int 1))],.ret (some (.loc 1))]⟩
structure SetP(P:Prog):Prop where
 iss:P.fns 62=some f_World_is_settled
 rou:P.fns 63=some f_World_one_round
 set:P.fns 64=some f_World_settle
 owe:P.fns 22=some f_House_owes
 w26:P.meths 0 26=some 62
 w27:P.meths 0 27=some 63
 w28:P.meths 0 28=some 64
noncomputable def pp(W:WS):Prop:=(∀i,i<W.nc->(W.c i).op=none)/\∀b,(W.h b).owes=[]
noncomputable def Nil(_:Lbl):Prop:=False
variable{s:MS}
theorem Fr.nw{t:MS}(f:Fr Nil s t):Fr NW s t:=f.mono λξ q=>q.elim
theorem Fr.nwp{t:MS}(f:Fr Nil s t):Fr NWp s t:=f.mono λξ q=>q.elim
noncomputable def wr(b:Bool)(W:WS):WS:={W with h:=upd W.h b (W.h b).write,post:=W.post++(W.h b).laid,rows:=W.rows++(W.h b).fresh}
noncomputable def nd(b:Bool)(W:WS):WS:={W with post:=W.post++(W.h b).nudge}
noncomputable def uj(i:Nat):Xc (Int×Key×W)->Xd Letter
 |some p=>[.call (hn false) i p.1 p.2.1 p.2.2,.call (hn true) i p.1 p.2.1 p.2.2]
 |none=>[]
noncomputable def jm(c:Nat->CS):Nat->Xd Letter
 |0=>[]
 |n+1=>jm c n++uj n (c n).op
noncomputable def wr2(W:WS):WS:=wr true (wr false W)
noncomputable def p2(W:WS):Xd Letter:=(nd true (nd false (wr2 W))).post
noncomputable def all(W:WS):Xd Letter:=p2 W++jm W.c W.nc
noncomputable def rnd(W:WS):WS:={z6 (wr2 W) (all W)with post:=[]}
theorem fw(c:Nat->CS):∀j,(jm c j).length<=2*j
 |0=>Zs _
 |j+1=>by
  show(jm c j++uj j (c j).op).length<=2*j+2;rw[Zf];exact Nat.add_le_add (fw c j) (by cases (c j).op<;>exact Za rfl)
section
variable {ks:Xd Key}{nc τ m:Nat}{W:WS}
theorem ey(a:WI ks nc τ m W):∀j,j<=nc->∀L∈jm W.c j,LetOk ks nc (bg W) L/\∃h c n k w,L=.call h c n k w
 |0,_,L,q=>(nomatch q)
 |j+1,h,L,q=>by
  rcases Zt.1 (show L∈jm W.c j++uj j (W.c j).op from q)with q|q
  .exact ey a j (Q8 h) L q
  .cases hop:(W.c j).op with
   |none=>rw[hop]at q;exact(nomatch q)
   |some p =>
    rw[hop]at q;refine xg ((a.co j h).1 p hop) λh1 h2 h3=>?_;have ok:∀b,LetOk ks nc (bg W) (.call (hn b) j p.1 p.2.1 p.2.2):=λb=>⟨⟨b,rfl⟩,⟨j,h,rfl,h2,Qz h1⟩,h3⟩;rcases Zu.1 (show L∈[_,_] from q)with e|q
    .rw[e];exact⟨ok _,_,_,_,_,_,rfl⟩
    .rw[Zq.1 q];exact⟨ok _,_,_,_,_,_,rfl⟩
theorem th{c:Nat->CS}{i:Nat}{p:Int×Key×Internal.W}(hp:(c i).op=some p)(b:Bool):∀j,i<j->Letter.call (hn b) i p.1 p.2.1 p.2.2∈jm c j
 |0,h=>absurd h (J0 i)
 |j+1,h=>by
  show _∈jm c j++uj j (c j).op;by_cases e:i=j
  .subst e;rw[hp];refine Qa _ ?_;cases b
   .exact Zm ..
   .exact Zk _ (Zm ..)
  .exact Z6 _ (th hp b j (Nat.lt_of_le_of_ne (Nat.le_of_lt_succ h) e))
theorem zeo{α:Type}(a b:Xd α):a.length<=(a++b).length:=by rw[Zf];exact Qr _ _
theorem WI.ready(a:WI ks nc τ m W)(nd':ks.Nodup)(k6:ks.length<=6)(h6:nc<=6):WI ks nc (τ+24) m {wr2 W with post:=all W}:=by
 have s1:WI ks nc (τ+12) m (nd true (nd false (wr2 W))):=(((a.write false).write true).nudge false nd' k6).nudge true nd' k6;have e:=a.nc_;exact s1.calls (k:=12) (l:=jm W.c W.nc) (λL q=>ey a _ (Qf e) L q) (Zp (fw W.c W.nc) (Nat.mul_le_mul_left 2 (e▸h6)))
theorem zbk(a:WI ks nc τ m {wr2 W with post:=all W}):(all W).length<=τ:=Zp (Qr _ _) a.pl
theorem WI.rnd(a:WI ks nc τ m W)(nd':ks.Nodup)(k6:ks.length<=6)(h6:nc<=6):WI ks nc (τ+24) (m+(τ+24)) (Internal.rnd W)/\∀i,((Internal.rnd W).c i).begun=(W.c i).begun:=by
 have r:=a.ready nd' k6 h6;refine zn (WI.brings h6 [] (all W) (wr2 W) m (by rw[Z0];exact r)) λh1 h2=>?_;exact⟨h1.mono (Zs _) (Qh (zbk r) _),h2.be⟩
theorem ic(W:WS)(b:Bool):((wr2 W).h b).known=(W.h b).known:=by cases b<;>rfl
theorem zjw(W:WS)(b:Bool):∀L∈(W.h b).laid,L∈all W:=λL q=>by
 refine Z6 _ (Z6 _ (Z6 _ ?_));show L∈W.post++(W.h false).laid++(W.h true).laid;cases b
 .exact Z6 _ (Qa _ q)
 .exact Qa _ q
theorem WI.rd(a:WI ks nc τ m W)(nd':ks.Nodup)(k6:ks.length<=6)(h6:nc<=6):RD ks nc (τ+24) m (wr2 W) (p2 W) (jm W.c W.nc) where
 wk:=a.ready nd' k6 h6
 nu b key hk ho:=by
  have hin:∀L∈((wr2 W).h b).nudge,L∈p2 W:=λL q=>by
   show L∈(wr2 W).post++((wr2 W).h false).nudge++((wr2 W).h true).nudge;cases b
   .exact Z6 _ (Qa _ q)
   .exact Qa _ q
  have w:=(a.write false).write true;refine zr ((w.hi b).get hk) λr hr=>?_;have hr:qv key ((wr2 W).h b).known=some r:=hr;have hn:((wr2 W).h b).num=hn b:=(w.hi b).nu;have hw:((wr2 W).h b).written=((wr2 W).h b).known:=by cases b<;>rfl
  rw[ja hr]at ho ⊢;refine⟨r.amt,r.marks,hin _ ?_⟩;rw[<- gg,<- hn];exact Z1.2 ⟨(key,r),Q3.2 ⟨by rw[hw];exact b8 hr,Zb ho⟩,rfl⟩
 ca i hi p hp b:=th hp b _ (by rw[a.nc_];exact hi)
theorem zta{β:Nat->Int}{b:Bool}{h:HS}(hi:HJ ks nc β b h)(nd':ks.Nodup)(hk:∀key∈ks,(zw h.known key).st≠.owes):h.owes=[]:=by
 rw[HS.owes];refine List.map_eq_nil_iff.2 (List.filter_eq_nil_iff.2 λp hp q=>?_);have e:=vn (by rw[hi.hk];exact nd') hp;exact hk p.1 (hi.hk▸Z1.2 ⟨p,hp,rfl⟩) (by rw[ja e];exact Za q)
theorem WI.ko(a:WI ks nc τ m W):KO ks W:=λkey hk=>((a.ki key hk).ts false).ko.elim (λh=>⟨false,h⟩) λh=>⟨true,h⟩
theorem WI.two(a:WI ks nc τ m W)(nd':ks.Nodup)(k6:ks.length<=6)(h6:nc<=6):pp (Internal.rnd (Internal.rnd W)):=by
 have d:=a.rd nd' k6 h6;have a1:=(a.rnd nd' k6 h6).1;have r1:=a1.ready nd' k6 h6;have a2:=(a1.rnd nd' k6 h6).1;have ko1:KO ks (wr2 W):=λkey hk=>by
  refine zr (a.ko key hk) λb h=>?_;exact⟨b,by rw[ic,ic];exact h⟩
 refine⟨λi hi=>?_,λb=>zta (a2.hi b) nd' λkey hk=>?_⟩
 .refine RD.closes h6 r1 λp hp=>?_;refine ij (d.answered h6 ko1 (a2.nc_▸hi) (p:=p) hp) λb t ht=>?_;exact⟨t,zjw (Internal.rnd W) b _ ht⟩
 .refine RD.ends h6 r1 hk b λho=>?_;rw[ic]at ho ⊢;exact zjw (Internal.rnd W) (!b) _ (d.owed h6 hk b ho)
noncomputable def rs(W:WS):Nat->WS
 |0=>W
 |r+1=>rnd (rs W r)
theorem zjk(a:WI ks nc τ m W)(nd':ks.Nodup)(k6:ks.length<=6)(h6:nc<=6){r:Nat}(h:r<=2):WI ks nc (τ+48) (m+(2*τ+72)) (rs W r)/\∀i,((rs W r).c i).begun=(W.c i).begun:=by
 refine zn (a.rnd nd' k6 h6) λb eb=>?_;refine zn (b.rnd nd' k6 h6) λc ec=>?_
 match r with
 |0=>exact⟨a.mono (Qr _ _) (Qr _ _),λξ=>rfl⟩
 |1=>exact⟨b.mono (by lia) (by lia),eb⟩
 |2=>exact⟨c.mono (by lia) (by lia),λi=>(ec i).trans (eb i)⟩
 |r+3=>exact absurd h (Nat.not_le.2 (Qs 3 r))
end
section
variable {P:Prog} (H:WorldP P) (HP:HouseP P) (D:DeedP P) (SP:SetP P) {s u:MS}{ks:Xd Key}{W:WS}{x:Bool->HIx}{nc τ m:Nat}
structure Bd(ks:Xd Key)(nc τ m:Nat)(W:WS):Prop where
 wi:WI ks nc τ m W
 K:KeysFine ks
 h6:nc<=6
 t:τ<8000000
 m:m<8000000
theorem zrk{a x y M:Nat}(h:a+(x+y)<M):a+x<M/\a+y<M:=by lia
theorem Bd.len(a:Bd ks nc τ m W)(b:Bool):W.post.length+(W.h b).laid.length<8000000/\W.rows.length+(W.h b).fresh.length<8000000:=by
 have h1:=zrk (Z7 a.wi.pl a.t);have h2:=zrk (Z7 a.wi.rl a.m);cases b
 .exact⟨h1.1,h2.1⟩
 .exact⟨h1.2,h2.2⟩
theorem Bd.z(a:Bd ks nc τ m W)(b:Bool):HZ (W.h b):=by
 refine zn (a.len b) λl1 l2=>?_;have h1:=Qd List.length (a.wi.hi b).hk;have h2:=Qd List.length (a.wi.hi b).hw;rw[Zd]at h1 h2;have k6:ks.length<1000:=Z7 a.K.six (by decide);exact⟨Z7 (Qs _ _) (Qe l1 (by decide)),Z7 (Qs _ _) (Qe l2 (by decide)),h1▸k6,h2▸k6⟩
theorem Bd.to(a:Bd ks nc τ m W){τ' m':Nat}{W':WS}(w:WI ks nc τ' m' W')(h1:τ'<8000000)(h2:m'<8000000):Bd ks nc τ' m' W':=⟨w,a.K,a.h6,h1,h2⟩
theorem Bd.room(a:Bd ks nc τ m W):W.post.length<8000000:=Z7 (Qr _ _) (a.len false).1
theorem Bd.nd(a:Bd ks nc τ m W)(b:Bool):((W.h b).known.map (·.1)).Nodup:=by rw[(a.wi.hi b).hk];exact a.K.nd
include H HP D
theorem sg(n:Nat){L:Letter}{W1:WS}(A:WAt u ks W1 x)(a:Bd ks nc τ m W)(eh:W1.h=W.h)(ec:W1.c=W.c)(en:W1.nc=W.nc)(hL:LetOk ks nc (bg W) L):
  OkR (run P (n+4) 48 [.ref (1,0),zu L] u) λv t=>v=.none/\WAt t ks (bring W1 L) x/\Fr NWp u t:=by
 have house:∀b k,ud b L->k∈ks->(∀r,qv k (W.h b).known=some r->LOk (W.h b) L)->OkR (run P (n+4) 48 [.ref (1,0),zu L] u) λv t=>v=.none/\WAt t ks (bring W1 L) x/\Fr NWp u t:=λb k h1 hk h2=>by
  refine zr ((a.wi.hi b).get hk) λr hr=>?_;rw[x5 h1];rw[<- eh]at h2 hr;exact ze6 H HP n A h1 (eh▸a.z b) (eh▸λp hp=>((a.wi.hi b).kk p hp).1) (h2 r hr)
 cases L with
 |answer c num told =>
  refine zd hL λi hi eq2=>?_;subst eq2;rw[g7];exact zco H D.cca D.c2 n A (by rw[en,a.wi.nc_];exact hi) num told (ec▸Z7 (a.wi.co i hi).2.2 (Qe a.m (by decide)))
 |call hh c n k w =>
  refine xg hL λnq0 nq1 hk=>?_;obtain⟨b,rfl⟩:=nq0;obtain⟨i,hi,rfl,-⟩:=nq1;exact house b k rfl hk λr hr=>⟨Qi i,Qx.2 (Zi hi a.h6),r,hr⟩
 |parcel hh k T am ms=>refine xg hL λnq0 hk ξ=>?_;obtain⟨b,rfl⟩:=nq0;exact house b k rfl hk λr hr=>⟨r,hr⟩
 |taken hh k T=>refine zn hL λnq0 hk=>?_;obtain⟨b,rfl⟩:=nq0;exact house b k rfl hk λr hr=>⟨r,hr⟩
theorem zi7(n:Nat)(A:WAt u ks W x)(a:Bd ks nc τ m W){p:Nat}(hp:p<W.post.length):
  OkR (run P (n+5) 49 [.ref (1,0),.int p] u) λv t=>v=.none/\WAt t ks (bring {W with post:=W.post.eraseIdx p} W.post[p]) x/\Fr NWp u t :=
 zlp H D.han n A hp λt At=>sg H HP D n At a rfl rfl rfl (a.wi.po _ (Qc hp))
theorem zoj(n:Nat)(A:WAt u ks W x)(a:Bd ks nc τ m W){p:Nat}(hp:p<W.post.length):
  OkR (run P (n+5) 50 [.ref (1,0),.int p] u) λv t=>v=.none/\WAt t ks (bring W W.post[p]) x/\Fr NWp u t :=
 zhp H D.twi n A hp (sg H HP D n A a rfl rfl rfl (a.wi.po _ (Qc hp)))
theorem zei(n:Nat)(A:WAt u ks W x)(a:Bd ks nc τ m W)(b:Bool):∃t,run P (n+5) 57 [.ref (1,0),.int (hn b)] u=.ok .none t/\WAt t ks (nd b W) x/\Fr NWp u t :=
 zhr H HP D.hnu D.h8 D.nud (n+2) A b (a.z b) (by rw[(a.wi.hi b).hw];exact a.K.nd) (Zp (Nat.add_le_add (Qn a.room) (Zp (a.wi.hi b).nudge.2 a.K.six)) (by decide))
theorem zej(n:Nat)(A:WAt u ks W x)(a:Bd ks nc τ m W)(b:Bool):OkR (run P (n+5) 55 [.ref (1,0),.int (hn b)] u) λv t=>v=.none/\(∃x',WAt t ks (wr b W) x')/\Fr NWp u t :=
 zht H HP D.hwr D.h6 D.wri (n+2) A b (a.z b) (Qn (Qe (a.len b).1 (by decide))) (Qn (Qe (a.len b).2 (by decide)))
omit H HP D
theorem zi8(a:WI ks nc τ m W){key:Key}(hk:key∈ks):(jp W key=.none/\(W.h false).has key=false/\(W.h true).has key=false)\/∃b r,jp W key=.int (hn b)/\qv key (W.h b).known=some r/\r.st=.here:=by
 have row:∀b,(W.h b).has key=true->∃r,qv key (W.h b).known=some r/\r.st=.here:=λb h=>by
  refine zr ((a.hi b).get hk) λr hr=>?_;rw[HS.has,hr]at h;exact⟨r,hr,Za h⟩
 cases c0:(W.h false).has key with
 |true =>
  refine zd (row false c0) λr h1 h2=>?_;exact .inr ⟨false,r,by rw[jp,Zg c0,(a.hi false).nu],h1,h2⟩
 |false =>
  cases c1:(W.h true).has key with
  |true =>
   refine zd (row true c1) λr h1 h2=>?_;exact .inr ⟨true,r,by rw[jp,c0,c1];show V.int (W.h true).num=_;rw[(a.hi true).nu],h1,h2⟩
  |false=>exact .inl ⟨by rw[jp,c0,c1];rfl,rfl,rfl⟩
theorem zaj(more:Int):more.fmod 2=hn (decide (more.fmod 2=1)):=by
 refine zn (jd more 2 (by decide)) λh1 h2=>?_;by_cases h:more.fmod 2=1
 .rw[Zb h];exact h
 .rw[Zc h];show _=(0:Int);lia
theorem zxf(k:Int){N p:Nat}(h:0<N)(e:k.fmod (N:Int)=p)(s:MS):uh .mod (.int k) (.int (N:Nat)) s=.ok (.int p) s:=by
 have h0:¬((N:Int)=0):=by lia
 show(if (N:Int)=0 then Res.stuck else Res.ok (V.int (k.fmod (N:Int))) s)=_;rw[Zh h0,e]
noncomputable def zvc(W:WS)(s:MS)(r:Xd Nat)(_:Xc V)(t:MS):Prop:=s=t/\(∀i∈r,i<W.nc)/\∀i,i<W.nc->(W.c i).op=none\/i∈r
variable{i:Nat}{y:Xc V}{Q:Fl×Loc->MS->Prop}
include H in
theorem zqt(n:Nat)(A:WAt s ks W x){r:Xd Nat}(h:zvc W s (i::r) y s)(kr:¬pp W->Q (.ret (.bool false),[some (.ref (1,0)),some (.ref (3,i))]) s)(kn:zvc W s r (some (.ref (3,i))) s->Q (.next,[some (.ref (1,0)),some (.ref (3,i))]) s):
  OkR (exs P (run P (n+2)) (n+2) [.ite (.isC true (.meth (.loc 1) 11 []) .none) [.ret (some (.bool false))] []] [some (.ref (1,0)),some (.ref (3,i))] s) Q:=by
 refine xg h λξ h1 h2=>?_;have hi:=h1 i (Zm ..);have ea:=zy (P:=P) (a:=.loc 1) (es:=[]) (l:=[some (.ref (1,0)),some (.ref (3,i))]) (x:=.ref (3,i)) (vs:=[]) rfl ((zj (A.co i hi)).trans H.c11) rfl (vt H (n+1) A hi);cases hop:(W.c i).op with
 |none =>
  rw[hop]at ea;exact zl (t:=false) (xt (g:=true) (t:=true) ea (Zb rfl)) (ze (zx (kn ⟨rfl,λj hj=>h1 j (Zk _ hj),λj hj=>(h2 j hj).elim .inl λq=>(Zu.1 q).elim (λe=>.inl (e▸hop)) .inr⟩)))
 |some p =>
  rw[hop]at ea;exact zl (t:=true) (xt (g:=true) (t:=false) ea (Zc nofun)) (zv rfl (kr λq=>nomatch hop.symm.trans (q.1 i hi)))
include H HP in
theorem zto(SP:SetP P)(n:Nat)(A:WAt s ks W x)(a:Bd ks nc τ m W){z:Xc V}:
  ∃t,ev P (run P (n+2)) (.cmp (.bin .add (.prim .len [.meth (.sub (.attr (.loc 0) 9) (.int 0)) 1 []]) (.prim .len [.meth (.sub (.attr (.loc 0) 9) (.int 1)) 1 []])) .eq (.int 0)) [some (.ref (1,0)),z] s=.ok (.bool (decide (((W.h false).owes.length:Int)+((W.h true).owes.length:Int)=0))) t/\Fr Nil s t:=by
 have f0:Fr Nil s (s.new 14 (.list ((W.h false).owes.map .str))):=(Fr.refl _ _).new _ _;have A0:=A.step f0.nw;have l:∀(t:MS)(ks:Xd Key),zo6 (.ref (14,t.cnt 14)) (t.new 14 (.list (ks.map .str)))=.ok (.int (ks.length:Nat)) (t.new 14 (.list (ks.map .str))):=λt ks=>(y0 (jh (zt _ _ _))).trans (by rw[Zd]);exact⟨_,jy (y:=.int 0) (kb (j5 (zg (zy (x:=.ref (2,hx false)) (vs:=[]) (m4 (b:=false) A rfl rfl) ((zj (A.hh.at_ false).o).trans HP.mowes) rfl (al HP rfl SP.owe (n+1) (A.hh.at_ false) (a.z false) (a.nd false))) rfl) (l _ _)) (j5 (zg (zy (x:=.ref (2,hx true)) (vs:=[]) (m4 (b:=true) A0 rfl rfl) ((zj (A0.hh.at_ true).o).trans HP.mowes) rfl (al HP rfl SP.owe (n+1) (A0.hh.at_ true) (a.z true) (a.nd true))) rfl) (l _ _)) rfl) rfl rfl,f0.new _ _⟩
theorem two_nil{a b:Xd Key}:decide ((a.length:Int)+(b.length:Int)=0)=true↔a=[]/\b=[]:=by
 rw[decide_eq_true_iff,<- Q2,<- Q2];lia
include H HP SP in
theorem zfg(n:Nat)(A:WAt s ks W x)(a:Bd ks nc τ m W):
  OkR (run P (n+3) 62 [.ref (1,0)] s) λv t=>∃b:Bool,v=.bool b/\(b=true↔pp W)/\Fr Nil s t:=by
 refine zm SP.iss rfl (ka (v:=.lst (xa W.nc)) (z3 rfl (qh A.o rfl)) rfl rfl (xe (λ(i:Nat)=>V.ref (3,i)) (λz=>[some (.ref (1,0)),z]) (zvc W s) (λi r y t h=>⟨rfl,?_⟩) (λy t h=>⟨rfl,?_⟩) (Xr W.nc) none s ⟨rfl,λi hi=>Qj.1 hi,λi hi=>.inr (Qj.2 hi)⟩))
 .cases h.1;exact zqt H n A h (λq=>⟨false,rfl,⟨λq=>(nomatch q),λz=>(q z).elim⟩,.refl _ _⟩) λq=>⟨_,rfl,q⟩
 .cases h.1;rw[j9];refine zd (zto H HP SP n A a (z:=y)) λt e f=>?_;refine zv e ⟨_,rfl,two_nil.trans ⟨λq=>⟨λi hi=>(h.2.2 i hi).resolve_right λz=>(nomatch z),λb=>?_⟩,λq=>⟨q.2 false,q.2 true⟩⟩,f⟩;cases b
  .exact q.1
  .exact q.2
noncomputable abbrev v7 (a b c:Xc V):Loc:=[some (.ref (1,0)),a,b,c]
variable{r:Xd S}
theorem zi6{C:Calls}{n:Nat}{body:Xd S}{z:Xc V}{R1 R2:MS->Prop}(h0:OkR (exs P C n body (v7 (some (.int (hn false))) none none) s) λp t=>p=(.next,v7 (some (.int (hn false))) none none)/\R1 t)(h1:∀t,R1 t->OkR (exs P C n body (v7 (some (.int (hn true))) none none) t) λp t=>p=(.next,v7 (some (.int (hn true))) none none)/\R2 t)(k:∀z t,R2 t->OkR (exs P C n r (v7 z none none) t) Q):OkR (exs P C n (.for_ (.inl (.loc 1)) true (.int 2) body::r) (v7 z none none) s) Q:=by
 refine ka (v:=.int 2) (s':=s) (xs:=[false,true].map λb=>.int (hn b)) rfl rfl rfl (xe (λb=>V.int (hn b)) (λy=>v7 y none none) (λl ξ t=>(l=[false,true]/\t=s)\/(l=[true]/\R1 t)\/(l=[]/\R2 t)) (λb l y t h=>⟨rfl,?_⟩) (λy t h=>⟨rfl,?_⟩) _ _ _ (.inl ⟨rfl,rfl⟩))
 .rcases h with ⟨e,rfl⟩|⟨e,q⟩|⟨e,-⟩
  .cases e;show OkR (exs P C n body (v7 (some (.int (hn false))) none none) t) _;refine jq h0 λp t q=>?_;rw[q.1];exact⟨_,rfl,.inr (.inl ⟨rfl,q.2⟩)⟩
  .cases e;show OkR (exs P C n body (v7 (some (.int (hn true))) none none) t) _;refine jq (h1 t q) λp t q=>?_;rw[q.1];exact⟨_,rfl,.inr (.inr ⟨rfl,q.2⟩)⟩
  .cases e
 .rcases h with ⟨e,-⟩|⟨e,-⟩|⟨-,q⟩
  .cases e
  .cases e
  .exact k y t q
include H HP D
theorem za0(n:Nat)(A:WAt s ks W x)(a:Bd ks nc τ m W)(b:Bool):OkR (exs P (run P (n+5)) (n+5) [.expr (.meth (.loc 0) 6 [.loc 1])] (v7 (some (.int (hn b))) none none) s) λp t=>p=(.next,v7 (some (.int (hn b))) none none)/\(∃x',WAt t ks (wr b W) x')/\Fr NWp s t :=
 jr (yi (x:=.ref (1,0)) (vs:=[.int (hn b)]) rfl ((zj A.o).trans D.w6) rfl (zej H HP D n A a b)) λv u q=>zx ⟨rfl,q.2⟩
theorem zp8(n:Nat)(A:WAt s ks W x)(a:Bd ks nc τ m W)(k:∀z x' t,WAt t ks (wr2 W) x'->Fr NWp s t->OkR (exs P (run P (n+5)) (n+5) r (v7 z none none) t) Q):
  OkR (exs P (run P (n+5)) (n+5) (.for_ (.inl (.loc 1)) true (.int 2) [.expr (.meth (.loc 0) 6 [.loc 1])]::r) (v7 none none none) s) Q :=
 zi6 (R1:=λt=>(∃x',WAt t ks (wr false W) x')/\Fr NWp s t) (R2:=λt=>(∃x',WAt t ks (wr2 W) x')/\Fr NWp s t) (za0 H HP D n A a false)
  (λt ⟨⟨x1,A1⟩,f1⟩=>jq (za0 H HP D n A1 (a.to (a.wi.write false) a.t a.m) true) λp u q=>⟨q.1,q.2.1,f1.trans q.2.2⟩) λz t ⟨⟨x',A'⟩,f⟩=>k z x' t A' f
theorem zaz(n:Nat)(A:WAt s ks W x)(a:Bd ks nc τ m W)(b:Bool):OkR (exs P (run P (n+5)) (n+5) [.expr (.meth (.loc 0) 8 [.loc 1])] (v7 (some (.int (hn b))) none none) s) λp t=>p=(.next,v7 (some (.int (hn b))) none none)/\WAt t ks (nd b W) x/\Fr NWp s t:=by
 refine zd (zei H HP D n A a b) λu e q=>?_;exact qj (zy (x:=.ref (1,0)) (vs:=[.int (hn b)]) rfl ((zj A.o).trans D.w8) rfl e) (zx ⟨rfl,q⟩)
theorem zp7(n:Nat){z:Xc V}(A:WAt s ks W x)(a:Bd ks nc τ m W)(ht:τ+6<8000000)(k:∀z t,WAt t ks (nd true (nd false W)) x->Fr NWp s t->OkR (exs P (run P (n+5)) (n+5) r (v7 z none none) t) Q):
  OkR (exs P (run P (n+5)) (n+5) (.for_ (.inl (.loc 1)) true (.int 2) [.expr (.meth (.loc 0) 8 [.loc 1])]::r) (v7 z none none) s) Q :=
 zi6 (R1:=λt=>WAt t ks (nd false W) x/\Fr NWp s t) (R2:=λt=>WAt t ks (nd true (nd false W)) x/\Fr NWp s t) (zaz H HP D n A a false)
  (λt ⟨A1,f1⟩=>jq (zaz H HP D n A1 (a.to (a.wi.nudge false a.K.nd a.K.six) ht a.m) true) λp u q=>⟨q.1,q.2.1,f1.trans q.2.2⟩) λz t ⟨A',f⟩=>k z t A' f
omit HP D
theorem za5(n:Nat){z:Xc V}{p:Int×Key×Internal.W}(b:Bool)(A:WAt u ks W x)(hi:i<W.nc)(hop:(W.c i).op=some p)(hl:W.post.length<16777216)(k:∀t,WAt t ks {W with post:=W.post++[.call (hn b) i p.1 p.2.1 p.2.2]} x->Fr NWp u t->OkR (exs P (run P (n+5)) (n+5) r (v7 z (some (.ref (3,i))) none) t) Q):
  OkR (exs P (run P (n+5)) (n+5) (.expr (.bm .append (.attr (.loc 0) 11) [.meth (.loc 2) 10 [.int (hn b)]])::r) (v7 z (some (.ref (3,i))) none) u) Q:=by
 have l0:=gj H (n+4) A hi hop b;refine qj (v:=.none) (v6 (x:=.ref (9,0)) (vs:=[zu (.call (hn b) i p.1 p.2.1 p.2.2)]) (s2:=u) (z3 rfl (qh A.o rfl)) (qy A.po) (zg (zy (x:=.ref (3,i)) (vs:=[.int (hn b)]) rfl ((zj (A.co i hi)).trans H.c10) rfl l0) rfl) (je _ _ _ _ A.po (by rw[Zd];exact hl))) ?_;exact k _ (A.post1 (.call (hn b) i p.1 p.2.1 p.2.2)) ((Fr.refl NWp u).put (l:=(9,0)) (Za (p:=9<11) rfl) _)
theorem ztl(n:Nat){z:Xc V}(A:WAt u ks W x)(hi:i<W.nc)(hl:W.post.length<16000000)(k:∀t,WAt t ks {W with post:=W.post++uj i (W.c i).op} x->Fr NWp u t->OkR (exs P (run P (n+5)) (n+5) r (v7 z (some (.ref (3,i))) none) t) Q):
  OkR (exs P (run P (n+5)) (n+5) (.ite (.isC true (.meth (.loc 2) 11 []) .none) [.expr (.bm .append (.attr (.loc 0) 11) [.meth (.loc 2) 10 [.int 0]]),.expr (.bm .append (.attr (.loc 0) 11) [.meth (.loc 2) 10 [.int 1]])] []::r) (v7 z (some (.ref (3,i))) none) u) Q:=by
 have ea:ev P (run P (n+5)) (.meth (.loc 2) 11 []) (v7 z (some (.ref (3,i))) none) u=.ok (opV (W.c i).op) u:=zy (x:=.ref (3,i)) (vs:=[]) rfl ((zj (A.co i hi)).trans H.c11) rfl (vt H (n+4) A hi);cases hop:(W.c i).op with
 |none =>
  rw[hop]at ea k;refine zl (t:=false) (s':=u) (xt (g:=true) (t:=true) ea (Zb rfl)) (ze (k u ?_ (.refl _ _)));rw[show W.post++uj i none=W.post from Z0 _];exact A
 |some p =>
  rw[hop]at ea k;refine zl (t:=true) (s':=u) (xt (g:=true) (t:=false) ea (Zc nofun)) ?_;refine za5 H n false A hi hop (Qe hl (by decide)) λt A1 f1=>?_;refine za5 H n (W:={W with post:=W.post++[.call (hn false) i p.1 p.2.1 p.2.2]}) true A1 hi hop (by show(W.post++[_]).length<_;rw[Zf];exact Qe (Nat.succ_lt_succ hl) (by decide)) λt2 A2 f2=>ze (k t2 ?_ (f1.trans f2));rw[show W.post++uj i (some p)=W.post++[.call (hn false) i p.1 p.2.1 p.2.2]++[.call (hn true) i p.1 p.2.1 p.2.2] from (Z3 W.post [.call (hn false) i p.1 p.2.1 p.2.2] [.call (hn true) i p.1 p.2.1 p.2.2]).symm];exact A2
noncomputable def zw8(ks:Xd Key)(W:WS)(x:Bool->HIx)(s:MS)(r:Xd Nat)(_:Xc V)(t:MS):Prop:=∃i j,i+j=W.nc/\r=List.range' i j/\WAt t ks {W with post:=W.post++jm W.c i} x/\Fr NWp s t
omit H in
theorem ef{j:Nat}(hz:W.post.length<=8000000)(h6:W.nc<=6)(hij:i+j=W.nc):(W.post++jm W.c i).length<16000000:=by
 have:=fw W.c i;rw[Zf];lia
theorem zp5(n:Nat){z:Xc V}(A:WAt s ks W x)(hz:W.post.length<=8000000)(h6:W.nc<=6)(k:∀y t,WAt t ks {W with post:=W.post++jm W.c W.nc} x->Fr NWp s t->OkR (exs P (run P (n+5)) (n+5) r (v7 z y none) t) Q):
  OkR (exs P (run P (n+5)) (n+5) (.for_ (.inl (.loc 2)) false (.attr (.loc 0) 10) [.ite (.isC true (.meth (.loc 2) 11 []) .none) [.expr (.bm .append (.attr (.loc 0) 11) [.meth (.loc 2) 10 [.int 0]]),.expr (.bm .append (.attr (.loc 0) 11) [.meth (.loc 2) 10 [.int 1]])] []]::r) (v7 z none none) s) Q:=by
 refine ka (v:=.lst (xa W.nc)) (z3 rfl (qh A.o rfl)) rfl rfl (xe (λ(i:Nat)=>V.ref (3,i)) (λy=>v7 z y none) (zw8 ks W x s) (λv r y t q=>⟨rfl,?_⟩) (λy t q=>⟨rfl,?_⟩) (Xr W.nc) none s ⟨0,W.nc,Jo _,Q6,by rw[show W.post++jm W.c 0=W.post from Z0 _];exact A,.refl _ _⟩)
 .refine qo q λi j hij hrem At f=>?_;cases j with
  |zero=>cases hrem
  |succ j =>
  refine zn (Jd (hrem:v::r=i::List.range' (i+1) j)) λeq0 eq1=>?_;subst eq0;subst eq1;refine ztl H n (W:={W with post:=W.post++jm W.c v}) (i:=v) At (Zi (J7 (Q5 j)) (Qf hij)) (ef hz h6 hij) λt2 A2 f2=>zx ⟨_,rfl,v+1,j,(Qk v j).trans hij,rfl,?_,f.trans f2⟩;rw[show W.post++jm W.c (v+1)=W.post++jm W.c v++uj v (W.c v).op from (Z3 ..).symm];exact A2
 .refine qo q λi j hij hrem At f=>?_;cases j with
  |succ j=>cases hrem
  |zero =>
   cases (show i=W.nc from hij);exact k y t At f
noncomputable def zxb(ks:Xd Key)(W:WS)(x:Bool->HIx)(s:MS)(l:Xd Letter)(r:Xd Nat)(_:Xc V)(t:MS):Prop:=∃l1 l2,l=l1++l2/\r.length=l2.length/\WAt t ks {z6 W l1 with post:=l2} x/\Fr NWp s t
variable{l:Xd Letter}
omit H in
theorem zai{l1 l2:Xd Letter}(e:l=l1++l2)(hm:m+l.length<8000000):m+l1.length<8000000:=by
 rw[e,Zf,<- Nat.add_assoc]at hm;exact Z7 (Qr _ _) hm
include HP D
theorem zp6(n:Nat){z:Xc V}(A:WAt s ks {W with post:=l} x)(a:Bd ks nc τ m {W with post:=l})(hm:m+l.length<8000000)(k:∀c t,WAt t ks {z6 W l with post:=[]} x->Fr NWp s t->Q (.next,v7 z y c) t):
  OkR (exs P (run P (n+5)) (n+5) [.for_ (.inl (.loc 3)) true (.prim .len [.attr (.loc 0) 11]) [.expr (.meth (.loc 0) 21 [.int 0])]] (v7 z y none) s) Q:=by
 have hll:(l.length:Int)<=8000000:=Qw.2 (Qn (Z7 (Qs _ _) hm));refine ka (v:=.int (l.length:Nat)) (s':=s) (xs:=(Xr l.length).map λ(k:Nat)=>V.int k) (j5 (zg (z3 rfl (qh A.o rfl)) rfl) ((y0 (jh A.po)).trans (by rw[Zd]))) ((jt s _ (Qi _) (Qo hll (by decide))).trans (by rw[Qy])) rfl
  (xe (λ(k:Nat)=>V.int k) (λc=>v7 z y c) (zxb ks W x s l) (λv r c t q=>⟨rfl,?_⟩) (λc t q=>⟨rfl,?_⟩) (Xr l.length) none s ⟨[],l,rfl,Zx,A,.refl _ _⟩)
 .refine qo q λl1 l2 e hrem At f=>?_;cases l2 with
  |nil=>cases hrem
  |cons L l2 =>
  have a1:=a.to (WI.brings a.h6 (L::l2) l1 W m (by rw[<- e];exact a.wi)).1 a.t (zai e hm);refine jr (yi (x:=.ref (1,0)) (vs:=[.int 0]) (s2:=t) rfl ((zj At.o).trans D.w21) rfl (zi7 H HP D n (p:=0) At a1 (Q5 _))) λξ u q=>zx ⟨_,rfl,l1++[L],l2,by rw[e,Z3];rfl,Nat.succ.inj hrem,?_,f.trans q.2.2⟩;rw[ui];exact wj (z6 W l1) L l2▸q.2.1
 .refine qo q λl1 l2 e hrem At f=>?_;cases l2 with
  |cons=>cases hrem
  |nil =>
   cases e.trans (Z0 _);exact k c t At f
include SP
theorem zlu(n:Nat)(A:WAt s ks W x)(a:Bd ks nc τ m W)(ht:τ+24<4000000)(hm:m<4000000):
  OkR (run P (n+6) 63 [.ref (1,0)] s) λv t=>v=.none/\(∃x',WAt t ks (rnd W) x')/\Fr NWp s t:=by
 have rdy:=a.wi.ready a.K.nd a.K.six a.h6;have hl:=zbk rdy;have ht':τ+24<8000000:=Qe ht (by decide);refine zm SP.rou rfl ?_;refine zp8 H HP D n A a λz x' t A1 f1=>?_;refine zp7 H HP D n A1 (a.to ((a.wi.write false).write true) a.t a.m) (Z7 (Qh (by decide) _) ht') λz2 t2 A2 f2=>?_;refine zp5 H n A2 (Zp (Zp (zeo (p2 W) (jm W.c W.nc)) hl) (Qn ht')) (a.wi.nc_▸a.h6:W.nc<=6) λy t3 A3 f3=>?_;exact zp6 H HP D n (W:=wr2 W) (l:=all W) A3 (a.to rdy ht' a.m) (Z7 (Qh hl _) (Nat.add_lt_add hm ht)) λc t4 A4 f4=>⟨rfl,⟨x',A4⟩,((f1.trans f2).trans f3).trans f4⟩
omit H HP D SP in
noncomputable def z4g(ks:Xd Key)(W:WS)(s:MS)(v:V)(t:MS):Prop :=
 ∃r:Nat,v=.int r/\r<=2/\Fr NWp s t/\(∃x',WAt t ks (rs W r) x')/\pp (rs W r)/\∀k,k<r->¬pp (rs W k)
omit H HP D SP in
noncomputable def z4f(ks:Xd Key)(W:WS)(s:MS)(k:Nat)(L:Loc)(t:MS):Prop :=
 ∃(r:Nat)(x':Bool->HIx),k+r=2/\L=[some (.ref (1,0)),some (.int r)]/\WAt t ks (rs W r) x'/\Fr NWp s t/\∀k,k<r->¬pp (rs W k)
theorem zho(n:Nat)(A:WAt s ks W x)(a:Bd ks nc τ m W)(ht:τ+48<3000000)(hm:m+(2*τ+72)<3000000):
  OkR (run P (n+8) 64 [.ref (1,0)] s) (z4g ks W s):=by
 refine zm SP.set rfl ?_;refine zk (v:=.int 0) (s':=s) rfl rfl ?_;rw[gf,tz];refine dm (z4f ks W s) ?_ (n+7) 2 _ _ (Qs _ _) ⟨0,x,rfl,rfl,A,.refl _ _,λk h=>(nomatch h)⟩;rintro k L t ⟨r,x',hk,rfl,At,f,hs⟩;have hr:r<=2:=hk▸Qs _ _;have w:=a.to (zjk a.wi a.K.nd a.K.six a.h6 hr).1 (Qe ht (by decide)) (Qe hm (by decide));obtain⟨v,t',e1,b,rfl,hb,f1⟩:=z7 (zfg H HP SP (n+4) At w);refine bc (ve (zy (x:=.ref (1,0)) (vs:=[]) (s2:=t) rfl ((zj At.o).trans SP.w26) rfl e1)) ⟨!b,rfl,?_⟩;have At':=At.step f1.nw;have f2:=f.trans f1.nwp;cases b with
 |true =>
  rw[Zh (by decide),j9];exact zv (v:=.int r) (s':=t') rfl ⟨r,rfl,hr,f2,⟨x',At'⟩,hb.1 rfl,hs⟩
 |false =>
  rw[Zg (by decide)];have ns:¬pp (rs W r):=λq=>nomatch hb.2 q
  cases k with
  |zero =>
   rw[Jo]at hk;subst hk;exact absurd (a.wi.two a.K.nd a.K.six a.h6) ns
  |succ k =>
   refine⟨Q5 _,jr (yi (x:=.ref (1,0)) (vs:=[]) (s2:=t') rfl ((zj At'.o).trans SP.w27) rfl (zlu H HP D SP (n+1) At' w (Zi (Nat.add_lt_add_right ht 24) (by decide)) (Qe hm (by decide)))) ?_⟩;rintro v u ⟨rfl,⟨x2,A2⟩,f3⟩;exact zk (v:=.int ((r+1:Nat):Int)) (s':=u) rfl rfl (zx ⟨r+1,x2,(Qk k r).symm.trans hk,rfl,A2,f2.trans f3,λj hj=>(Nat.lt_succ_iff_lt_or_eq.1 hj).elim (hs j) λe=>e▸ns⟩)
end
end Internal
end
section
namespace Internal
noncomputable def fl_done:Fn:=⟨2,["_law_amount","_law_wish_here"],[.ite (.cmp (.sub (.loc 1) (.int 0)) .eq (.str [103,101,116])) [.ret (some (.tup [.loc 0,.loc 0]))] [],.ite (.cmp (.sub (.loc 1) (.int 0)) .eq (.str [115,101,116])) [.ret (some (.tup [.sub (.loc 1) (.int 1),.loc 0]))] [],.ret (some (.tup [.bin .add (.loc 0) (.sub (.loc 1) (.int 1)),.bin .add (.loc 0) (.sub (.loc 1) (.int 1))]))]⟩
noncomputable def fl_marked:Fn:=⟨4,["_law_marks","_law_caller","_law_number","_law_told_here",""],[.ret (some (.prim .tuple1 [.prim .sorted [.bin .add (.comp none 4 false (.loc 0) (some (.cmp (.sub (.loc 4) (.int 0)) .ne (.loc 1))) (.loc 4)) (.lst [.tup [.loc 1,.loc 2,.loc 3]])]]))]⟩
noncomputable def fl_last:Fn:=⟨2,["_law_marks","_law_caller","_law_one","_law_number","_law_told_here"],[.for_ (.inr [.loc 2,.loc 3,.loc 4]) false (.loc 0) [.ite (.cmp (.loc 2) .eq (.loc 1)) [.ret (some (.tup [.loc 3,.loc 4]))] []],.ret (some (.tup [.int 0,.int 0]))]⟩
noncomputable def fl_new:Fn:=⟨2,["_law_number","_law_keys_here","_law_first","_law_known","_law_key"],[.assign 2 (.tup [.int 0,.str [104,101,114,101],.int 0,.tup []]),.ite (.cmp (.loc 0) .eq (.int 1)) [.assign 2 (.tup [.neg (.int 1),.str [103,111,110,101],.int 0,.tup []])] [],.assign 3 (.dictM 43 [] []),.for_ (.inl (.loc 4)) false (.loc 1) [.setitem (.loc 3) (.loc 4) (.loc 2)],.ret (some (.dictM 51 [[110,117,109,98,101,114],[107,110,111,119,110],[119,114,105,116,116,101,110],[108,97,105,100],[102,114,101,115,104]] [.loc 0,.loc 3,.dictC 44 (.loc 3),.lstM 45 [],.lstM 46 []]))]⟩
noncomputable def fl_parcel:Fn:=⟨3,["_law_own","_law_key","_law_row"],[.ret (some (.tup [.str [112,97,114,99,101,108],.bin .sub (.int 1) (.sub (.loc 0) (.str [110,117,109,98,101,114])),.loc 1,.bin .add (.sub (.loc 2) (.int 0)) (.int 1),.sub (.loc 2) (.int 2),.sub (.loc 2) (.int 3)]))]⟩
noncomputable def fl_called:Fn:=⟨5,["_law_own","_law_caller","_law_number","_law_key","_law_wish_here","_law_turn","_law_state","_law_amount","_law_marks","_law_last_here","_law_told_here"],[.unpack [.loc 5,.loc 6,.loc 7,.loc 8] (.sub (.sub (.loc 0) (.str [107,110,111,119,110])) (.loc 3)),.unpack [.loc 9,.loc 10] (.call 106 [.loc 8,.loc 1]),.ite (.or [.cmp (.loc 6) .ne (.str [104,101,114,101]),.cmp (.loc 9) .gt (.loc 2)]) [.ret none] [],.ite (.cmp (.loc 9) .lt (.loc 2)) [.unpack [.loc 7,.loc 10] (.call 104 [.loc 7,.loc 4]),.setitem (.sub (.loc 0) (.str [107,110,111,119,110])) (.loc 3) (.tup [.loc 5,.str [104,101,114,101],.loc 7,.call 105 [.loc 8,.loc 1,.loc 2,.loc 10]]),.expr (.bm .append (.sub (.loc 0) (.str [102,114,101,115,104])) [.tup [.loc 1,.loc 2,.loc 3,.loc 4,.loc 10]])] [],.expr (.bm .append (.sub (.loc 0) (.str [108,97,105,100])) [.tup [.str [97,110,115,119,101,114],.loc 1,.loc 2,.loc 10]])]⟩
noncomputable def fl_moved:Fn:=⟨2,["_law_own","_law_key","_law_turn","_law_state","_law_amount","_law_marks"],[.unpack [.loc 2,.loc 3,.loc 4,.loc 5] (.sub (.sub (.loc 0) (.str [107,110,111,119,110])) (.loc 1)),.setitem (.sub (.loc 0) (.str [107,110,111,119,110])) (.loc 1) (.tup [.loc 2,.str [111,119,101,100],.loc 4,.loc 5]),.expr (.bm .append (.sub (.loc 0) (.str [108,97,105,100])) [.call 108 [.loc 0,.loc 1,.sub (.sub (.loc 0) (.str [107,110,111,119,110])) (.loc 1)]])]⟩
noncomputable def fl_wrote:Fn:=⟨1,["_law_own","_law_pair"],[.setitem (.loc 0) (.str [119,114,105,116,116,101,110]) (.dictC 44 (.sub (.loc 0) (.str [107,110,111,119,110]))),.assign 1 (.tup [.sub (.loc 0) (.str [108,97,105,100]),.sub (.loc 0) (.str [102,114,101,115,104])]),.setitem (.loc 0) (.str [108,97,105,100]) (.lstM 45 []),.setitem (.loc 0) (.str [102,114,101,115,104]) (.lstM 46 []),.ret (some (.loc 1))]⟩
noncomputable def fl_slept:Fn:=⟨1,["_law_own"],[.setitem (.loc 0) (.str [107,110,111,119,110]) (.dictC 43 (.sub (.loc 0) (.str [119,114,105,116,116,101,110]))),.setitem (.loc 0) (.str [108,97,105,100]) (.lstM 45 []),.setitem (.loc 0) (.str [102,114,101,115,104]) (.lstM 46 [])]⟩
noncomputable def fl_nudged:Fn:=⟨2,["_law_own","_law_keys_here",""],[.ret (some (.comp none 2 false (.loc 1) (some (.cmp (.sub (.sub (.sub (.loc 0) (.str [119,114,105,116,116,101,110])) (.loc 2)) (.int 1)) .eq (.str [111,119,101,100]))) (.call 108 [.loc 0,.loc 2,.sub (.sub (.loc 0) (.str [119,114,105,116,116,101,110])) (.loc 2)])))]⟩
structure OwnP(P:Prog):Prop where
 done:P.fns 104=some fl_done
 marked:P.fns 105=some fl_marked
 last:P.fns 106=some fl_last
 new:P.fns 107=some fl_new
 parcel:P.fns 108=some fl_parcel
 called:P.fns 109=some fl_called
 moved:P.fns 110=some fl_moved
 wrote:P.fns 111=some fl_wrote
 slept:P.fns 112=some fl_slept
 nudged:P.fns 113=some fl_nudged
noncomputable def stO:St->Xd Nat
 |.here=>[104,101,114,101]
 |.owes=>[111,119,101,100]
 |.gone=>[103,111,110,101]
noncomputable def pq(r:Row):V:=.tup [.int r.turn,.str (stO r.st),.int r.amt,qz r.marks]
noncomputable def x3(k:q6):Xd (V×V):=k.map λp=>(.str p.1,pq p.2)
theorem zab(key:Key):∀k:q6,js (.str key) (x3 k)=(qv key k).map pq
 | []=>rfl
 |(a,r)::l=>by
  by_cases h:a=key
  .rw[qv,Zg h];exact zaa (Zb h)
  .rw[qv,Zh h];exact(tq (a:=.str a) (k:=.str key) (Zc h)).trans (zab key l)
theorem ul(key:Key)(x:Row):∀k:q6,fx (.str key) (pq x) (x3 k)=x3 (qw key x k)
 | []=>rfl
 |(a,r)::l=>by
  by_cases h:a=key
  .rw[qw,Zg h];exact zd1 (Zb h)
  .rw[qw,Zh h];exact(zac (a:=.str a) (k:=.str key) (Zc h)).trans (Qd (_::·) (ul key x l))
noncomputable def x8(num:Int)(x:HIx):MObj:=.dict [(.str [110,117,109,98,101,114],.int num),(.str [107,110,111,119,110],.ref (43,x.k)),(.str [119,114,105,116,116,101,110],.ref (44,x.w)),(.str [108,97,105,100],.ref (45,x.la)),(.str [102,114,101,115,104],.ref (46,x.fr))]
structure OAt(s:MS)(i:Nat)(x:HIx)(h:HS):Prop where
 o:s.heap (51,i)=some (x8 h.num x)
 k:s.heap (43,x.k)=some (.dict (x3 h.known))
 w:s.heap (44,x.w)=some (.dict (x3 h.written))
 la:s.heap (45,x.la)=some (.list (h.laid.map zu))
 fr:s.heap (46,x.fr)=some (.list (h.fresh.map xl))
 io:i<s.cnt 51
 ik:x.k<s.cnt 43
 iw:x.w<s.cnt 44
 il:x.la<s.cnt 45
 ir:x.fr<s.cnt 46
noncomputable def OF(i:Nat)(x:HIx)(l:Lbl):Prop:=l=(51,i)\/l=(43,x.k)\/l=(44,x.w)\/l=(45,x.la)\/l=(46,x.fr)
variable{s:MS}{i:Nat}{x:HIx}{h:HS}
theorem OAt.step{F:Lbl->Prop}{s':MS}(a:OAt s i x h)(f:Fr F s s')(n:∀l,OF i x l->¬F l):OAt s' i x h where
 o:=(f.1 _ a.io (n _ (.inl rfl))).trans a.o
 k:=(f.1 _ a.ik (n _ (.inr (.inl rfl)))).trans a.k
 w:=(f.1 _ a.iw (n _ (.inr (.inr (.inl rfl))))).trans a.w
 la:=(f.1 _ a.il (n _ (.inr (.inr (.inr (.inl rfl)))))).trans a.la
 fr:=(f.1 _ a.ir (n _ (.inr (.inr (.inr (.inr rfl)))))).trans a.fr
 io:=Zi a.io (f.2 51)
 ik:=Zi a.ik (f.2 43)
 iw:=Zi a.iw (f.2 44)
 il:=Zi a.il (f.2 45)
 ir:=Zi a.ir (f.2 46)
theorem OAt.laid1(a:OAt s i x h)(L:Letter):OAt (s.put (45,x.la) (.list (h.laid.map zu++[zu L]))) i x {h with laid:=h.laid++[L]}:=by
 refine⟨(zo (by rfl)).trans a.o,(zo (by rfl)).trans a.k,(zo (by rfl)).trans a.w,?_,(zo (by rfl)).trans a.fr,a.io,a.ik,a.iw,a.il,a.ir⟩;rw[Qb];exact zh _ _ _
theorem OAt.fresh1(a:OAt s i x h)(L:LRow):OAt (s.put (46,x.fr) (.list (h.fresh.map xl++[xl L]))) i x {h with fresh:=h.fresh++[L]}:=by
 refine⟨(zo (by rfl)).trans a.o,(zo (by rfl)).trans a.k,(zo (by rfl)).trans a.w,(zo (by rfl)).trans a.la,?_,a.io,a.ik,a.iw,a.il,a.ir⟩;rw[Qb];exact zh _ _ _
theorem OAt.known(a:OAt s i x h)(k:q6):OAt (s.put (43,x.k) (.dict (x3 k))) i x {h with known:=k} :=
 ⟨(zo (by rfl)).trans a.o,zh _ _ _,(zo (by rfl)).trans a.w,(zo (by rfl)).trans a.la,(zo (by rfl)).trans a.fr,a.io,a.ik,a.iw,a.il,a.ir⟩
section
variable {P:Prog} (H:OwnP P) {n i:Nat}{x:HIx}{s:MS}{h:HS}{key:Key}{r:Row}
theorem ar(st:St):decide (stO st=[104,101,114,101])=decide (st=.here):=by cases st<;>rfl
theorem au(st:St):decide (stO st=[111,119,101,100])=decide (st=.owes):=by cases st<;>rfl
variable{k:q6}
theorem wa(hk:qv key k=some r):js (.str key) (x3 k)=some (.tup [.int r.turn,.str (stO r.st),.int r.amt,qz r.marks]):=by
 rw[zab,hk];rfl
theorem n9(h:k.length<1000):(x3 k).length<16777216:=by rw[x3,Zd];omega
theorem sw(h:k.length<1000):(x3 k).length<=1000:=by rw[x3,Zd];lia
noncomputable def wt(c:Int)(ms:Xd q9):Int×Int:=match vq c ms with
 |some p=>p
 |none=>(0,0)
theorem zlr(hf:P.fns 104=some fl_done)(n:Nat)(a:Int)(w:W)(s:MS):run P (n+1) 104 [.int a,wv w] s=.ok (.tup [.int (dn a w).1,.int (dn a w).2]) s:=by
 refine qc (zm hf rfl ?_);cases w with
 |get=>exact zl (t:=true) rfl (zv rfl ⟨rfl,rfl⟩)
 |set j=>exact zl (t:=false) rfl (ze (zl (t:=true) rfl (zv rfl ⟨rfl,rfl⟩)))
 |add j=>exact zl (t:=false) rfl (ze (zl (t:=false) rfl (ze (zv rfl ⟨rfl,rfl⟩))))
theorem zqi(hf:P.fns 106=some fl_last)(n:Nat)(ms:Xd q9)(c:Int)(s:MS):run P (n+1) 106 [qz ms,.int c] s=.ok (.tup [.int (wt c ms).1,.int (wt c ms).2]) s:=by
 refine qc (zm hf rfl ?_);refine ka (v:=qz ms) (s':=s) (xs:=ms.map qt) rfl rfl rfl (lz (λrem l t=>t=s/\(∃rm,rem=List.map qt rm/\vq c ms=vq c rm)/\∃x y z,l=[some (qz ms),some (.int c),x,y,z]) ?_ ?_ _ _ _ ⟨rfl,⟨ms,rfl,rfl⟩,_,_,_,rfl⟩)
 .rintro v rem l t ⟨rfl,⟨rm,e1,e2⟩,y1,y2,y3,rfl⟩;refine⟨rfl,?_⟩;cases rm with
  |nil=>cases e1
  |cons m rm =>
   cases e1;show OkR (exs P _ _ _ [some (qz ms),some (.int c),some (.int m.1),some (.int m.2.1),some (.int m.2.2)] t) _;by_cases hc:m.1=c
   .refine zl (t:=true) (Qd (λq=>Res.ok (V.bool q) t) (Zb hc)) (zv rfl ⟨?_,rfl⟩);rw[wt,e2,vq,Zg hc];rfl
   .refine zl (t:=false) (Qd (λq=>Res.ok (V.bool q) t) (Zc hc)) (ze (zx ⟨rfl,⟨rm,rfl,?_⟩,_,_,_,rfl⟩));rw[e2,vq,Zh hc]
 .rintro l t ⟨rfl,⟨rm,e1,e2⟩,y1,y2,y3,rfl⟩;refine⟨rfl,?_⟩;rw[j9];refine zv rfl ⟨?_,rfl⟩;cases rm with
  |cons=>cases e1
  |nil=>rw[wt,e2];rfl
variable{c:Int}
theorem zhk(hf:P.fns 105=some fl_marked)(n:Nat){ms:Xd q9}(hm:MOk ms)(h0:0<=c)(h6:c<6)(num told:Int)(s:MS):run P (n+1) 105 [qz ms,.int c,.int num,.int told] s=.ok (qz (dh (c,num,told) ms)) s:=by
 refine qc (zm hf rfl ?_);have hlen:(0:Nat)+(ms.map qt).length<=zi:=by rw[Zd];have:=zpc hm;show _<=16777216;lia
 have hl2:((yu c ms).map qt).length+1<=16777216:=by rw[Zd,yu];have:=zpc hm;have:=List.length_filter_le (λm:q9=>!decide (m.1=c)) ms;lia
 refine zv (j5 (zg (j5 (zg (kb (x:=.lst ((yu c ms).map qt)) (y:=.lst [.tup [.int c,.int num,.int told]]) (u3 (src:=qz ms) (xs:=ms.map qt) rfl rfl ?_) rfl (zil _ _ _ hl2)) rfl) (fh hm h0 h6)) rfl) rfl) ⟨rfl,rfl⟩;rw[<- u7];refine(yy s s false (qz ms) 4 _ _ _ (zpn c) id rfl (ms.map qt) [] ?_ ?_ hlen).trans (by rw[Q1];rfl)
 .intro v hv;refine zd (ls hv) λm ξ eq2=>?_;subst eq2;rfl
 .intro v hv _;rfl
theorem zds(h:HS)(c num:Int)(key:Key)(w:W)(r:Row)(h1:1<=num):h.called c num key w r=if num<(wt c r.marks).1 then h else if (wt c r.marks).1=num then h.again c num (wt c r.marks).2 else h.first c num key w r:=by
 unfold HS.called wt;cases hf:vq c r.marks with
 |some p=>rfl
 |none =>
  show _=if num<0 then h else if 0=num then _ else _;rw[Zh (by lia),Zh (by lia)]
include H
variable{num:Int}
theorem cn(n:Nat)(ho:s.heap (51,i)=some (x8 num x))(key:Key)(r:Row):
  run P (n+1) 108 [.ref (51,i),.str key,.tup [.int r.turn,.str (stO r.st),.int r.amt,qz r.marks]] s=.ok (zu (jc num key r)) s:=by
 refine qc (zm H.parcel rfl ?_);exact zv (by (repeat' first|exact rfl|apply qk|apply kb|apply p4|apply zg|exact q8 _ _ _ _ _ (by assumption) (by first|exact rfl|assumption))) ⟨rfl,rfl⟩
theorem ze8(n:Nat)(a:OAt s i x h)(z:HZ h)(hk:qv key h.known=some r)(hm:MOk r.marks)(h0:0<=c)(h6:c<6)(h1:1<=num)(w:W)(hh:Int):
  OkR (run P (n+2) 109 [.ref (51,i),.int c,.int num,.str key,wv w] s) λv s'=>v=.none/\OAt s' i x (h.came (.call hh c num key w))/\Fr (OF i x) s s':=by
 have hd:=wa hk;have ho:=a.o;have hkn:=a.k;have hla:=a.la;have hll:=ua (f:=zu) z.la;have hlf:=ua (f:=xl) z.fr;have hks:=n9 z.k;have hlast:=zqi H.last n r.marks c s;have e:h.came (.call hh c num key w)=if r.st=.here then h.called c num key w r else h:=g8 hk;rw[e];refine zm H.called rfl ?_;refine yg (l':=[some (.ref (51,i)),some (.int c),some (.int num),some (.str key),some (wv w),some (.int r.turn),some (.str (stO r.st)),some (.int r.amt),some (qz r.marks),none,none]) (by (repeat' first|exact rfl|apply qk|exact q8 _ _ _ _ _ (by assumption) (by first|exact rfl|assumption))) rfl (yg (l':=[some (.ref (51,i)),some (.int c),some (.int num),some (.str key),some (wv w),some (.int r.turn),some (.str (stO r.st)),some (.int r.amt),some (qz r.marks),some (.int (wt c r.marks).1),some (.int (wt c r.marks).2)]) (by (repeat' first|exact rfl|apply qb|assumption)) rfl ?_);have hcd:=zds h c num key w r h1;generalize wt c r.marks=p at hcd;obtain⟨p1,p2⟩:=p;by_cases hs:r.st=.here
 .rw[Zg hs,hcd];have hq:∀(q:Bool),(!decide (stO r.st=[104,101,114,101]))=q->q=false:=λq e=>by rw[<- e,ar,Zb hs];rfl
  by_cases hgt:num<p1
  .rw[Zg hgt];refine zl (t:=true) (v0 (Qd (λq=>Res.ok (V.bool q) s) (hq _ rfl)) (yv (Qd (λq=>Res.ok (V.bool q) s) (Zb hgt)))) (wd ⟨rfl,a,.refl _ _⟩)
  .rw[Zh hgt];refine zl (t:=false) (v0 (Qd (λq=>Res.ok (V.bool q) s) (hq _ rfl)) (yv (Qd (λq=>Res.ok (V.bool q) s) (Zc hgt)))) (ze ?_);by_cases heq:p1=num
   .subst heq;rw[Zg rfl];refine zl (t:=false) (Qd (λq=>Res.ok (V.bool q) s) (Zc (Int.lt_irrefl _))) (ze (qj (v:=.none) (s':=s.put (45,x.la) (.list (h.laid.map zu++[zu (.answer c p1 p2)]))) (by (repeat' first|exact rfl|apply qk|apply v6|exact q8 _ _ _ _ _ (by assumption) (by first|exact rfl|assumption)|exact qy (by assumption)|exact je _ _ _ _ (by assumption) (by assumption))) (zx ⟨rfl,a.laid1 _,(Fr.refl _ _).put (.inr (.inr (.inr (.inl rfl)))) _⟩)))
   .rw[Zh heq];have hdn:=zlr H.done n r.amt w s;refine zl (t:=true) (Qd (λq=>Res.ok (V.bool q) s) (Zb (by lia))) (yg (l':=[some (.ref (51,i)),some (.int c),some (.int num),some (.str key),some (wv w),some (.int r.turn),some (.str (stO r.st)),some (.int (dn r.amt w).1),some (qz r.marks),some (.int p1),some (.int (dn r.amt w).2)]) (by (repeat' first|exact rfl|apply qb|assumption)) rfl ?_);rw[HS.first];generalize dn r.amt w=q;obtain⟨q1,q2⟩:=q;have hmk:=zhk H.marked n hm h0 h6 num q2 s;refine qg (v:=pq ⟨.here,r.turn,q1,dh (c,num,q2) r.marks⟩) (p4 (zg (v:=.int r.turn) rfl (zg rfl (zg (v:=.int q1) rfl (zg (qb (zg (v:=qz r.marks) rfl (zg (v:=.int c) rfl (zg (v:=.int num) rfl (zg (v:=.int q2) rfl rfl)))) hmk) rfl)))) rfl) (by (repeat' first|exact rfl|apply qk|exact q8 _ _ _ _ _ (by assumption) (by first|exact rfl|assumption))) rfl (z5 _ _ _ _ _ hkn hks) ?_;rw[ul];have a1:=a.known (qw key ⟨.here,r.turn,q1,dh (c,num,q2) r.marks⟩ h.known);have f1:Fr (OF i x) s _:=(Fr.refl (OF i x) s).put (.inr (.inl rfl)) (.dict (x3 (qw key ⟨.here,r.turn,q1,dh (c,num,q2) r.marks⟩ h.known)));generalize s.put (43,x.k) (.dict (x3 (qw key ⟨.here,r.turn,q1,dh (c,num,q2) r.marks⟩ h.known)))=t1 at a1 f1;have ho1:=a1.o;have hfr1:=a1.fr;refine qj (v:=.none) (s':=t1.put (46,x.fr) (.list (h.fresh.map xl++[xl ⟨c,num,key,w,q2⟩]))) (by (repeat' first|exact rfl|apply qk|apply v6|exact q8 _ _ _ _ _ (by assumption) (by first|exact rfl|assumption)|exact qy (by assumption)|exact je _ _ _ _ (by assumption) (by assumption))) (ze ?_);have a2:=a1.fresh1 ⟨c,num,key,w,q2⟩;have f2:=f1.put (l:=(46,x.fr)) (.inr (.inr (.inr (.inr rfl)))) (.list (h.fresh.map xl++[xl ⟨c,num,key,w,q2⟩]));generalize t1.put (46,x.fr) (.list (h.fresh.map xl++[xl ⟨c,num,key,w,q2⟩]))=t2 at a2 f2;have ho2:=a2.o;have hla2:=a2.la;exact qj (v:=.none) (s':=t2.put (45,x.la) (.list (h.laid.map zu++[zu (.answer c num q2)]))) (by (repeat' first|exact rfl|apply qk|apply v6|exact q8 _ _ _ _ _ (by assumption) (by first|exact rfl|assumption)|exact qy (by assumption)|exact je _ _ _ _ (by assumption) (by assumption))) (zx ⟨rfl,a2.laid1 (.answer c num q2),f2.put (.inr (.inr (.inr (.inl rfl)))) _⟩)
 .rw[Zh hs];exact zl (t:=true) (zx8 (Qd (λq=>Res.ok (V.bool (!q)) s) ((ar r.st).trans (Zc hs)))) (wd ⟨rfl,a,.refl _ _⟩)
theorem zhh(n:Nat)(a:OAt s i x h)(z:HZ h)(hk:qv key h.known=some r):
  OkR (run P (n+2) 110 [.ref (51,i),.str key] s) λv s'=>v=.none/\OAt s' i x (h.move key r)/\Fr (OF i x) s s':=by
 have hd:=wa hk;have ho:=a.o;have hkn:=a.k;have hll:=ua (f:=zu) z.la;have hks:=n9 z.k;refine zm H.moved rfl ?_;refine yg (l':=[some (.ref (51,i)),some (.str key),some (.int r.turn),some (.str (stO r.st)),some (.int r.amt),some (qz r.marks)]) (by (repeat' first|exact rfl|apply qk|exact q8 _ _ _ _ _ (by assumption) (by first|exact rfl|assumption))) rfl (qg (v:=pq {r with st:=.owes}) (by (repeat' first|exact rfl)) (by (repeat' first|exact rfl|apply qk|exact q8 _ _ _ _ _ (by assumption) (by first|exact rfl|assumption))) rfl (z5 _ _ _ _ _ hkn hks) ?_);rw[ul];have a1:=a.known (qw key {r with st:=.owes} h.known);have f1:Fr (OF i x) s _:=(Fr.refl (OF i x) s).put (.inr (.inl rfl)) (.dict (x3 (qw key {r with st:=.owes} h.known)));generalize s.put (43,x.k) (.dict (x3 (qw key {r with st:=.owes} h.known)))=t1 at a1 f1;have ho1:=a1.o;have hla1:=a1.la;have hkn1:=a1.k;have hd1:=wa (k:=qw key {r with st:=.owes} h.known) (key:=key) (r:={r with st:=.owes}) (by rw[da,Zg rfl]);have hp:=cn H n ho1 key {r with st:=.owes};exact qj (v:=.none) (s':=t1.put (45,x.la) (.list (h.laid.map zu++[zu (jc h.num key r)]))) (by (repeat' first|exact rfl|apply qk|apply qb|apply v6|apply zg|exact q8 _ _ _ _ _ (by assumption) (by first|exact rfl|assumption)|exact qy (by assumption)|exact je _ _ _ _ (by assumption) (by assumption)|assumption)) (zx ⟨rfl,a1.laid1 (jc h.num key r),f1.put (.inr (.inr (.inr (.inl rfl)))) _⟩)
theorem zhj(n:Nat)(a:OAt s i x h)(z:HZ h):
  OkR (run P (n+1) 111 [.ref (51,i)] s) λv s'=>v=.tup [.ref (45,x.la),.ref (46,x.fr)]/\OAt s' i ⟨x.k,s.cnt 44,s.cnt 45,s.cnt 46⟩ h.write/\Fr (At1 (51,i)) s s':=by
 have ho:=a.o;have hkn:=a.k;have hkz:=sw z.k;refine zm H.wrote rfl ?_;have h1:(s.new 44 (.dict (x3 h.known))).heap (51,i)=some (x8 h.num x):=by (repeat' first|assumption|exact zh _ _ _|exact zt _ _ _|refine(zo (by rfl)).trans ?_|refine(q7 (by rfl)).trans ?_)
 refine qg (s':=(s.new 44 (.dict (x3 h.known))).put (51,i) (x8 h.num ⟨x.k,s.cnt 44,x.la,x.fr⟩)) (by (repeat' first|exact rfl|apply qk|apply g9|exact q8 _ _ _ _ _ (by assumption) (by first|exact rfl|assumption)|assumption)) rfl rfl (z5 _ _ _ [119,114,105,116,116,101,110] _ h1 (by show 5<16777216;decide)) ?_;have f1:Fr (At1 (51,i)) s ((s.new 44 (.dict (x3 h.known))).put (51,i) (x8 h.num ⟨x.k,s.cnt 44,x.la,x.fr⟩)):=((Fr.refl _ _).new _ _).put (at1 _) _;have h2:((s.new 44 (.dict (x3 h.known))).put (51,i) (x8 h.num ⟨x.k,s.cnt 44,x.la,x.fr⟩)).heap (51,i)=some (x8 h.num ⟨x.k,s.cnt 44,x.la,x.fr⟩):=zh _ _ _;have w2:((s.new 44 (.dict (x3 h.known))).put (51,i) (x8 h.num ⟨x.k,s.cnt 44,x.la,x.fr⟩)).heap (44,s.cnt 44)=some (.dict (x3 h.known)):=by (repeat' first|assumption|exact zh _ _ _|exact zt _ _ _|refine(zo (by rfl)).trans ?_|refine(q7 (by rfl)).trans ?_)
 have c5:((s.new 44 (.dict (x3 h.known))).put (51,i) (x8 h.num ⟨x.k,s.cnt 44,x.la,x.fr⟩)).cnt 44=s.cnt 44+1:=rfl;have c6:((s.new 44 (.dict (x3 h.known))).put (51,i) (x8 h.num ⟨x.k,s.cnt 44,x.la,x.fr⟩)).cnt 45=s.cnt 45:=rfl;have c7:((s.new 44 (.dict (x3 h.known))).put (51,i) (x8 h.num ⟨x.k,s.cnt 44,x.la,x.fr⟩)).cnt 46=s.cnt 46:=rfl;generalize (s.new 44 (.dict (x3 h.known))).put (51,i) (x8 h.num ⟨x.k,s.cnt 44,x.la,x.fr⟩)=t at f1 h2 w2 c5 c6 c7;refine zk (v:=.tup [.ref (45,x.la),.ref (46,x.fr)]) (s':=t) (by (repeat' first|exact rfl|apply qk|apply p4|apply zg|exact q8 _ _ _ _ _ (by assumption) (by first|exact rfl|assumption))) rfl ?_;have h3:(t.new 45 (.list [])).heap (51,i)=some (x8 h.num ⟨x.k,s.cnt 44,x.la,x.fr⟩):=by (repeat' first|assumption|exact zh _ _ _|exact zt _ _ _|refine(zo (by rfl)).trans ?_|refine(q7 (by rfl)).trans ?_)
 refine qg (v:=.ref (45,t.cnt 45)) (s':=(t.new 45 (.list [])).put (51,i) (x8 h.num ⟨x.k,s.cnt 44,t.cnt 45,x.fr⟩)) rfl rfl rfl (z5 _ _ _ [108,97,105,100] _ h3 (by show 5<16777216;decide)) ?_;have h4:(((t.new 45 (.list [])).put (51,i) (x8 h.num ⟨x.k,s.cnt 44,t.cnt 45,x.fr⟩)).new 46 (.list [])).heap (51,i)=some (x8 h.num ⟨x.k,s.cnt 44,t.cnt 45,x.fr⟩):=by (repeat' first|assumption|exact zh _ _ _|exact zt _ _ _|refine(zo (by rfl)).trans ?_|refine(q7 (by rfl)).trans ?_)
 refine qg (v:=.ref (46,t.cnt 46)) (s':=(((t.new 45 (.list [])).put (51,i) (x8 h.num ⟨x.k,s.cnt 44,t.cnt 45,x.fr⟩)).new 46 (.list [])).put (51,i) (x8 h.num ⟨x.k,s.cnt 44,t.cnt 45,t.cnt 46⟩)) rfl rfl rfl (z5 _ _ _ [102,114,101,115,104] _ h4 (by show 5<16777216;decide)) ?_;have f2:=(((f1.new 45 (.list [])).put (at1 _) (x8 h.num ⟨x.k,s.cnt 44,t.cnt 45,x.fr⟩)).new 46 (.list [])).put (at1 _) (x8 h.num ⟨x.k,s.cnt 44,t.cnt 45,t.cnt 46⟩);refine zv (v:=.tup [.ref (45,x.la),.ref (46,x.fr)]) rfl ⟨rfl,?_,f2⟩;have hk':=(f2.1 (43,x.k) a.ik (yj (by decide))).trans a.k;rw[c6,c7]at hk' f2 ⊢;refine⟨zh _ _ _,hk',by (repeat' first|assumption|exact zh _ _ _|exact zt _ _ _|refine(zo (by rfl)).trans ?_|refine(q7 (by rfl)).trans ?_),?_,?_,Zi a.io (f2.2 51),Zi a.ik (f2.2 43),?_,?_,?_⟩
 .rw[<- c6];(repeat' first|assumption|exact zh _ _ _|exact zt _ _ _|refine(zo (by rfl)).trans ?_|refine(q7 (by rfl)).trans ?_)
 .rw[<- c7];exact(zo (by rfl)).trans (zt _ 46 _)
 .show s.cnt 44<t.cnt 44;rw[c5];exact Zy _
 .show s.cnt 45<t.cnt 45+1;rw[c6];exact Zy _
 .show s.cnt 46<t.cnt 46+1;rw[c7];exact Zy _
theorem zhi(n:Nat)(a:OAt s i x h)(z:HZ h):
  OkR (run P (n+1) 112 [.ref (51,i)] s) λv s'=>v=.none/\OAt s' i ⟨s.cnt 43,x.w,s.cnt 45,s.cnt 46⟩ h.sleep/\Fr (At1 (51,i)) s s':=by
 have ho:=a.o;have hwn:=a.w;have hwz:=sw z.w;refine zm H.slept rfl ?_;have h1:(s.new 43 (.dict (x3 h.written))).heap (51,i)=some (x8 h.num x):=by (repeat' first|assumption|exact zh _ _ _|exact zt _ _ _|refine(zo (by rfl)).trans ?_|refine(q7 (by rfl)).trans ?_)
 refine qg (s':=(s.new 43 (.dict (x3 h.written))).put (51,i) (x8 h.num ⟨s.cnt 43,x.w,x.la,x.fr⟩)) (by (repeat' first|exact rfl|apply qk|apply g9|exact q8 _ _ _ _ _ (by assumption) (by first|exact rfl|assumption)|assumption)) rfl rfl (z5 _ _ _ [107,110,111,119,110] _ h1 (by show 5<16777216;decide)) ?_;have f1:Fr (At1 (51,i)) s ((s.new 43 (.dict (x3 h.written))).put (51,i) (x8 h.num ⟨s.cnt 43,x.w,x.la,x.fr⟩)):=((Fr.refl _ _).new _ _).put (at1 _) _;have h2:((s.new 43 (.dict (x3 h.written))).put (51,i) (x8 h.num ⟨s.cnt 43,x.w,x.la,x.fr⟩)).heap (51,i)=some (x8 h.num ⟨s.cnt 43,x.w,x.la,x.fr⟩):=zh _ _ _;have w2:((s.new 43 (.dict (x3 h.written))).put (51,i) (x8 h.num ⟨s.cnt 43,x.w,x.la,x.fr⟩)).heap (43,s.cnt 43)=some (.dict (x3 h.written)):=by (repeat' first|assumption|exact zh _ _ _|exact zt _ _ _|refine(zo (by rfl)).trans ?_|refine(q7 (by rfl)).trans ?_)
 have c4:((s.new 43 (.dict (x3 h.written))).put (51,i) (x8 h.num ⟨s.cnt 43,x.w,x.la,x.fr⟩)).cnt 43=s.cnt 43+1:=rfl;have c6:((s.new 43 (.dict (x3 h.written))).put (51,i) (x8 h.num ⟨s.cnt 43,x.w,x.la,x.fr⟩)).cnt 45=s.cnt 45:=rfl;have c7:((s.new 43 (.dict (x3 h.written))).put (51,i) (x8 h.num ⟨s.cnt 43,x.w,x.la,x.fr⟩)).cnt 46=s.cnt 46:=rfl;generalize (s.new 43 (.dict (x3 h.written))).put (51,i) (x8 h.num ⟨s.cnt 43,x.w,x.la,x.fr⟩)=t at f1 h2 w2 c4 c6 c7;have h3:(t.new 45 (.list [])).heap (51,i)=some (x8 h.num ⟨s.cnt 43,x.w,x.la,x.fr⟩):=by (repeat' first|assumption|exact zh _ _ _|exact zt _ _ _|refine(zo (by rfl)).trans ?_|refine(q7 (by rfl)).trans ?_)
 refine qg (v:=.ref (45,t.cnt 45)) (s':=(t.new 45 (.list [])).put (51,i) (x8 h.num ⟨s.cnt 43,x.w,t.cnt 45,x.fr⟩)) rfl rfl rfl (z5 _ _ _ [108,97,105,100] _ h3 (by show 5<16777216;decide)) ?_;have h4:(((t.new 45 (.list [])).put (51,i) (x8 h.num ⟨s.cnt 43,x.w,t.cnt 45,x.fr⟩)).new 46 (.list [])).heap (51,i)=some (x8 h.num ⟨s.cnt 43,x.w,t.cnt 45,x.fr⟩):=by (repeat' first|assumption|exact zh _ _ _|exact zt _ _ _|refine(zo (by rfl)).trans ?_|refine(q7 (by rfl)).trans ?_)
 refine qg (v:=.ref (46,t.cnt 46)) (s':=(((t.new 45 (.list [])).put (51,i) (x8 h.num ⟨s.cnt 43,x.w,t.cnt 45,x.fr⟩)).new 46 (.list [])).put (51,i) (x8 h.num ⟨s.cnt 43,x.w,t.cnt 45,t.cnt 46⟩)) rfl rfl rfl (z5 _ _ _ [102,114,101,115,104] _ h4 (by show 5<16777216;decide)) ?_;have f2:=(((f1.new 45 (.list [])).put (at1 _) (x8 h.num ⟨s.cnt 43,x.w,t.cnt 45,x.fr⟩)).new 46 (.list [])).put (at1 _) (x8 h.num ⟨s.cnt 43,x.w,t.cnt 45,t.cnt 46⟩);refine zx ⟨rfl,?_,f2⟩;have hw':=(f2.1 (44,x.w) a.iw (yj (by decide))).trans a.w;rw[c6,c7]at hw' f2 ⊢;refine⟨zh _ _ _,by (repeat' first|assumption|exact zh _ _ _|exact zt _ _ _|refine(zo (by rfl)).trans ?_|refine(q7 (by rfl)).trans ?_),hw',?_,?_,Zi a.io (f2.2 51),?_,Zi a.iw (f2.2 44),?_,?_⟩
 .rw[<- c6];(repeat' first|assumption|exact zh _ _ _|exact zt _ _ _|refine(zo (by rfl)).trans ?_|refine(q7 (by rfl)).trans ?_)
 .rw[<- c7];exact(zo (by rfl)).trans (zt _ 46 _)
 .show s.cnt 43<t.cnt 43;rw[c4];exact Zy _
 .show s.cnt 45<t.cnt 45+1;rw[c6];exact Zy _
 .show s.cnt 46<t.cnt 46+1;rw[c7];exact Zy _
omit H
variable{ks:Xd Key}
theorem d5{st:St}(nd:(k.map (·.1)).Nodup)(hk:k.map (·.1)=ks):(ks.map V.str).filter (za7 k st)=(k.filter λp=>decide (p.2.st=st)).map λp=>V.str p.1:=by
 rw[<- b5 nd,<- hk,Qg,z9,Qg];rfl
include H
theorem cj(n:Nat)(a:OAt s i x h)(z:HZ h)(nd:(h.written.map (·.1)).Nodup)(hks:h.written.map (·.1)=ks):
  run P (n+2) 113 [.ref (51,i),.lst (ks.map .str)] s=.ok (.lst (h.nudge.map zu)) s:=by
 have ho:=a.o;have hwn:=a.w;refine qc (zm H.nudged rfl ?_);have hl:(0:Nat)+(ks.map V.str).length<=zi:=by have:=z.w;rw[<- hks,Zd,Zd];show _<=16777216;lia
 have hin:∀v∈ks.map V.str,∃key r,v=.str key/\qv key h.written=some r:=by
  intro v hv;refine zd (Z1.1 hv) λkey hk eq2=>?_;subst eq2;rw[<- hks]at hk;refine zr (n8 hk) λr hr=>?_;exact⟨key,r,rfl,hr⟩
 refine zv (u3 (src:=.lst (ks.map .str)) (xs:=ks.map .str) (s1:=s) rfl rfl (yy s s false _ 2 _ _ _ (za7 h.written .owes) (λv=>match v with|.str key=>(match qv key h.written with|some r=>zu (jc h.num key r)|none=>.none)|_=>.none) (wy _ _ _) _ [] ?_ ?_ hl)) ⟨?_,rfl⟩
 .intro v hv;refine zf (hin v hv) λkey r eq2 hk=>?_;subst eq2;have hd:=wa hk;show ev P _ _ [some (.ref (51,i)),some (.lst (ks.map .str)),some (.str key)] s=.ok (.bool (match qv key h.written with|some r=>decide (r.st=.owes)|none=>false)) s;rw[hk];show _=Res.ok (V.bool (decide (r.st=.owes))) s;rw[<- au]
  (repeat' first|exact rfl|apply qk|apply jy|exact q8 _ _ _ _ _ (by assumption) (by first|exact rfl|assumption))
 .intro v hv _;refine zf (hin v hv) λkey r eq2 hk=>?_;subst eq2;have hd:=wa hk;have hp:=cn H n ho key r;show ev P _ _ [some (.ref (51,i)),some (.lst (ks.map .str)),some (.str key)] s=.ok (match qv key h.written with|some r=>zu (jc h.num key r)|none=>.none) s;rw[hk]
  (repeat' first|exact rfl|apply qk|apply qb|apply zg|exact q8 _ _ _ _ _ (by assumption) (by first|exact rfl|assumption)|assumption)
 .show V.lst ([]++_)=_;rw[Jv,d5 nd hks,HS.nudge,Qg,Qg];congr 1;refine Jw λp hp=>?_;show(match qv p.1 h.written with|some r=>zu (jc h.num p.1 r)|none=>V.none)=zu (jc h.num p.1 p.2);rw[vn nd (Q3.1 hp).1]
theorem ze9(n:Nat)(num:Int)(hnum:num=0\/num=1)(ks:Xd Key)(hn:ks.length<1000):
  OkR (run P (n+1) 107 [.int num,.lst (ks.map .str)] s) λv s'=>∃(j:Nat)(x:HIx),v=.ref (51,j)/\(j=s.cnt 51/\s'.cnt 51=s.cnt 51+1/\(∀k,46<k->k≠51->s'.cnt k=s.cnt k)/\s.cnt 43<=x.k/\s.cnt 44<=x.w/\s.cnt 45<=x.la/\s.cnt 46<=x.fr)/\OAt s' j x (HS.new num ks)/\Fr (λξ=>False) s s':=by
 refine zm H.new rfl ?_;have e0:OkR (exs P (run P n) n [.assign 3 (.dictM 43 [] []),.for_ (.inl (.loc 4)) false (.loc 1) [.setitem (.loc 3) (.loc 4) (.loc 2)],.ret (some (.dictM 51 [[110,117,109,98,101,114],[107,110,111,119,110],[119,114,105,116,116,101,110],[108,97,105,100],[102,114,101,115,104]] [.loc 0,.loc 3,.dictC 44 (.loc 3),.lstM 45 [],.lstM 46 []]))]
   [some (.int num),some (.lst (ks.map .str)),some (pq (wu num)),none,none] s) λp s'=>∃(j:Nat)(x:HIx),flV p.1=.ref (51,j)/\(j=s.cnt 51/\s'.cnt 51=s.cnt 51+1/\(∀k,46<k->k≠51->s'.cnt k=s.cnt k)/\s.cnt 43<=x.k/\s.cnt 44<=x.w/\s.cnt 45<=x.la/\s.cnt 46<=x.fr)/\OAt s' j x (HS.new num ks)/\Fr (λξ=>False) s s':=by
  refine zk (v:=.ref (43,s.cnt 43)) (s':=s.new 43 (.dict [])) rfl rfl ?_;have f1:Fr (λξ=>False) s (s.new 43 (.dict [])):=(Fr.refl _ _).new _ _;have h1:(s.new 43 (.dict [])).heap (43,s.cnt 43)=some (.dict (x3 [])):=zt _ _ _;have c1:∀k,k≠43->(s.new 43 (.dict [])).cnt k=s.cnt k:=λk hk=>Zh hk;have c3:(s.new 43 (.dict [])).cnt 43=s.cnt 43+1:=rfl;generalize s.new 43 (.dict [])=t at f1 h1 c1 c3;refine ka (v:=.lst (ks.map .str)) (s':=t) (xs:=ks.map .str) rfl rfl rfl (lz (λrem l u=>(∃dk rk,ks=dk++rk/\rem=rk.map V.str/\u.heap (43,s.cnt 43)=some (.dict (x3 (dk.foldl (λk key=>qw key (wu num) k) [])))/\(dk.foldl (λk key=>qw key (wu num) k) []).length<=dk.length)/\Fr (λξ=>False) s u/\u.cnt=t.cnt/\∃y,l=[some (.int num),some (.lst (ks.map .str)),some (pq (wu num)),some (.ref (43,s.cnt 43)),y]) ?_ ?_ _ _ _ ?_)
  .rintro v rem l u ⟨⟨dk,rk,e1,e2,e3,e4⟩,fu,hcu,y,rfl⟩;cases rk with
   |nil=>cases e2
   |cons key rk =>
    cases e2;refine⟨rfl,?_⟩;have hlen:(x3 (dk.foldl (λk key=>qw key (wu num) k) [])).length<16777216:=by
     rw[x3,Zd];rw[e1,Zf]at hn;lia
    have hkl:∀(a:Row)(k:q6),(qw key a k).length<=k.length+1:=by
     intro a k
     induction k with
     |nil=>exact Zs _
     |cons p l ih =>
      rw[qw];split
      .exact Zw _
      .exact Qp ih
    show OkR (exs P _ _ _ [some (.int num),some (.lst (ks.map .str)),some (pq (wu num)),some (.ref (43,s.cnt 43)),some (.str key)] u) _;refine qg (v:=pq (wu num)) rfl rfl rfl (z5 _ _ _ _ _ e3 hlen) (zx ?_);rw[ul];refine⟨⟨dk++[key],rk,by rw[e1,Z3];rfl,rfl,by rw[List.foldl_append];exact zh _ _ _,by rw[List.foldl_append,Zf];exact Zp (hkl _ _) (Qp e4)⟩,?_,hcu,_,rfl⟩;exact⟨λl hl hn=>(yd λ(e:l=(43,s.cnt 43))=>by rw[e]at hl;exact Nat.lt_irrefl _ hl).trans (fu.1 l hl hn),fu.2⟩
  .rintro l u ⟨⟨dk,rk,e1,e2,e3,e4⟩,fu,hcu,y,rfl⟩;refine⟨rfl,?_⟩;rw[j9];have:dk=ks:=by
    cases rk with
    |nil=>rw[e1,Z0]
    |cons=>cases e2
   subst this;have hK:HS.new num dk=⟨num,dk.foldl (λk key=>qw key (wu num) k) [],dk.foldl (λk key=>qw key (wu num) k) [],[],[]⟩:=rfl;rw[hK];have hkz:=sw (Z7 e4 hn);generalize dk.foldl (λk key=>qw key (wu num) k) []=k0 at e3 hkz;refine zv (v:=.ref (51,u.cnt 51)) (s':=(((u.new 44 (.dict (x3 k0))).new 45 (.list [])).new 46 (.list [])).new 51 (x8 num ⟨s.cnt 43,u.cnt 44,u.cnt 45,u.cnt 46⟩)) (g6 (a:=[.int num,.ref (43,s.cnt 43),.ref (44,u.cnt 44),.ref (45,u.cnt 45),.ref (46,u.cnt 46)]) (s:=((u.new 44 (.dict (x3 k0))).new 45 (.list [])).new 46 (.list [])) (zg rfl (zg rfl (zg (g9 rfl e3 hkz) rfl))) rfl) ⟨_,⟨s.cnt 43,u.cnt 44,u.cnt 45,u.cnt 46⟩,rfl,⟨(congrFun hcu 51).trans (c1 51 (by decide)),Qd (·+1) ((congrFun hcu 51).trans (c1 51 (by decide))),λk hk hne=>(Zh hne).trans ((Zh (Qm hk)).trans ((Zh (Qm (Qe (by decide) hk))).trans ((Zh (Qm (Qe (by decide) hk))).trans ((congrFun hcu k).trans (c1 k (Qm (Qe (by decide) hk))))))),Zs _,Qf ((congrFun hcu 44).trans (c1 44 (by decide))).symm,Qf ((congrFun hcu 45).trans (c1 45 (by decide))).symm,Qf ((congrFun hcu 46).trans (c1 46 (by decide))).symm⟩,?_,(((fu.new _ _).new _ _).new _ _).new _ _⟩;refine⟨zt _ 51 _,by (repeat' first|assumption|exact zh _ _ _|exact zt _ _ _|refine(zo (by rfl)).trans ?_|refine(q7 (by rfl)).trans ?_),by (repeat' first|assumption|exact zh _ _ _|exact zt _ _ _|refine(zo (by rfl)).trans ?_|refine(q7 (by rfl)).trans ?_),?_,?_,Zy _,?_,Zy _,Zy _,Zy _⟩
   .exact(q7 (by rfl)).trans ((q7 (by rfl)).trans (zt _ 45 _))
   .exact(q7 (by rfl)).trans (zt _ 46 _)
   .show s.cnt 43<u.cnt 43;rw[hcu,c3];exact Zy _
  .exact⟨⟨[],ks,rfl,rfl,h1,Zs _⟩,f1,rfl,_,rfl⟩
 rcases hnum with rfl|rfl
 .exact zk (v:=pq ⟨.here,0,0,[]⟩) rfl rfl (zl (t:=false) rfl (ze e0))
 .exact zk (v:=pq ⟨.here,0,0,[]⟩) rfl rfl (zl (t:=true) rfl (zk (v:=pq ⟨.gone,-1,0,[]⟩) rfl rfl (ze e0)))
end
end Internal
end
section
namespace Internal
noncomputable def fl_brought:Fn:=⟨2,["_law_own","_law_letter","_law_one","_law_house","_law_turn","_law_state","_law_amount","_law_marks"],[.ite (.cmp (.sub (.loc 1) (.int 0)) .eq (.str [97,110,115,119,101,114])) [.assign 2 (.sub (.sub (.loc 0) (.str [99,97,108,108,101,114,115])) (.sub (.loc 1) (.int 1))),.ite (.and [.isC true (.sub (.loc 2) (.str [97,115,107,101,100])) .none,.cmp (.sub (.sub (.loc 2) (.str [97,115,107,101,100])) (.int 0)) .eq (.sub (.loc 1) (.int 2))]) [.setitem (.loc 2) (.str [97,115,107,101,100]) .none,.expr (.bm .append (.sub (.loc 2) (.str [99,108,111,115,101,100])) [.tup [.sub (.loc 1) (.int 2),.sub (.loc 1) (.int 3)]])] [],.ret none] [],.assign 3 (.sub (.sub (.loc 0) (.str [104,111,117,115,101,115])) (.sub (.loc 1) (.int 1))),.ite (.cmp (.sub (.loc 1) (.int 0)) .eq (.str [99,97,108,108])) [.expr (.call 109 [.loc 3,.sub (.loc 1) (.int 2),.sub (.loc 1) (.int 3),.sub (.loc 1) (.int 4),.sub (.loc 1) (.int 5)]),.ret none] [],.unpack [.loc 4,.loc 5,.loc 6,.loc 7] (.sub (.sub (.loc 3) (.str [107,110,111,119,110])) (.sub (.loc 1) (.int 2))),.ite (.and [.cmp (.sub (.loc 1) (.int 0)) .eq (.str [116,97,107,101,110]),.cmp (.loc 5) .eq (.str [111,119,101,100]),.cmp (.sub (.loc 1) (.int 3)) .eq (.bin .add (.loc 4) (.int 1))]) [.setitem (.sub (.loc 3) (.str [107,110,111,119,110])) (.sub (.loc 1) (.int 2)) (.tup [.loc 4,.str [103,111,110,101],.int 0,.tup []])] [],.ite (.cmp (.sub (.loc 1) (.int 0)) .eq (.str [112,97,114,99,101,108])) [.ite (.cmp (.sub (.loc 1) (.int 3)) .gt (.loc 4)) [.setitem (.sub (.loc 3) (.str [107,110,111,119,110])) (.sub (.loc 1) (.int 2)) (.tup [.sub (.loc 1) (.int 3),.str [104,101,114,101],.sub (.loc 1) (.int 4),.sub (.loc 1) (.int 5)])] [],.expr (.bm .append (.sub (.loc 3) (.str [108,97,105,100])) [.tup [.str [116,97,107,101,110],.bin .sub (.int 1) (.sub (.loc 1) (.int 1)),.sub (.loc 1) (.int 2),.sub (.loc 1) (.int 3)]])] []]⟩
noncomputable def fl_written:Fn:=⟨2,["_law_own","_law_house","_law_posted_here","_law_rows"],[.unpack [.loc 2,.loc 3] (.call 111 [.sub (.sub (.loc 0) (.str [104,111,117,115,101,115])) (.loc 1)]),.expr (.bm .extend (.sub (.loc 0) (.str [112,111,115,116])) [.loc 2]),.expr (.bm .extend (.sub (.loc 0) (.str [108,101,100,103,101,114])) [.loc 3])]⟩
noncomputable def fl_home:Fn:=⟨2,["_law_own","_law_key","_law_house"],[.for_ (.inl (.loc 2)) true (.int 2) [.ite (.cmp (.sub (.sub (.sub (.sub (.sub (.loc 0) (.str [104,111,117,115,101,115])) (.loc 2)) (.str [107,110,111,119,110])) (.loc 1)) (.int 1)) .eq (.str [104,101,114,101])) [.ret (some (.loc 2))] []],.ret (some .none)]⟩
noncomputable def fl_owes:Fn:=⟨3,["_law_own","_law_house","_law_keys_here",""],[.ret (some (.comp (some 57) 3 false (.loc 2) (some (.cmp (.sub (.sub (.sub (.sub (.sub (.loc 0) (.str [104,111,117,115,101,115])) (.loc 1)) (.str [107,110,111,119,110])) (.loc 3)) (.int 1)) .eq (.str [111,119,101,100]))) (.loc 3)))]⟩
structure MirP(P:Prog):Prop where
 own:OwnP P
 bro:P.fns 120=some fl_brought
 wri:P.fns 121=some fl_written
 hom:P.fns 122=some fl_home
 owe:P.fns 123=some fl_owes
noncomputable abbrev kH:Xd Nat:=[104,111,117,115,101,115]
noncomputable abbrev kP:Xd Nat:=[112,111,115,116]
noncomputable abbrev kL:Xd Nat:=[108,101,100,103,101,114]
noncomputable abbrev kC:Xd Nat:=[99,97,108,108,101,114,115]
noncomputable abbrev kM:Xd Nat:=[109,97,100,101]
noncomputable abbrev kA:Xd Nat:=[97,115,107,101,100]
noncomputable abbrev kZ:Xd Nat:=[99,108,111,115,101,100]
noncomputable def mcs(nc:Nat):Xd V:=(Xr nc).map λ(i:Nat)=>.ref (52,i)
noncomputable def zcc(nc p:Nat):MObj:=.dict [(.str kH,.lst [.ref (51,0),.ref (51,1)]),(.str kP,.ref (50,p)),(.str kL,.ref (66,0)),(.str kC,.lst (mcs nc))]
noncomputable def xd(i:Nat)(c:CS):MObj:=.dict [(.str kM,.int c.begun),(.str kA,opV c.op),(.str kZ,.ref (67,i))]
noncomputable def MF(l:Lbl):Prop:=43<=l.1/\l.1<=46\/50<=l.1/\l.1<=53\/l.1=66\/l.1=67
noncomputable def OH(l:Lbl):Prop:=43<=l.1/\l.1<=46\/l.1=51
variable{i:Nat}{x:HIx}{l:Lbl}
theorem zpt(h:OF i x l):OH l:=by
 rcases h with rfl|rfl|rfl|rfl|rfl
 .exact .inr rfl
 .exact Za (p:=43<=43/\43<=46\/43=51) rfl
 .exact Za (p:=43<=44/\44<=46\/44=51) rfl
 .exact Za (p:=43<=45/\45<=46\/45=51) rfl
 .exact Za (p:=43<=46/\46<=46\/46=51) rfl
theorem zpb(h:OH l):MF l:=h.imp id λ(e:l.1=51)=>.inl ⟨by rw[e];decide,by rw[e];decide⟩
noncomputable def ApP(x y:HIx):Prop:=x.k≠y.k/\x.w≠y.w/\x.la≠y.la/\x.fr≠y.fr
theorem z3m{j:Nat}{y:HIx}(e:i≠j)(a:ApP x y):∀l,OF j y l->¬OF i x l:=by
 rintro l (rfl|rfl|rfl|rfl|rfl) (q|q|q|q|q)<;>first|exact absurd (Qd Prod.fst q) (Za rfl)|skip
 .exact e (Qd Prod.snd q).symm
 .exact a.1 (Qd Prod.snd q).symm
 .exact a.2.1 (Qd Prod.snd q).symm
 .exact a.2.2.1 (Qd Prod.snd q).symm
 .exact a.2.2.2 (Qd Prod.snd q).symm
structure OO(s:MS)(z:Bool->HIx)(h:Bool->HS):Prop where
 at_:∀b,OAt s (hx b) (z b) (h b)
 ap:∀b,ApP (z b) (z (!b))
section
variable {s s':MS}{z:Bool->HIx}{h:Bool->HS}{b:Bool}{x':HIx}{h':HS}{F:Lbl->Prop}
theorem OO.step(a:OO s z h)(f:Fr F s s')(g:∀l,OH l->¬F l):OO s' z h:=⟨λb=>(a.at_ b).step f λl q=>g l (zpt q),a.ap⟩
variable{x:HIx}
theorem ApP.sy{y:HIx}(a:ApP x y):ApP y x:=⟨a.1.symm,a.2.1.symm,a.2.2.1.symm,a.2.2.2.symm⟩
theorem OO.upd1(h1:OAt s' (hx b) x' h')(h2:OAt s' (hx (!b)) (z (!b)) (h (!b)))(ap:ApP x' (z (!b))):OO s' (upd z b x') (upd h b h'):=by
 have two:∀{P:Bool->HIx->HS->HIx->Prop},P b x' h' (z (!b))->P (!b) (z (!b)) (h (!b)) x'->∀k,P k (upd z b x' k) (upd h b h' k) (upd z b x' (!k)):=λh1 h2 k=>by
  cases b<;>cases k<;>assumption
 exact⟨two (P:=λk x h ξ=>OAt s' (hx k) x h) h1 h2,two (P:=λξ x ξ y=>ApP x y) ap ap.sy⟩
theorem OO.deed(a:OO s z h)(g:OAt s' (hx b) (z b) h')(f:Fr (OF (hx b) (z b)) s s'):OO s' z (upd h b h'):=by
 have:=OO.upd1 (z:=z) (h:=h) g ((a.at_ (!b)).step f (z3m (zb0 (zex b)).symm (a.ap b))) (a.ap b);rw[zic]at this;exact this
variable{i:Nat}
theorem zwj{j:Nat}(e:i≠j):∀l,OF j x l->¬At1 (51,i) l:=by
 rintro l (rfl|rfl|rfl|rfl|rfl) q<;>first|exact absurd (Qd Prod.fst q) (Za rfl)|skip
 exact e (Qd Prod.snd q).symm
theorem OO.anew(a:OO s z h)(g:OAt s' (hx b) x' h')(f:Fr (At1 (51,hx b)) s s')(ap:ApP x' (z (!b))):OO s' (upd z b x') (upd h b h') :=
 .upd1 g ((a.at_ (!b)).step f (zwj (zb0 (zex b)).symm)) ap
theorem zps{l:Lbl}(q:At1 (51,i) l):OH l:=.inr (Qd Prod.fst (show l=(51,i) from q))
end
structure MAt(s:MS)(W:WS)(z:Bool->HIx)(p:Nat):Prop where
 o:s.heap (53,0)=some (zcc W.nc p)
 oo:OO s z W.h
 co:∀i,i<W.nc->s.heap (52,i)=some (xd i (W.c i))
 cl:∀i,i<W.nc->s.heap (67,i)=some (.list ((W.c i).closed.map ue))
 po:s.heap (50,p)=some (.list (W.post.map zu))
 ro:s.heap (66,0)=some (.list (W.rows.map xl))
 j3:0<s.cnt 53
 j2:W.nc<=s.cnt 52
 j7:W.nc<=s.cnt 67
 j0:p<s.cnt 50
 j6:0<s.cnt 66
section
variable {s s' t:MS}{W:WS}{z z':Bool->HIx}{h':Bool->HS}{p:Nat}{F:Lbl->Prop}
theorem MAt.houses(a:MAt s W z p)(f:Fr F s s')(g:∀l,MF l->¬OH l->¬F l)(oo:OO s' z' h'):MAt s' {W with h:=h'} z' p where
 o:=(f.1 (53,0) a.j3 (g _ (Za (p:=43<=53/\53<=46\/50<=53/\53<=53\/53=66\/53=67) rfl) (Za (p:=¬(43<=53/\53<=46\/53=51)) rfl))).trans a.o
 oo:=oo
 co i hi:=(f.1 (52,i) (Zi hi a.j2) (g _ (Za (p:=43<=52/\52<=46\/50<=52/\52<=53\/52=66\/52=67) rfl) (Za (p:=¬(43<=52/\52<=46\/52=51)) rfl))).trans (a.co i hi)
 cl i hi:=(f.1 (67,i) (Zi hi a.j7) (g _ (Za (p:=43<=67/\67<=46\/50<=67/\67<=53\/67=66\/67=67) rfl) (Za (p:=¬(43<=67/\67<=46\/67=51)) rfl))).trans (a.cl i hi)
 po:=(f.1 (50,p) a.j0 (g _ (Za (p:=43<=50/\50<=46\/50<=50/\50<=53\/50=66\/50=67) rfl) (Za (p:=¬(43<=50/\50<=46\/50=51)) rfl))).trans a.po
 ro:=(f.1 (66,0) a.j6 (g _ (Za (p:=43<=66/\66<=46\/50<=66/\66<=53\/66=66\/66=67) rfl) (Za (p:=¬(43<=66/\66<=46\/66=51)) rfl))).trans a.ro
 j3:=Zi a.j3 (f.2 _)
 j2:=Zp a.j2 (f.2 _)
 j7:=Zp a.j7 (f.2 _)
 j0:=Zi a.j0 (f.2 _)
 j6:=Zi a.j6 (f.2 _)
theorem MAt.step(a:MAt s W z p)(f:Fr F s s')(g:∀l,MF l->¬F l):MAt s' W z p:=a.houses f (λl q ξ=>g l q) (a.oo.step f λl q=>g l (zpb q))
theorem MAt.nwp(a:MAt s W z p)(f:Fr NWp s s'):MAt s' W z p:=a.step f λl q=>by
 have h:43<=l.1:=by rcases q with q|q|q|q<;>lia
 exact Jf.2 (Zp (by decide) h)
theorem gc{s s':MS}(f:Fr MF s s'):Fr NW s s':=f.mono λl q=>by
 have h:43<=l.1:=by rcases q with q|q|q|q<;>lia
 exact Zp (by decide) h
theorem dq(a:OO s z h'){r:Lbl}(h:¬OH r)(o:MObj):OO (s.put r o) z h':=a.step (F:=λl=>l=r) ((Fr.refl (λl=>l=r) s).put (l:=r) rfl o) λl q e=>h (e▸q)
theorem MAt.setPost(a:MAt s W z p)(l:Xd Letter):MAt (s.put (50,p) (.list (l.map zu))) {W with post:=l} z p :=
 ⟨(zo (by rfl)).trans a.o,dq a.oo (r:=(50,p)) (Za (p:=¬(43<=50/\50<=46\/50=51)) rfl) _,λi hi=>(zo (by rfl)).trans (a.co i hi),λi hi=>(zo (by rfl)).trans (a.cl i hi),zh _ _ _,(zo (by rfl)).trans a.ro,a.j3,a.j2,a.j7,a.j0,a.j6⟩
theorem MAt.setRows(a:MAt s W z p)(l:Xd LRow):MAt (s.put (66,0) (.list (l.map xl))) {W with rows:=l} z p :=
 ⟨(zo (by rfl)).trans a.o,dq a.oo (r:=(66,0)) (Za (p:=¬(43<=66/\66<=46\/66=51)) rfl) _,λi hi=>(zo (by rfl)).trans (a.co i hi),λi hi=>(zo (by rfl)).trans (a.cl i hi),(zo (by rfl)).trans a.po,zh _ _ _,a.j3,a.j2,a.j7,a.j0,a.j6⟩
theorem MAt.setCaller(a:MAt s W z p)(i:Nat)(c:CS)(hc:c.closed=(W.c i).closed):MAt (s.put (52,i) (xd i c)) {W with c:=jw W.c i c} z p:=by
 refine⟨(zo (by rfl)).trans a.o,dq a.oo (r:=(52,i)) (Za (p:=¬(43<=52/\52<=46\/52=51)) rfl) _,λk hk=>?_,λk hk=>?_,(zo (by rfl)).trans a.po,(zo (by rfl)).trans a.ro,a.j3,a.j2,a.j7,a.j0,a.j6⟩
 .show(s.put (52,i) (xd i c)).heap (52,k)=some (xd k (if k=i then c else W.c k));by_cases e:k=i
  .subst e;rw[Zg rfl];exact zh _ _ _
  .rw[Zh e];exact(yd λq=>e (Qd Prod.snd q)).trans (a.co k hk)
 .show(s.put (52,i) (xd i c)).heap (67,k)=some (.list (List.map ue (if k=i then c else W.c k).closed));refine((zo (by rfl)).trans (a.cl k hk)).trans ?_;by_cases e:k=i
  .rw[Zg e,hc,e]
  .rw[Zh e]
theorem MAt.setClosed(a:MAt s W z p)(i:Nat)(l:Xd (Int×Int)):MAt (s.put (67,i) (.list (l.map ue))) {W with c:=jw W.c i {W.c i with closed:=l}} z p:=by
 refine⟨(zo (by rfl)).trans a.o,dq a.oo (r:=(67,i)) (Za (p:=¬(43<=67/\67<=46\/67=51)) rfl) _,λk hk=>?_,λk hk=>?_,(zo (by rfl)).trans a.po,(zo (by rfl)).trans a.ro,a.j3,a.j2,a.j7,a.j0,a.j6⟩
 .show(s.put (67,i) (.list (l.map ue))).heap (52,k)=some (xd k (if k=i then {W.c i with closed:=l} else W.c k));refine((zo (by rfl)).trans (a.co k hk)).trans ?_;by_cases e:k=i
  .rw[Zg e,e];rfl
  .rw[Zh e]
 .show(s.put (67,i) (.list (l.map ue))).heap (67,k)=some (.list (List.map ue (if k=i then {W.c i with closed:=l} else W.c k).closed));by_cases e:k=i
  .subst e;rw[Zg rfl];exact zh _ _ _
  .rw[Zh e];exact(yd λq=>e (Qd Prod.snd q)).trans (a.cl k hk)
end
section
variable {P:Prog} (M:MirP P) {C:Calls}{s:MS}{W:WS}{z:Bool->HIx}{p n:Nat}{l:Loc}{ks:Xd Key}{nc τ m:Nat}
variable{k:Nat}
theorem jk{key:Xd Nat}{v:V}{d:Xd (V×V)}{i:Lbl}(h:s.heap i=some (.dict d))(hl:ev P C (.loc k) l s=.ok (.ref i) s)(hf:js (.str key) d=some v):ev P C (.sub (.loc k) (.str key)) l s=.ok v s:=qk hl rfl (q8 _ _ _ _ _ h hf)
theorem zbs{e:E}{b:Bool}(a:MAt s W z p)(hl:ev P C (.loc k) l s=.ok (.ref (53,0)) s)(he:ev P C e l s=.ok (.int (hn b)) s):ev P C (.sub (.sub (.loc k) (.str kH)) e) l s=.ok (.ref (51,hx b)) s :=
 qk (x:=.lst [.ref (51,0),.ref (51,1)]) (jk a.o hl rfl) he (by cases b<;>rfl)
variable{i:Nat}
theorem zwd{nc:Nat}(hi:i<nc)(s:MS):getItem (.lst (mcs nc)) (.int i) s=.ok (.ref (52,i)) s:=by
 have h:i<(mcs nc).length:=by rw[mcs,Zd,Zx];exact hi
 refine(li (s:=s) (a:=.lst (mcs nc)) (k:=true) rfl i h).trans ?_;rw[show(mcs nc)[i]=V.ref (52,(Xr nc)[i]'(by rw[Zx];exact hi)) from Q9 ..,List.getElem_range]
theorem zn3{e:E}(a:MAt s W z p)(hl:ev P C (.loc k) l s=.ok (.ref (53,0)) s)(he:ev P C e l s=.ok (.int i) s)(hi:i<W.nc):ev P C (.sub (.sub (.loc k) (.str kC)) e) l s=.ok (.ref (52,i)) s :=
 qk (x:=.lst (mcs W.nc)) (jk a.o hl rfl) he (zwd hi s)
end
end Internal
end
section
namespace Internal
section
variable {P:Prog} (M:MirP P) {C:Calls}{s s':MS}{W:WS}{z:Bool->HIx}{p n:Nat}{l:Loc}{ks:Xd Key}{nc τ m:Nat}{b:Bool}{h':HS}
theorem MAt.deed(a:MAt s W z p)(g:OAt s' (hx b) (z b) h')(f:Fr (OF (hx b) (z b)) s s'):MAt s' {W with h:=upd W.h b h'} z p:=a.houses f (λl ξ nq q=>nq (zpt q)) (a.oo.deed g f)
noncomputable def MB(l:Lbl):Prop:=OH l\/l.1=52\/l.1=67
theorem zyo{l:Lbl}(h:MB l):MF l:=by
 rcases h with h|h|h
 .exact zpb h
 .exact .inr (.inl ⟨by rw[h];decide,by rw[h];decide⟩)
 .exact .inr (.inr (.inr h))
variable{i:Nat}
theorem zeu{x:HIx}(f:Fr (OF i x) s s'):Fr MB s s':=f.mono λξ q=>.inl (zpt q)
theorem zpa(f:Fr (At1 (51,i)) s s'):Fr MF s s':=f.mono λξ q=>zpb (zps q)
theorem zg2(q:Nat):MF (50,q):=Za (p:=43<=50/\50<=46\/50<=50/\50<=53\/50=66\/50=67) rfl
theorem zyp(q:Nat):MF (52,q):=Za (p:=43<=52/\52<=46\/50<=52/\52<=53\/52=66\/52=67) rfl
theorem z40:MF (66,0):=Za (p:=43<=66/\66<=46\/50<=66/\66<=53\/66=66\/66=67) rfl
include M
theorem bj(n:Nat)(a:MAt s W z p)(B:Bd ks nc τ m W)(b:Bool):OkR (run P (n+2) 121 [.ref (53,0),.int (hn b)] s) λv t=>v=.none/\(∃z',MAt t (wr b W) z' p)/\Fr MF s t:=by
 refine qo (z7 (zhj M.own n (a.oo.at_ b) (B.z b))) λv s1 e1 eq3 h1 f1=>?_;subst eq3;have oa:=a.oo.at_ b;have ob:=a.oo.at_ (!b);have a1:MAt s1 {W with h:=upd W.h b (W.h b).write} (upd z b ⟨(z b).k,s.cnt 44,s.cnt 45,s.cnt 46⟩) p:=a.houses f1 (λl ξ nq q=>nq (zps q)) (a.oo.anew h1 f1 ⟨(a.oo.ap b).1,Qm ob.iw,Qm ob.il,Qm ob.ir⟩);have la1:s1.heap (45,(z b).la)=some (.list ((W.h b).laid.map zu)):=(f1.1 (45,(z b).la) oa.il (yj (by decide))).trans oa.la;have fr1:s1.heap (46,(z b).fr)=some (.list ((W.h b).fresh.map xl)):=(f1.1 (46,(z b).fr) oa.ir (yj (by decide))).trans oa.fr;refine zn (B.len b) λl1 l2=>?_;refine zm M.wri rfl ?_;refine yg (l':=[some (.ref (53,0)),some (.int (hn b)),some (.ref (45,(z b).la)),some (.ref (46,(z b).fr))]) (qb (zg (zbs a rfl rfl) rfl) e1) rfl ?_;have a2:=a1.setPost (W.post++(W.h b).laid);rw[Qb]at a2;have f2:=(zpa f1).put (zg2 p) (.list (W.post.map zu++(W.h b).laid.map zu));have fr2:(s1.put (50,p) (.list (W.post.map zu++(W.h b).laid.map zu))).heap (46,(z b).fr)=some (.list ((W.h b).fresh.map xl)):=(zo (by rfl)).trans fr1;refine qj (v:=.none) (v6 (x:=.ref (50,p)) (vs:=[.ref (45,(z b).la)]) (s1:=s1) (s2:=s1) (jk a1.o rfl rfl) (qy a1.po) rfl (b4 s1 (50,p) _ a1.po (jh la1) (by rw[Zd,Zd];exact Qn (Qe l1 (by decide))))) ?_;generalize s1.put (50,p) (.list (W.post.map zu++(W.h b).laid.map zu))=s2 at a2 f2 fr2;have a3:=a2.setRows (W.rows++(W.h b).fresh);rw[Qb]at a3;exact qj (v:=.none) (v6 (x:=.ref (66,0)) (vs:=[.ref (46,(z b).fr)]) (s1:=s2) (s2:=s2) (jk a2.o rfl rfl) (qy a2.ro) rfl (b4 s2 (66,0) _ a2.ro (jh fr2) (by rw[Zd,Zd];exact Qn (Qe l2 (by decide))))) (zx ⟨rfl,⟨_,a3⟩,f2.put z40 _⟩)
omit M in
noncomputable abbrev zgy (L:V) (a b c d e f:Xc V):Loc:=[some (.ref (53,0)),some L,a,b,c,d,e,f]
set_option tactic.hygienic true in
theorem zqk(n:Nat)(a:MAt s W z p)(hi:i<W.nc)(num told:Int)(hz:(W.c i).closed.length<16777000):OkR (run P (n+1) 120 [.ref (53,0),zu (.answer i num told)] s) λv t=>v=.none/\MAt t {W with c:=jw W.c i ((W.c i).came num told)} z p/\Fr MB s t:=by
 refine zm M.bro rfl (zl (t:=true) (s':=s) rfl ?_);refine zk (v:=.ref (52,i)) (zn3 a (i:=i) rfl rfl hi) rfl ?_;have ea:ev P (run P n) (.sub (.loc 2) (.str kA)) (zgy (zu (.answer i num told)) (some (.ref (52,i))) none none none none none) s=.ok (opV (W.c i).op) s:=jk (a.co i hi) rfl rfl;have same:MAt s {W with c:=jw W.c i (W.c i)} z p:=by
  have e:jw W.c i (W.c i)=W.c:=by
   funext k;unfold jw;split
   .rename_i e;rw[e]
   .rfl
  rw[e];exact a
 cases hop:(W.c i).op with
 |none =>
  rw[hop]at ea;rw[show(W.c i).came num told=W.c i by unfold CS.came;rw[hop]];exact zl (t:=false) (s':=s) (ug (xt (g:=true) (t:=true) ea (Zb rfl))) (ze (wd ⟨rfl,same,.refl _ _⟩))
 |some q =>
  rw[hop]at ea;have e1:=xt (g:=true) (t:=false) ea (Zc nofun);have e2:ev P (run P n) (.cmp (.sub (.sub (.loc 2) (.str kA)) (.int 0)) .eq (.sub (.loc 1) (.int 2))) (zgy (zu (.answer i num told)) (some (.ref (52,i))) none none none none none) s=.ok (.bool (decide (q.1=num))) s:=jy (x:=.int q.1) (y:=.int num) (s1:=s) (s2:=s) (qk (x:=opV (some q)) (y:=.int 0) (s1:=s) (s2:=s) ea rfl rfl) rfl rfl;have ec:(W.c i).came num told=if q.1=num then ⟨(W.c i).begun,none,(W.c i).closed++[(num,told)]⟩ else W.c i:=by unfold CS.came;rw[hop]
  rw[ec];by_cases h:q.1=num
  .rw[Zb h]at e2;rw[Zg h];have a1:=a.setCaller i ⟨(W.c i).begun,none,(W.c i).closed⟩ rfl;have f1:Fr MB s _:=(Fr.refl MB s).put (l:=(52,i)) (.inr (.inl rfl)) (xd i ⟨(W.c i).begun,none,(W.c i).closed⟩);refine zl (t:=true) (s':=s) (ke e1 (vf e2)) (qg (v:=.none) (x:=.ref (52,i)) (y:=.str kA) (s1:=s) (s2:=s) (s3:=s) (s':=s.put (52,i) (xd i ⟨(W.c i).begun,none,(W.c i).closed⟩)) rfl rfl rfl (z5 _ _ _ kA _ (a.co i hi) (Za (p:=3<16777216) rfl)) ?_);generalize s.put (52,i) (xd i ⟨(W.c i).begun,none,(W.c i).closed⟩)=s1 at a1 f1;have a2:=a1.setClosed i ((W.c i).closed++[(num,told)]);rw[Qb]at a2;have ci:jw W.c i ⟨(W.c i).begun,none,(W.c i).closed⟩ i=⟨(W.c i).begun,none,(W.c i).closed⟩:=Zg rfl;have hcl:s1.heap (67,i)=some (.list ((W.c i).closed.map ue)):=by
    have:=a1.cl i hi;rw[show({W with c:=jw W.c i ⟨(W.c i).begun,none,(W.c i).closed⟩}:WS).c i=_ from ci]at this;exact this
   have hob:s1.heap (52,i)=some (xd i ⟨(W.c i).begun,none,(W.c i).closed⟩):=by
    have:=a1.co i hi;rw[show({W with c:=jw W.c i ⟨(W.c i).begun,none,(W.c i).closed⟩}:WS).c i=_ from ci]at this;exact this
   have e3:jw (jw W.c i ⟨(W.c i).begun,none,(W.c i).closed⟩) i {jw W.c i ⟨(W.c i).begun,none,(W.c i).closed⟩ i with closed:=(W.c i).closed++[(num,told)]}=jw W.c i ⟨(W.c i).begun,none,(W.c i).closed++[(num,told)]⟩:=by
    rw[ci];funext k;unfold jw;split<;>rfl
   refine qj (v:=.none) (v6 (x:=.ref (67,i)) (vs:=[ue (num,told)]) (s1:=s1) (s2:=s1) (jk hob rfl rfl) (qy hcl) rfl (je s1 (67,i) _ _ hcl (by rw[Zd];exact Qe hz (by decide)))) (ze (wd ⟨rfl,?_,f1.put (l:=(67,i)) (.inr (.inr rfl)) _⟩));rw[<- e3];exact a2
  .rw[Zc h]at e2;rw[Zh h];exact zl (t:=false) (s':=s) (ke e1 (vf e2)) (ze (wd ⟨rfl,same,.refl _ _⟩))
variable{key:Key}{r:Row}
theorem zls(n:Nat)(a:MAt s W z p)(b:Bool)(zz:HZ (W.h b)){c num:Int}{w:Internal.W}(hk:qv key (W.h b).known=some r)(hm:MOk r.marks)(h0:0<=c)(h6:c<6)(h1:1<=num):OkR (run P (n+3) 120 [.ref (53,0),zu (.call (hn b) c num key w)] s) λv t=>v=.none/\MAt t {W with h:=upd W.h b ((W.h b).came (.call (hn b) c num key w))} z p/\Fr MB s t:=by
 refine zm M.bro rfl (zl (t:=false) (s':=s) rfl (ze ?_));refine zk (v:=.ref (51,hx b)) (zbs a (b:=b) rfl rfl) rfl (zl (t:=true) (s':=s) rfl ?_);refine jr (w4 (vs:=[.ref (51,hx b),.int c,.int num,.str key,wv w]) rfl (ze8 M.own n (a.oo.at_ b) zz hk hm h0 h6 h1 w (hn b))) ?_;rintro v u ⟨rfl,h2,f⟩;exact wd ⟨rfl,a.deed h2 f,zeu f⟩
theorem zhl(n:Nat)(a:MAt s W z p)(b:Bool)(zz:HZ (W.h b)){T:Int}(hk:qv key (W.h b).known=some r):OkR (run P (n+1) 120 [.ref (53,0),zu (.taken (hn b) key T)] s) λv t=>v=.none/\MAt t {W with h:=upd W.h b ((W.h b).came (.taken (hn b) key T))} z p/\Fr MB s t:=by
 have oa:=a.oo.at_ b;have hd:=wa hk;refine zm M.bro rfl (zl (t:=false) (s':=s) rfl (ze ?_));refine zk (v:=.ref (51,hx b)) (zbs a (b:=b) rfl rfl) rfl (zl (t:=false) (s':=s) rfl (ze ?_));refine yg (l':=zgy (zu (.taken (hn b) key T)) none (some (.ref (51,hx b))) (some (.int r.turn)) (some (.str (stO r.st))) (some (.int r.amt)) (some (qz r.marks))) (s1:=s) (qk (x:=.ref (43,(z b).k)) (y:=.str key) (s1:=s) (s2:=s) (jk oa.o rfl rfl) rfl (q8 _ _ _ _ _ oa.k hd)) rfl ?_;rw[uy hk];have e2:ev P (run P n) (.cmp (.loc 5) .eq (.str [111,119,101,100])) (zgy (zu (.taken (hn b) key T)) none (some (.ref (51,hx b))) (some (.int r.turn)) (some (.str (stO r.st))) (some (.int r.amt)) (some (qz r.marks))) s=.ok (.bool (decide (r.st=.owes))) s:=Qd (λq=>Res.ok (V.bool q) s) (au r.st);have e3:ev P (run P n) (.cmp (.sub (.loc 1) (.int 3)) .eq (.bin .add (.loc 4) (.int 1))) (zgy (zu (.taken (hn b) key T)) none (some (.ref (51,hx b))) (some (.int r.turn)) (some (.str (stO r.st))) (some (.int r.amt)) (some (qz r.marks))) s=.ok (.bool (decide (T=r.turn+1))) s:=rfl;by_cases h:r.st=.owes/\T=r.turn+1
 .rw[Zb h.1]at e2;rw[Zb h.2]at e3;rw[Zg h];refine zl (t:=true) (s':=s) (ke rfl (ke e2 (vf e3))) (qg (v:=pq ⟨.gone,r.turn,0,[]⟩) (x:=.ref (43,(z b).k)) (y:=.str key) (s1:=s) (s2:=s) (s3:=s) rfl (jk oa.o rfl rfl) rfl (z5 _ _ _ _ _ oa.k (n9 zz.k)) (ze (zl (t:=false) rfl (ze (zx ?_)))));rw[ul];exact⟨rfl,a.deed (oa.known _) ((Fr.refl _ _).put (.inr (.inl rfl)) _),zeu (x:=z b) (i:=hx b) ((Fr.refl _ _).put (.inr (.inl rfl)) _)⟩
 .rw[Zh h,zic];refine zl (t:=false) (s':=s) ?_ (ze (zl (t:=false) rfl (ze (zx ⟨rfl,a,.refl _ _⟩))));refine ke rfl ?_;by_cases h1:r.st=.owes
  .rw[Zb h1]at e2;rw[Zc λq=>h ⟨h1,q⟩]at e3;exact ke e2 (vf e3)
  .rw[Zc h1]at e2;exact ug e2
theorem zfb(n:Nat)(a:MAt s W z p)(b:Bool)(zz:HZ (W.h b))(nu:(W.h b).num=hn b){T am:Int}{ms:Xd q9}(hk:qv key (W.h b).known=some r):OkR (run P (n+1) 120 [.ref (53,0),zu (.parcel (hn b) key T am ms)] s) λv t=>v=.none/\MAt t {W with h:=upd W.h b ((W.h b).came (.parcel (hn b) key T am ms))} z p/\Fr MB s t:=by
 have oa:=a.oo.at_ b;have hd:=wa hk;refine zm M.bro rfl (zl (t:=false) (s':=s) rfl (ze ?_));refine zk (v:=.ref (51,hx b)) (zbs a (b:=b) rfl rfl) rfl (zl (t:=false) (s':=s) rfl (ze ?_));refine yg (l':=zgy (zu (.parcel (hn b) key T am ms)) none (some (.ref (51,hx b))) (some (.int r.turn)) (some (.str (stO r.st))) (some (.int r.amt)) (some (qz r.marks))) (s1:=s) (qk (x:=.ref (43,(z b).k)) (y:=.str key) (s1:=s) (s2:=s) (jk oa.o rfl rfl) rfl (q8 _ _ _ _ _ oa.k hd)) rfl ?_;refine zl (t:=false) (s':=s) (ug rfl) (ze (zl (t:=true) (s':=s) rfl ?_));rw[w3 hk];have lay:∀{t:MS}{k:q6},OAt t (hx b) (z b) {W.h b with known:=k}->Fr (OF (hx b) (z b)) s t->OkR (exs P (run P n) n [.expr (.bm .append (.sub (.loc 3) (.str [108,97,105,100])) [.tup [.str [116,97,107,101,110],.bin .sub (.int 1) (.sub (.loc 1) (.int 1)),.sub (.loc 1) (.int 2),.sub (.loc 1) (.int 3)]])] (zgy (zu (.parcel (hn b) key T am ms)) none (some (.ref (51,hx b))) (some (.int r.turn)) (some (.str (stO r.st))) (some (.int r.amt)) (some (qz r.marks))) t) (i4 P (run P n) n [] λp' t=>flV p'.1=.none/\MAt t {W with h:=upd W.h b {W.h b with known:=k,laid:=(W.h b).laid++[.taken (1-(W.h b).num) key T]}} z p/\Fr MB s t):=λ{t k} o f=>by
  have f2:=f.put (l:=(45,(z b).la)) (.inr (.inr (.inr (.inl rfl)))) (.list ((W.h b).laid.map zu++[zu (.taken (1-(W.h b).num) key T)]));exact qj (v:=.none) (v6 (x:=.ref (45,(z b).la)) (vs:=[zu (.taken (1-(W.h b).num) key T)]) (s1:=t) (s2:=t) (jk o.o rfl rfl) (qy o.la) (by rw[nu];rfl) (je t (45,(z b).la) _ _ o.la (by rw[Zd];exact Qe zz.la (by decide)))) (ze (zx ⟨rfl,a.deed (o.laid1 _) f2,zeu f2⟩))
 by_cases h:r.turn<T
 .rw[Zg h];refine zl (t:=true) (s':=s) (Qd (λq=>Res.ok (V.bool q) s) (Zb h)) (qg (v:=pq ⟨.here,T,am,ms⟩) (x:=.ref (43,(z b).k)) (y:=.str key) (s1:=s) (s2:=s) (s3:=s) rfl (jk oa.o rfl rfl) rfl (z5 _ _ _ _ _ oa.k (n9 zz.k)) (ze ?_));rw[ul];exact lay (oa.known _) ((Fr.refl _ _).put (.inr (.inl rfl)) _)
 .rw[Zh h];exact zl (t:=false) (s':=s) (Qd (λq=>Res.ok (V.bool q) s) (Zc h)) (ze (lay (k:=(W.h b).known) oa (.refl _ _)))
theorem bh(n:Nat){L:Letter}{W1:WS}(A:MAt s W1 z p)(a:Bd ks nc τ m W)(eh:W1.h=W.h)(ec:W1.c=W.c)(en:W1.nc=W.nc)(hL:LetOk ks nc (bg W) L):
  OkR (run P (n+3) 120 [.ref (53,0),zu L] s) λv t=>v=.none/\MAt t (bring W1 L) z p/\Fr MB s t:=by
 cases L with
 |answer c num told =>
  refine zd hL λi hi eq2=>?_;subst eq2;rw[g7];exact zqk M (n+2) A (by rw[en,a.wi.nc_];exact hi) num told (ec▸Z7 (a.wi.co i hi).2.2 (Qe a.m (by decide)))
 |call hh c num k w =>
  refine xg hL λnq0 nq1 hk=>?_;obtain⟨b,rfl⟩:=nq0;obtain⟨i,hi,rfl,h1,-⟩:=nq1;refine zr ((a.wi.hi b).get hk) λr hr=>?_;rw[x5 (b:=b) (L:=.call (hn b) i num k w) rfl];exact zls M _ A b (eh▸a.z b) (eh▸hr) ((a.wi.hi b).mg hr).1 (Qi i) (Qx.2 (Zi hi a.h6)) h1
 |parcel hh k T am ms =>
  refine xg hL λnq0 hk ξ=>?_;obtain⟨b,rfl⟩:=nq0;refine zr ((a.wi.hi b).get hk) λr hr=>?_;rw[x5 (b:=b) (L:=.parcel (hn b) k T am ms) rfl];exact zfb M (n+2) A b (eh▸a.z b) (eh▸(a.wi.hi b).nu) (eh▸hr)
 |taken hh k T =>
  refine zn hL λnq0 hk=>?_;obtain⟨b,rfl⟩:=nq0;refine zr ((a.wi.hi b).get hk) λr hr=>?_;rw[x5 (b:=b) (L:=.taken (hn b) k T) rfl];exact zhl M (n+2) A b (eh▸a.z b) (eh▸hr)
end
end Internal
end
section
namespace Internal
noncomputable def fl_rounds:Fn:=⟨2,["_law_own","_law_keys_here","_law_rounds_here","_law_asking","_law_owed","_law_house","_law_caller","_law_asked","_law_letters","_law_letter","",""],[.assign 2 (.int 0),.assign 3 (.comp none 10 false (.sub (.loc 0) (.str [99,97,108,108,101,114,115])) (some (.isC true (.sub (.loc 10) (.str [97,115,107,101,100])) .none)) (.loc 10)),.assign 4 (.bin .add (.call 123 [.loc 0,.int 0,.loc 1]) (.call 123 [.loc 0,.int 1,.loc 1])),.while_ (.and [.cmp (.loc 2) .lt (.int 5),.or [.cmp (.loc 3) .ne (.lst []),.cmp (.loc 4) .ne (.lst [])]]) [.assign 2 (.bin .add (.loc 2) (.int 1)),.expr (.call 121 [.loc 0,.int 0]),.expr (.call 121 [.loc 0,.int 1]),.for_ (.inl (.loc 5)) false (.sub (.loc 0) (.str [104,111,117,115,101,115])) [.expr (.bm .extend (.sub (.loc 0) (.str [112,111,115,116])) [.call 113 [.loc 5,.loc 1]])],.for_ (.inl (.loc 6)) true (.prim .len [.sub (.loc 0) (.str [99,97,108,108,101,114,115])]) [.assign 7 (.sub (.sub (.sub (.loc 0) (.str [99,97,108,108,101,114,115])) (.loc 6)) (.str [97,115,107,101,100])),.ite (.isC true (.loc 7) .none) [.expr (.bm .extend (.sub (.loc 0) (.str [112,111,115,116])) [.lst [.bin .add (.tup [.str [99,97,108,108],.int 0,.loc 6]) (.loc 7),.bin .add (.tup [.str [99,97,108,108],.int 1,.loc 6]) (.loc 7)]])] []],.assign 8 (.sub (.loc 0) (.str [112,111,115,116])),.setitem (.loc 0) (.str [112,111,115,116]) (.lstM 50 []),.for_ (.inl (.loc 9)) false (.loc 8) [.expr (.call 120 [.loc 0,.loc 9])],.assign 3 (.comp none 11 false (.sub (.loc 0) (.str [99,97,108,108,101,114,115])) (some (.isC true (.sub (.loc 11) (.str [97,115,107,101,100])) .none)) (.loc 11)),.assign 4 (.bin .add (.call 123 [.loc 0,.int 0,.loc 1]) (.call 123 [.loc 0,.int 1,.loc 1]))],.ret (some (.loc 2))]⟩
section
variable {P:Prog} (M:MirP P) {C:Calls}{s s' t:MS}{W:WS}{z:Bool->HIx}{p n:Nat}{l:Loc}{ks:Xd Key}{nc τ m:Nat}{b:Bool}{key:Key}
theorem n5{h:HS}{r:Row}(hr:qv key h.known=some r):h.has key=decide (r.st=.here):=by rw[HS.has,hr]
include M
theorem za9(n:Nat)(a:MAt s W z p)(w:WI ks nc τ m W)(hk:key∈ks):run P (n+1) 122 [.ref (53,0),.str key] s=.ok (jp W key) s:=by
 have eh:∀b,ev P (run P n) (.cmp (.sub (.sub (.sub (.sub (.sub (.loc 0) (.str kH)) (.loc 2)) (.str [107,110,111,119,110])) (.loc 1)) (.int 1)) .eq (.str [104,101,114,101])) [some (.ref (53,0)),some (.str key),some (.int (hn b))] s=.ok (.bool ((W.h b).has key)) s:=λb=>by
  obtain⟨r,hr⟩:=(w.hi b).get hk;have oa:=a.oo.at_ b;rw[n5 hr,<- ar];exact jy (x:=.str (stO r.st)) (s1:=s) (s2:=s) (qk (x:=pq r) (y:=.int 1) (s1:=s) (s2:=s) (qk (x:=.ref (43,(z b).k)) (y:=.str key) (s1:=s) (s2:=s) (qk (x:=.ref (51,hx b)) (s1:=s) (s2:=s) (zbs a (b:=b) rfl rfl) rfl (q8 _ _ _ _ _ oa.o rfl)) rfl (q8 _ _ _ _ _ oa.k (wa hr))) rfl rfl) rfl rfl
 refine qc (zm M.hom rfl (ka (v:=.int 2) (s':=s) (xs:=[false,true].map λb=>.int (hn b)) rfl rfl rfl (xe (λb=>V.int (hn b)) (λy=>[some (.ref (53,0)),some (.str key),y]) (λl ξ t=>t=s/\(l=[false,true]\/(l=[true]/\(W.h false).has key=false)\/(l=[]/\(W.h false).has key=false/\(W.h true).has key=false))) (λb l y t h=>⟨rfl,?_⟩) (λy t h=>⟨rfl,?_⟩) _ _ _ ⟨rfl,.inl rfl⟩)))
 .obtain⟨rfl,h⟩:=h;show OkR (exs P (run P n) n _ [some (.ref (53,0)),some (.str key),some (.int (hn b))] t) _;have e:=eh b;cases hb:(W.h b).has key with
  |true =>
   rw[hb]at e;refine zl (t:=true) e (zv (v:=.int (hn b)) (s':=t) rfl ⟨?_,rfl⟩);rcases h with h|⟨h,h0⟩|⟨h,-⟩
   .cases h;rw[jp,Zg hb,(w.hi false).nu];rfl
   .cases h;rw[jp,h0,hb];show V.int (hn true)=V.int (W.h true).num;rw[(w.hi true).nu]
   .cases h
  |false =>
   rw[hb]at e;refine zl (t:=false) e (ze (zx ⟨_,rfl,rfl,?_⟩));rcases h with h|⟨h,h0⟩|⟨h,-⟩
   .cases h;exact .inr (.inl ⟨rfl,hb⟩)
   .cases h;exact .inr (.inr ⟨rfl,h0,hb⟩)
   .cases h
 .obtain⟨rfl,h⟩:=h;rw[j9];refine zv (v:=.none) (s':=t) rfl ⟨?_,rfl⟩;rcases h with h|⟨h,-⟩|⟨-,h0,h1⟩
  .cases h
  .cases h
  .rw[jp,h0,h1];rfl
theorem dv(n:Nat)(a:MAt s W z p)(B:Bd ks nc τ m W)(b:Bool):run P (n+1) 123 [.ref (53,0),.int (hn b),.lst (ks.map .str)] s=.ok (.ref (57,s.cnt 57)) (s.new 57 (.list ((W.h b).owes.map .str))):=by
 have hks:=(B.wi.hi b).hk;have oa:=a.oo.at_ b;have hl:(0:Nat)+(ks.map V.str).length<=zi:=by rw[Zd,Jo];exact Zp B.K.six (by decide)
 have hin:∀v∈ks.map V.str,∃key r,v=.str key/\qv key (W.h b).known=some r:=λv hv=>by
  refine zd (Z1.1 hv) λkey hk eq2=>?_;subst eq2;refine zr ((B.wi.hi b).get hk) λr hr=>?_;exact⟨key,r,rfl,hr⟩
 have ec:(compLoop s false (.lst (ks.map .str)) 3 (evC P (run P n) (some (.cmp (.sub (.sub (.sub (.sub (.sub (.loc 0) (.str kH)) (.loc 1)) (.str [107,110,111,119,110])) (.loc 3)) (.int 1)) .eq (.str [111,119,101,100])))) (ev P (run P n) (.loc 3)) [some (.ref (53,0)),some (.int (hn b)),some (.lst (ks.map .str)),none] [] (ks.map .str) s)=.ok ((W.h b).owes.map .str) s:=by
  refine(yy s s false (.lst (ks.map .str)) 3 _ _ _ (za7 (W.h b).known .owes) id (wy _ _ _) (ks.map .str) [] (λv hv=>?_) (λv hv ξ=>rfl) hl).trans ?_
  .refine zf (hin v hv) λkey r eq2 hr=>?_;subst eq2;show ev P _ _ [some (.ref (53,0)),some (.int (hn b)),some (.lst (ks.map .str)),some (.str key)] s=.ok (.bool (match qv key (W.h b).known with|some r=>decide (r.st=.owes)|none=>false)) s;rw[hr];show _=Res.ok (V.bool (decide (r.st=.owes))) s;rw[<- au];exact jy (x:=.str (stO r.st)) (s1:=s) (s2:=s) (qk (x:=pq r) (y:=.int 1) (s1:=s) (s2:=s) (qk (x:=.ref (43,(z b).k)) (y:=.str key) (s1:=s) (s2:=s) (qk (x:=.ref (51,hx b)) (s1:=s) (s2:=s) (zbs a (b:=b) rfl rfl) rfl (q8 _ _ _ _ _ oa.o rfl)) rfl (q8 _ _ _ _ _ oa.k (wa hr))) rfl rfl) rfl rfl
  .rw[Q1,Jv,d5 (B.nd b) hks,HS.owes,Qg];rfl
 exact qc (zm M.owe rfl (zv (ziw (src:=.lst (ks.map .str)) (xs:=ks.map .str) (s1:=s) (s2:=s) rfl rfl ec) ⟨rfl,rfl⟩))
omit M
noncomputable abbrev y4 (ks:Xd Key) (a2 a3 a4 a5 a6 a7 a8 a9:Xc V):Loc:=[some (.ref (53,0)),some (.lst (ks.map .str)),a2,a3,a4,a5,a6,a7,a8,a9,none,none]
noncomputable def zu1(W:WS)(v:V):Bool:=match v with
 |.ref (52,i)=>(W.c i).op.isSome
 |_=>false
noncomputable def zbl(W:WS):Xd V:=(mcs W.nc).filter (zu1 W)
theorem znb(W:WS):zbl W=[]↔∀i,i<W.nc->(W.c i).op=none:=by
 rw[zbl,List.filter_eq_nil_iff];refine⟨λh i hi=>?_,λh v hv q=>?_⟩
 .have:=h (.ref (52,i)) (Z1.2 ⟨i,Qj.2 hi,rfl⟩);cases e:(W.c i).op with
  |none=>rfl
  |some q=>exact absurd (show(W.c i).op.isSome=true by rw[e];rfl) this
 .refine zd (Z1.1 hv) λi hi eq2=>?_;subst eq2;have q:(W.c i).op.isSome=true:=q;rw[h i (Qj.1 hi)]at q;cases q
theorem oe(nc:Nat):(mcs nc).length=nc:=by rw[mcs,Zd,Zx]
theorem zd2{k:Nat}(a:MAt s W z p)(hn:W.nc<=6)(h0:ev P C (.loc 0) l s=.ok (.ref (53,0)) s)(hk:∀x,ev P C (.loc k) (l.set k (some x)) s=.ok x s):ev P C (.comp none k false (.sub (.loc 0) (.str kC)) (some (.isC true (.sub (.loc k) (.str kA)) .none)) (.loc k)) l s=.ok (.lst (zbl W)) s:=by
 refine u3 (src:=.lst (mcs W.nc)) (xs:=mcs W.nc) (s1:=s) (jk a.o h0 rfl) rfl ((yy s s false (.lst (mcs W.nc)) k _ _ l (zu1 W) id (wy _ _ _) (mcs W.nc) [] (λv hv=>?_) (λv hv ξ=>hk v) (by rw[oe];exact Zp (Zp (Qf (Jo _)) hn) (by decide))).trans (by rw[Q1];rfl));refine zd (Z1.1 hv) λi hi eq2=>?_;subst eq2;have hi:=Qj.1 hi;have e:ev P C (.sub (.loc k) (.str kA)) (l.set k (some (.ref (52,i)))) s=.ok (opV (W.c i).op) s:=jk (a.co i hi) (hk _) rfl;show ev P C (.isC true (.sub (.loc k) (.str kA)) .none) _ s=.ok (.bool (W.c i).op.isSome) s;cases ho:(W.c i).op with
 |none=>rw[ho]at e;exact xt (g:=true) (t:=true) e (Zb rfl)
 |some q=>rw[ho]at e;exact xt (g:=true) (t:=false) e (Zc nofun)
theorem zit(l:Xd V)(s:MS):cmpOp .ne (.lst l) (.lst []) s=.ok (.bool (!l.isEmpty)) s:=by cases l<;>rfl
noncomputable def rx(W:WS):Xd V:=(W.h false).owes.map .str++(W.h true).owes.map .str
theorem MAt.nil(a:MAt s W z p)(f:Fr Nil s t):MAt t W z p:=a.step f λξ ξ q=>q
theorem rz(B:Bd ks nc τ m W)(b:Bool):((W.h b).owes.map V.str).length<=6:=by
 rw[Zd,HS.owes,Zd];refine Zp (List.length_filter_le ..) ?_;have h1:=Qd List.length (B.wi.hi b).hk;rw[Zd]at h1;rw[h1];exact B.K.six
include M in
theorem zn6(n:Nat)(a:MAt s W z p)(B:Bd ks nc τ m W)(h0:∀t,ev P (run P (n+1)) (.loc 0) l t=.ok (.ref (53,0)) t)(h1:∀t,ev P (run P (n+1)) (.loc 1) l t=.ok (.lst (ks.map .str)) t):∃t,ev P (run P (n+1)) (.bin .add (.call 123 [.loc 0,.int 0,.loc 1]) (.call 123 [.loc 0,.int 1,.loc 1])) l s=.ok (.lst (rx W)) t/\Fr Nil s t:=by
 have e0:=dv M n a B false;have f0:Fr Nil s (s.new 57 (.list ((W.h false).owes.map .str))):=(Fr.refl _ _).new _ _;have q0:(s.new 57 (.list ((W.h false).owes.map .str))).heap (57,s.cnt 57)=some (.list ((W.h false).owes.map .str)):=zt _ _ _;have c0:s.cnt 57<(s.new 57 (.list ((W.h false).owes.map .str))).cnt 57:=Zy (s.cnt 57);generalize s.new 57 (.list ((W.h false).owes.map .str))=u at e0 f0 q0 c0;have e1:=dv M n (a.nil f0) B true;have f1:Fr Nil u (u.new 57 (.list ((W.h true).owes.map .str))):=(Fr.refl _ _).new _ _;have q1:(u.new 57 (.list ((W.h true).owes.map .str))).heap (57,u.cnt 57)=some (.list ((W.h true).owes.map .str)):=zt _ _ _;have q2:=(f1.1 (57,s.cnt 57) c0 λq=>q).trans q0;generalize u.new 57 (.list ((W.h true).owes.map .str))=t at e1 f1 q1 q2;refine⟨t,kb (x:=.ref (57,s.cnt 57)) (y:=.ref (57,u.cnt 57)) (s1:=u) (s2:=t) (qb (zg (h0 s) (zg (v:=.int (hn false)) rfl (zg (h1 s) rfl))) e0) (qb (zg (h0 u) (zg (v:=.int (hn true)) rfl (zg (h1 u) rfl))) e1) ?_,f0.trans f1⟩;show zcs (.ref (57,s.cnt 57)) (.ref (57,u.cnt 57)) t=_;rw[zcs,jh q2,jh q1];exact Zg ⟨rfl,Zp (Nat.add_le_add (rz B false) (rz B true)) (by decide)⟩
theorem zvt{r:Nat}(hr:r<=2){l:Loc}(h2:ev P C (.loc 2) l s=.ok (.int r) s)(h3:ev P C (.loc 3) l s=.ok (.lst (zbl W)) s)(h4:ev P C (.loc 4) l s=.ok (.lst (rx W)) s):∃c:Bool,ev P C (.and [.cmp (.loc 2) .lt (.int 5),.or [.cmp (.loc 3) .ne (.lst []),.cmp (.loc 4) .ne (.lst [])]]) l s=.ok (.bool c) s/\(c=false↔pp W):=by
 refine⟨!(zbl W).isEmpty||!(rx W).isEmpty,ke (jy (x:=.int r) (y:=.int 5) (s1:=s) (s2:=s) h2 rfl (Qd (λq=>Res.ok (V.bool q) s) (Zb (Qx.2 (Z7 hr (by decide)))))) (vf (zn5 (jy (y:=.lst []) (s1:=s) (s2:=s) h3 rfl (zit _ s)) λξ=>jy (y:=.lst []) (s1:=s) (s2:=s) h4 rfl (zit _ s))),?_⟩;rw[Bool.or_eq_false_iff,Bool.not_eq_false',Bool.not_eq_false',List.isEmpty_iff,List.isEmpty_iff,znb,rx,List.append_eq_nil_iff,List.map_eq_nil_iff,List.map_eq_nil_iff];exact⟨λh=>⟨h.1,λb=>by cases b;exact h.2.1;exact h.2.2⟩,λh=>⟨h.1,h.2 false,h.2 true⟩⟩
end
end Internal
end
section
namespace Internal
section
variable {P:Prog} (M:MirP P) {s s' t u:MS}{W:WS}{z:Bool->HIx}{p n:Nat}{ks:Xd Key}{nc τ m:Nat}{b:Bool}{Q:Fl×Loc->MS->Prop}{r:Xd S}{a2 a3 a4 a5 a6 a7 a8 a9:Xc V}
noncomputable abbrev dj:Xd S:=[.expr (.bm .extend (.sub (.loc 0) (.str kP)) [.call 113 [.loc 5,.loc 1]])]
include M in
theorem zav(n:Nat)(A:MAt s W z p)(B:Bd ks nc τ m W)(b:Bool):OkR (exs P (run P (n+3)) (n+3) dj (y4 ks a2 a3 a4 (some (.ref (51,hx b))) a6 a7 a8 a9) s) λq t=>q=(.next,y4 ks a2 a3 a4 (some (.ref (51,hx b))) a6 a7 a8 a9)/\MAt t (nd b W) z p/\Fr MF s t:=by
 have e:=cj M.own (n+1) (A.oo.at_ b) (B.z b) (by rw[(B.wi.hi b).hw];exact B.K.nd) (B.wi.hi b).hw;have a1:=A.setPost (W.post++(W.h b).nudge);rw[Qb]at a1;exact qj (v:=.none) (v6 (x:=.ref (50,p)) (vs:=[.lst ((W.h b).nudge.map zu)]) (s1:=s) (s2:=s) (jk A.o rfl rfl) (qy A.po) (zg (qb (vs:=[.ref (51,hx b),.lst (ks.map .str)]) rfl e) rfl) (b4 s (50,p) _ A.po rfl (by rw[Zd,Zd];exact Zp (Nat.add_le_add (Qn B.room) (Zp (B.wi.hi b).nudge.2 B.K.six)) (by decide)))) (zx ⟨rfl,a1,(Fr.refl _ _).put (zg2 p) _⟩)
include M in
theorem zph(n:Nat)(A:MAt s W z p)(B:Bd ks nc τ m W)(ht:τ+6<8000000)(k:∀y t,MAt t (nd true (nd false W)) z p->Fr MF s t->OkR (exs P (run P (n+3)) (n+3) r (y4 ks a2 a3 a4 y a6 a7 a8 a9) t) Q):
  OkR (exs P (run P (n+3)) (n+3) (.for_ (.inl (.loc 5)) false (.sub (.loc 0) (.str kH)) dj::r) (y4 ks a2 a3 a4 a5 a6 a7 a8 a9) s) Q:=by
 refine ka (v:=.lst [.ref (51,0),.ref (51,1)]) (s':=s) (xs:=[false,true].map λb=>.ref (51,hx b)) (jk A.o rfl rfl) rfl rfl (xe (λb=>V.ref (51,hx b)) (λy=>y4 ks a2 a3 a4 y a6 a7 a8 a9) (λl ξ t=>(l=[false,true]/\t=s)\/(l=[true]/\MAt t (nd false W) z p/\Fr MF s t)\/(l=[]/\MAt t (nd true (nd false W)) z p/\Fr MF s t)) (λb l y t h=>⟨rfl,?_⟩) (λy t h=>⟨rfl,?_⟩) _ _ _ (.inl ⟨rfl,rfl⟩))
 .rcases h with ⟨e,rfl⟩|⟨e,A1,f1⟩|⟨e,-⟩
  .cases e;show OkR (exs P (run P (n+3)) (n+3) dj (y4 ks a2 a3 a4 (some (.ref (51,hx false))) a6 a7 a8 a9) t) _;refine jq (zav M n A B false) λq t' h=>?_;rw[h.1];exact⟨_,rfl,.inr (.inl ⟨rfl,h.2⟩)⟩
  .cases e;show OkR (exs P (run P (n+3)) (n+3) dj (y4 ks a2 a3 a4 (some (.ref (51,hx true))) a6 a7 a8 a9) t) _;refine jq (zav M n A1 (B.to (B.wi.nudge false B.K.nd B.K.six) ht B.m) true) λq t' h=>?_;rw[h.1];exact⟨_,rfl,.inr (.inr ⟨rfl,h.2.1,f1.trans h.2.2⟩)⟩
  .cases e
 .rcases h with ⟨e,-⟩|⟨e,-⟩|⟨-,A1,f1⟩
  .cases e
  .cases e
  .exact k y t A1 f1
noncomputable abbrev zio:Xd S:=[.assign 7 (.sub (.sub (.sub (.loc 0) (.str kC)) (.loc 6)) (.str kA)),.ite (.isC true (.loc 7) .none) [.expr (.bm .extend (.sub (.loc 0) (.str kP)) [.lst [.bin .add (.tup [.str [99,97,108,108],.int 0,.loc 6]) (.loc 7),.bin .add (.tup [.str [99,97,108,108],.int 1,.loc 6]) (.loc 7)]])] []]
theorem zs9{C:Calls}{i:Nat}(A:MAt s W z p)(hi:i<W.nc)(hl:W.post.length<16000000)(k:∀y t,MAt t {W with post:=W.post++uj i (W.c i).op} z p->Fr MF s t->Q (.next,y4 ks a2 a3 a4 a5 (some (.int i)) y a8 a9) t):OkR (exs P C n zio (y4 ks a2 a3 a4 a5 (some (.int i)) a7 a8 a9) s) Q:=by
 have e:ev P C (.sub (.sub (.sub (.loc 0) (.str kC)) (.loc 6)) (.str kA)) (y4 ks a2 a3 a4 a5 (some (.int i)) a7 a8 a9) s=.ok (opV (W.c i).op) s:=qk (x:=.ref (52,i)) (s1:=s) (s2:=s) (zn3 A rfl rfl hi) rfl (q8 _ _ _ _ _ (A.co i hi) rfl);refine zk e rfl ?_;show OkR (exs P C n _ (y4 ks a2 a3 a4 a5 (some (.int i)) (some (opV (W.c i).op)) a8 a9) s) Q;cases hop:(W.c i).op with
 |none =>
  rw[hop]at k;refine zl (t:=false) (s':=s) (xt (g:=true) (t:=true) (v:=.none) rfl (Zb rfl)) (ze (zx (k _ s ?_ (.refl _ _))));rw[show W.post++uj i none=W.post from Z0 _];exact A
 |some q =>
  rw[hop]at k;have a1:=A.setPost (W.post++uj i (some q));rw[Qb]at a1;exact zl (t:=true) (s':=s) (xt (g:=true) (t:=false) (v:=opV (some q)) rfl (Zc nofun)) (qj (v:=.none) (v6 (x:=.ref (50,p)) (vs:=[.lst ((uj i (some q)).map zu)]) (s1:=s) (s2:=s) (jk A.o rfl rfl) (qy A.po) rfl (b4 s (50,p) _ A.po rfl (by rw[Zd];exact Qn (Zi (Nat.add_lt_add_right hl 2) (by decide))))) (ze (zx (k _ _ a1 ((Fr.refl _ _).put (zg2 p) _)))))
noncomputable def zw9(W:WS)(z:Bool->HIx)(p:Nat)(s:MS)(r:Xd Nat)(t:MS):Prop:=∃i j,i+j=W.nc/\r=List.range' i j/\MAt t {W with post:=W.post++jm W.c i} z p/\Fr MF s t
theorem zpf(n:Nat)(A:MAt s W z p)(hz:W.post.length<=8000000)(h6:W.nc<=6)(k:∀y6 y7 t,MAt t {W with post:=W.post++jm W.c W.nc} z p->Fr MF s t->OkR (exs P (run P n) n r (y4 ks a2 a3 a4 a5 y6 y7 a8 a9) t) Q):
  OkR (exs P (run P n) n (.for_ (.inl (.loc 6)) true (.prim .len [.sub (.loc 0) (.str kC)]) zio::r) (y4 ks a2 a3 a4 a5 a6 a7 a8 a9) s) Q:=by
 refine ka (v:=.int W.nc) (s':=s) (xs:=(Xr W.nc).map λ(i:Nat)=>V.int i) (j5 (zg (jk A.o rfl rfl) rfl) (Qd (λ(q:Nat)=>Res.ok (V.int q) s) (oe W.nc))) ((jt s _ (Qi _) (Qw.2 (Zp h6 (by decide)))).trans (by rw[Qy])) rfl (xe (λ(i:Nat)=>V.int i) (λ(y:Xc V×Xc V)=>y4 ks a2 a3 a4 a5 y.1 y.2 a8 a9) (λr ξ t=>zw9 W z p s r t) (λv r y t q=>⟨rfl,?_⟩) (λy t q=>⟨rfl,?_⟩) (Xr W.nc) (a6,a7) s ⟨0,W.nc,Jo _,Q6,by rw[show W.post++jm W.c 0=W.post from Z0 _];exact A,.refl _ _⟩)
 .refine qo q λi j hij hrem At f=>?_;cases j with
  |zero=>cases hrem
  |succ j =>
  refine zn (Jd (hrem:v::r=i::List.range' (i+1) j)) λeq0 eq1=>?_;subst eq0;subst eq1;refine zs9 (W:={W with post:=W.post++jm W.c v}) (i:=v) At (Zi (J7 (Q5 j)) (Qf hij)) (ef hz h6 hij) λy7 t2 A2 f2=>⟨(some (.int v),y7),rfl,v+1,j,(Qk v j).trans hij,rfl,?_,f.trans f2⟩;rw[show W.post++jm W.c (v+1)=W.post++jm W.c v++uj v (W.c v).op from (Z3 ..).symm];exact A2
 .refine qo q λi j hij hrem At f=>?_;cases j with
  |succ j=>cases hrem
  |zero =>
   cases (show i=W.nc from hij);exact k y.1 y.2 t At f
theorem MAt.newPost(a:MAt s W z p):MAt ((s.new 50 (.list [])).put (53,0) (zcc W.nc (s.cnt 50))) {W with post:=[]} z (s.cnt 50):=by
 have f:Fr Nil s (s.new 50 (.list [])):=(Fr.refl _ _).new _ _;have a1:=a.nil f;have c:s.cnt 50<(s.new 50 (.list [])).cnt 50:=Zy (s.cnt 50);have q:(s.new 50 (.list [])).heap (50,s.cnt 50)=some (.list []):=zt _ _ _;generalize s.new 50 (.list [])=u at a1 c q;exact⟨zh _ _ _,dq a1.oo (r:=(53,0)) (Za (p:=¬(43<=53/\53<=46\/53=51)) rfl) _,λi hi=>(zo (by rfl)).trans (a1.co i hi),λi hi=>(zo (by rfl)).trans (a1.cl i hi),(zo (by rfl)).trans q,(zo (by rfl)).trans a1.ro,a1.j3,a1.j2,a1.j7,c,a1.j6⟩
theorem aw{s₀:MS}{r:Lbl}{l:Xd V}(h0:s₀.heap r=some (.list l))(h:s.heap r=some (.list l)):stays s₀ s false (.ref r)=true:=by
 show(decide (s₀.heap r=s.heap r)&&((dictAt (.ref r) s₀).isNone||_))=true;rw[Zb (h0.trans h.symm),zbp h0];rfl
noncomputable def zxc(W:WS)(z:Bool->HIx)(q p:Nat)(s:MS)(l r:Xd Letter)(t:MS):Prop:=∃l1,l=l1++r/\MAt t {z6 W l1 with post:=[]} z q/\Fr MB s t
include M in
theorem zpg(n:Nat){l:Xd Letter}{q:Nat}(A:MAt s {W with post:=[]} z q)(a:Bd ks nc τ m {W with post:=l})(hm:m+l.length<8000000)(hp:s.heap (50,p)=some (.list (l.map zu)))(ip:p<s.cnt 50)(k:∀y t,MAt t {z6 W l with post:=[]} z q->Fr MB s t->OkR (exs P (run P (n+3)) (n+3) r (y4 ks a2 a3 a4 a5 a6 a7 (some (.ref (50,p))) y) t) Q):
  OkR (exs P (run P (n+3)) (n+3) (.for_ (.inl (.loc 9)) false (.loc 8) [.expr (.call 120 [.loc 0,.loc 9])]::r) (y4 ks a2 a3 a4 a5 a6 a7 (some (.ref (50,p))) a9) s) Q:=by
 have st:∀{t:MS},Fr MB s t->t.heap (50,p)=some (.list (l.map zu)):=λf=>(f.1 (50,p) ip (Za (p:=¬((43<=50/\50<=46\/50=51)\/50=52\/50=67)) rfl)).trans hp;refine ka (v:=.ref (50,p)) (s':=s) (xs:=l.map zu) rfl (sm hp) rfl (xe zu (λy=>y4 ks a2 a3 a4 a5 a6 a7 (some (.ref (50,p))) y) (λr ξ t=>zxc W z q p s l r t) (λL r y t h=>⟨?_,?_⟩) (λy t h=>⟨?_,?_⟩) l a9 s ⟨[],rfl,A,.refl _ _⟩)
 .refine jj h λl1 e A1 f=>?_;exact aw hp (st f)
 .refine jj h λl1 e A1 f=>?_;have a1:=a.to (WI.brings a.h6 (L::r) l1 W m (by rw[<- e];exact a.wi)).1 a.t (zai e hm);refine jr (w4 (vs:=[.ref (53,0),zu L]) rfl (bh M n A1 a1 rfl rfl rfl (a1.wi.po L (Zm ..)))) λξ u h=>zx ⟨_,rfl,l1++[L],by rw[e,Z3];rfl,?_,f.trans h.2.2⟩;rw[ui];exact wj (z6 W l1) L []▸h.2.1
 .refine jj h λl1 e A1 f=>?_;exact aw hp (st f)
 .refine jj h λl1 e A1 f=>?_;cases e.trans (Z0 _);exact k y t A1 f
noncomputable abbrev zxe (k:Nat):E:=.comp none k false (.sub (.loc 0) (.str kC)) (some (.isC true (.sub (.loc k) (.str kA)) .none)) (.loc k)
noncomputable abbrev zu4:E:=.bin .add (.call 123 [.loc 0,.int 0,.loc 1]) (.call 123 [.loc 0,.int 1,.loc 1])
noncomputable def z4d(ks:Xd Key)(W:WS)(s:MS)(k:Nat)(L:Loc)(t:MS):Prop :=
 ∃(r:Nat)(z:Bool->HIx)(p:Nat)(a5 a6 a7 a8 a9:Xc V),k+r=2/\L=y4 ks (some (.int r)) (some (.lst (zbl (rs W r)))) (some (.lst (rx (rs W r)))) a5 a6 a7 a8 a9/\MAt t (rs W r) z p/\Fr MF s t/\∀k,k<r->¬pp (rs W k)
noncomputable def z4e(W:WS)(s:MS)(v:V)(t:MS):Prop :=
 ∃(r:Nat)(z:Bool->HIx)(p:Nat),v=.int r/\r<=2/\Fr MF s t/\MAt t (rs W r) z p/\pp (rs W r)/\∀k,k<r->¬pp (rs W k)
theorem Fr.mf(f:Fr Nil s t):Fr MF s t:=f.mono λξ q=>q.elim
theorem rj(f:Fr MB s t):Fr MF s t:=f.mono λξ=>zyo
include M in
theorem zpi(n:Nat)(A:MAt s W z p)(a:Bd ks nc τ m W)(ht:τ+24<4000000)(hm:m<4000000){v:Nat}(k:∀z' p' y5 y6 y7 y8 y9 t,MAt t (rnd W) z' p'->Fr MF s t->OkR (exs P (run P (n+3)) (n+3) r (y4 ks (some (.int (v+1:Nat))) a3 a4 y5 y6 y7 y8 y9) t) Q):
  OkR (exs P (run P (n+3)) (n+3) (.assign 2 (.bin .add (.loc 2) (.int 1))::.expr (.call 121 [.loc 0,.int 0])::.expr (.call 121 [.loc 0,.int 1])::.for_ (.inl (.loc 5)) false (.sub (.loc 0) (.str kH)) dj::.for_ (.inl (.loc 6)) true (.prim .len [.sub (.loc 0) (.str kC)]) zio::.assign 8 (.sub (.loc 0) (.str kP))::.setitem (.loc 0) (.str kP) (.lstM 50 [])::.for_ (.inl (.loc 9)) false (.loc 8) [.expr (.call 120 [.loc 0,.loc 9])]::r) (y4 ks (some (.int v)) a3 a4 a5 a6 a7 a8 a9) s) Q:=by
 have rdy:=a.wi.ready a.K.nd a.K.six a.h6;have hl:=zbk rdy;have ht':τ+24<8000000:=Qe ht (by decide);refine zk (v:=.int (v+1:Nat)) (s':=s) rfl rfl ?_;show OkR (exs P (run P (n+3)) (n+3) _ (y4 ks (some (.int (v+1:Nat))) a3 a4 a5 a6 a7 a8 a9) s) Q;refine jr (w4 (vs:=[.ref (53,0),.int (hn false)]) rfl (bj M (n+1) A a false)) ?_;rintro _ s1 ⟨-,⟨z1,A1⟩,f1⟩;have b1:=a.to (a.wi.write false) a.t a.m;refine jr (w4 (vs:=[.ref (53,0),.int (hn true)]) rfl (bj M (n+1) A1 b1 true)) ?_;rintro _ s2 ⟨-,⟨z2,A2⟩,f2⟩;have b2:=a.to ((a.wi.write false).write true) a.t a.m;have A2:MAt s2 (wr2 W) z2 p:=A2;refine zph M n A2 b2 (Z7 (Qh (by decide) _) ht') λy5 s3 A3 f3=>?_;refine zpf (n+3) A3 (Zp (Zp (zeo (p2 W) (jm W.c W.nc)) hl) (Qn ht')) (a.wi.nc_▸a.h6:W.nc<=6) λy6 y7 s4 A4 f4=>?_;have A4:MAt s4 {wr2 W with post:=all W} z2 p:=A4;refine zk (v:=.ref (50,p)) (s':=s4) (jk A4.o rfl rfl) rfl ?_;have n0:(s4.new 50 (.list [])).heap (53,0)=some (zcc W.nc p):=(q7 (by rfl)).trans A4.o;refine qg (v:=.ref (50,s4.cnt 50)) (x:=.ref (53,0)) (y:=.str kP) (s1:=s4.new 50 (.list [])) (s2:=s4.new 50 (.list [])) (s3:=s4.new 50 (.list [])) (s':=(s4.new 50 (.list [])).put (53,0) (zcc W.nc (s4.cnt 50))) rfl rfl rfl (z5 _ _ _ kP _ n0 (Za (p:=4<16777216) rfl)) ?_;have A5:=A4.newPost;have fn:Fr Nil s4 (s4.new 50 (.list [])):=(Fr.refl _ _).new _ _;have f5:Fr MF s4 ((s4.new 50 (.list [])).put (53,0) (zcc W.nc (s4.cnt 50))):=fn.mf.put (l:=(53,0)) (Za (p:=43<=53/\53<=46\/50<=53/\53<=53\/53=66\/53=67) rfl) _;have hp:((s4.new 50 (.list [])).put (53,0) (zcc W.nc (s4.cnt 50))).heap (50,p)=some (.list ((all W).map zu)):=(zo (by rfl)).trans ((fn.1 (50,p) A4.j0 λq=>q).trans A4.po);have ip:p<((s4.new 50 (.list [])).put (53,0) (zcc W.nc (s4.cnt 50))).cnt 50:=Zi A4.j0 (f5.2 50);have A5:MAt ((s4.new 50 (.list [])).put (53,0) (zcc W.nc (s4.cnt 50))) {wr2 W with post:=[]} z2 (s4.cnt 50):=A5;generalize (s4.new 50 (.list [])).put (53,0) (zcc W.nc (s4.cnt 50))=s5 at A5 f5 hp ip;exact zpg M n (W:=wr2 W) (l:=all W) A5 (a.to rdy ht' a.m) (Z7 (Qh hl _) (Nat.add_lt_add hm ht)) hp ip λy9 t A6 f6=>k _ _ _ _ _ _ _ t A6 ((((f1.trans f2).trans f3).trans f4).trans (f5.trans (rj f6)))
theorem zdp:fl_rounds.body=.assign 2 (.int 0)::.assign 3 (zxe 10)::.assign 4 zu4::.while_ (.and [.cmp (.loc 2) .lt (.int 5),.or [.cmp (.loc 3) .ne (.lst []),.cmp (.loc 4) .ne (.lst [])]]) (.assign 2 (.bin .add (.loc 2) (.int 1))::.expr (.call 121 [.loc 0,.int 0])::.expr (.call 121 [.loc 0,.int 1])::.for_ (.inl (.loc 5)) false (.sub (.loc 0) (.str kH)) dj::.for_ (.inl (.loc 6)) true (.prim .len [.sub (.loc 0) (.str kC)]) zio::.assign 8 (.sub (.loc 0) (.str kP))::.setitem (.loc 0) (.str kP) (.lstM 50 [])::.for_ (.inl (.loc 9)) false (.loc 8) [.expr (.call 120 [.loc 0,.loc 9])]::.assign 3 (zxe 11)::.assign 4 zu4::[])::[.ret (some (.loc 2))]:=rfl
include M in
theorem zhn(hf:P.fns 124=some fl_rounds)(n:Nat)(A:MAt s W z p)(a:Bd ks nc τ m W)(ht:τ+48<3000000)(hm:m+(2*τ+72)<3000000):
  OkR (run P (n+4) 124 [.ref (53,0),.lst (ks.map .str)] s) (z4e W s):=by
 refine zm hf rfl ?_;rw[zdp];have n6:W.nc<=6:=a.wi.nc_▸a.h6;refine zk (v:=.int 0) (s':=s) rfl rfl (zk (zd2 A n6 rfl λξ=>rfl) rfl ?_);refine zd (zn6 M (n+2) (l:=y4 ks (some (.int 0)) (some (.lst (zbl W))) none none none none none none) A a (λξ=>rfl) λξ=>rfl) λs1 e1 f1=>?_;refine zk e1 rfl ?_;rw[gf,tz];refine dm (z4d ks W s) ?_ (n+3) 2 _ _ (Qs _ _) ⟨0,z,p,none,none,none,none,none,rfl,rfl,A.nil f1,f1.mf,λk h=>(nomatch h)⟩;rintro k L t ⟨r,z',p',a5,a6,a7,a8,a9,hk,rfl,At,f,hs⟩;have hr:r<=2:=hk▸Qs _ _;have w:=a.to (zjk a.wi a.K.nd a.K.six a.h6 hr).1 (Qe ht (by decide)) (Qe hm (by decide));refine zd (zvt (P:=P) (C:=run P (n+3)) (s:=t) (W:=rs W r) hr (l:=y4 ks (some (.int r)) (some (.lst (zbl (rs W r)))) (some (.lst (rx (rs W r)))) a5 a6 a7 a8 a9) rfl rfl rfl) λc ec hc=>?_;refine bc ec ⟨c,rfl,?_⟩;cases c with
 |false =>
  rw[Zh (by decide),j9];exact zv (v:=.int r) (s':=t) rfl ⟨r,z',p',rfl,hr,f,At,hc.1 rfl,hs⟩
 |true =>
  rw[Zg rfl];have ns:¬pp (rs W r):=λq=>nomatch hc.2 q
  cases k with
  |zero =>
   rw[Jo]at hk;subst hk;exact absurd (a.wi.two a.K.nd a.K.six a.h6) ns
  |succ k =>
   refine⟨Q5 _,zpi M n At w (Zi (Nat.add_lt_add_right ht 24) (by decide)) (Qe hm (by decide)) λz2 p2 y5 y6 y7 y8 y9 t2 A2 f2=>?_⟩;have A2:MAt t2 (rs W (r+1)) z2 p2:=A2;have hr2:r+1<=2:=Zp (Qs _ k) (Qf ((Qk k r).symm.trans hk));have w2:=a.to (zjk a.wi a.K.nd a.K.six a.h6 hr2).1 (Qe ht (by decide)) (Qe hm (by decide));refine zk (zd2 A2 (w2.wi.nc_▸a.h6) rfl λξ=>rfl) rfl ?_;refine zd (zn6 M (n+2) (l:=y4 ks (some (.int (r+1:Nat))) (some (.lst (zbl (rs W (r+1))))) (some (.lst (rx (rs W r)))) y5 y6 y7 y8 y9) A2 w2 (λξ=>rfl) λξ=>rfl) λt3 e3 f3=>?_;exact zk e3 rfl (zx ⟨r+1,z2,p2,y5,y6,y7,y8,y9,(Qk k r).symm.trans hk,rfl,A2.nil f3,f.trans (f2.trans f3.mf),λj hj=>(Nat.lt_succ_iff_lt_or_eq.1 hj).elim (hs j) λe=>e▸ns⟩)
end
end Internal
end
section
namespace Internal
noncomputable def fl_posted:Fn:=⟨4,["_law_world","_law_own","_law_keys_here","_law_cell","_law_more","_law_house","_law_caller","_law_one"],[.assign 4 (.bin .fdiv (.loc 3) (.int 18)),.assign 5 (.bin .mod (.loc 4) (.int 2)),.assign 6 (.bin .mod (.bin .fdiv (.loc 4) (.int 2)) (.prim .len [.sub (.loc 1) (.str [99,97,108,108,101,114,115])])),.assign 7 (.sub (.sub (.loc 1) (.str [99,97,108,108,101,114,115])) (.loc 6)),.ite (.isC true (.sub (.loc 7) (.str [97,115,107,101,100])) .none) [.expr (.bm .append (.sub (.loc 1) (.str [112,111,115,116])) [.bin .add (.tup [.str [99,97,108,108],.loc 5,.loc 6]) (.sub (.loc 7) (.str [97,115,107,101,100]))]),.ret (some (.isC false (.meth (.loc 0) 18 [.loc 6,.loc 5]) .none))] [],.setitem (.loc 7) (.str [109,97,100,101]) (.bin .add (.sub (.loc 7) (.str [109,97,100,101])) (.int 1)),.setitem (.loc 7) (.str [97,115,107,101,100]) (.tup [.sub (.loc 7) (.str [109,97,100,101]),.sub (.loc 2) (.bin .mod (.bin .fdiv (.loc 4) (.int 3)) (.prim .len [.loc 2])),.call 102 [.bin .fdiv (.bin .mul (.bin .add (.loc 3) (.int 5)) (.int 48271)) (.int 11)]]),.expr (.bm .append (.sub (.loc 1) (.str [112,111,115,116])) [.bin .add (.tup [.str [99,97,108,108],.loc 5,.loc 6]) (.sub (.loc 7) (.str [97,115,107,101,100]))]),.ret (some (.call 101 [.meth (.loc 0) 17 [.loc 6,.loc 5,.sub (.sub (.loc 7) (.str [97,115,107,101,100])) (.int 1),.sub (.sub (.loc 7) (.str [97,115,107,101,100])) (.int 2)],.sub (.loc 7) (.str [109,97,100,101])]))]⟩
noncomputable def fl_lettered:Fn:=⟨3,["_law_world","_law_own","_law_cell","_law_more","_law_many","_law_place","_law_letter"],[.assign 3 (.bin .fdiv (.loc 2) (.int 18)),.assign 4 (.prim .len [.sub (.loc 1) (.str [112,111,115,116])]),.ite (.cmp (.loc 4) .eq (.int 0)) [.ret (some (.bool true))] [],.assign 5 (.sub (.lst [.int 0,.bin .sub (.loc 4) (.int 1),.bin .mod (.loc 3) (.loc 4),.bin .mod (.loc 3) (.loc 4),.bin .mod (.loc 3) (.loc 4),.bin .mod (.loc 3) (.loc 4)]) (.bin .sub (.bin .mod (.loc 2) (.int 18)) (.int 4))),.assign 6 (.sub (.sub (.loc 1) (.str [112,111,115,116])) (.loc 5)),.ite (.cmp (.bin .mod (.loc 2) (.int 18)) .eq (.int 8)) [.expr (.call 120 [.loc 1,.loc 6]),.ret (some (.isC false (.meth (.loc 0) 22 [.loc 5]) .none))] [],.expr (.bm .pop (.sub (.loc 1) (.str [112,111,115,116])) [.loc 5]),.ite (.cmp (.bin .mod (.loc 2) (.int 18)) .eq (.int 9)) [.ret (some (.isC false (.meth (.loc 0) 23 [.loc 5]) .none))] [],.expr (.call 120 [.loc 1,.loc 6]),.ret (some (.isC false (.meth (.loc 0) 21 [.loc 5]) .none))]⟩
structure LP11(P:Prog):Prop where
 wp:WorldP P
 hp:HouseP P
 dp:DeedP P
 sp:SetP P
 mp:MirP P
 rou:P.fns 124=some fl_rounds
 wis:P.fns 102=some f_wish
 ali:P.fns 101=some (lc 101 "_law_due_here")
 pos:P.fns 125=some fl_posted
 let_:P.fns 126=some fl_lettered
noncomputable def SF(l:Lbl):Prop:=l.1<11\/MF l
section
variable {P:Prog}{s t:MS}{W W':WS}{x:Bool->HIx}{z:Bool->HIx}{p:Nat}{ks:Xd Key}{nc τ m:Nat}{key:Key}
theorem i6(f:Fr NWp s t):Fr SF s t:=f.mono λξ q=>.inl q
theorem aq(f:Fr MF s t):Fr SF s t:=f.mono λξ q=>.inr q
noncomputable def StQ(ks:Xd Key)(nc τ m:Nat)(s:MS)(v:V)(t:MS):Prop:=v=.bool true/\∃W',(∃x,WAt t ks W' x)/\(∃z p,MAt t W' z p)/\WI ks nc (τ+48) (m+(2*τ+72)) W'/\Fr SF s t
theorem stq{x z:Bool->HIx}{τ' m':Nat}(A:WAt t ks W' x)(a:MAt t W' z p)(w:WI ks nc τ' m' W')(h1:τ'<=τ+48)(h2:m'<=m+(2*τ+72))(f:Fr SF s t):StQ ks nc τ m s (.bool true) t:=⟨rfl,W',⟨x,A⟩,⟨z,p,a⟩,w.mono h1 h2,f⟩
theorem zu2{q:Nat}(hq:q<ks.length)(s:MS):getItem (.lst (ks.map .str)) (.int q) s=.ok (.str ks[q]) s :=
 (li (a:=.lst (ks.map .str)) (k:=true) (s:=s) rfl q (by rw[Zd];exact hq)).trans (by rw[Q9])
theorem zjd(K:KeysFine ks)(i:Int):∃key,key∈ks/\∀{C l e s}{g:E},ev P C e l s=.ok (.int i) s->ev P C g l s=.ok (.lst (ks.map .str)) s->ev P C (.sub g (.bin .mod e (.prim .len [g]))) l s=.ok (.str key) s:=by
 refine zd (lh i K.pos) λq hq eq=>?_;exact⟨ks[q],Qc hq,λhe hg=>qk hg (kb (y:=.int ks.length) he (j5 (zg hg rfl) (by rw[<- Zd (f:=V.str)];rfl)) (zxf i K.pos eq _)) (zu2 hq _)⟩
theorem zje(a:MAt s W z p)(h1:0<W.nc)(i:Int):∃k:Nat,k<W.nc/\∀{C l e j},ev P C e l s=.ok (.int i) s->ev P C (.loc j) l s=.ok (.ref (53,0)) s->ev P C (.bin .mod e (.prim .len [.sub (.loc j) (.str kC)])) l s=.ok (.int k) s:=by
 refine zd (lh i h1) λq hq eq=>?_;exact⟨q,hq,λhe hg=>kb (y:=.int W.nc) he (j5 (zg (jk a.o hg rfl) rfl) (Qd (λ(q:Nat)=>Res.ok (V.int q) s) (oe W.nc))) (zxf i h1 eq _)⟩
variable{i:Nat}
theorem zsg(a:WI ks nc τ m W)(hi:i<nc)(ho:(W.c i).op=none)(hk:key∈ks)(b:Bool)(w:Internal.W):WI ks nc (τ+1) (m+1) {W with c:=jw W.c i ⟨(W.c i).begun+1,some ((W.c i).begun+1,key,w),(W.c i).closed⟩,post:=W.post++[.call (hn b) i ((W.c i).begun+1) key w]}:=by
 refine xg (a.co i hi) λξ h0 h2=>?_;have h1:(1:Int)<=(W.c i).begun+1:=Int.le_add_of_nonneg_left h0;have a1:=a.caller i (c:=⟨(W.c i).begun+1,some ((W.c i).begun+1,key,w),(W.c i).closed⟩) (Int.le_add_of_nonneg_right (by decide)) (λξ p hp=>by obtain rfl:=Je hp;exact⟨rfl,h1,hk⟩) λξ=>Z2 h2;refine a1.calls (l:=[.call (hn b) i ((W.c i).begun+1) key w]) (k:=1) (λL q=>?_) (Zs _);rw[Zq.1 q];exact⟨⟨⟨b,rfl⟩,⟨i,hi,rfl,h1,Qz (show _=(if i=i then _ else _:CS).begun by rw[Zg rfl])⟩,hk⟩,_,_,_,_,_,rfl⟩
theorem zm7(a:WI ks nc τ m W)(hi:i<nc){q:Int×Key×Internal.W}(ho:(W.c i).op=some q)(b:Bool):WI ks nc (τ+1) m {W with post:=W.post++[.call (hn b) i q.1 q.2.1 q.2.2]}:=by
 refine xg ((a.co i hi).1 q ho) λh1 h2 h3=>?_;refine a.calls (l:=[.call (hn b) i q.1 q.2.1 q.2.2]) (k:=1) (λL z=>?_) (Zs _);rw[Zq.1 z];exact⟨⟨⟨b,rfl⟩,⟨i,hi,rfl,h2,Qz h1⟩,h3⟩,_,_,_,_,_,rfl⟩
theorem zpe(a:MAt s W z p)(L:Letter):MAt (s.put (50,p) (.list (W.post.map zu++[zu L]))) {W with post:=W.post++[L]} z p:=by
 have:=a.setPost (W.post++[L]);rw[Qb]at this;exact this
theorem zrp(f:Nat->CS)(i:Nat)(c d:CS):jw (jw f i c) i d=jw f i d:=by
 funext k;unfold jw;split<;>rfl
theorem zjt(f:Nat->CS)(i:Nat)(c:CS):jw f i c i=c:=Zg rfl
variable (H:LP11 P)
include H
noncomputable abbrev zk6 (ks:Xd Key) (cell:Int) (a4 a5 a6 a7:Xc V):Loc:=[some (.ref (1,0)),some (.ref (53,0)),some (.lst (ks.map .str)),some (.int cell),a4,a5,a6,a7]
theorem zhm(n:Nat)(A:WAt s ks W x)(a:MAt s W z p)(B:Bd ks nc τ m W)(h1:0<W.nc)(cell:Int):OkR (run P (n+5) 125 [.ref (1,0),.ref (53,0),.lst (ks.map .str),.int cell] s) (StQ ks nc τ m s):=by
 refine zd (zje (P:=P) a h1 ((cell.fdiv 18).fdiv 2)) λi hi ei=>?_;have hb:=zaj (cell.fdiv 18);refine zd (zjd (P:=P) B.K ((cell.fdiv 18).fdiv 3)) λkey hk ek=>?_;have hi':i<nc:=B.wi.nc_▸hi;refine zm H.pos rfl ?_;refine zk (v:=.int (cell.fdiv 18)) (s':=s) rfl rfl (zk (v:=.int ((cell.fdiv 18).fmod 2)) (s':=s) rfl rfl (zk (v:=.int i) (s':=s) (ei (e:=.bin .fdiv (.loc 4) (.int 2)) rfl rfl) rfl (zk (v:=.ref (52,i)) (s':=s) (zn3 a (i:=i) rfl rfl hi) rfl ?_)));rw[hb];generalize decide ((cell.fdiv 18).fmod 2=1)=b;show OkR (exs P (run P (n+4)) (n+4) _ (zk6 ks cell (some (.int (cell.fdiv 18))) (some (.int (hn b))) (some (.int i)) (some (.ref (52,i)))) s) _;have ea:∀{u:MS}{c:CS},u.heap (52,i)=some (xd i c)->ev P (run P (n+4)) (.sub (.loc 7) (.str kA)) (zk6 ks cell (some (.int (cell.fdiv 18))) (some (.int (hn b))) (some (.int i)) (some (.ref (52,i)))) u=.ok (opV c.op) u:=λh=>jk h rfl rfl;have hpl:(W.post.map zu).length<16777216:=by rw[Zd];exact Qe B.room (by decide)
 cases hop:(W.c i).op with
 |some q =>
  have e1:=ea (a.co i hi);rw[hop]at e1;have f1:Fr MF s (s.put (50,p) (.list (W.post.map zu++[zu (.call (hn b) i q.1 q.2.1 q.2.2)]))):=(Fr.refl _ _).put (zg2 p) _;have a1:=zpe a (.call (hn b) i q.1 q.2.1 q.2.2);refine zl (t:=true) (s':=s) (xt (g:=true) (t:=false) e1 (Zc nofun)) (qj (v:=.none) (v6 (x:=.ref (50,p)) (vs:=[zu (.call (hn b) i q.1 q.2.1 q.2.2)]) (s1:=s) (s2:=s) (jk a.o rfl rfl) (qy a.po) (zg (kb (x:=.tup [.str [99,97,108,108],.int (hn b),.int i]) (y:=opV (some q)) (s1:=s) (s2:=s) rfl e1 rfl) rfl) (je s (50,p) _ _ a.po hpl)) ?_);generalize s.put (50,p) (.list (W.post.map zu++[zu (.call (hn b) i q.1 q.2.1 q.2.2)]))=s1 at f1 a1;refine zr H.dp.aga λxc hf=>?_;refine jj (zhq H.wp hf (n+1) (A.step (gc f1)) hi b hop (Qe B.room (by decide))) λu e Au fu=>?_;exact zv (v:=.bool true) (s':=u) (xt (g:=false) (t:=true) (zy (x:=.ref (1,0)) (vs:=[.int i,.int (hn b)]) (s1:=s1) (s2:=s1) rfl ((zj (A.step (gc f1)).o).trans H.dp.w18) rfl e) (Zb rfl)) (stq Au (a1.nwp fu) (zm7 B.wi hi' hop b) (by lia) (by lia) ((aq f1).trans (i6 fu)))
 |none =>
  have e1:=ea (a.co i hi);rw[hop]at e1;refine zl (t:=false) (s':=s) (xt (g:=true) (t:=true) e1 (Zb rfl)) (ze ?_);generalize hw:zda (((cell+5)*48271).fdiv 11)=w;have ew:∀u,ev P (run P (n+4)) (.call 102 [.bin .fdiv (.bin .mul (.bin .add (.loc 3) (.int 5)) (.int 48271)) (.int 11)]) (zk6 ks cell (some (.int (cell.fdiv 18))) (some (.int (hn b))) (some (.int i)) (some (.ref (52,i)))) u=.ok (wv w) u:=λu=>by
   rw[<- hw];exact qb (zg (kb (x:=.int ((cell+5)*48271)) (s1:=u) (s2:=u) (kb (x:=.int (cell+5)) (s1:=u) (s2:=u) rfl rfl (zvh _ _ _ (by decide) (by decide))) rfl rfl) rfl) (zqo H.wis (n+3) _ u)
  have a1:=a.setCaller i ⟨(W.c i).begun+1,none,(W.c i).closed⟩ rfl;have f1:Fr MF s (s.put (52,i) (xd i ⟨(W.c i).begun+1,none,(W.c i).closed⟩)):=(Fr.refl _ _).put (zyp i) _;have q1:(s.put (52,i) (xd i ⟨(W.c i).begun+1,none,(W.c i).closed⟩)).heap (52,i)=some (xd i ⟨(W.c i).begun+1,none,(W.c i).closed⟩):=zh _ _ _;have c1:xd i (W.c i)=xd i ⟨(W.c i).begun,none,(W.c i).closed⟩:=by rw[<- hop]
  have e0:=a.co i hi;rw[c1]at e0;refine qg (v:=.int ((W.c i).begun+1)) (x:=.ref (52,i)) (y:=.str kM) (s1:=s) (s2:=s) (s3:=s) (kb (x:=.int (W.c i).begun) (y:=.int 1) (s1:=s) (s2:=s) (jk e0 rfl rfl) rfl rfl) rfl rfl (z5 _ _ _ kM _ e0 (Za (p:=3<16777216) rfl)) ?_;show OkR (exs P (run P (n+4)) (n+4) _ (zk6 ks cell (some (.int (cell.fdiv 18))) (some (.int (hn b))) (some (.int i)) (some (.ref (52,i)))) (s.put (52,i) (xd i ⟨(W.c i).begun+1,none,(W.c i).closed⟩))) _;generalize s.put (52,i) (xd i ⟨(W.c i).begun+1,none,(W.c i).closed⟩)=s1 at a1 f1 q1;have a2:=a1.setCaller i ⟨(W.c i).begun+1,some ((W.c i).begun+1,key,w),(W.c i).closed⟩ (by show _=(jw _ i _ i).closed;rw[zjt]);rw[show jw ({W with c:=jw W.c i ⟨(W.c i).begun+1,none,(W.c i).closed⟩}:WS).c i _=_ from zrp W.c i _ _]at a2;have f2:=f1.put (zyp i) (xd i ⟨(W.c i).begun+1,some ((W.c i).begun+1,key,w),(W.c i).closed⟩);have q2:(s1.put (52,i) (xd i ⟨(W.c i).begun+1,some ((W.c i).begun+1,key,w),(W.c i).closed⟩)).heap (52,i)=some (xd i ⟨(W.c i).begun+1,some ((W.c i).begun+1,key,w),(W.c i).closed⟩):=zh _ _ _;refine qg (v:=opV (some ((W.c i).begun+1,key,w))) (x:=.ref (52,i)) (y:=.str kA) (s1:=s1) (s2:=s1) (s3:=s1) (p4 (zg (v:=.int ((W.c i).begun+1)) (s1:=s1) (jk q1 rfl rfl) (zg (v:=.str key) (s1:=s1) (ek (e:=.bin .fdiv (.loc 4) (.int 3)) rfl rfl) (zg (v:=wv w) (s1:=s1) (ew s1) rfl))) rfl) rfl rfl (z5 _ _ _ kA _ q1 (Za (p:=3<16777216) rfl)) ?_;show OkR (exs P (run P (n+4)) (n+4) _ (zk6 ks cell (some (.int (cell.fdiv 18))) (some (.int (hn b))) (some (.int i)) (some (.ref (52,i)))) (s1.put (52,i) (xd i ⟨(W.c i).begun+1,some ((W.c i).begun+1,key,w),(W.c i).closed⟩))) _;generalize s1.put (52,i) (xd i ⟨(W.c i).begun+1,some ((W.c i).begun+1,key,w),(W.c i).closed⟩)=s2 at a2 f2 q2;have e2:=ea q2;have a3:=zpe a2 (.call (hn b) i ((W.c i).begun+1) key w);have f3:=f2.put (zg2 p) (.list (W.post.map zu++[zu (.call (hn b) i ((W.c i).begun+1) key w)]));have q3:(s2.put (50,p) (.list (W.post.map zu++[zu (.call (hn b) i ((W.c i).begun+1) key w)]))).heap (52,i)=some (xd i ⟨(W.c i).begun+1,some ((W.c i).begun+1,key,w),(W.c i).closed⟩):=(zo (by rfl)).trans q2;refine qj (v:=.none) (v6 (x:=.ref (50,p)) (vs:=[zu (.call (hn b) i ((W.c i).begun+1) key w)]) (s1:=s2) (s2:=s2) (jk a2.o rfl rfl) (qy a2.po) (zg (kb (x:=.tup [.str [99,97,108,108],.int (hn b),.int i]) (y:=opV (some ((W.c i).begun+1,key,w))) (s1:=s2) (s2:=s2) rfl e2 rfl) rfl) (je s2 (50,p) _ _ a2.po hpl)) ?_;have a3:MAt (s2.put (50,p) (.list (W.post.map zu++[zu (.call (hn b) i ((W.c i).begun+1) key w)]))) {W with c:=jw W.c i ⟨(W.c i).begun+1,some ((W.c i).begun+1,key,w),(W.c i).closed⟩,post:=W.post++[.call (hn b) i ((W.c i).begun+1) key w]} z p:=a3;show OkR (exs P (run P (n+4)) (n+4) _ (zk6 ks cell (some (.int (cell.fdiv 18))) (some (.int (hn b))) (some (.int i)) (some (.ref (52,i)))) (s2.put (50,p) (.list (W.post.map zu++[zu (.call (hn b) i ((W.c i).begun+1) key w)])))) _;generalize s2.put (50,p) (.list (W.post.map zu++[zu (.call (hn b) i ((W.c i).begun+1) key w)]))=s3 at a3 f3 q3;have e3:=ea q3;have A3:=A.step (gc f3);refine zr H.dp.nwi λyc hf1=>?_;refine zr H.dp.cal λxc hf=>?_;refine jj (zlw H.wp H.dp.beg hf1 hf (n+1) A3 hi b hk (w:=w) (zfd H.wp hf1 (n+1) w (hw▸zul _) s3) hop (Qe B.room (by decide))) λu e Au fu=>?_;have q4:u.heap (52,i)=some (xd i ⟨(W.c i).begun+1,some ((W.c i).begun+1,key,w),(W.c i).closed⟩):=by
   have:=(a3.nwp fu).co i hi;rw[show({W with c:=jw W.c i ⟨(W.c i).begun+1,some ((W.c i).begun+1,key,w),(W.c i).closed⟩,post:=W.post++[.call (hn b) i ((W.c i).begun+1) key w]}:WS).c i=_ from zjt ..]at this;exact this
  refine zv (v:=.bool true) (s':=u) (qb (vs:=[.int ((W.c i).begun+1),.int ((W.c i).begun+1)]) (zg (s1:=u) (zy (x:=.ref (1,0)) (vs:=[.int i,.int (hn b),.str key,wv w]) (s1:=s3) (s2:=s3) rfl ((zj A3.o).trans H.dp.w17) (zg (v:=.int i) (s1:=s3) rfl (zg (v:=.int (hn b)) (s1:=s3) rfl (zg (v:=.str key) (s1:=s3) (qk (x:=opV (some ((W.c i).begun+1,key,w))) (y:=.int 1) (s1:=s3) (s2:=s3) e3 rfl rfl) (zg (v:=wv w) (s1:=s3) (qk (x:=opV (some ((W.c i).begun+1,key,w))) (y:=.int 2) (s1:=s3) (s2:=s3) e3 rfl rfl) rfl)))) e) (zg (jk q4 rfl rfl) rfl)) (ux H.ali (n+3) _ _ u (.inl ⟨_,rfl,rfl⟩))) (stq Au (a3.nwp fu) (zsg B.wi hi' hop hk b w) (by lia) (by lia) ((aq f3).trans (i6 fu)))
omit H in
theorem zpx(N:Nat)(hN:0<N)(more:Int){j:Nat}(hj:j<6):∃q:Nat,q<N/\∀s:MS,getItem (.lst [.int 0,.int ((N:Int)-1),.int (more.fmod N),.int (more.fmod N),.int (more.fmod N),.int (more.fmod N)]) (.int j) s=.ok (.int q) s:=by
 refine zd (lh more hN) λq hq eq=>?_;have h1:(N:Int)-1=((N-1:Nat):Int):=by omega
 rw[eq,h1]
 match j,hj with
 |0,_=>exact⟨0,hN,λξ=>rfl⟩
 |1,_=>exact⟨N-1,Nat.sub_lt hN Nat.one_pos,λξ=>rfl⟩
 |2,_=>exact⟨q,hq,λξ=>rfl⟩
 |3,_=>exact⟨q,hq,λξ=>rfl⟩
 |4,_=>exact⟨q,hq,λξ=>rfl⟩
 |5,_=>exact⟨q,hq,λξ=>rfl⟩
omit H in
theorem zjr(w:WI ks nc τ m W)(q:Nat):tot {W with post:=W.post.eraseIdx q}<=τ:=Zp (Nat.add_le_add_right (List.length_eraseIdx_le ..) _) w.pl
omit H in
noncomputable abbrev zs5 (cell:Int) (a3 a4 a5 a6:Xc V):Loc:=[some (.ref (1,0)),some (.ref (53,0)),some (.int cell),a3,a4,a5,a6]
theorem zcp(n:Nat)(A:WAt s ks W x)(a:MAt s W z p)(B:Bd ks nc τ m W){cell:Int}(h4:4<=cell.fmod 18)(h10:cell.fmod 18<10):OkR (run P (n+6) 126 [.ref (1,0),.ref (53,0),.int cell] s) (StQ ks nc τ m s):=by
 refine zm H.let_ rfl ?_;refine zk (v:=.int (cell.fdiv 18)) (s':=s) rfl rfl (zk (v:=.int W.post.length) (s':=s) (j5 (zg (jk a.o rfl rfl) rfl) ((y0 (jh a.po)).trans (by rw[Zd]))) rfl ?_);show OkR (exs P (run P (n+5)) (n+5) _ (zs5 cell (some (.int (cell.fdiv 18))) (some (.int W.post.length)) none none) s) _;by_cases hN:W.post.length=0
 .exact zl (t:=true) (s':=s) (Qd (λq=>Res.ok (V.bool q) s) (Zb (by rw[hN];rfl))) (zv (v:=.bool true) (s':=s) rfl (stq A a B.wi (by lia) (by lia) (.refl _ _)))
 .have hN:0<W.post.length:=Nat.pos_of_ne_zero hN;refine zl (t:=false) (s':=s) (Qd (λq=>Res.ok (V.bool q) s) (Zc (by lia))) (ze ?_);refine zd (zpx W.post.length hN (cell.fdiv 18) (j:=(cell.fmod 18-4).toNat) (by lia)) λq hq eq=>?_;rw[Int.toNat_of_nonneg (by lia)]at eq;refine zk (v:=.int q) (s':=s) (qk (x:=.lst [.int 0,.int ((W.post.length:Int)-1),.int ((cell.fdiv 18).fmod W.post.length),.int ((cell.fdiv 18).fmod W.post.length),.int ((cell.fdiv 18).fmod W.post.length),.int ((cell.fdiv 18).fmod W.post.length)]) (y:=.int (cell.fmod 18-4)) (s1:=s) (s2:=s) ?_ rfl (eq s)) rfl ?_
  .have em:ev P (run P (n+5)) (.bin .mod (.loc 3) (.loc 4)) (zs5 cell (some (.int (cell.fdiv 18))) (some (.int W.post.length)) none none) s=.ok (.int ((cell.fdiv 18).fmod W.post.length)) s:=kb (x:=.int (cell.fdiv 18)) (y:=.int W.post.length) (s1:=s) (s2:=s) rfl rfl (Zh (show ¬(W.post.length:Int)=0 by lia));exact zix (zg (v:=.int 0) (s1:=s) rfl (zg (v:=.int ((W.post.length:Int)-1)) (s1:=s) rfl (zg em (zg em (zg em (zg em rfl)))))) rfl
  have hq':q<(W.post.map zu).length:=by rw[Zd];exact hq
  have el:=li (jh a.po) q hq';rw[zck hq]at el;refine zk (v:=zu W.post[q]) (s':=s) (qk (x:=.ref (50,p)) (y:=.int q) (s1:=s) (s2:=s) (jk a.o rfl rfl) rfl el) rfl ?_;show OkR (exs P (run P (n+5)) (n+5) _ (zs5 cell (some (.int (cell.fdiv 18))) (some (.int W.post.length)) (some (.int q)) (some (zu W.post[q]))) s) _;have hm:=Qc hq;have hL:=B.wi.po _ hm;have wb:=(B.wi.bring0 B.h6 hm).1;have ec:∀(k:Int)(u:MS),ev P (run P (n+5)) (.cmp (.bin .mod (.loc 2) (.int 18)) .eq (.int k)) (zs5 cell (some (.int (cell.fdiv 18))) (some (.int W.post.length)) (some (.int q)) (some (zu W.post[q]))) u=.ok (.bool (decide (cell.fmod 18=k))) u:=λξ ξ=>rfl;by_cases h8:cell.fmod 18=8
  .have e8:=ec 8 s;rw[Zb h8]at e8;refine zl (t:=true) e8 (jr (w4 (vs:=[.ref (53,0),zu W.post[q]]) rfl (bh H.mp (n+2) a B rfl rfl rfl hL)) ?_);rintro _ s1 ⟨-,a1,f1⟩;have A1:=A.step (gc (rj f1));refine qo (z7 (zoj H.wp H.hp H.dp n A1 B hq)) λv u e eq3 Au fu=>?_;subst eq3;exact zv (v:=.bool true) (s':=u) (xt (g:=false) (t:=true) (zy (x:=.ref (1,0)) (vs:=[.int q]) (s1:=s1) (s2:=s1) rfl ((zj A1.o).trans H.dp.w22) rfl e) (Zb rfl)) (stq Au (a1.nwp fu) wb (by lia) (by lia) ((aq (rj f1)).trans (i6 fu)))
  .have e8:=ec 8 s;rw[Zc h8]at e8;refine zl (t:=false) e8 (ze ?_);have ep:=zg9 s (50,p) (W.post.map zu) q a.po hq';have a1:=a.setPost (W.post.eraseIdx q);rw[<- de]at a1;have f1:Fr MF s (s.put (50,p) (.list ((W.post.map zu).eraseIdx q))):=(Fr.refl _ _).put (zg2 p) _;refine qj (v6 (x:=.ref (50,p)) (vs:=[.int q]) (s1:=s) (s2:=s) (jk a.o rfl rfl) (qy a.po) rfl ep) ?_;generalize s.put (50,p) (.list ((W.post.map zu).eraseIdx q))=s1 at a1 f1;have A1:=A.step (gc f1);by_cases h9:cell.fmod 18=9
   .have e9:=ec 9 s1;rw[Zb h9]at e9;refine jj (zqj H.wp H.dp.los (n+2) A1 hq) λu e Au fu=>?_;exact zl (t:=true) e9 (zv (v:=.bool true) (s':=u) (xt (g:=false) (t:=true) (zy (x:=.ref (1,0)) (vs:=[.int q]) (s1:=s1) (s2:=s1) rfl ((zj A1.o).trans H.dp.w23) rfl e) (Zb rfl)) (stq Au (a1.nwp fu) (B.wi.erase (λL h=>List.mem_of_mem_eraseIdx h) (zjr B.wi q)) (by lia) (by lia) ((aq f1).trans (i6 fu))))
   .have e9:=ec 9 s1;rw[Zc h9]at e9;refine zl (t:=false) e9 (ze (jr (w4 (vs:=[.ref (53,0),zu W.post[q]]) rfl (bh H.mp (n+2) a1 B rfl rfl rfl hL)) ?_));rintro _ s2 ⟨-,a2,f2⟩;have A2:=A1.step (gc (rj f2));refine qo (z7 (zi7 H.wp H.hp H.dp n A2 B hq)) λv u e eq3 Au fu=>?_;subst eq3;refine zv (v:=.bool true) (s':=u) (xt (g:=false) (t:=true) (zy (x:=.ref (1,0)) (vs:=[.int q]) (s1:=s2) (s2:=s2) rfl ((zj A2.o).trans H.dp.w21) rfl e) (Zb rfl)) (stq Au (a2.nwp fu) (τ':=τ+1) (m':=m+1) ?_ (by lia) (by lia) ((aq f1).trans ((aq (rj f2)).trans (i6 fu))));rw[wj];have e0:(Internal.bring W W.post[q]).post=W.post:=by
     have h:=Qd WS.post (wj W W.post[q] W.post);exact h
    exact wb.erase (λL h=>by rw[e0];exact List.mem_of_mem_eraseIdx h) (by
     have:=zjr wb q;rw[e0]at this;exact this)
end
end Internal
end
section
namespace Internal
noncomputable def fl_step:Fn:=⟨4,["_law_world","_law_own","_law_keys_here","_law_cell","_law_house","_law_key","_law_home_here"],[.assign 4 (.bin .mod (.bin .fdiv (.loc 3) (.int 18)) (.int 2)),.ite (.and [.cmp (.bin .mod (.bin .fdiv (.loc 3) (.int 36)) (.int 5)) .eq (.int 4),.not (.call 127 [.loc 0,.loc 1,.loc 2,.loc 3])]) [.ret (some (.bool false))] [],.ite (.cmp (.bin .mod (.loc 3) (.int 18)) .lt (.int 4)) [.ret (some (.call 125 [.loc 0,.loc 1,.loc 2,.loc 3]))] [],.ite (.cmp (.bin .mod (.loc 3) (.int 18)) .lt (.int 10)) [.ret (some (.call 126 [.loc 0,.loc 1,.loc 3]))] [],.ite (.cmp (.bin .mod (.loc 3) (.int 18)) .lt (.int 12)) [.assign 5 (.sub (.loc 2) (.bin .mod (.bin .fdiv (.loc 3) (.int 18)) (.prim .len [.loc 2]))),.assign 6 (.call 122 [.loc 1,.loc 5]),.ite (.isC false (.loc 6) .none) [.ret (some (.call 128 [.loc 0,.loc 5]))] [],.expr (.call 110 [.sub (.sub (.loc 1) (.str [104,111,117,115,101,115])) (.loc 6),.loc 5]),.ret (some (.isC false (.meth (.loc 0) 5 [.loc 5]) .none))] [],.ite (.cmp (.bin .mod (.loc 3) (.int 18)) .lt (.int 15)) [.expr (.call 121 [.loc 1,.loc 4]),.ret (some (.isC false (.meth (.loc 0) 6 [.loc 4]) .none))] [],.ite (.cmp (.bin .mod (.loc 3) (.int 18)) .eq (.int 15)) [.expr (.call 112 [.sub (.sub (.loc 1) (.str [104,111,117,115,101,115])) (.loc 4)]),.ret (some (.isC false (.meth (.loc 0) 7 [.loc 4]) .none))] [],.ite (.cmp (.bin .mod (.loc 3) (.int 18)) .eq (.int 16)) [.expr (.bm .extend (.sub (.loc 1) (.str [112,111,115,116])) [.call 113 [.sub (.sub (.loc 1) (.str [104,111,117,115,101,115])) (.loc 4),.loc 2]]),.ret (some (.isC false (.meth (.loc 0) 8 [.loc 4]) .none))] [],.ret (some (.call 101 [.meth (.loc 0) 28 [],.call 124 [.loc 1,.loc 2]]))]⟩
section
variable {P:Prog}{s t:MS}{W W':WS}{x:Bool->HIx}{z:Bool->HIx}{p:Nat}{ks:Xd Key}{nc τ m:Nat}{key:Key} (H:LP11 P)
theorem ztm{r r':Nat}(h:pp (rs W r))(h':pp (rs W r'))(hk:∀k,k<r->¬pp (rs W k))(hk':∀k,k<r'->¬pp (rs W k)):r=r' :=
 Nat.le_antisymm (Jf.1 λq=>hk r' q h') (Jf.1 λq=>hk' r q h)
noncomputable abbrev dc (ks:Xd Key) (cell:Int) (a4 a5 a6:Xc V):Loc:=[some (.ref (1,0)),some (.ref (53,0)),some (.lst (ks.map .str)),some (.int cell),a4,a5,a6]
include H
variable{cell:Int}{a4 a5 a6:Xc V}
theorem zfv(n:Nat)(A:WAt s ks W x)(a:MAt s W z p)(B:Bd ks nc τ m W)(ht:τ+48<3000000)(hm:m+(2*τ+72)<3000000):OkR (ev P (run P (n+8)) (.call 101 [.meth (.loc 0) 28 [],.call 124 [.loc 1,.loc 2]]) (dc ks cell a4 a5 a6) s) (StQ ks nc τ m s):=by
 obtain⟨v,s1,e1,r,rfl,hr,f1,⟨x1,A1⟩,hs,hk⟩:=z7 (zho H.wp H.hp H.dp H.sp n A B ht hm);have a1:=a.nwp f1;obtain⟨v,s2,e2,r',z2,p2,rfl,-,f2,a2,hs',hk'⟩:=z7 (zhn H.mp H.rou (n+4) a1 B ht hm);cases ztm hs hs' hk hk';exact bc (qb (vs:=[.int r,.int r]) (zg (s1:=s1) (zy (x:=.ref (1,0)) (vs:=[]) (s1:=s) (s2:=s) rfl ((zj A.o).trans H.sp.w28) rfl e1) (zg (v:=.int r) (s1:=s2) (qb (vs:=[.ref (53,0),.lst (ks.map .str)]) rfl e2) rfl)) (ux H.ali (n+7) _ _ s2 (.inl ⟨_,rfl,rfl⟩))) (stq (A1.step (gc f2)) a2 (zjk B.wi B.K.nd B.K.six B.h6 hr).1 (Zs _) (Zs _) ((i6 f1).trans (aq f2)))
omit H in
theorem zbt{C:Calls}{l:Loc}{a:E}{s1:MS}(h:ev P C a l s=.ok .none s1):ev P C (.isC false a .none) l s=.ok (.bool true) s1:=xt (g:=false) (t:=true) h (Zb rfl)
variable{r:Xd S}{Q:Fl×Loc->MS->Prop}
theorem zmp(n:Nat)(A:WAt s ks W x)(a:MAt s W z p)(B:Bd ks nc τ m W)(hk:key∈ks)(hN:jp W key=.none->run P (n+8) 128 [.ref (1,0),.str key] s=.ok (.bool true) s)(k:∀L t,StQ ks nc τ m s (.bool true) t->Q (.ret (.bool true),L) t):
  OkR (exs P (run P (n+8)) (n+8) (.assign 6 (.call 122 [.loc 1,.loc 5])::.ite (.isC false (.loc 6) .none) [.ret (some (.call 128 [.loc 0,.loc 5]))] []::.expr (.call 110 [.sub (.sub (.loc 1) (.str kH)) (.loc 6),.loc 5])::.ret (some (.isC false (.meth (.loc 0) 5 [.loc 5]) .none))::r) (dc ks cell a4 (some (.str key)) a6) s) Q:=by
 refine zk (qb (vs:=[.ref (53,0),.str key]) rfl (za9 H.mp (n+7) a B.wi hk)) rfl ?_;show OkR (exs P (run P (n+8)) (n+8) _ (dc ks cell a4 (some (.str key)) (some (jp W key))) s) Q;rcases zi8 B.wi hk with ⟨h,-⟩|⟨b,row,h1,h2,h3⟩
 .rw[h];exact zl (t:=true) (s':=s) (xt (g:=false) (t:=true) (v:=.none) rfl (Zb rfl)) (zv (v:=.bool true) (s':=s) (qb (vs:=[.ref (1,0),.str key]) rfl (hN h)) (k _ _ (stq A a B.wi (by lia) (by lia) (.refl _ _))))
 .rw[h1];refine zl (t:=false) (s':=s) (xt (g:=false) (t:=false) (v:=.int (hn b)) rfl (Zc nofun)) (ze ?_);refine qo (z7 (zhh H.mp.own (n+6) (a.oo.at_ b) (B.z b) h2)) λv s1 e1 eq3 o1 f1=>?_;subst eq3;have a1:=a.deed o1 f1;have A1:=A.step (gc (rj (zeu f1)));refine qj (qb (vs:=[.ref (51,hx b),.str key]) (zg (zbs a (b:=b) rfl rfl) (zg (v:=.str key) rfl rfl)) e1) ?_;refine zr H.dp.mov λxc g1=>?_;refine zr H.dp.hmo λyc g2=>?_;refine qo (z7 (zlx H.wp H.hp g2 H.dp.hom H.dp.w24 H.dp.h5 g1 (n+4) A1 hk b h1 (B.z b) h2 h3)) λv u e eq3 Au fu=>?_;subst eq3;exact zv (v:=.bool true) (s':=u) (zbt (zy (x:=.ref (1,0)) (vs:=[.str key]) (s1:=s1) (s2:=s1) rfl ((zj A1.o).trans H.dp.w5) rfl e)) (k _ _ (stq Au (a1.nwp fu) (B.wi.move h2) (by lia) (by lia) ((aq (rj (zeu f1))).trans (i6 fu))))
theorem zh7(n:Nat)(A:WAt s ks W x)(a:MAt s W z p)(B:Bd ks nc τ m W)(b:Bool)(k:∀L t,StQ ks nc τ m s (.bool true) t->Q (.ret (.bool true),L) t):
  OkR (exs P (run P (n+8)) (n+8) (.expr (.call 121 [.loc 1,.loc 4])::.ret (some (.isC false (.meth (.loc 0) 6 [.loc 4]) .none))::r) (dc ks cell (some (.int (hn b))) a5 a6) s) Q:=by
 refine qo (z7 (bj H.mp (n+6) a B b)) λv s1 e1 eq3 nq4 f1=>?_;subst eq3;obtain⟨z1,a1⟩:=nq4;have A1:=A.step (gc f1);refine qj (qb (vs:=[.ref (53,0),.int (hn b)]) rfl e1) ?_;refine qo (z7 (zej H.wp H.hp H.dp (n+3) A1 B b)) λv u e eq3 nq4 fu=>?_;subst eq3;obtain⟨x2,Au⟩:=nq4;exact zv (v:=.bool true) (s':=u) (zbt (zy (x:=.ref (1,0)) (vs:=[.int (hn b)]) (s1:=s1) (s2:=s1) rfl ((zj A1.o).trans H.dp.w6) rfl e)) (k _ _ (stq Au (a1.nwp fu) (B.wi.write b) (by lia) (by lia) ((aq f1).trans (i6 fu))))
theorem zh6(n:Nat)(A:WAt s ks W x)(a:MAt s W z p)(B:Bd ks nc τ m W)(b:Bool)(k:∀L t,StQ ks nc τ m s (.bool true) t->Q (.ret (.bool true),L) t):
  OkR (exs P (run P (n+8)) (n+8) (.expr (.call 112 [.sub (.sub (.loc 1) (.str kH)) (.loc 4)])::.ret (some (.isC false (.meth (.loc 0) 7 [.loc 4]) .none))::r) (dc ks cell (some (.int (hn b))) a5 a6) s) Q:=by
 refine qo (z7 (zhi H.mp.own (n+7) (a.oo.at_ b) (B.z b))) λv s1 e1 eq3 o1 f1=>?_;subst eq3;have ob:=a.oo.at_ (!b);have a1:=a.houses f1 (λl ξ nq q=>nq (zps q)) (a.oo.anew o1 f1 ⟨Qm ob.ik,(a.oo.ap b).2.1,Qm ob.il,Qm ob.ir⟩);have A1:=A.step (gc (zpa f1));refine qj (qb (vs:=[.ref (51,hx b)]) (zg (zbs a (b:=b) rfl rfl) rfl) e1) ?_;refine qo (z7 (zhs H.wp H.hp H.dp.hsl H.dp.h7 H.dp.sle (n+5) A1 b (B.z b))) λv u e eq3 nq4 fu=>?_;subst eq3;obtain⟨x2,Au⟩:=nq4;exact zv (v:=.bool true) (s':=u) (zbt (zy (x:=.ref (1,0)) (vs:=[.int (hn b)]) (s1:=s1) (s2:=s1) rfl ((zj A1.o).trans H.dp.w7) rfl e)) (k _ _ (stq Au (a1.nwp fu) (B.wi.sleep b) (by lia) (by lia) ((aq (zpa f1)).trans (i6 fu))))
theorem zh5(n:Nat)(A:WAt s ks W x)(a:MAt s W z p)(B:Bd ks nc τ m W)(b:Bool)(k:∀L t,StQ ks nc τ m s (.bool true) t->Q (.ret (.bool true),L) t):
  OkR (exs P (run P (n+8)) (n+8) (.expr (.bm .extend (.sub (.loc 1) (.str kP)) [.call 113 [.sub (.sub (.loc 1) (.str kH)) (.loc 4),.loc 2]])::.ret (some (.isC false (.meth (.loc 0) 8 [.loc 4]) .none))::r) (dc ks cell (some (.int (hn b))) a5 a6) s) Q:=by
 have e1:=cj H.mp.own (n+6) (a.oo.at_ b) (B.z b) (by rw[(B.wi.hi b).hw];exact B.K.nd) (B.wi.hi b).hw;have a1:=a.setPost (W.post++(W.h b).nudge);rw[Qb]at a1;have f1:Fr MF s (s.put (50,p) (.list (W.post.map zu++(W.h b).nudge.map zu))):=(Fr.refl _ _).put (zg2 p) _;refine qj (v:=.none) (v6 (x:=.ref (50,p)) (vs:=[.lst ((W.h b).nudge.map zu)]) (s1:=s) (s2:=s) (jk a.o rfl rfl) (qy a.po) (zg (qb (vs:=[.ref (51,hx b),.lst (ks.map .str)]) (zg (zbs a (b:=b) rfl rfl) (zg (v:=.lst (ks.map .str)) rfl rfl)) e1) rfl) (b4 s (50,p) _ a.po rfl (by rw[Zd,Zd];exact Zp (Nat.add_le_add (Qn B.room) (Zp (B.wi.hi b).nudge.2 B.K.six)) (by decide)))) ?_;generalize s.put (50,p) (.list (W.post.map zu++(W.h b).nudge.map zu))=s1 at a1 f1;have A1:=A.step (gc f1);refine jj (zei H.wp H.hp H.dp (n+3) A1 B b) λu e Au fu=>?_;exact zv (v:=.bool true) (s':=u) (zbt (zy (x:=.ref (1,0)) (vs:=[.int (hn b)]) (s1:=s1) (s2:=s1) rfl ((zj A1.o).trans H.dp.w8) rfl e)) (k _ _ (stq Au (a1.nwp fu) (B.wi.nudge b B.K.nd B.K.six) (by lia) (by lia) ((aq f1).trans (i6 fu))))
theorem zqm(hf:P.fns 117=some fl_step)(n:Nat)(A:WAt s ks W x)(a:MAt s W z p)(B:Bd ks nc τ m W)(h1:0<W.nc)(ht:τ+48<3000000)(hm:m+(2*τ+72)<3000000)(cell:Int)(hR:run P (n+8) 127 [.ref (1,0),.ref (53,0),.lst (ks.map .str),.int cell] s=.ok (.bool true) s)(hN:∀key,key∈ks->jp W key=.none->run P (n+8) 128 [.ref (1,0),.str key] s=.ok (.bool true) s):
  OkR (run P (n+9) 117 [.ref (1,0),.ref (53,0),.lst (ks.map .str),.int cell] s) (StQ ks nc τ m s):=by
 refine zm hf rfl ?_;refine zk (v:=.int ((cell.fdiv 18).fmod 2)) (s':=s) rfl rfl ?_;rw[zaj (cell.fdiv 18)];generalize decide ((cell.fdiv 18).fmod 2=1)=b;show OkR (exs P (run P (n+8)) (n+8) _ (dc ks cell (some (.int (hn b))) none none) s) _;have er:ev P (run P (n+8)) (.and [.cmp (.bin .mod (.bin .fdiv (.loc 3) (.int 36)) (.int 5)) .eq (.int 4),.not (.call 127 [.loc 0,.loc 1,.loc 2,.loc 3])]) (dc ks cell (some (.int (hn b))) none none) s=.ok (.bool false) s:=by
  have e0:ev P (run P (n+8)) (.cmp (.bin .mod (.bin .fdiv (.loc 3) (.int 36)) (.int 5)) .eq (.int 4)) (dc ks cell (some (.int (hn b))) none none) s=.ok (.bool (decide ((cell.fdiv 36).fmod 5=4))) s:=rfl;generalize decide ((cell.fdiv 36).fmod 5=4)=q at e0;cases q with
  |false=>exact ug e0
  |true=>exact ke e0 (vf (ve (t:=true) (qb (vs:=[.ref (1,0),.ref (53,0),.lst (ks.map .str),.int cell]) rfl hR)))
 refine zl (t:=false) er (ze ?_);have el:∀(k:Int),ev P (run P (n+8)) (.cmp (.bin .mod (.loc 3) (.int 18)) .lt (.int k)) (dc ks cell (some (.int (hn b))) none none) s=.ok (.bool (decide (cell.fmod 18<k))) s:=λξ=>rfl;have ee:∀(k:Int),ev P (run P (n+8)) (.cmp (.bin .mod (.loc 3) (.int 18)) .eq (.int k)) (dc ks cell (some (.int (hn b))) none none) s=.ok (.bool (decide (cell.fmod 18=k))) s:=λξ=>rfl;have hE:∀{r:Xd S}{Q:V->MS->Prop}{e:E},OkR (ev P (run P (n+8)) e (dc ks cell (some (.int (hn b))) none none) s) Q->OkR (exs P (run P (n+8)) (n+8) [.ret (some e)] (dc ks cell (some (.int (hn b))) none none) s) (i4 P (run P (n+8)) (n+8) r λp t=>Q (flV p.1) t):=λh=>by
  refine zf (z7 h) λv t e q=>?_;exact zv e q
 by_cases c4:cell.fmod 18<4
 .have e:=el 4;rw[Zb c4]at e;exact zl (t:=true) e (hE (w4 (vs:=[.ref (1,0),.ref (53,0),.lst (ks.map .str),.int cell]) rfl (zhm H (n+3) A a B h1 cell)))
 have e:=el 4;rw[Zc c4]at e;refine zl (t:=false) e (ze ?_);by_cases c10:cell.fmod 18<10
 .have e:=el 10;rw[Zb c10]at e;exact zl (t:=true) e (hE (w4 (vs:=[.ref (1,0),.ref (53,0),.int cell]) rfl (zcp H (n+2) A a B (Jg.1 c4) c10)))
 have e:=el 10;rw[Zc c10]at e;refine zl (t:=false) e (ze ?_);by_cases c12:cell.fmod 18<12
 .have e:=el 12;rw[Zb c12]at e;refine zd (zjd (P:=P) B.K (cell.fdiv 18)) λkey hk ek=>?_;exact zl (t:=true) e (zk (v:=.str key) (s':=s) (ek (e:=.bin .fdiv (.loc 3) (.int 18)) rfl rfl) rfl (zmp H n A a B hk (hN key hk) λL t q=>q))
 have e:=el 12;rw[Zc c12]at e;refine zl (t:=false) e (ze ?_);by_cases c15:cell.fmod 18<15
 .have e:=el 15;rw[Zb c15]at e;exact zl (t:=true) e (zh7 H n A a B b λL t q=>q)
 have e:=el 15;rw[Zc c15]at e;refine zl (t:=false) e (ze ?_);by_cases d15:cell.fmod 18=15
 .have e:=ee 15;rw[Zb d15]at e;exact zl (t:=true) e (zh6 H n A a B b λL t q=>q)
 have e:=ee 15;rw[Zc d15]at e;refine zl (t:=false) e (ze ?_);by_cases d16:cell.fmod 18=16
 .have e:=ee 16;rw[Zb d16]at e;exact zl (t:=true) e (zh5 H n A a B b λL t q=>q)
 have e:=ee 16;rw[Zc d16]at e;refine zl (t:=false) e (ze ?_);refine zf (z7 (zfv H n A a B ht hm (cell:=cell) (a4:=some (.int (hn b))) (a5:=none) (a6:=none))) λv t e q=>?_;exact zv e q
end
end Internal
end
section
namespace Internal
noncomputable def fl_told:Fn:=⟨2,["_law_world","_law_callers","_law_found",""],[.assign 2 (.lst [.meth (.loc 0) 19 [],.meth (.loc 0) 25 [],.meth (.loc 0) 1 [.int 0],.meth (.loc 0) 1 [.int 1]]),.ret (some (.bin .add (.loc 2) (.comp none 3 true (.loc 1) none (.meth (.loc 0) 12 [.loc 3]))))]⟩
noncomputable def fl_due:Fn:=⟨2,["_law_own","_law_keys_here","_law_due_here",""],[.assign 2 (.lst [.listM 68 (.sub (.loc 0) (.str [112,111,115,116])),.listM 68 (.sub (.loc 0) (.str [108,101,100,103,101,114])),.call 123 [.loc 0,.int 0,.loc 1],.call 123 [.loc 0,.int 1,.loc 1]]),.ret (some (.bin .add (.loc 2) (.comp none 3 false (.sub (.loc 0) (.str [99,97,108,108,101,114,115])) none (.listM 68 (.sub (.loc 3) (.str [99,108,111,115,101,100]))))))]⟩
noncomputable def fl_stands:Fn:=⟨3,["_law_world","_law_own","_law_keys_here","_law_key","_law_home_here","_law_caller"],[.for_ (.inl (.loc 3)) false (.loc 2) [.assign 4 (.call 122 [.loc 1,.loc 3]),.ite (.or [.cmp (.meth (.loc 0) 24 [.loc 3]) .ne (.loc 4),.cmp (.meth (.loc 0) 0 [.int 0,.loc 3]) .ne (.cmp (.loc 4) .eq (.int 0)),.cmp (.meth (.loc 0) 0 [.int 1,.loc 3]) .ne (.cmp (.loc 4) .eq (.int 1))]) [.ret (some (.bool false))] []],.for_ (.inl (.loc 5)) true (.prim .len [.sub (.loc 1) (.str [99,97,108,108,101,114,115])]) [.ite (.cmp (.meth (.loc 0) 11 [.loc 5]) .ne (.sub (.sub (.sub (.loc 1) (.str [99,97,108,108,101,114,115])) (.loc 5)) (.str [97,115,107,101,100]))) [.ret (some (.bool false))] []],.ret (some (.bool true))]⟩
noncomputable def oz(k:Nat):Prop:=11<=k/\k<=14\/k=57\/k=68
noncomputable abbrev Pr:=Lbl×Xd V
noncomputable def jn(p:Pr):V:=.ref p.1
structure PLs(t:MS)(ps:Xd Pr):Prop where
 h:∀p∈ps,t.heap p.1=some (.list p.2)/\p.1.2<t.cnt p.1.1/\oz p.1.1
 nd:(ps.map (·.1)).Nodup
section
variable {P:Prog}{s t:MS}{ps qs:Xd Pr}{W:WS}{x:Bool->HIx}{z:Bool->HIx}{p:Nat}{ks:Xd Key}{nc τ m:Nat}{key:Key}
theorem PLs.step{F:Lbl->Prop}(a:PLs s ps)(f:Fr F s t)(g:∀l:Lbl,oz l.1->¬F l):PLs t ps :=
 ⟨λp hp=>let ⟨h1,h2,h3⟩:=a.h p hp;⟨(f.1 p.1 h2 (g _ h3)).trans h1,Zi h2 (f.2 _),h3⟩,a.nd⟩
theorem PLs.nil(a:PLs s ps)(f:Fr Nil s t):PLs t ps:=a.step f λξ ξ q=>q
theorem PLs.sub(a:PLs s (ps++qs)):PLs s ps/\PLs s qs:=by
 have nd:=a.nd;rw[Qb]at nd;exact⟨⟨λp hp=>a.h p (Z6 _ hp),(Qt.1 nd).1⟩,⟨λp hp=>a.h p (Qa _ hp),(Qt.1 nd).2.1⟩⟩
theorem PLs.swap(a:PLs s (ps++qs)):PLs s (qs++ps):=⟨λp hp=>a.h p (Zt.2 (Zt.1 hp).symm),by
 have nd:=a.nd;rw[Qb]at nd ⊢;refine xg (Qt.1 nd) λh1 h2 h3=>?_;exact Qt.2 ⟨h2,h1,λa ha b hb e=>h3 b hb a ha e.symm⟩⟩
variable{k:Nat}
theorem PLs.new(a:PLs s ps)(hk:oz k)(l:Xd V):PLs (s.new k (.list l)) (ps++[((k,s.cnt k),l)]):=by
 have f:Fr Nil s (s.new k (.list l)):=(Fr.refl _ _).new _ _;refine⟨lr (a.nil f).h ⟨zt _ _ _,by rw[mz];exact Zy _,hk⟩,?_⟩;rw[Qb];refine Qt.2 ⟨a.nd,Qu.2 ⟨λq=>(nomatch q),Qv⟩,λu hu v hv e=>?_⟩;refine zd (Z1.1 hu) λp hp eq2=>?_;subst eq2;cases Zq.1 hv;have h2:=(a.h p hp).2.1;rw[e]at h2;exact Nat.lt_irrefl _ h2
theorem zay{α:Type}{s₀:MS}{range:Bool}{src:V}{slot:Nat}{elt:Loc->MS->Res V}{l:Loc}{Q:Xd V->MS->Prop}(f:α->V)(I:Xd α->Xd V->MS->Prop)(hc:∀x r acc s,I (x::r) acc s->stays s₀ s range src=true/\acc.length<zi/\OkR (elt (l.set slot (some (f x))) s) λv t=>I r (acc++[v]) t)(hn:∀acc s,I [] acc s->stays s₀ s range src=true/\Q acc s):∀(xs:Xd α)(acc:Xd V)(s:MS),I xs acc s->OkR (compLoop s₀ range src slot none elt l acc (xs.map f) s) Q
 | [],acc,s,h=>by
  refine zn (hn acc s h) λh1 h2=>?_;rw[List.map_nil,u0,Zg h1];exact h2
 |x::r,acc,s,h=>by
  refine xg (hc x r acc s h) λh1 h2 h3=>?_;refine zf (z7 h3) λv t e q=>?_;rw[Zz,uf,Zg h1];show OkR (Res.bind (elt (l.set slot (some (f x))) s) _) Q;rw[e];show OkR (if acc.length<zi then _ else _) Q;rw[Zg h2];exact zay f I hc hn r _ t q
noncomputable def zf9(W:WS)(i:Nat):Xd V:=(W.c i).closed.map ue
noncomputable def zo8(W:WS):Xd (Xd V):=[W.post.map zu,W.rows.map xl,(W.h false).owes.map .str,(W.h true).owes.map .str]
noncomputable def p8(W:WS):Xd (Xd V):=zo8 W++(Xr W.nc).map (zf9 W)
noncomputable def AnsI(W:WS)(s:MS)(qs ps:Xd Pr)(r:Xd Nat)(acc:Xd V)(t:MS):Prop:=∃d us,Xr W.nc=d++r/\acc=us.map jn/\us.map (·.2)=d.map (zf9 W)/\PLs t (qs++ps++us)/\Fr Nil s t
variable{acc:Xd V}
theorem AnsI.turn{i:Nat}{r:Xd Nat}(h:AnsI W s qs ps (i::r) acc t)(h6:W.nc<=6)(hk:oz k):i<W.nc/\acc.length<zi/\Fr Nil s t/\AnsI W s qs ps r (acc++[.ref (k,t.cnt k)]) (t.new k (.list (zf9 W i))):=by
 refine wz h λd us e eq3 e2 pl f=>?_;subst eq3;have hi:i∈Xr W.nc:=by rw[e];exact Qa _ (Zm ..)
 have hl:=Qd List.length e;have hl2:=Qd List.length e2;rw[Zx,Zf,Z4]at hl;rw[Zd,Zd]at hl2;have hn:us.length<zi:=Zi (show us.length<7 by lia) (by decide);refine⟨Qj.1 hi,by rw[Zd];exact hn,f,d++[i],us++[((k,t.cnt k),zf9 W i)],by rw[e,Z3];rfl,by rw[Qb];rfl,by rw[Qb,Qb,e2];rfl,?_,f.new _ _⟩;have:=pl.new hk (zf9 W i);rw[Z3]at this;exact this
theorem AnsI.fin(h:AnsI W s qs ps [] acc t)(e0:ps.map (·.2)=zo8 W):∃us,acc=us.map jn/\(ps++us).map (·.2)=p8 W/\PLs t (qs++(ps++us))/\Fr Nil s t:=by
 refine wz h λd us e e1 e2 pl f=>?_;rw[Z0]at e;exact⟨us,e1,by rw[Qb,e0,e2,<- e];rfl,by rw[<- Z3];exact pl,f⟩
theorem zew{C:Calls}{l:Loc}:∀(es:Xd (E×Nat×Xd V)) (qs:Xd Pr) (t:MS),(∀q∈es,oz q.2.1/\∀u,Fr Nil s u->ev P C q.1 l u=.ok (.ref (q.2.1,u.cnt q.2.1)) (u.new q.2.1 (.list q.2.2)))->Fr Nil s t->PLs t qs->∃us u,evL P C (es.map (·.1)) l t=.ok (us.map jn) u/\us.map (·.2)=es.map (·.2.2)/\PLs u (qs++us)/\Fr Nil s u
 | [],qs,t,_,f,pl=>⟨[],t,rfl,rfl,by rw[Z0];exact pl,f⟩
 |q::es,qs,t,h,f,pl=>by
  refine zn (h q (Zm ..)) λhk he=>?_;refine qo (zew es _ (t.new q.2.1 (.list q.2.2)) (λx hx=>h x (Zk _ hx)) (f.new _ _) (pl.new hk _)) λus u e e2 pl2 f2=>?_;rw[Z3]at pl2;exact⟨((q.2.1,t.cnt q.2.1),q.2.2)::us,u,zg (he t f) e,Qd (q.2.2::·) e2,pl2,f2⟩
theorem zxd{α:Type}{R:α->Prop}{a b c d:α}(h1:R a)(h2:R b)(h3:R c)(h4:R d):∀x∈[a,b,c,d],R x:=λx h=>by
 rcases Zu.1 h with rfl|h
 .exact h1
 .rcases Zu.1 h with rfl|h
  .exact h2
  .rcases Zu.1 h with rfl|h
   .exact h3
   .rw[Zq.1 h];exact h4
theorem zx9{C:Calls}{n:Nat}{a0 a1:V}{es:Xd (E×Nat×Xd V)}{a e:E}{range:Bool}{src:V}{f:Nat->V}(h6:W.nc<=6)(hk:oz k)(he:es.map (·.2.2)=zo8 W)(h1:∀q∈es,oz q.2.1/\∀u,Fr Nil s u->ev P C q.1 [some a0,some a1,none,none] u=.ok (.ref (q.2.1,u.cnt q.2.1)) (u.new q.2.1 (.list q.2.2)))(h2:∀(v:V) u,Fr Nil s u->ev P C a [some a0,some a1,some v,none] u=.ok src u)(hs:∀t u,stays t u range src=true)(hi:∀t,z8 t range src=some ((Xr W.nc).map f))(h3:∀(v:V) i u,i<W.nc->Fr Nil s u->ev P C e [some a0,some a1,some v,some (f i)] u=.ok (.ref (k,u.cnt k)) (u.new k (.list (zf9 W i))))(pl:PLs s qs):
  OkR (exs P C n [.assign 2 (.lst (es.map (·.1))),.ret (some (.bin .add (.loc 2) (.comp none 3 range a none e)))] [some a0,some a1,none,none] s) λp t=>∃ps,flV p.1=.lst (ps.map jn)/\ps.map (·.2)=p8 W/\PLs t (qs++ps)/\Fr Nil s t:=by
 refine qo (zew es qs s h1 (.refl _ _) pl) λps u e1 e2 p1 f1=>?_;have e0:=e2.trans he;have l0:ps.length=4:=by
  have:=Qd List.length e0;rw[Zd]at this;exact this
 refine zk (v:=.lst (ps.map jn)) (s':=u) (zix e1 (by rw[Zd,l0];rfl)) rfl ?_;show OkR (exs P C n _ [some a0,some a1,some (.lst (ps.map jn)),none] u) _;have hC:OkR (ev P C (.comp none 3 range a none e) [some a0,some a1,some (.lst (ps.map jn)),none] u) λv t=>∃us,v=.lst (us.map jn)/\(ps++us).map (·.2)=p8 W/\PLs t (qs++(ps++us))/\Fr Nil u t:=by
  refine zbr (s1:=u) (h2 _ u f1) (hi u) (zay f (AnsI W u qs ps) (λi r acc t h=>?_) (λacc t h=>⟨hs _ _,?_⟩) (Xr W.nc) [] u ⟨[],[],rfl,rfl,rfl,by rw[Z0];exact p1,.refl _ _⟩)
  .refine zjy (h.turn h6 hk) λh4 hlen f2 h'=>?_;exact⟨hs _ _,hlen,bc (h3 _ i t h4 (f1.trans f2)) h'⟩
  .refine zu8 (h.fin e0) λus e1 e2 h2 h3=>?_;exact⟨us,by rw[e1],e2,h2,h3⟩
 obtain⟨v,t,ec,us,rfl,g1,g2,g3⟩:=z7 hC;refine zv (v:=.lst ((ps++us).map jn)) (s':=t) (kb (x:=.lst (ps.map jn)) (y:=.lst (us.map jn)) (s1:=u) (s2:=t) rfl ec ?_) ⟨ps++us,rfl,g1,g2,f1.trans g3⟩;rw[Qb];have hl:=Qd List.length g1;rw[Zd,Zf,p8,Zf,Zd,Zx]at hl;exact zil _ _ _ (by rw[Zd,Zd,hl];exact Zp (Qh h6 _) (by show 4+6<=16777216;decide))
variable (H:LP11 P)
include H
theorem zqn(hf:P.fns 129=some fl_told)(hl:P.fns 47=some f_World_letters)(hle:P.fns 58=some f_World_ledger)(how:P.fns 61=some f_World_owes)(hca:P.fns 15=some f_Caller_answers)(han:P.fns 60=some f_World_answers)(m25:P.meths 0 25=some 58)(m1:P.meths 0 1=some 61)(m12:P.meths 0 12=some 60)(c12:P.meths 2 12=some 15)(n:Nat)(A:WAt s ks W x)(B:Bd ks nc τ m W)(pl:PLs s qs):OkR (run P (n+4) 129 [.ref (1,0),.int nc] s) λv t=>∃ps,v=.lst (ps.map jn)/\ps.map (·.2)=p8 W/\PLs t (qs++ps)/\Fr Nil s t:=by
 have hnc:=B.wi.nc_;have o:∀k,11<=k->k<=14->oz k:=λk a b=>.inl ⟨a,b⟩;have ow:∀b u,Fr Nil s u->ev P (run P (n+3)) (.meth (.loc 0) 1 [.int (hn b)]) [some (.ref (1,0)),some (.int nc),none,none] u=.ok (.ref (14,u.cnt 14)) (u.new 14 (.list ((W.h b).owes.map .str))):=λb u f=>zy (x:=.ref (1,0)) (vs:=[.int (hn b)]) (s1:=u) (s2:=u) rfl ((zj (A.step f.nw).o).trans m1) rfl (zly H.wp H.hp H.sp.owe how n (A.step f.nw) b (B.z b) (B.nd b));exact zm hf rfl (zx9 (es:=[(.meth (.loc 0) 19 [],11,W.post.map zu),(.meth (.loc 0) 25 [],12,W.rows.map xl),(.meth (.loc 0) 1 [.int (hn false)],14,(W.h false).owes.map .str),(.meth (.loc 0) 1 [.int (hn true)],14,(W.h true).owes.map .str)]) (src:=.int nc) (f:=λi=>.int i) (k:=13) (hnc▸B.h6) (o 13 (by decide) (by decide)) rfl
  (zxd ⟨o 11 (by decide) (by decide),λu f=>zy (x:=.ref (1,0)) (vs:=[]) (s1:=u) (s2:=u) rfl ((zj (A.step f.nw).o).trans H.dp.w19) rfl (zcr H.wp hl (n+2) (A.step f.nw))⟩ ⟨o 12 (by decide) (by decide),λu f=>zy (x:=.ref (1,0)) (vs:=[]) (s1:=u) (s2:=u) rfl ((zj (A.step f.nw).o).trans m25) rfl (zfj H.wp hle (n+2) (A.step f.nw))⟩ ⟨o 14 (by decide) (by decide),ow false⟩ ⟨o 14 (by decide) (by decide),ow true⟩)
  (λξ ξ ξ=>rfl) (λξ ξ=>rfl) (λt=>(jt t nc (Qi nc) (Qw.2 (Zp B.h6 (by decide)))).trans (by rw[Qy,hnc])) (λv i u hi f=>zy (x:=.ref (1,0)) (vs:=[.int i]) (s1:=u) (s2:=u) rfl ((zj (A.step f.nw).o).trans m12) rfl (zcq H.wp hca c12 han n (A.step f.nw) hi)) pl)
theorem zfa(hf:P.fns 130=some fl_due)(n:Nat)(a:MAt s W z p)(B:Bd ks nc τ m W)(pl:PLs s qs):OkR (run P (n+2) 130 [.ref (53,0),.lst (ks.map .str)] s) λv t=>∃ps,v=.lst (ps.map jn)/\ps.map (·.2)=p8 W/\PLs t (qs++ps)/\Fr Nil s t:=by
 have ow:∀b u,Fr Nil s u->ev P (run P (n+1)) (.call 123 [.loc 0,.int (hn b),.loc 1]) [some (.ref (53,0)),some (.lst (ks.map .str)),none,none] u=.ok (.ref (57,u.cnt 57)) (u.new 57 (.list ((W.h b).owes.map .str))):=λb u f=>qb (vs:=[.ref (53,0),.int (hn b),.lst (ks.map .str)]) rfl (dv H.mp n (a.nil f) B b);exact zm hf rfl (zx9 (es:=[(.listM 68 (.sub (.loc 0) (.str kP)),68,W.post.map zu),(.listM 68 (.sub (.loc 0) (.str kL)),68,W.rows.map xl),(.call 123 [.loc 0,.int (hn false),.loc 1],57,(W.h false).owes.map .str),(.call 123 [.loc 0,.int (hn true),.loc 1],57,(W.h true).owes.map .str)]) (src:=.lst (mcs W.nc)) (f:=λi=>.ref (52,i)) (k:=68) (B.wi.nc_▸B.h6) (.inr (.inr rfl)) rfl
  (zxd ⟨.inr (.inr rfl),λu f=>pb (jk (a.nil f).o rfl rfl) (jh (a.nil f).po)⟩ ⟨.inr (.inr rfl),λu f=>pb (jk (a.nil f).o rfl rfl) (jh (a.nil f).ro)⟩ ⟨.inr (.inl rfl),ow false⟩ ⟨.inr (.inl rfl),ow true⟩)
  (λξ u f=>jk (a.nil f).o rfl rfl) (λξ ξ=>rfl) (λξ=>rfl) (λv i u hi f=>pb (x:=.ref (67,i)) (s1:=u) (jk ((a.nil f).co i hi) rfl rfl) (jh ((a.nil f).cl i hi))) pl)
omit H
theorem zc{f:V->V->Xc Bool}{x y:V}{la lb:Xd V}{p q:Bool}(h1:f x y=some p)(h2:xj f la lb=some q):xj f (x::la) (y::lb)=some (p&&q):=by
 show(match f x y,xj f la lb with|some p,some q=>some (p&&q)|_,_=>none)=_;rw[h1,h2]
theorem zj0{f:V->V->Xc Bool}{R:V->V->Prop}(h:∀x y,R x y->f x y=some true):∀{la lb:Xd V},AllA R la lb->xj f la lb=some true
 | [],[],_=>rfl
 |x::la,y::lb,a=>zc (p:=true) (q:=true) (h x y a.1) (zj0 h (la:=la) (lb:=lb) a.2)
 | [],_::_,a=>a.elim
 |_::_,[],a=>a.elim
variable{a b:V}
theorem zec(d:Nat)(h:(∃x,a=.int x/\b=.int x)\/(∃x,a=.str x/\b=.str x)):veq s (d+1) a b=some true:=by
 rcases h with ⟨x,rfl,rfl⟩|⟨x,rfl,rfl⟩
 .exact Qd some (Zb rfl)
 .exact Qd some (Zb rfl)
theorem i7:∀(d:Nat)(a b:V),kh s d a b->veq s (d+1) a b=some true
 |0,a,b,h=>zec 0 h
 |d+1,a,b,h=>by
  rcases h with h|⟨k,la,lb,ha,hb,-,h⟩
  .exact zec (d+1) h
  .show(match z4 s a,z4 s b with|some p,some q=>if p.1=q.1 then (if p.1=true/\p.2.length≠q.2.length then some false else xj (veq s (d+1)) p.2 q.2) else some false|some _,none=>vh b|none,some _=>vh a|none,none=>fy a b)=_;rw[ha,hb];show(if k=k then (if k=true/\la.length≠lb.length then some false else xj (veq s (d+1)) la lb) else some false)=_;rw[Zg rfl,Zh λq=>q.2 h.len];exact zj0 (i7 d) h
theorem o8(h:kh s 11 a b):cmpOp .ne a b s=.ok (.bool false) s:=by
 show okB s ((veq s 12 a b).map (!·))=_;rw[i7 11 a b h];rfl
noncomputable def zm2(c:Xd V):Prop:=c.length<16777216/\∀x∈c,∀t:MS,kh t 9 x x
theorem PLs.all:∀{ps qs:Xd Pr},(∀p∈ps,s.heap p.1=some (.list p.2))->(∀p∈qs,s.heap p.1=some (.list p.2))->ps.map (·.2)=qs.map (·.2)->(∀p∈ps,zm2 p.2)->AllA (kh s 10) (ps.map jn) (qs.map jn)
 | [],[],_,_,_,_=>trivial
 |p::ps,q::qs,h1,h2,e,ok=>by
  obtain⟨e1,e2⟩:=Jd e;obtain⟨o1,o2⟩:=ok p (Zm ..);refine⟨zf8 (h1 p (Zm ..)) ((h2 q (Zm ..)).trans (Qd (λl=>some (MObj.list l)) (show q.2=p.2 from e1.symm))) (Qn o1) ?_,PLs.all (ps:=ps) (qs:=qs) (λx hx=>h1 x (Zk _ hx)) (λx hx=>h2 x (Zk _ hx)) e2 λx hx=>ok x (Zk _ hx)⟩;have:=AllA.map (R:=kh s 9) (f:=id) (g:=id) p.2 λx hx=>o2 x hx s;rw[Q1]at this;exact this
 | [],_::_,_,_,e,_=>nomatch e
 |_::_,[],_,_,e,_=>nomatch e
theorem PLs.alike(h1:PLs s ps)(h2:PLs s qs)(e:ps.map (·.2)=qs.map (·.2))(ok:∀p∈ps,zm2 p.2)(hl:ps.length<=16777216):kh s 11 (.lst (ps.map jn)) (.lst (qs.map jn)) :=
 .inr ⟨true,_,_,rfl,rfl,by rw[Zd];exact hl,PLs.all (λp hp=>(h1.h p hp).1) (λp hp=>(h2.h p hp).1) e ok⟩
theorem zwc{β:Nat->Int}{L:Letter}(h6:nc<=6)(h:LetOk ks nc β L):LMk L:=by
 cases L with
 |call=>refine xg h λξ nq1 ξ=>?_;obtain⟨i,hi,rfl,-⟩:=nq1;exact⟨Qi i,Qx.2 (Zi hi h6)⟩
 |parcel=>exact h.2.2.1
 |taken=>exact trivial
 |answer=>exact trivial
theorem zg0(B:Bd ks nc τ m W):∀c∈p8 W,c.length<16777215/\∀x∈c,∀t:MS,kh t 9 x x:=λc hc=>by
 have w:=B.wi;have hb:=B.len;have row:W.rows.length<16777215:=Z7 (Qr _ _) (Qe (hb false).2 (by decide));have ow:∀b,((W.h b).owes.map V.str).length<16777215/\∀x∈(W.h b).owes.map V.str,∀t:MS,kh t 9 x x:=λb=>⟨Z7 (rz B b) (by decide),λx hx t=>by
  refine zd (Z1.1 hx) λk ξ eq2=>?_;subst eq2;exact jl _ _⟩
 rcases Zt.1 hc with hc|hc
 .rcases Zu.1 hc with rfl|hc
  .exact⟨by rw[Zd];exact Qe B.room (by decide),λx hx t=>by
    refine zd (Z1.1 hx) λL hL eq2=>?_;subst eq2;exact zj5 6 L (zwc B.h6 (w.po L hL))⟩
  .rcases Zu.1 hc with rfl|hc
   .exact⟨by rw[Zd];exact row,λx hx t=>by
     refine zd (Z1.1 hx) λr ξ eq2=>?_;subst eq2;exact zf7 7 r⟩
   .rcases Zu.1 hc with rfl|hc
    .exact ow false
    .rw[Zq.1 hc];exact ow true
 .refine zd (Z1.1 hc) λi hi eq2=>?_;subst eq2;exact⟨by rw[zf9,Zd];exact Z7 (w.co i (w.nc_▸Qj.1 hi)).2.2 (Qe B.m (by decide)),λx hx t=>by
   refine zd (Z1.1 hx) λr ξ eq2=>?_;subst eq2;exact j8 (by show 2<=16777216;decide) ⟨qm _ _,qm _ _,trivial⟩⟩
end
end Internal
end
section
namespace Internal
section
variable {P:Prog}{s t:MS}{ps qs:Xd Pr}{W:WS}{x:Bool->HIx}{z:Bool->HIx}{p:Nat}{ks:Xd Key}{nc τ m:Nat}{key:Key}
noncomputable abbrev rn:V:=.str [109,111,114,101]
noncomputable def fq(p:Pr):Pr:=(p.1,p.2++[rn])
noncomputable def zr2(l:Lbl):Prop:=oz l.1
theorem zld{α:Type}{a b:Xd α}{x:α}(h:(a++x::b).Nodup):x ∉ a/\x ∉ b:=by
 refine xg (Qt.1 h) λξ h2 h3=>?_;exact⟨λq=>h3 x q x (Zm ..) rfl,(Qu.1 h2).1⟩
theorem zdf(ps:Xd Pr):(ps.map fq).map (·.1)=ps.map (·.1):=by rw[Qg];rfl
theorem PLs.more{d r:Xd Pr}{q:Pr}(a:PLs s (d.map fq++q::r)):PLs (s.put q.1 (.list (q.2++[rn]))) ((d++[q]).map fq++r):=by
 have nd:=a.nd;rw[Qb,Zz]at nd;refine zn (zld nd) λn1 n2=>?_;have oth:∀p∈d.map fq++r,(s.put q.1 (.list (q.2++[rn]))).heap p.1=s.heap p.1:=λp hp=>yd λe=>(Zt.1 hp).elim (λh=>n1 (e▸Z1.2 ⟨p,h,rfl⟩)) λh=>n2 (e▸Z1.2 ⟨p,h,rfl⟩);have hq:=a.h q (Qa _ (Zm ..));have keep:∀p,p∈d.map fq++r->p∈d.map fq++q::r->(s.put q.1 (.list (q.2++[rn]))).heap p.1=some (.list p.2)/\p.1.2<s.cnt p.1.1/\oz p.1.1:=λp h1 h2=>⟨(oth p h1).trans (a.h p h2).1,(a.h p h2).2⟩;refine⟨λp hp=>?_,?_⟩
 .rw[Qb,Z3]at hp;rcases Zt.1 hp with hp|hp
  .exact keep p (Z6 _ hp) (Z6 _ hp)
  .rcases Zu.1 (show p∈fq q::r from hp)with rfl|hp
   .exact⟨zh _ _ _,hq.2⟩
   .exact keep p (Qa _ hp) (Qa _ (Zk _ hp))
 .rw[Qb,zdf,Qb,Z3];rw[zdf]at nd;exact nd
theorem zla{C:Calls}{n:Nat}{r:Xd S}{Q:Fl×Loc->MS->Prop}(L:Xc V->Loc)(hset:∀y v,(L y).set 9 (some v)=L (some v))(h9:∀v t,ev P C (.loc 9) (L (some v)) t=.ok v t)(hlen:∀y,9<(L y).length)(a:PLs s ps)(hf:∀p∈ps,p.2.length<16777216){e:E}{y:Xc V}(he:ev P C e (L y) s=.ok (.lst (ps.map jn)) s)(k:∀y t,PLs t (ps.map fq)->Fr zr2 s t->OkR (exs P C n r (L y) t) Q):OkR (exs P C n (.for_ (.inl (.loc 9)) false e [.expr (.bm .append (.loc 9) [.str [109,111,114,101]])]::r) (L y) s) Q:=by
 refine ka he rfl rfl (xe jn L (λr ξ t=>∃d,ps=d++r/\PLs t (d.map fq++r)/\Fr zr2 s t) (λq r y t h=>⟨rfl,?_⟩) (λy t h=>⟨rfl,?_⟩) ps y s ⟨[],rfl,a,.refl _ _⟩)
 .refine jj h λd e pl f=>?_;have hq:=pl.h q (Qa _ (Zm ..));have ht:uu P C (.inl (.loc 9)) (jn q) (L y) t=.ok (L (some (jn q))) t:=by
   show(if 9<(L y).length then Res.ok ((L y).set 9 (some (jn q))) t else .stuck)=_;rw[Zg (hlen y),hset]
  refine bc ht (qj (v:=.none) (v6 (x:=jn q) (vs:=[rn]) (s1:=t) (s2:=t) (h9 _ t) (qy hq.1) rfl (je t q.1 _ _ hq.1 (hf q (by rw[e];exact Qa _ (Zm ..))))) (zx ⟨_,rfl,d++[q],by rw[e,Z3];rfl,pl.more,f.put (l:=q.1) hq.2.2 _⟩))
 .refine jj h λd e pl f=>?_;rw[Z0]at e pl;subst e;rw[j9];exact k y t pl f
variable{c:Xd V}
theorem zi3(h:c.length<16777215/\∀x∈c,∀t:MS,kh t 9 x x):zm2 c:=⟨Nat.lt_succ_of_lt h.1,h.2⟩
theorem zkp(h:c.length<16777215/\∀x∈c,∀t:MS,kh t 9 x x):zm2 (c++[rn]):=⟨by rw[Zf];exact Nat.succ_lt_succ h.1,λx hx t=>(Zt.1 hx).elim (λq=>h.2 x q t) λq=>by rw[Zq.1 q];exact jl _ _⟩
theorem zss(w:WI ks nc τ m W)(hk:key∈ks)(b:Bool)(h:(W.h b).has key=true):(W.h (!b)).has key=false:=by
 refine zr ((w.hi b).get hk) λr hr=>?_;refine zr ((w.hi (!b)).get hk) λr' hr'=>?_;rw[n5 hr]at h;rw[n5 hr'];have t:=(w.ki key hk).ts b;rw[ja hr,ja hr']at t;exact Zc λq=>t.one (Za h) q
theorem zst(w:WI ks nc τ m W)(hk:key∈ks)(s:MS):cmpOp .ne (jp W key) (jp W key) s=.ok (.bool false) s/\∀b,∃q,cmpOp .eq (jp W key) (.int (hn b)) s=.ok (.bool q) s/\cmpOp .ne (.bool ((W.h b).has key)) (.bool q) s=.ok (.bool false) s:=by
 rcases zi8 w hk with ⟨h,h0,h1⟩|⟨b',r,h,hr,hs⟩
 .rw[h];exact⟨rfl,λb=>⟨false,by cases b<;>rfl,by cases b;rw[h0];rfl;rw[h1];rfl⟩⟩
 .rw[h];have e1:(W.h b').has key=true:=by rw[n5 hr];exact Zb hs
  have e2:=zss w hk b' e1;refine⟨by cases b'<;>rfl,λb=>⟨decide (hn b'=hn b),rfl,?_⟩⟩;cases b'<;>cases b
  .rw[e1];rfl
  .rw[show(W.h true).has key=false from e2];rfl
  .rw[show(W.h false).has key=false from e2];rfl
  .rw[e1];rfl
theorem z3n(o:Xc (Int×Key×Internal.W))(s:MS):cmpOp .ne (opV o) (opV o) s=.ok (.bool false) s:=by
 cases o with
 |none=>rfl
 |some q=>exact o8 (j8 (by show 3<=16777216;decide) ⟨qm _ _,jl _ _,zbi _ _,trivial⟩)
noncomputable abbrev zk7 (ks:Xd Key) (a3 a4 a5:Xc V):Loc:=[some (.ref (1,0)),some (.ref (53,0)),some (.lst (ks.map .str)),a3,a4,a5]
variable (H:LP11 P)
include H
theorem zfc(hf:P.fns 114=some fl_stands)(hha:P.fns 54=some f_World_has)(m0:P.meths 0 0=some 54)(has:P.fns 59=some f_World_asking)(n:Nat)(A:WAt s ks W x)(a:MAt s W z p)(B:Bd ks nc τ m W):run P (n+4) 114 [.ref (1,0),.ref (53,0),.lst (ks.map .str)] s=.ok (.bool true) s:=by
 have h6:W.nc<=6:=B.wi.nc_▸B.h6;refine qc (zm hf rfl ?_);show OkR (exs P (run P (n+3)) (n+3) _ (zk7 ks none none none) s) _;refine ka (v:=.lst (ks.map .str)) (s':=s) rfl rfl rfl (zez (λ(k:Key)=>V.str k) (λ(y:Xc V×Xc V)=>zk7 ks y.1 y.2 none) (λt=>t=s) (y:=(none,none)) rfl (λt ξ=>rfl) (λkey hk y t e=>?_) λy t e=>?_)
 .subst e;refine zn (zst B.wi hk t) λe0 eb=>?_;refine zd (eb false) λq0 g0 g1=>?_;refine zd (eb true) λq1 g2 g3=>?_;show OkR (exs P (run P (n+3)) (n+3) _ (zk7 ks (some (.str key)) y.2 none) t) _;refine zk (qb (vs:=[.ref (53,0),.str key]) rfl (za9 H.mp (n+2) a B.wi hk)) rfl ?_;show OkR (exs P (run P (n+3)) (n+3) _ (zk7 ks (some (.str key)) (some (jp W key)) none) t) _;exact zl (t:=false) (s':=t) (v0 (jy (x:=jp W key) (y:=jp W key) (s1:=t) (s2:=t) (zy (x:=.ref (1,0)) (vs:=[.str key]) (s1:=t) (s2:=t) rfl ((zj A.o).trans H.dp.w24) rfl (ah H.wp H.hp H.dp.hom n A hk)) rfl e0) (v0 (jy (x:=.bool ((W.h false).has key)) (y:=.bool q0) (s1:=t) (s2:=t) (zy (x:=.ref (1,0)) (vs:=[.int (hn false),.str key]) (s1:=t) (s2:=t) rfl ((zj A.o).trans m0) rfl (zfi H.wp H.hp hha n A false hk)) (jy (x:=jp W key) (y:=.int (hn false)) (s1:=t) (s2:=t) rfl rfl g0) g1) (yv (jy (x:=.bool ((W.h true).has key)) (y:=.bool q1) (s1:=t) (s2:=t) (zy (x:=.ref (1,0)) (vs:=[.int (hn true),.str key]) (s1:=t) (s2:=t) rfl ((zj A.o).trans m0) rfl (zfi H.wp H.hp hha n A true hk)) (jy (x:=jp W key) (y:=.int (hn true)) (s1:=t) (s2:=t) rfl rfl g2) g3)))) (ze (zx ⟨rfl,⟨(_,_),rfl⟩,rfl⟩))
 .subst e;rw[j9];refine ka (v:=.int W.nc) (s':=t) (j5 (zg (jk a.o rfl rfl) rfl) (Qd (λ(q:Nat)=>Res.ok (V.int q) t) (oe W.nc))) ((jt t _ (Qi _) (Qw.2 (Zp h6 (by decide)))).trans (by rw[Qy])) rfl (zez (λ(i:Nat)=>V.int i) (λy5=>zk7 ks y.1 y.2 y5) (λu=>u=t) (xs:=Xr W.nc) (y:=none) rfl (λu ξ=>rfl) (λi hi y5 u e=>?_) λy5 u e=>?_)
  .subst e;have hi:=Qj.1 hi;show OkR (exs P (run P (n+3)) (n+3) _ (zk7 ks y.1 y.2 (some (.int i))) u) _;exact zl (t:=false) (s':=u) (jy (x:=opV (W.c i).op) (y:=opV (W.c i).op) (s1:=u) (s2:=u) (zy (x:=.ref (1,0)) (vs:=[.int i]) (s1:=u) (s2:=u) rfl ((zj A.o).trans H.dp.w11) rfl (zfh H.wp has n A hi)) (qk (x:=.ref (52,i)) (s1:=u) (s2:=u) (zn3 a rfl rfl hi) rfl (q8 _ _ _ _ _ (a.co i hi) rfl)) (z3n _ u)) (ze (zx ⟨rfl,⟨_,rfl⟩,rfl⟩))
  .subst e;rw[j9];exact zv (v:=.bool true) (s':=u) rfl ⟨rfl,rfl⟩
end
end Internal
end
section
namespace Internal.L11
open Internal
noncomputable def u5:Fn:=⟨3,["self","number","keys","key"],[.setattr (.loc 0) 0 (.loc 1),.setattr (.loc 0) 4 (.dictM 4 [] []),.for_ (.inl (.loc 3)) false (.loc 2) [.setitem (.attr (.loc 0) 4) (.loc 3) (.tup [.str [104,101,114,101],.int 0,.int 0,.tup []]),.ite (.cmp (.loc 1) .ne (.int 0)) [.setitem (.attr (.loc 0) 4) (.loc 3) (.tup [.str [103,111,110,101],.neg (.int 1),.int 0,.tup []])] []],.setattr (.loc 0) 5 (.dictC 5 (.attr (.loc 0) 4)),.setattr (.loc 0) 6 (.lstM 6 []),.setattr (.loc 0) 7 (.lstM 7 [])]⟩
noncomputable def wm:Fn:=⟨5,["self","caller","number","key","wish","one","mark","pair","marks",""],[.assign 5 (.sub (.attr (.loc 0) 4) (.loc 3)),.for_ (.inl (.loc 6)) false (.sub (.loc 5) (.int 3)) [.ite (.and [.cmp (.sub (.loc 6) (.int 0)) .eq (.loc 1),.cmp (.sub (.loc 6) (.int 1)) .gt (.loc 2)]) [.ret none] [],.ite (.and [.cmp (.sub (.loc 6) (.int 0)) .eq (.loc 1),.cmp (.sub (.loc 6) (.int 1)) .eq (.loc 2)]) [.expr (.bm .append (.attr (.loc 0) 6) [.tup [.str [97,110,115,119,101,114],.loc 1,.loc 2,.sub (.loc 6) (.int 2)]]),.ret none] []],.assign 7 (.call 2 [.sub (.loc 5) (.int 2),.loc 4]),.assign 8 (.bin .add (.comp none 9 false (.sub (.loc 5) (.int 3)) (some (.cmp (.sub (.loc 9) (.int 0)) .ne (.loc 1))) (.loc 9)) (.lst [.tup [.loc 1,.loc 2,.sub (.loc 7) (.int 1)]])),.setitem (.attr (.loc 0) 4) (.loc 3) (.tup [.str [104,101,114,101],.sub (.loc 5) (.int 1),.sub (.loc 7) (.int 0),.prim .tuple1 [.prim .sorted [.loc 8]]]),.expr (.bm .append (.attr (.loc 0) 6) [.tup [.str [97,110,115,119,101,114],.loc 1,.loc 2,.sub (.loc 7) (.int 1)]]),.expr (.bm .append (.attr (.loc 0) 7) [.tup [.loc 1,.loc 2,.loc 3,.loc 4,.sub (.loc 7) (.int 1)]])]⟩
noncomputable def u6:Fn:=⟨3,["self","keys","callers",""],[.expr (.call 5 [.loc 1,.loc 2]),.setattr (.loc 0) 8 (.prim .list1 [.loc 1]),.setattr (.loc 0) 9 (.lst [.new 1 [.int 0,.loc 1],.new 1 [.int 1,.loc 1]]),.setattr (.loc 0) 10 (.comp none 3 true (.loc 2) none (.new 2 [.loc 3])),.setattr (.loc 0) 11 (.lstM 9 []),.setattr (.loc 0) 12 (.lstM 10 [])]⟩
noncomputable def zea:Fn:=⟨2,["_law_found","_law_due_here",""],[.ite (.isinst (.loc 1) [.list,.tuple]) [.ite (.or [.cmp (.isinst (.loc 1) [.list]) .ne (.isinst (.loc 0) [.list]),.cmp (.isinst (.loc 1) [.tuple]) .ne (.isinst (.loc 0) [.tuple])]) [.ret (some (.bool false))] [],.ite (.cmp (.prim .len [.loc 0]) .ne (.prim .len [.loc 1])) [.ret (some (.bool false))] [],.ret (some (.prim .all1 [.comp none 2 true (.prim .len [.loc 1]) none (.call 101 [.sub (.loc 0) (.loc 2),.sub (.loc 1) (.loc 2)])]))] [],.ite (.isinst (.loc 1) [.str]) [.ret (some (.and [.isinst (.loc 0) [.str],.cmp (.loc 0) .eq (.loc 1)]))] [],.ret (some (.and [.isinst (.loc 0) [.int],.not (.isinst (.loc 0) [.bool]),.cmp (.loc 0) .eq (.loc 1)]))]⟩
noncomputable def p7:Fn:=⟨4,["_law_world","_law_own","_law_keys_here","_law_cell","_law_caller","_law_is_idle","_law_kind"],[.assign 4 (.bin .mod (.bin .fdiv (.loc 3) (.int 18)) (.prim .len [.sub (.loc 1) (.str [99,97,108,108,101,114,115])])),.assign 5 (.isC false (.sub (.sub (.sub (.loc 1) (.str [99,97,108,108,101,114,115])) (.loc 4)) (.str [97,115,107,101,100])) .none),.assign 6 (.bin .mod (.bin .fdiv (.loc 3) (.int 180)) (.int 5)),.tryB [.ite (.and [.cmp (.loc 6) .eq (.int 0),.loc 5]) [.exprX (.meth (.loc 0) 18 [.loc 4,.int 0])] [.ite (.cmp (.loc 6) .lt (.int 2)) [.exprX (.meth (.loc 0) 17 [.loc 4,.int 0,.sub (.loc 2) (.int 0),.sub (.lst [.tup [.str [103,101,116]],.tup [.str [115,101,116],.none]]) (.prim .int1 [.loc 5])])] [.ite (.cmp (.loc 6) .eq (.int 2)) [.exprX (.meth (.loc 0) 21 [.prim .len [.sub (.loc 1) (.str [112,111,115,116])]])] [.ite (.cmp (.loc 6) .eq (.int 3)) [.exprX (.meth (.loc 0) 22 [.prim .len [.sub (.loc 1) (.str [112,111,115,116])]])] [.exprX (.meth (.loc 0) 23 [.neg (.int 1)])]]]]] [(165,.and [.cmp (.loc 6) .eq (.int 0),.loc 5]),(141,.and [.cmp (.loc 6) .eq (.int 1),.loc 5]),(153,.and [.cmp (.loc 6) .lt (.int 2),.not (.loc 5)]),(189,.cmp (.loc 6) .gt (.int 1))],.ret (some (.bool false))]⟩
noncomputable def p6:Fn:=⟨2,["_law_world","_law_key"],[.tryB [.exprX (.meth (.loc 0) 5 [.loc 1])] [(177,.bool true)],.ret (some (.bool false))]⟩
noncomputable def zuv:Fn:=⟨1,["_law_script","_law_keys_here","_law_callers","_law_world","_law_own","_law_told_here","_law_kept","_law_cell","_law_due_here","_law_rows",""],[.assign 1 (.call 103 [.call 100 [.loc 0,.int 0]]),.assign 2 (.bin .add (.int 1) (.bin .mod (.call 100 [.loc 0,.int 1]) (.int 6))),.assign 3 (.new 0 [.prim .list1 [.loc 1],.loc 2]),.assign 4 (.dictM 53 [[104,111,117,115,101,115],[112,111,115,116],[108,101,100,103,101,114]] [.lst [.call 107 [.int 0,.loc 1],.call 107 [.int 1,.loc 1]],.lstM 50 [],.lstM 66 []]),.setitem (.loc 4) (.str [99,97,108,108,101,114,115]) (.comp none 10 true (.loc 2) none (.dictM 52 [[109,97,100,101],[97,115,107,101,100],[99,108,111,115,101,100]] [.int 0,.none,.lstM 67 []])),.assign 5 (.lst []),.assign 6 (.lst []),.for_ (.inl (.loc 7)) false (.slice (.loc 0) (some (.int 2)) (some (.int 42))) [.ite (.or [.not (.call 117 [.loc 3,.loc 4,.loc 1,.loc 7]),.not (.call 114 [.loc 3,.loc 4,.loc 1])]) [.ret (some (.bool false))] [],.assign 8 (.call 130 [.loc 4,.loc 1]),.ite (.or [.cmp (.call 129 [.loc 3,.loc 2]) .ne (.loc 8),.cmp (.loc 5) .ne (.loc 6)]) [.ret (some (.bool false))] [],.assign 5 (.call 129 [.loc 3,.loc 2]),.for_ (.inl (.loc 9)) false (.bin .add (.loc 5) (.loc 8)) [.expr (.bm .append (.loc 9) [.str [109,111,114,101]])],.assign 6 (.loc 8)],.ret (some (.call 101 [.call 129 [.loc 3,.loc 2],.call 130 [.loc 4,.loc 1]]))]⟩
noncomputable def fnl:Xd (Nat×Fn):=[(0,Internal.f_is_whole),(1,(Internal.f_need_wish 141)),(2,Internal.f_done),(4,Internal.f_is_key),(5,(Internal.f_need_world 93)),(10,Internal.f_Caller_init),(11,Internal.f_Caller_begin),(12,Internal.f_Caller_letter),(13,Internal.f_Caller_came),(14,Internal.f_Caller_asking),(15,Internal.f_Caller_answers),(20,u5),(21,Internal.f_House_has),(22,Internal.f_House_owes),(23,Internal.f_House_came),(24,wm),(25,Internal.f_House_parcel),(26,(Internal.f_House_move 177)),(27,Internal.f_House_write),(28,Internal.f_House_sleep),(29,Internal.f_House_nudge),(40,u6),(41,(Internal.f_World_need_caller 105)),(42,(Internal.f_World_need_house 117)),(43,(Internal.f_World_need_key 129)),(44,(Internal.f_World_need_place 189)),(45,(Internal.f_World_call 153)),(46,(Internal.f_World_again 165)),(47,Internal.f_World_letters),(48,Internal.f_World_brought),(49,Internal.f_World_hand),(50,Internal.f_World_twice),(51,Internal.f_World_lose),(52,Internal.f_World_home),(53,(Internal.f_World_move 177)),(54,Internal.f_World_has),(55,Internal.f_World_write),(56,Internal.f_World_sleep),(57,Internal.f_World_nudge),(58,Internal.f_World_ledger),(59,Internal.f_World_asking),(60,Internal.f_World_answers),(61,Internal.f_World_owes),(62,Internal.f_World_is_settled),(63,Internal.f_World_one_round),(64,Internal.f_World_settle),(100,Internal.f_cell),(101,zea),(102,Internal.f_wish),(103,Internal.f_keys),(104,Internal.fl_done),(105,Internal.fl_marked),(106,Internal.fl_last),(107,Internal.fl_new),(108,Internal.fl_parcel),(109,Internal.fl_called),(110,Internal.fl_moved),(111,Internal.fl_wrote),(112,Internal.fl_slept),(113,Internal.fl_nudged),(114,Internal.fl_stands),(117,Internal.fl_step),(118,zuv),(120,Internal.fl_brought),(121,Internal.fl_written),(122,Internal.fl_home),(123,Internal.fl_owes),(124,Internal.fl_rounds),(125,Internal.fl_posted),(126,Internal.fl_lettered),(127,p7),(128,p6),(129,Internal.fl_told),(130,Internal.fl_due)]
noncomputable def mel:Xd ((Nat×Nat)×Nat):=[((2,9),11),((2,10),12),((2,2),13),((2,11),14),((2,12),15),((1,0),21),((1,1),22),((1,2),23),((1,3),24),((1,4),25),((1,5),26),((1,6),27),((1,7),28),((1,8),29),((0,13),41),((0,14),42),((0,15),43),((0,16),44),((0,17),45),((0,18),46),((0,19),47),((0,20),48),((0,21),49),((0,22),50),((0,23),51),((0,24),52),((0,5),53),((0,0),54),((0,6),55),((0,7),56),((0,8),57),((0,25),58),((0,11),59),((0,12),60),((0,1),61),((0,26),62),((0,27),63),((0,28),64)]
noncomputable def inl:Xd (Nat×(Nat×Nat)):=[(2,3,10),(1,2,20),(0,1,40)]
noncomputable def fnn:Xd (Nat×Xv):=[(0,.ofString "is_whole"),(1,.ofString "need_wish"),(2,.ofString "done"),(4,.ofString "is_key"),(5,.ofString "need_world"),(100,.ofString "_law_cell_at"),(101,.ofString "_law_alike"),(102,.ofString "_law_wish"),(103,.ofString "_law_keys"),(104,.ofString "_law_done"),(105,.ofString "_law_marked"),(106,.ofString "_law_last"),(107,.ofString "_law_new"),(108,.ofString "_law_parcel"),(109,.ofString "_law_called"),(110,.ofString "_law_moved"),(111,.ofString "_law_wrote"),(112,.ofString "_law_slept"),(113,.ofString "_law_nudged"),(114,.ofString "_law_stands"),(117,.ofString "_law_step"),(118,.ofString "law"),(120,.ofString "_law_brought"),(121,.ofString "_law_written"),(122,.ofString "_law_home"),(123,.ofString "_law_owes"),(124,.ofString "_law_rounds"),(125,.ofString "_law_posted"),(126,.ofString "_law_lettered"),(127,.ofString "_law_refused"),(128,.ofString "_law_nowhere"),(129,.ofString "_law_told"),(130,.ofString "_law_due")]
noncomputable def xbl:Xd (Nat×Xd Nat):=[(80,[80,0]),(93,[93,80,0]),(105,[105,80,0]),(117,[117,80,0]),(129,[129,80,0]),(141,[141,80,0]),(153,[153,80,0]),(165,[165,80,0]),(177,[177,80,0]),(189,[189,80,0])]
noncomputable def xsl:Xd (Xv×Nat):=[("MoveError",80),("BadWorld",93),("NoCaller",105),("NoHouse",117),("NoKey",129),("BadWish",141),("Busy",153),("Idle",165),("NotHere",177),("NoLetter",189)]
noncomputable def xfl:Xd Nat:=[26,46,60,59,45,49,54,52,51,53,41,42,43,44,57,61,56,50,55,1]
noncomputable def xml:Xd Nat:=[5,13,14,15,16,17,18,21,22,23,24]
noncomputable def qfl:Xd Nat:=[]
noncomputable def prog:Prog:=⟨λf=>fnl.lookup f,λc m=>mel.lookup (c,m),λc=>inl.lookup c,λc=>(xbl.lookup c).getD []⟩
end Internal.L11
end
section
namespace Internal.L11
open Internal
theorem hHP:HouseP prog:=⟨rfl,rfl,rfl,rfl,rfl,rfl,rfl,rfl,rfl,rfl,rfl⟩
theorem wp:WorldP prog:=⟨rfl,⟨_,rfl⟩,⟨_,rfl⟩,⟨_,rfl⟩,⟨_,rfl⟩,rfl,rfl,rfl,rfl,rfl,rfl,rfl,rfl,rfl,rfl,rfl⟩
theorem dp:DeedP prog:=⟨rfl,rfl,⟨_,rfl⟩,⟨_,rfl⟩,⟨_,rfl⟩,rfl,rfl,rfl,rfl,⟨_,rfl⟩,⟨_,rfl⟩,rfl,rfl,rfl,rfl,rfl,rfl,rfl,rfl,rfl,rfl,rfl,rfl,rfl,rfl,rfl,rfl,rfl,rfl,rfl,rfl,rfl,rfl,rfl⟩
theorem sp:SetP prog:=⟨rfl,rfl,rfl,rfl,rfl,rfl,rfl⟩
theorem mp:MirP prog:=⟨⟨rfl,rfl,rfl,rfl,rfl,rfl,rfl,rfl,rfl,rfl⟩,rfl,rfl,rfl,rfl⟩
theorem lp:LP11 prog:=⟨wp,hHP,dp,sp,mp,rfl,rfl,rfl,rfl,rfl⟩
section
variable {s t:MS}{C:Calls}{l:Loc}{a c e g:E}{n f k i:Nat}{r:Xd S}{vs:Xd V}{fn:Fn}{v x:V}
theorem ii(hf:prog.fns f=some fn)(hl:vs.length=fn.np)(h:exs prog (run prog n) n fn.body (vs.map some++Jp (fn.names.length-fn.np) none) s=.exc k t):run prog (n+1) f vs s=.exc k t:=by
 rw[zqf hf hl,h];rfl
variable{b1:Xd S}
theorem z34(hc:ev prog C c l s=.ok (.bool false) s)(h:exs prog C n r l s=.exc k t):exs prog C n (.ite c b1 []::r) l s=.exc k t:=by
 rw[jb,bz,hc];exact h
variable{b2:Xd S}
theorem zf3(hc:ev prog C c l s=.ok (.bool true) s):exs prog C n (.ite c [.raise k] b2::r) l s=.exc k s:=by
 rw[jb,bz,hc];rfl
variable{es:Xd E}
theorem uc(h1:ev prog C a l s=.ok x s)(h0:xx prog x k s=some f)(h2:evL prog C es l s=.ok vs s):evQ prog C (.meth a k es) l s=C f (x::vs) s:=by
 rw[m6,h1];show(match xx prog x k s with|some f=>_|none=>_)=_;rw[h0];show Res.bnd (evL prog C es l s) _=_;rw[h2];rfl
theorem ztf(h2:evL prog C es l s=.ok vs s):evQ prog C (.call f es) l s=C f vs s:=by
 rw[tv,h2];rfl
theorem we(h:evQ prog C e l s=.exc k t):exs prog C n (.exprX e::r) l s=.exc k t:=by rw[jb,uq,h];rfl
theorem pn(h:evQ prog C e l s=.ok v s)(h2:exs prog C n r l s=.exc k t):exs prog C n (.exprX e::r) l s=.exc k t:=by rw[jb,uq,h];exact h2
theorem zmz(h:evQ prog C e l s=.ok v s)(hi:decide (i<l.length)=true)(h2:exs prog C n r (l.set i (some v)) s=.exc k t):exs prog C n (.assignX i e::r) l s=.exc k t:=by
 rw[jb,u4,h];show Res.bind (if i<l.length then _ else _) _=_;rw[Zg (Za hi)];exact h2
theorem yx(q:Bool)(hc:ev prog C c l s=.ok (.bool q) s)(h:exs prog C n (if q then b1 else b2) l s=.exc k t):exs prog C n [.ite c b1 b2] l s=.exc k t:=by
 rw[jb,bz,hc];cases q
 .exact Qd (λz:Res (Fl×Loc)=>z.bind _) h
 .exact Qd (λz:Res (Fl×Loc)=>z.bind _) h
theorem bn{b:Xd S}{hs:Xd (Nat×E)}{Q:Fl×Loc->MS->Prop}(h:exs prog C n b l s=.exc k t)(hb:(prog.excBase k).contains k=true)(hp:cg prog C (prog.excBase k) hs l t=.ok (.ret v,[]) t)(q:Q (.ret v,[]) t):OkR (exs prog C n (.tryB b hs::r) l s) Q:=by
 rw[gf,zi0,h];show OkR (if (prog.excBase k).contains k=true then cg prog C (prog.excBase k) hs l t else .stuck) _;rw[Zg hb,hp];exact q
theorem zvv{b:E}{x y z:Int}(ha:ev prog C a l s=.ok (.int x) s)(hb:ev prog C b l s=.ok (.int y) s)(hc:ev prog C c l s=.ok (.int z) s):ev prog C (.cmp2 a .le b .lt c) l s=.ok (.bool (decide (x<=y)&&decide (y<z))) s:=by
 rw[nt,ha];show Res.bind (ev prog C b l s) _=_;rw[hb];show(if decide (x<=y)=true then (ev prog C c l s).bind λz s=>cmpOp .lt (.int y) z s else .ok (.bool false) s)=_;rw[hc];cases decide (x<=y)<;>rfl
variable {ks:Xd Key}{W:WS}{y z:Bool->HIx}{p:Nat}{nc τ m:Nat}
variable{j:Int}
theorem zwq(n:Nat)(A:WAt s ks W y)(h:¬(0<=j/\j<(W.post.length:Int))):run prog (n+2) 44 [.ref (1,0),.int j] s=.exc 189 s:=by
 have hl:ev prog (run prog (n+1)) (.prim .len [.attr (.loc 0) 11]) [some (.ref (1,0)),some (.int j)] s=.ok (.int W.post.length) s:=j5 (zg (z3 rfl (qh A.o rfl)) rfl) ((y0 (jh A.po)).trans (by rw[Zd]));have hd:(decide ((0:Int)<=j)&&decide (j<(W.post.length:Int)))=false:=Bool.eq_false_iff.2 λq=>h (by
  refine zn (Zj.1 q) λh1 h2=>?_;exact⟨Za h1,Za h2⟩)
 have er:=zvv (C:=run prog (n+1)) (a:=.int 0) (b:=.loc 1) (l:=[some (.ref (1,0)),some (.int j)]) (s:=s) rfl rfl hl;rw[hd]at er;exact ii (fn:=Internal.f_World_need_place 189) rfl rfl (zf3 (v0 (ve (t:=true) (qb (zg (v:=.int j) rfl rfl) (yf wp n j s))) (yv (ve er))))
theorem zcj{f:Nat}{nm:Xd Xv}{r:Xd S}(hf:prog.fns f=some ⟨2,nm,.exprX (.meth (.loc 0) 16 [.loc 1])::r⟩)(n:Nat)(A:WAt s ks W y)(h:¬(0<=j/\j<(W.post.length:Int))):run prog (n+3) f [.ref (1,0),.int j] s=.exc 189 s :=
 ii hf rfl (we ((uc (x:=.ref (1,0)) (vs:=[.int j]) rfl ((zj A.o).trans wp.m16) rfl).trans (zwq n A h)))
theorem zn4{g:Bool}(n:Nat)(A:WAt s ks W y)(hi:i<W.nc)(h0:ev prog (run prog (n+1)) (.loc 0) l s=.ok (.ref (1,0)) s)(h1:ev prog (run prog (n+1)) (.loc 1) l s=.ok (.int i) s):ev prog (run prog (n+1)) (.isC g (.meth (.sub (.attr (.loc 0) 10) (.loc 1)) 11 []) .none) l s=.ok (.bool ((!(W.c i).op.isSome) != g)) s:=by
 refine xt (zy (zbq A hi h0 h1) ((zj (A.co i hi)).trans wp.c11) rfl (vt wp n A hi)) ?_;cases (W.c i).op with
 |none=>exact Zb rfl
 |some p=>exact Zc nofun
theorem zr7(n:Nat)(A:WAt s ks W y)(hi:i<W.nc)(ho:(W.c i).op=none):run prog (n+3) 46 [.ref (1,0),.int i,.int (hn false)] s=.exc 165 s:=by
 have eo:=zn4 (g:=false) (l:=[some (.ref (1,0)),some (.int i),some (.int (hn false))]) (n+1) A hi rfl rfl;rw[ho]at eo;exact ii (fn:=Internal.f_World_again 165) rfl rfl (pn ((uc (x:=.ref (1,0)) (vs:=[.int i]) rfl ((zj A.o).trans wp.m13) rfl).trans (vr wp n A hi)) (pn ((uc (x:=.ref (1,0)) (vs:=[.int (hn false)]) rfl ((zj A.o).trans wp.m14) rfl).trans (x7 wp n false s)) (zf3 eo)))
variable{key:Key}
theorem zno(n:Nat)(A:WAt s ks W y)(hi:i<W.nc)(hk:key∈ks){w:V}(h:(run prog (n+2) 1 [w] s=.exc k s)\/(run prog (n+2) 1 [w] s=.ok .none s/\(W.c i).op.isSome=true/\k=153)):run prog (n+3) 45 [.ref (1,0),.int i,.int (hn false),.str key,w] s=.exc k s:=by
 have e4:evQ prog (run prog (n+2)) (.call 1 [.loc 4]) [some (.ref (1,0)),some (.int i),some (.int (hn false)),some (.str key),some w,none] s=run prog (n+2) 1 [w] s:=ztf rfl;have pre:∀{r:Xd S},exs prog (run prog (n+2)) (n+2) (.exprX (.call 1 [.loc 4])::r) [some (.ref (1,0)),some (.int i),some (.int (hn false)),some (.str key),some w,none] s=.exc k s->exs prog (run prog (n+2)) (n+2) (.exprX (.meth (.loc 0) 13 [.loc 1])::.exprX (.meth (.loc 0) 14 [.loc 2])::.exprX (.meth (.loc 0) 15 [.loc 3])::.exprX (.call 1 [.loc 4])::r) [some (.ref (1,0)),some (.int i),some (.int (hn false)),some (.str key),some w,none] s=.exc k s:=λq =>
  pn ((uc (x:=.ref (1,0)) (vs:=[.int i]) rfl ((zj A.o).trans wp.m13) rfl).trans (vr wp n A hi)) (pn ((uc (x:=.ref (1,0)) (vs:=[.int (hn false)]) rfl ((zj A.o).trans wp.m14) rfl).trans (x7 wp n false s)) (pn ((uc (x:=.ref (1,0)) (vs:=[.str key]) rfl ((zj A.o).trans wp.m15) rfl).trans (lx wp (n+1) A hk)) q))
 rcases h with h|⟨h,ho,rfl⟩
 .exact ii (fn:=Internal.f_World_call 153) rfl rfl (pre (we (e4.trans h)))
 .have eo:=zn4 (g:=true) (l:=[some (.ref (1,0)),some (.int i),some (.int (hn false)),some (.str key),some w,none]) (n+1) A hi rfl rfl;rw[ho]at eo;exact ii (fn:=Internal.f_World_call 153) rfl rfl (pre (pn (e4.trans h) (zf3 eo)))
theorem zxg(n:Nat)(s:MS):run prog (n+2) 1 [.tup [.str [115,101,116],.none]] s=.exc 141 s:=ii (fn:=Internal.f_need_wish 141) rfl rfl (z34 rfl (z34 rfl (zf3 rfl)))
theorem zwe(n:Nat)(A:WAt s ks W y)(hk:key∈ks)(h:jp W key=.none):run prog (n+4) 53 [.ref (1,0),.str key] s=.exc 177 s:=by
 have e1:evQ prog (run prog (n+3)) (.meth (.loc 0) 24 [.loc 1]) [some (.ref (1,0)),some (.str key),none] s=.ok (jp W key) s:=(uc (x:=.ref (1,0)) (vs:=[.str key]) rfl ((zj A.o).trans dp.w24) rfl).trans (ah wp hHP rfl n A hk);rw[h]at e1;exact ii (fn:=Internal.f_World_move 177) rfl rfl (zmz e1 rfl (zf3 (xt (g:=false) (t:=true) (v:=.none) rfl (Zb rfl))))
theorem zfe(n:Nat)(A:WAt s ks W y)(hk:key∈ks)(h:jp W key=.none):run prog (n+5) 128 [.ref (1,0),.str key] s=.ok (.bool true) s :=
 qc (zm (fn:=p6) rfl rfl (bn (k:=177) (we ((uc (x:=.ref (1,0)) (vs:=[.str key]) rfl ((zj A.o).trans dp.w5) rfl).trans (zwe n A hk h))) rfl rfl ⟨rfl,rfl⟩))
end
end Internal.L11
end
section
namespace Internal.L11
open Internal
section
variable {s t u:MS}{C:Calls}{n i:Nat}{ks:Xd Key}{W:WS}{x z:Bool->HIx}{p:Nat}{nc τ m:Nat}{v:V}{Q:Fl×Loc->MS->Prop}
noncomputable abbrev zca (ks:Xd Key) (cell:Int) (i:Nat) (d:Bool) (k:Int):Loc:=[some (.ref (1,0)),some (.ref (53,0)),some (.lst (ks.map .str)),some (.int cell),some (.int i),some (.bool d),some (.int k)]
variable{l:Loc}
theorem ph{hs:Xd (Nat×E)}{bs:Xd Nat}{e:E}(h:cg prog C bs hs l s=(ev prog C e l s).bnd λv s=>.ok (.ret v,[]) s)(he:ev prog C e l s=.ok v s):cg prog C bs hs l s=.ok (.ret v,[]) s:=by rw[h,he];rfl
theorem znn{a b:E}{q r:Bool}(h1:ev prog C a l s=.ok (.bool q) s)(h2:ev prog C b l s=.ok (.bool r) s):ev prog C (.and [a,b]) l s=.ok (.bool (q&&r)) s:=by
 cases q with
 |false=>exact ug h1
 |true=>exact ke h1 (vf h2)
theorem zff(n:Nat)(A:WAt s ks W x)(a:MAt s W z p)(B:Bd ks nc τ m W)(h1:0<W.nc)(cell:Int):run prog (n+4) 127 [.ref (1,0),.ref (53,0),.lst (ks.map .str),.int cell] s=.ok (.bool true) s:=by
 refine zd (zje (P:=prog) a h1 (cell.fdiv 18)) λi hi ei=>?_;refine qc (zm (fn:=p7) rfl rfl ?_);refine zk (v:=.int i) (s':=s) (ei (e:=.bin .fdiv (.loc 3) (.int 18)) rfl rfl) rfl ?_;have eo:ev prog (run prog (n+3)) (.isC false (.sub (.sub (.sub (.loc 1) (.str kC)) (.loc 4)) (.str kA)) .none) [some (.ref (1,0)),some (.ref (53,0)),some (.lst (ks.map .str)),some (.int cell),some (.int i),none,none] s=.ok (.bool (!(W.c i).op.isSome)) s:=by
  refine(xt (g:=false) (t:=!(W.c i).op.isSome) (qk (x:=.ref (52,i)) (s1:=s) (s2:=s) (zn3 a (i:=i) rfl rfl hi) rfl (q8 _ _ _ _ _ (a.co i hi) rfl)) ?_).trans (by rw[Bool.bne_false]);cases (W.c i).op with
  |none=>exact Zb rfl
  |some q=>exact Zc nofun
 refine zk eo rfl (zk (v:=.int ((cell.fdiv 180).fmod 5)) (s':=s) rfl rfl ?_);refine zn (jd (cell.fdiv 180) 5 (by decide)) λr0 r5=>?_;generalize (cell.fdiv 180).fmod 5=k at r0 r5;generalize hd:(!(W.c i).op.isSome)=d;show OkR (exs prog (run prog (n+3)) (n+3) _ (zca ks cell i d k) s) _;have hk0:ks[0]'B.K.pos∈ks:=Qc B.K.pos;have ek:ev prog (run prog (n+3)) (.sub (.loc 2) (.int 0)) (zca ks cell i d k) s=.ok (.str (ks[0]'B.K.pos)) s:=qk (x:=.lst (ks.map .str)) (y:=.int (0:Nat)) (s1:=s) (s2:=s) rfl rfl (zu2 B.K.pos s);have en:ev prog (run prog (n+3)) (.prim .len [.sub (.loc 1) (.str kP)]) (zca ks cell i d k) s=.ok (.int W.post.length) s:=j5 (zg (jk a.o rfl rfl) rfl) ((y0 (jh a.po)).trans (by rw[Zd]));have ce:∀(j:Int),ev prog (run prog (n+3)) (.cmp (.loc 6) .eq (.int j)) (zca ks cell i d k) s=.ok (.bool (decide (k=j))) s:=λξ=>rfl;have c2:ev prog (run prog (n+3)) (.cmp (.loc 6) .lt (.int 2)) (zca ks cell i d k) s=.ok (.bool (decide (k<2))) s:=rfl;have c1:ev prog (run prog (n+3)) (.cmp (.loc 6) .gt (.int 1)) (zca ks cell i d k) s=.ok (.bool (decide (1<k))) s:=rfl;have ca:=znn (ce 0) (show ev prog (run prog (n+3)) (.loc 5) (zca ks cell i d k) s=.ok (.bool d) s from rfl);have cb:=znn (ce 1) (show ev prog (run prog (n+3)) (.loc 5) (zca ks cell i d k) s=.ok (.bool d) s from rfl);have cc:=znn c2 (ve (show ev prog (run prog (n+3)) (.loc 5) (zca ks cell i d k) s=.ok (.bool d) s from rfl));have far:¬(0<=(W.post.length:Int)/\(W.post.length:Int)<(W.post.length:Int)):=λq=>Int.lt_irrefl _ q.2;by_cases k2:k<2
 .cases d with
  |true =>
   have ho:(W.c i).op=none:=by
    cases h:(W.c i).op with
    |none=>rfl
    |some q=>rw[h]at hd;cases hd
   by_cases k0:k=0
   .rw[Zb k0]at ca;exact bn (k:=165) (yx true ca (we ((uc (x:=.ref (1,0)) (vs:=[.int i,.int (hn false)]) rfl ((zj A.o).trans dp.w18) rfl).trans (zr7 n A hi ho)))) rfl (ph rfl ca) ⟨rfl,rfl⟩
   .have k1:k=1:=by lia
    rw[Zc k0]at ca;rw[Zb k2]at c2;rw[Zb k1]at cb;exact bn (k:=141) (yx false ca (yx true c2 (we ((uc (x:=.ref (1,0)) (vs:=[.int i,.int (hn false),.str (ks[0]'B.K.pos),.tup [.str [115,101,116],.none]]) rfl ((zj A.o).trans dp.w17) (zg (v:=.int i) rfl (zg (v:=.int (hn false)) rfl (zg ek (zg (v:=.tup [.str [115,101,116],.none]) rfl rfl))))).trans (zno n A hi hk0 (.inl (zxg n s))))))) rfl (ph rfl cb) ⟨rfl,rfl⟩
  |false =>
   have ho:(W.c i).op.isSome=true:=by
    cases h:(W.c i).op.isSome with
    |true=>rfl
    |false=>rw[h]at hd;cases hd
   rw[Bool.and_false]at ca;rw[Zb k2]at c2 cc;refine zr dp.nwi λyc hf1=>?_;exact bn (k:=153) (yx false ca (yx true c2 (we ((uc (x:=.ref (1,0)) (vs:=[.int i,.int (hn false),.str (ks[0]'B.K.pos),wv .get]) rfl ((zj A.o).trans dp.w17) (zg (v:=.int i) rfl (zg (v:=.int (hn false)) rfl (zg ek (zg (v:=wv .get) rfl rfl))))).trans (zno n A hi hk0 (.inr ⟨zfd wp hf1 n .get trivial s,ho,rfl⟩)))))) rfl (ph rfl cc) ⟨rfl,rfl⟩
 .have k0:¬k=0:=by lia
  rw[Zc k0,Bool.false_and]at ca;rw[Zc k2]at c2;rw[Zb (show(1:Int)<k by lia)]at c1;have e2:=ce 2;have e3:=ce 3;by_cases h2:k=2
  .rw[Zb h2]at e2;exact bn (k:=189) (yx false ca (yx false c2 (yx true e2 (we ((uc (x:=.ref (1,0)) (vs:=[.int W.post.length]) rfl ((zj A.o).trans dp.w21) (zg en rfl)).trans (zcj (f:=49) rfl n A far)))))) rfl (ph rfl c1) ⟨rfl,rfl⟩
  .rw[Zc h2]at e2;by_cases h3:k=3
   .rw[Zb h3]at e3;exact bn (k:=189) (yx false ca (yx false c2 (yx false e2 (yx true e3 (we ((uc (x:=.ref (1,0)) (vs:=[.int W.post.length]) rfl ((zj A.o).trans dp.w22) (zg en rfl)).trans (zcj (f:=50) rfl n A far))))))) rfl (ph rfl c1) ⟨rfl,rfl⟩
   .rw[Zc h3]at e3;exact bn (k:=189) (yx false ca (yx false c2 (yx false e2 (yx false e3 (we ((uc (x:=.ref (1,0)) (vs:=[.int (-1)]) rfl ((zj A.o).trans dp.w23) rfl).trans (zcj (f:=51) rfl n A λq=>absurd q.1 (by decide)))))))) rfl (ph rfl c1) ⟨rfl,rfl⟩
noncomputable abbrev zk8 (l:Xd Int) (ks:Xd Key) (nc:Nat) (a3 a4 a5 a6 a7 a8 a9:Xc V):Loc:=[some (.lst (l.map .int)),some (.lst (ks.map .str)),some (.int nc),a3,a4,a5,a6,a7,a8,a9,none]
structure CaI(s:MS)(j:Nat)(t:MS):Prop where
 c2:t.cnt 52=j
 c7:t.cnt 67=j
 h:∀i,i<j->t.heap (52,i)=some (xd i c0)/\t.heap (67,i)=some (.list [])
 f:Fr Nil s t
theorem CaI.next{j:Nat}(h:CaI s j t):CaI s (j+1) ((t.new 67 (.list [])).new 52 (xd j c0)):=by
 have f2:Fr Nil t ((t.new 67 (.list [])).new 52 (xd j c0)):=((Fr.refl _ _).new _ _).new _ _;refine⟨Qd (·+1) h.c2,Qd (·+1) h.c7,λi hi=>?_,h.f.trans f2⟩;rcases Nat.lt_or_eq_of_le (Nat.le_of_lt_succ hi)with hi|rfl
 .exact⟨(f2.1 (52,i) (by show i<t.cnt 52;rw[h.c2];exact hi) λq=>q).trans (h.h i hi).1,(f2.1 (67,i) (by show i<t.cnt 67;rw[h.c7];exact hi) λq=>q).trans (h.h i hi).2⟩
 .refine⟨?_,(q7 (by rfl)).trans ?_⟩
  .have:=zt (t.new 67 (.list [])) 52 (xd i c0);rw[show(t.new 67 (.list [])).cnt 52=i from h.c2]at this;exact this
  .have:=zt t 67 (.list []);rw[h.c7]at this;exact this
theorem mk3{o:MObj}(hu:((s.new 50 (.list [])).new 66 (.list [])).new 53 o=u)(c:∀k,46<k->k≠51->s.cnt k=0):Fr Nil s u/\u.heap (50,0)=some (.list [])/\u.heap (66,0)=some (.list [])/\u.heap (53,0)=some o/\0<u.cnt 50/\0<u.cnt 66/\0<u.cnt 53/\u.cnt 52=0/\u.cnt 67=0:=by
 have n:∀{s:MS}{k:Nat}{o:MObj},s.cnt k=0->(s.new k o).heap (k,0)=some o:=λ{s k o} h=>by
  have:=zt s k o;rw[h]at this;exact this
 subst hu;exact⟨(((Fr.refl _ _).new _ _).new _ _).new _ _,(q7 (by rfl)).trans ((q7 (by rfl)).trans (n (c 50 (by decide) (by decide)))),(q7 (by rfl)).trans (n (c 66 (by decide) (by decide))),n (c 53 (by decide) (by decide)),Q5 _,Q5 _,Q5 _,c 52 (by decide) (by decide),c 67 (by decide) (by decide)⟩
theorem zeq(n:Nat)(hc:∀k,10<k->s.cnt k=0)(K:KeysFine ks)(h6:nc<=6){l:Xd Int}{r:Xd S}(k:∀z t,MAt t (W0 ks nc) z 0->Fr Nil s t->OkR (exs prog (run prog (n+1)) (n+1) r (zk8 l ks nc (some (.ref (1,0))) (some (.ref (53,0))) none none none none none) t) Q):
  OkR (exs prog (run prog (n+1)) (n+1) (.assign 4 (.dictM 53 [kH,kP,kL] [.lst [.call 107 [.int 0,.loc 1],.call 107 [.int 1,.loc 1]],.lstM 50 [],.lstM 66 []])::.setitem (.loc 4) (.str kC) (.comp none 10 true (.loc 2) none (.dictM 52 [kM,kA,kZ] [.int 0,.none,.lstM 67 []]))::r) (zk8 l ks nc (some (.ref (1,0))) none none none none none none) s) Q:=by
 have kl:ks.length<1000:=Z7 K.six (by decide);obtain⟨v,s1,e1,j0,x0,rfl,⟨rfl,d1,cs1,-⟩,o0,f1⟩:=z7 (ze9 mp.own n 0 (.inl rfl) ks kl (s:=s));obtain⟨v,s2,e2,j1,x1,rfl,⟨rfl,-,cs2,g1,g2,g3,g4⟩,o1,f2⟩:=z7 (ze9 mp.own n 1 (.inr rfl) ks kl (s:=s1));have z51:s.cnt 51=0:=hc 51 (by decide);rw[z51]at d1 o0 e1;rw[d1]at o1 e2;have c2:∀k,46<k->k≠51->s2.cnt k=0:=λk h1 h2=>(cs2 k h1 h2).trans ((cs1 k h1 h2).trans (hc k (Qe (by decide) h1)));have ap:ApP x0 x1:=⟨Z9 (Zi o0.ik g1),Z9 (Zi o0.iw g2),Z9 (Zi o0.il g3),Z9 (Zi o0.ir g4)⟩
 have f12:Fr Nil s s2:=f1.trans f2;have o0':=o0.step (F:=Nil) f2 λξ ξ q=>q;clear f1 cs1 cs2 g1 g2 g3 g4 o0;have e3:ev prog (run prog (n+1)) (.dictM 53 [kH,kP,kL] [.lst [.call 107 [.int 0,.loc 1],.call 107 [.int 1,.loc 1]],.lstM 50 [],.lstM 66 []]) (zk8 l ks nc (some (.ref (1,0))) none none none none none none) s=.ok (.ref (53,s2.cnt 53)) (((s2.new 50 (.list [])).new 66 (.list [])).new 53 (.dict [(.str kH,.lst [.ref (51,0),.ref (51,1)]),(.str kP,.ref (50,s2.cnt 50)),(.str kL,.ref (66,s2.cnt 66))])) :=
  g6 (a:=[.lst [.ref (51,0),.ref (51,1)],.ref (50,s2.cnt 50),.ref (66,s2.cnt 66)]) (s:=(s2.new 50 (.list [])).new 66 (.list [])) (zg (zix (zg (qb (vs:=[.int 0,.lst (ks.map .str)]) rfl e1) (zg (qb (vs:=[.int 1,.lst (ks.map .str)]) rfl e2) rfl)) rfl) rfl) rfl
 rw[c2 50 (by decide) (by decide),c2 66 (by decide) (by decide),c2 53 (by decide) (by decide)]at e3;refine zk e3 rfl ?_;generalize hu:((s2.new 50 (.list [])).new 66 (.list [])).new 53 _=s5;refine z35 (mk3 hu c2) λf3 q50 q66 q53 b50 b66 b53 b52 b67=>?_;clear hu;have p0:=o0'.step (F:=Nil) f3 λξ ξ q=>q;have p1:=o1.step (F:=Nil) f3 λξ ξ q=>q;clear o0' o1 e1 e2 e3 c2;show OkR (exs prog (run prog (n+1)) (n+1) _ (zk8 l ks nc (some (.ref (1,0))) (some (.ref (53,0))) none none none none none) s5) Q;have hC:OkR (ev prog (run prog (n+1)) (.comp none 10 true (.loc 2) none (.dictM 52 [kM,kA,kZ] [.int 0,.none,.lstM 67 []])) (zk8 l ks nc (some (.ref (1,0))) (some (.ref (53,0))) none none none none none) s5) λv t=>v=.lst (mcs nc)/\CaI s5 nc t:=by
  refine zbr (src:=.int nc) (s1:=s5) rfl ((jt s5 nc (Qi nc) (Qw.2 (Zp h6 (by decide)))).trans (by rw[Qy,Q6])) (jq (dl (λi=>V.ref (52,i)) (CaI s5) (Zp h6 (by decide)) (λj t hj h=>?_) nc 0 s5 (Jo nc) ⟨b52,b67,λi hi=>(nomatch hi),.refl _ _⟩) λvs t h=>⟨by rw[h.1];rfl,h.2⟩);have h':=h.next
  refine bc (g6 (a:=[.int 0,.none,.ref (67,t.cnt 67)]) (s:=t.new 67 (.list [])) (zg rfl (zg rfl rfl)) rfl) ⟨?_,?_⟩
  .show V.ref (52,t.cnt 52)=.ref (52,j);rw[h.c2]
  .rw[h.c7];exact h'
 refine jz (z7 hC) λv t ec eq3 ca=>?_;subst eq3;have q53':=(ca.f.1 (53,0) b53 λq=>q).trans q53;refine qg (v:=.lst (mcs nc)) (x:=.ref (53,0)) (y:=.str kC) (s1:=t) (s2:=t) (s3:=t) ec rfl rfl (z5 _ _ _ kC _ q53' (Za (p:=3<16777216) rfl)) ?_;have f35:Fr Nil s t:=(f12.trans f3).trans ca.f;have z53:s.cnt 53=0:=hc 53 (by decide);refine k (λb=>match b with|false=>x0|true=>x1) _ ?_ ⟨λa ha hn=>(yd λ(e:a=(53,0))=>by rw[e]at ha;exact absurd ha (by show ¬0<s.cnt 53;rw[z53];decide)).trans (f35.1 a ha hn),f35.2⟩;have r0:=p0.step (F:=Nil) ca.f λξ ξ q=>q;have r1:=p1.step (F:=Nil) ca.f λξ ξ q=>q;refine⟨zh _ _ _,dq (h':=λb=>HS.new (hn b) ks) ⟨λb=>?_,λb=>?_⟩ (r:=(53,0)) (Za (p:=¬(43<=53/\53<=46\/53=51)) rfl) _,λi hi=>(zo (by rfl)).trans (ca.h i hi).1,λi hi=>(zo (by rfl)).trans (ca.h i hi).2,(zo (by rfl)).trans ((ca.f.1 (50,0) b50 λq=>q).trans q50),(zo (by rfl)).trans ((ca.f.1 (66,0) b66 λq=>q).trans q66),Zi b53 (ca.f.2 _),Qf ca.c2.symm,Qf ca.c7.symm,Zi b50 (ca.f.2 _),Zi b66 (ca.f.2 _)⟩
 .cases b
  .exact r0
  .exact r1
 .cases b
  .exact ap
  .exact ap.sy
theorem zg8{l:Lbl}(h:oz l.1):¬SF l:=by
 have h0:11<=l.1/\l.1<=14\/l.1=57\/l.1=68:=h;intro q;have q0:l.1<11\/(43<=l.1/\l.1<=46\/50<=l.1/\l.1<=53\/l.1=66\/l.1=67):=q;lia
theorem zwl(f:Fr zr2 s t):Fr NW s t:=f.mono λl q=>by
 have q:11<=l.1/\l.1<=14\/l.1=57\/l.1=68:=q;show 11<=l.1;lia
theorem zs8(a:MAt s W z p)(f:Fr zr2 s t):MAt t W z p:=a.step f λl q h=>zg8 h (.inr q)
noncomputable abbrev zxa:=Xc V×Xc V×Xc V×Xc V×Xc V
noncomputable abbrev zgz (l:Xd Int) (ks:Xd Key) (nc:Nat) (y:zxa):Loc:=zk8 l ks nc (some (.ref (1,0))) (some (.ref (53,0))) y.1 y.2.1 y.2.2.1 y.2.2.2.1 y.2.2.2.2
structure LI(ks:Xd Key)(nc d:Nat)(ps qs:Xd Pr)(W:WS)(t:MS):Prop where
 A:∃x,WAt t ks W x
 M:∃z p,MAt t W z p
 w:WI ks nc (48*d) (4000*d) W
 p:PLs t ps
 q:PLs t qs
 e:ps.map (·.2)=qs.map (·.2)
 ok:∀p∈ps,zm2 p.2
 len:ps.length<=16777216
variable{qs:Xd Pr}
theorem zc7(n:Nat)(A:WAt s ks W x)(B:Bd ks nc τ m W)(pl:PLs s qs):OkR (run prog (n+4) 129 [.ref (1,0),.int nc] s) λv t=>∃ps,v=.lst (ps.map jn)/\ps.map (·.2)=p8 W/\PLs t (qs++ps)/\Fr Nil s t:=zqn lp rfl rfl rfl rfl rfl rfl rfl rfl rfl rfl n A B pl
variable{ps:Xd Pr}
theorem pe(B:Bd ks nc τ m W)(e:ps.map (·.2)=p8 W):ps.length<=10/\∀p∈ps,p.2.length<16777215/\∀x∈p.2,∀t:MS,kh t 9 x x:=by
 have hl:=Qd List.length e;rw[Zd,p8,Zf,Zd,Zx]at hl;refine⟨by rw[hl];exact Qh (B.wi.nc_▸B.h6) 4,λp hp=>zg0 B _ ?_⟩;rw[<- e];exact Z1.2 ⟨p,hp,rfl⟩
variable{d:Nat}
theorem znf(w:WI ks nc (48*d) (4000*d) W)(K:KeysFine ks)(h6:nc<=6)(hd:d<=40):Bd ks nc (48*d) (4000*d) W:=⟨w,K,h6,by lia,by lia⟩
theorem za6(ps:Xd Pr):(ps.map fq).map jn=ps.map jn:=by rw[Qg];rfl
theorem zfr(ps:Xd Pr):(ps.map fq).map (·.2)=(ps.map (·.2)).map (·++[rn]):=by rw[Qg,Qg];rfl
noncomputable abbrev zu5:Xd S:=[.ite (.or [.not (.call 117 [.loc 3,.loc 4,.loc 1,.loc 7]),.not (.call 114 [.loc 3,.loc 4,.loc 1])]) [.ret (some (.bool false))] [],.assign 8 (.call 130 [.loc 4,.loc 1]),.ite (.or [.cmp (.call 129 [.loc 3,.loc 2]) .ne (.loc 8),.cmp (.loc 5) .ne (.loc 6)]) [.ret (some (.bool false))] [],.assign 5 (.call 129 [.loc 3,.loc 2]),.for_ (.inl (.loc 9)) false (.bin .add (.loc 5) (.loc 8)) [.expr (.bm .append (.loc 9) [.str [109,111,114,101]])],.assign 6 (.loc 8)]
theorem zo5(n:Nat)(K:KeysFine ks)(h1:0<nc)(h6:nc<=6)(hd:d<40)(h:LI ks nc d ps qs W s){l:Xd Int}{cell:Int}{a8 a9:Xc V}(k:∀t W' ps' qs' y9,LI ks nc (d+1) ps' qs' W' t->Q (.next,zgz l ks nc (some (.lst (ps'.map jn)),some (.lst (qs'.map jn)),some (.int cell),some (.lst (qs'.map jn)),y9)) t):
  OkR (exs prog (run prog (n+12)) (n+12) zu5 (zgz l ks nc (some (.lst (ps.map jn)),some (.lst (qs.map jn)),some (.int cell),a8,a9)) s) Q:=by
 refine zr h.A λx A=>?_;refine ij h.M λz p a=>?_;have B:=znf h.w K h6 (Qn hd);have hn1:0<W.nc:=B.wi.nc_▸h1;obtain⟨v,t,e,rfl,W',⟨x',A'⟩,⟨z',p',a'⟩,w',f⟩:=z7 (zqm lp rfl (n+3) A a B hn1 (by lia) (by lia) cell (zff (n+7) A a B hn1 cell) λkey hk hh=>zfe (n+6) A hk hh);have w':WI ks nc (48*(d+1)) (4000*(d+1)) W':=w'.mono (by lia) (by lia);have B':=znf w' K h6 hd;have p1:=h.p.step f λl q=>zg8 q;have q1:=h.q.step f λl q=>zg8 q;refine zl (t:=false) (s':=t) (v0 (ve (t:=true) (qb (vs:=[.ref (1,0),.ref (53,0),.lst (ks.map .str),.int cell]) rfl e)) (yv (ve (t:=true) (qb (vs:=[.ref (1,0),.ref (53,0),.lst (ks.map .str)]) rfl (zfc lp rfl rfl rfl rfl (n+8) A' a' B'))))) (ze ?_);have nil:PLs t []:=⟨λp hp=>(nomatch hp),Qv⟩
 obtain⟨v,t2,e2,us,rfl,eu,pu,f2⟩:=z7 (zfa lp rfl (n+10) a' B' nil);rw[Jv]at pu;refine zk (qb (vs:=[.ref (53,0),.lst (ks.map .str)]) rfl e2) rfl ?_;show OkR (exs prog (run prog (n+12)) (n+12) _ (zgz l ks nc (some (.lst (ps.map jn)),some (.lst (qs.map jn)),some (.int cell),some (.lst (us.map jn)),a9)) t2) Q;have A2:=A'.step f2.nw;obtain⟨v,t3,e3,ts,rfl,et,pt,f3⟩:=z7 (zc7 (n+8) A2 B' pu);refine zn (pe B' et) λlt okt=>?_;have c1:=o8 (PLs.alike pt.sub.2 pt.sub.1 (et.trans eu.symm) (λp hp=>zi3 (okt p hp)) (Zp lt (by decide)));have c2:=o8 (PLs.alike ((p1.nil f2).nil f3) ((q1.nil f2).nil f3) h.e h.ok h.len);refine zl (t:=false) (s':=t3) (v0 (jy (x:=.lst (ts.map jn)) (y:=.lst (us.map jn)) (s1:=t3) (s2:=t3) (qb (vs:=[.ref (1,0),.int nc]) rfl e3) rfl c1) (yv (jy (x:=.lst (ps.map jn)) (y:=.lst (qs.map jn)) (s1:=t3) (s2:=t3) rfl rfl c2))) (ze ?_);have A3:=A2.step f3.nw;obtain⟨v,t4,e4,ws,rfl,ew,pw,f4⟩:=z7 (zc7 (n+8) A3 B' pt.sub.1);refine zn (pe B' ew) λlw okw=>?_;refine zn (pe B' eu) λlu oku=>?_;refine zk (qb (vs:=[.ref (1,0),.int nc]) rfl e4) rfl ?_;show OkR (exs prog (run prog (n+12)) (n+12) _ (zgz l ks nc (some (.lst (ws.map jn)),some (.lst (qs.map jn)),some (.int cell),some (.lst (us.map jn)),a9)) t4) Q;refine zla (λy9=>zgz l ks nc (some (.lst (ws.map jn)),some (.lst (qs.map jn)),some (.int cell),some (.lst (us.map jn)),y9)) (λξ ξ=>rfl) (λξ ξ=>rfl) (λξ=>Za (p:=9<11) rfl) pw.swap (λp hp=>(Zt.1 hp).elim (λq=>Nat.lt_succ_of_lt (okw p q).1) λq=>Nat.lt_succ_of_lt (oku p q).1) (kb (x:=.lst (ws.map jn)) (y:=.lst (us.map jn)) (s1:=t4) (s2:=t4) rfl rfl (by rw[Qb];exact zil _ _ _ (by rw[Zd,Zd];exact Zp (Nat.add_le_add lw lu) (by decide)))) λy9 t5 p5 f5=>?_;rw[Qb]at p5;refine zk (v:=.lst (us.map jn)) (s':=t5) rfl rfl (zx ?_);have:=k t5 W' (ws.map fq) (us.map fq) y9 ⟨⟨x',(A3.step f4.nw).step (zwl f5)⟩,⟨z',p',zs8 (((a'.nil f2).nil f3).nil f4) f5⟩,w',p5.sub.1,p5.sub.2,by rw[zfr,zfr,ew,eu],λp hp=>by
  refine zd (Z1.1 hp) λq hq eq2=>?_;subst eq2;exact zkp (okw q hq),by rw[Zd];exact Zp lw (by decide)⟩
 rw[za6,za6]at this;exact this
end
theorem zwu(l:Xd Int)(i j:Nat)(s:MS):vi (.lst (l.map .int)) (some (.int i)) (some (.int j)) s=.ok (.lst (((l.take j).drop i).map .int)) s:=by
 rw[List.map_drop,List.map_take];show(match (if (0:Int)<=i then some (i:Int).toNat else none),(if (0:Int)<=j then some (j:Int).toNat else none)with|some i,some j=>Res.ok (V.lst (((l.map V.int).take j).drop i)) s|_,_=>.stuck)=_;rw[Zg (Qi i),Zg (Qi j)];rfl
noncomputable def LoI(ks:Xd Key)(nc:Nat)(r:Xd Int)(y:zxa)(t:MS):Prop:=∃d ps qs W,d+r.length<=40/\LI ks nc d ps qs W t/\y.1=some (.lst (ps.map jn))/\y.2.1=some (.lst (qs.map jn))
theorem zpw:prog.fns 100=some f_cell:=rfl
theorem zwn:prog.fns 103=some f_keys:=rfl
theorem law_ok(n:Nat)(l:Xd Int):OkR (run prog (n+13) 118 [.lst (l.map .int)] st0) λv ξ=>v=.bool true:=by
 refine zm (fn:=zuv) rfl rfl ?_;refine zk (qb (zg (qb (vs:=[.lst (l.map .int),.int 0]) rfl (zln zpw (n+11) l st0)) rfl) (zlq zwn (n+11) _ st0)) rfl ?_;have K:=zk1 (l.getD 0 0);generalize ss (l.getD 0 0)=ks at K;obtain⟨k0,hk0,ek⟩:=lh (l.getD 1 0) (N:=6) (by decide);have e1:ev prog (run prog (n+12)) (.bin .add (.int 1) (.bin .mod (.call 100 [.loc 0,.int 1]) (.int 6))) [some (.lst (l.map .int)),some (.lst (ks.map .str)),none,none,none,none,none,none,none,none,none] st0=.ok (.int (1+k0:Nat)) st0 :=
  kb (x:=.int 1) (y:=.int (l.getD 1 0 |>.fmod 6)) rfl (kb (x:=.int (l.getD 1 0)) (qb (vs:=[.lst (l.map .int),.int 1]) rfl (zlo zpw (n+11) l st0)) rfl rfl) (Qd (λq=>Res.ok (V.int q) st0) (by rw[show(6:Int)=((6:Nat):Int) from rfl,ek];lia))
 have h1:1<=1+k0:=by lia
 have h6:1+k0<=6:=by lia
 generalize 1+k0=nc at e1 h1 h6;refine zk e1 rfl ?_;refine zh4 (zvu (vs:=[.lst (ks.map .str),.int nc]) (s1:=st0) rfl (zg1 wp hHP rfl rfl rfl rfl rfl rfl rfl (n+9) K h1 h6 λk hk=>rfl)) rfl ?_;rintro v s2 ⟨rfl,⟨x,a2⟩,-,ck⟩;refine zeq (n+11) (λk hk=>ck k hk) K h6 λz t M f=>?_;refine zk (v:=.lst []) (s':=t) rfl rfl (zk (v:=.lst []) (s':=t) rfl rfl ?_);have nil:PLs t []:=⟨λp hp=>(nomatch hp),Qv⟩
 have w0:WI ks nc 0 0 (W0 ks nc):=⟨rfl,λb=>HJ.new K.nd b,λkey hk=>KI.new K.nd hk,λL q=>(nomatch q),Zs _,Zs _,λi ξ=>⟨λp q=>(nomatch q),Q0 _,Zs _⟩⟩
 have L0:LI ks nc 0 [] [] (W0 ks nc) t:=⟨⟨x,a2.step f.nw⟩,⟨z,0,M⟩,w0,nil,nil,rfl,λp hp=>(nomatch hp),Ql _⟩
 show OkR (exs prog (run prog (n+12)) (n+12) (.for_ (.inl (.loc 7)) false (.slice (.loc 0) (some (.int (2:Nat))) (some (.int (42:Nat)))) zu5::[.ret (some (.call 101 [.call 129 [.loc 3,.loc 2],.call 130 [.loc 4,.loc 1]]))]) (zgz l ks nc (some (.lst []),some (.lst []),none,none,none)) t) _;refine ka (zbv (x:=.lst (l.map .int)) rfl rfl rfl (zwu l 2 42 t)) rfl rfl (xe V.int (zgz l ks nc) (LoI ks nc) (λcell r y t h=>⟨rfl,?_⟩) (λy t h=>⟨rfl,?_⟩) _ _ _ ⟨0,[],[],_,?_,L0,rfl,rfl⟩)
 .obtain⟨d,ps,qs,W,hd,h,e5,e6⟩:=h;obtain⟨y5,y6,y7,y8,y9⟩:=y;subst e5;subst e6;rw[Z4]at hd;exact zo5 n K h1 h6 (Zi (J7 (Q5 _)) hd) h λt' W' ps' qs' y9' h'=>⟨_,rfl,d+1,ps',qs',W',Zp (Qf (Qk d _)) hd,h',rfl,rfl⟩
 .obtain⟨d,ps,qs,W,hd,h,-⟩:=h;rw[j9];obtain⟨x,A⟩:=h.A;obtain⟨z,p,a⟩:=h.M;have B:=znf h.w K h6 hd;obtain⟨v,t1,e1,ts,rfl,et,pt,f1⟩:=z7 (zc7 (n+8) A B (qs:=[]) ⟨λp hp=>(nomatch hp),Qv⟩);rw[Jv]at pt;obtain⟨v,t2,e2,us,rfl,eu,pu,f2⟩:=z7 (zfa lp rfl (n+10) (a.nil f1) B pt);obtain⟨lt,okt⟩:=pe B et;exact zv (v:=.bool true) (s':=t2) (qb (vs:=[.lst (ts.map jn),.lst (us.map jn)]) (zg (s1:=t1) (qb (vs:=[.ref (1,0),.int nc]) rfl e1) (zg (s1:=t2) (qb (vs:=[.ref (53,0),.lst (ks.map .str)]) rfl e2) rfl)) (za8 lp.ali 11 n _ _ t2 (PLs.alike pu.sub.1 pu.sub.2 (et.trans eu.symm) (λp hp=>zi3 (okt p hp)) (Zp lt (by decide))))) rfl
 .rw[Js,Jk,Jo];lia
end Internal.L11
end
section
set_option tactic.hygienic true
open PySem PySem.W PyProof.Rows
set_option maxRecDepth 100000
set_option maxHeartbeats 8000000
namespace Internal.L11
noncomputable abbrev p:Program:=PySem.Challenge.rw_uf030007_11.row.prog
noncomputable def bd:Xd Stmt:=PySem.Challenge.pw_uf030007_11.main.body
noncomputable def z0(l:Xd Stmt)(i:Nat):Arguments×Xd Stmt×Scope:=match l[i]? with
 |some (.FunctionDef _ a b _ _ _ s _ _ _)=>(a,b,s)
 |_=>default
noncomputable def zq(l:Xd Stmt)(i:Nat):Xd Stmt:=match l[i]? with
 |some (.ClassDef _ _ _ b _ _ _ _ _ _ _)=>b
 |_=>[]
noncomputable def view:Program:={PySem.Challenge.pw_uf030007_11 with main:={PySem.Challenge.pw_uf030007_11.main with body:=([1,3,4,5,6,7,8,9,10,11,12,14,15,16,17,19,21,22,23,24,25,26,28,29,30,31,32,33,34,35,36,37,38,39,40,41,42,43,44,45,46,47,48,49,50,51,52,53,54,55]:Xd Nat).filterMap λi=>bd[i]?}}
noncomputable def tE:Obj:={cls:=.type "tuple",data:=.seq #[]}
noncomputable def nE:Obj:={cls:=.none,data:=.fields #[]}
noncomputable def gO(n q:String)(f:Arguments×Xd Stmt×Scope):Obj:={cls:=.none,data:=.func {name:=Str.ofString n,qualname:=Str.ofString q,params:=f.1,body:=.stmts f.2.1,scope:=f.2.2,globals:=0,closure:=[],defaults:=.none,kwdefaults:=.none}}
noncomputable def fO(n q:String)(f:Arguments×Xd Stmt×Scope)(m:String)(t c:Nat):Obj:={cls:=.type "function",data:=.func {name:=Str.ofString n,qualname:=Str.ofString q,params:=f.1,body:=.stmts f.2.1,scope:=f.2.2,globals:=3,closure:=[],defaults:=.none,kwdefaults:=.none,pyModule:=.str (Str.ofString m) t,code:=.ref c}}
noncomputable def cfO(n q:String)(t k:Nat)(l na:Int)(a b c d e:Xb):Obj:={cls:=.type "code",data:=.fields #[.str (Str.ofString n) t,.str (Str.ofString q) (t+1),.str "/claim/cut.py" (t+2),.int l 0,.int na 0,.int 0 0,.int 0 0,.int 3 0,a,.bool true,.int 181 0,b,.none,c,d,e,.int k 0,.int l 0,.str "/claim/cut.py" (k+1)]}
noncomputable def cO(n q:String)(t a k:Nat)(l na:Int):Obj:=cfO n q t k l na (.ref a) (.ref (a+1)) (.ref (a+2)) (.ref (a+3)) (.ref (a+4))
noncomputable def kO(n q:String)(t a k:Nat)(l na:Int):Obj:=cfO n q t k l na (.ref a) (.ref (a+1)) .none .none (.ref (a+2))
noncomputable def tSs:Nat->Xd String->Xd Xb
 |_,[]=>[]
 |t,x::l=>.str (Str.ofString x) t::tSs (t+1) l
noncomputable def tS(t:Nat)(l:Xd String):Obj:={cls:=.type "tuple",data:=.seq ⟨tSs t l⟩}
noncomputable def eV(P:Xg)(k:String)(t:Nat)(v:Xb):Xh:={hash:=PyData.keyHash P (Str.ofString k),key:=.str (Str.ofString k) t,val:=v}
noncomputable def eR(P:Xg)(k:String)(t a:Nat):Xh:=eV P k t (.ref a)
noncomputable def eS(P:Xg)(k:String)(t:Nat)(x:String)(u:Nat):Xh:=eV P k t (.str (Str.ofString x) u)
noncomputable def dE(n:Nat)(l:Xd Xh):Obj:={cls:=.type "dict",data:=.dict ⟨l⟩ n}
noncomputable def pOs:Xd (Int×Int×Nat)->Xd Xb
 | []=>[]
 |(x,y,z)::l=>.int x 0::.int y 0::.ref z::pOs l
noncomputable def pO(l:Xd (Int×Int×Nat)):Obj:={cls:=.none,data:=.fields ⟨pOs l⟩}
noncomputable def bfO(s:String)(v:Xb):Obj:={cls:=.type "builtin_function_or_method",data:=.fields #[.builtin s,v]}
noncomputable def prO:Obj:=bfO "type.__prepare__" (.type "type")
noncomputable def isO(a:Nat):Obj:=bfO "object.__init_subclass__" (.ref a)
noncomputable def suO(a:Nat):Obj:={cls:=.type "super",data:=.fields #[.ref a,.ref a,.ref a]}
noncomputable def trO:Obj:={cls:=.type "tuple",data:=.seq #[.ref 80]}
noncomputable def frO(a b:Nat)(m:String)(t:Nat):Obj:={cls:=.type "frame",slots:=#[some (.ref a),some (.ref 3),some (.ref b),none,some (.str (Str.ofString m) t),none,some (.ref 0)]}
noncomputable def clO(n:String)(t:Nat)(l:Int)(a:Nat):Obj:={cls:=.type "code",data:=.fields #[.str (Str.ofString n) t,.str (Str.ofString n) (t+1),.str "/claim/cut.py" (t+2),.int l 0,.int 0 0,.int 0 0,.int 0 0,.int 0 0,.ref a,.bool false,.int 181 0,.ref (a+1),.none,.none,.none,.none,.int (t+3:Nat) 0,.int l 0,.str "/claim/cut.py" (t+4)]}
noncomputable def xcO(n:String)(a t:Nat):Obj:={cls:=.type "type",data:=.cls {name:=Str.ofString n,bases:=[.ref 80],mro:=[.ref (a+9),.ref 80,.type "ValueError",.type "Exception",.type "BaseException",.type "object"],ns:=a+8,qualname:=Str.ofString n},slots:=#[some (.ref a),none,some (.str (Str.ofString n) t),some (.str (Str.ofString n) (t+8)),some (.builtin "ValueError.__new__"),some (.bool true)]}
noncomputable def meO(l:Xd Xb):Obj:={cls:=.type "type",data:=.cls {name:=Str.ofString "MoveError",bases:=[.type "ValueError"],mro:=[.ref 80,.type "ValueError",.type "Exception",.type "BaseException",.type "object"],ns:=79,qualname:=Str.ofString "MoveError",subclasses:=l},slots:=#[some (.ref 71),none,some (.str "MoveError" 264),some (.str "MoveError" 272),some (.builtin "ValueError.__new__"),some (.bool true)]}
noncomputable def d1O(P:Xg)(n:String)(t:Nat)(l:Int)(a:Nat):Obj:=dE 4 [eS P "__module__" t "movehouse.errors" 262,eS P "__qualname__" (t+2) n (t+1),eV P "__firstlineno__" (t+4) (.int l (t+3)),eR P "__static_attributes__" (t+5) a]
noncomputable def d2O(P:Xg)(t:Nat)(l:Int)(a:Nat):Obj:=dE 2 [eS P "__module__" t "movehouse.errors" 262,eV P "__firstlineno__" (t+4) (.int l (t+3)),eR P "__static_attributes__" (t+5) a,eV P "__doc__" (t+6) .none]
noncomputable def hp(P:Xg):Xd Obj:=(boot_heap P).objs.toList
noncomputable def o13:Obj:={cls:=.type "code",data:=.fields #[.str "<module>" 182,.str "<module>" 183,.str "/claim/cut.py" 184,.int 1 0,.int 0 0,.int 0 0,.int 0 0,.int 0 0,.ref 11,.bool false,.int 181 0,.ref 12,.none,.none,.none,.none,.int 185 0,.int 1 0,.str "/claim/cut.py" 186]}
noncomputable def hpa(P:Xg):Xd Obj:=(hp P)++[tE,nE,o13,frO 13 3 "__main__" 164]
noncomputable def Sa(w:World)(os:Xf):Xa:=⟨⟨⟨hpa w.params⟩,{ }⟩,#[],{ },187,os⟩
noncomputable def hpb(P:Xg):Xd Obj:=(hpa P)
noncomputable def Sb(w:World)(os:Xf):Xa:=⟨⟨⟨hpb w.params⟩,{ }⟩,#[],{ },187,os⟩
noncomputable def env:Env:={scope:=p.main.scope,locals:=mainNs,globals:=mainNs,cells:=[],code:=Value.ref 13,frame:=some 14}
noncomputable def q:Pos:={line:=0,col:=0,endLine:=0,endCol:=0}
noncomputable def l0:Xd Stmt:=((behindTheImports p).drop 0).take 3
noncomputable def l1:Xd Stmt:=((behindTheImports p).drop 3).take 2
noncomputable def l2:Xd Stmt:=((behindTheImports p).drop 5).take 2
noncomputable def l3:Xd Stmt:=((behindTheImports p).drop 7).take 2
noncomputable def l4:Xd Stmt:=((behindTheImports p).drop 9).take 2
noncomputable def l5:Xd Stmt:=((behindTheImports p).drop 11).take 4
noncomputable def l6:Xd Stmt:=((behindTheImports p).drop 15).take 4
noncomputable def l7:Xd Stmt:=((behindTheImports p).drop 19).take 1
noncomputable def l8:Xd Stmt:=((behindTheImports p).drop 20).take 6
noncomputable def l9:Xd Stmt:=((behindTheImports p).drop 26).take 1
noncomputable def l10:Xd Stmt:=((behindTheImports p).drop 27).take 15
noncomputable def l11:Xd Stmt:=((behindTheImports p).drop 42).take 14
noncomputable def r12:Xd Stmt:=[]
noncomputable def r11:Xd Stmt:=l11++r12
noncomputable def r10:Xd Stmt:=l10++r11
noncomputable def r9:Xd Stmt:=l9++r10
noncomputable def r8:Xd Stmt:=l8++r9
noncomputable def r7:Xd Stmt:=l7++r8
noncomputable def r6:Xd Stmt:=l6++r7
noncomputable def r5:Xd Stmt:=l5++r6
noncomputable def r4:Xd Stmt:=l4++r5
noncomputable def r3:Xd Stmt:=l3++r4
noncomputable def r2:Xd Stmt:=l2++r3
noncomputable def r1:Xd Stmt:=l1++r2
noncomputable def r0:Xd Stmt:=l0++r1
noncomputable def cd:Code:=.body r0 env
noncomputable def zxx(P:Xg):Xd Xh:=[eS P "__name__" 165 "movehouse.errors" 262,eV P "__doc__" 166 .none,eV P "__package__" 167 .none,eV P "__loader__" 168 (.builtin "__main__.__loader__#opaque"),eV P "__spec__" 169 .none,eR P "__annotations__" 170 6,eR P "__builtins__" 171 4,eS P "__file__" 173 "/claim/cut.py" 172,eV P "__cached__" 174 .none,eR P "Caller" 261 66]
noncomputable def o17(P:Xg):Obj:=dE 10 [eS P "__module__" 196 "movehouse.callers" 187,eS P "__qualname__" 198 "Caller" 197,eV P "__firstlineno__" 200 (.int 2 199),eR P "__init__" 208 28,eR P "begin" 217 35,eR P "letter" 226 42,eR P "came" 235 49,eR P "asking" 242 56,eR P "answers" 249 63,eR P "__static_attributes__" 254 64]
noncomputable def o20:Obj:=clO "Caller" 191 2 18
noncomputable def o27:Obj:=cO "__init__" "Caller.__init__" 201 22 206 4 2
noncomputable def o28:Obj:=fO "__init__" "Caller.__init__" (z0 (zq bd 1) 0) "movehouse.callers" 187 27
noncomputable def o34:Obj:=cO "begin" "Caller.begin" 209 29 215 10 3
noncomputable def o35:Obj:=fO "begin" "Caller.begin" (z0 (zq bd 1) 1) "movehouse.callers" 187 34
noncomputable def o41:Obj:=cO "letter" "Caller.letter" 218 36 224 15 2
noncomputable def o42:Obj:=fO "letter" "Caller.letter" (z0 (zq bd 1) 2) "movehouse.callers" 187 41
noncomputable def o48:Obj:=cO "came" "Caller.came" 227 43 233 19 3
noncomputable def o49:Obj:=fO "came" "Caller.came" (z0 (zq bd 1) 3) "movehouse.callers" 187 48
noncomputable def o55:Obj:=cO "asking" "Caller.asking" 236 50 240 24 1
noncomputable def o56:Obj:=fO "asking" "Caller.asking" (z0 (zq bd 1) 4) "movehouse.callers" 187 55
noncomputable def o62:Obj:=cO "answers" "Caller.answers" 243 57 247 27 1
noncomputable def o63:Obj:=fO "answers" "Caller.answers" (z0 (zq bd 1) 5) "movehouse.callers" 187 62
noncomputable def o65(P:Xg):Obj:=dE 4 [eS P "__module__" 196 "movehouse.callers" 187,eV P "__firstlineno__" 200 (.int 2 199),eR P "__init__" 208 28,eR P "begin" 217 35,eR P "letter" 226 42,eR P "came" 235 49,eR P "asking" 242 56,eR P "answers" 249 63,eR P "__static_attributes__" 254 64,eR P "__dict__" 256 67,eR P "__weakref__" 258 68,eV P "__doc__" 259 .none]
noncomputable def o66:Obj:={cls:=.type "type",data:=.cls {name:=Str.ofString "Caller",bases:=[.type "object"],mro:=[.ref 66,.type "object"],ns:=65,qualname:=Str.ofString "Caller"},slots:=#[none,none,some (.str "Caller" 189),some (.str "Caller" 197),some (.builtin "object.__new__"),some (.bool true)]}
noncomputable def pl0:Xd (Int×Int×Nat):=[(2,0,20)]
noncomputable def hp0(P:Xg):Xd Obj:=(((hpb P).set 3 (dE 10 (zxx P))).set 12 (pO pl0))++[tE,prO,o17 P,tE,pO [(4,4,27),(10,4,34),(15,4,41),(19,4,48),(24,4,55),(27,4,62)],o20,frO 20 17 "movehouse.callers" 187,tE,nE,tS 204 ["self","number"],tE,gO "__init__" "Caller.__init__" (z0 (zq bd 1) 0),o27,o28,tE,nE,tS 212 ["self","key","wish"],tE,gO "begin" "Caller.begin" (z0 (zq bd 1) 1),o34,o35,tE,nE,tS 221 ["self","house","call"],tE,gO "letter" "Caller.letter" (z0 (zq bd 1) 2),o41,o42,tE,nE,tS 230 ["self","number","told"],tE,gO "came" "Caller.came" (z0 (zq bd 1) 3),o48,o49,tE,nE,tS 239 ["self"],tE,gO "asking" "Caller.asking" (z0 (zq bd 1) 4),o55,o56,tE,nE,tS 246 ["self"],tE,gO "answers" "Caller.answers" (z0 (zq bd 1) 5),o62,o63,tS 250 ["begun","closed","number","open_call"],o65 P,o66,{cls:=.type "getset_descriptor",data:=.fields #[.str "__dict__" 255,.ref 66,.builtin "function.__dict__",.builtin "function.__dict__#set"]},{cls:=.type "getset_descriptor",data:=.fields #[.str "__weakref__" 257,.ref 66,.builtin "ExceptionGroup.__weakref__",.none]},suO 66,isO 66]
noncomputable def S0(w:World)(os:Xf):Xa:=⟨⟨⟨hp0 w.params⟩,{ }⟩,#[],{ },264,os⟩
noncomputable def zxy(P:Xg):Xd Xh:=(zxx P)++[eR P "MoveError" 281 80,eR P "BadWorld" 297 93]
noncomputable def o73(P:Xg):Obj:=d1O P "MoveError" 271 30 78
noncomputable def o76:Obj:=clO "MoveError" 266 30 74
noncomputable def o79(P:Xg):Obj:=dE 3 [eS P "__module__" 271 "movehouse.errors" 262,eV P "__firstlineno__" 275 (.int 30 274),eR P "__static_attributes__" 276 78,eR P "__weakref__" 278 81,eV P "__doc__" 279 .none]
noncomputable def o86(P:Xg):Obj:=d1O P "BadWorld" 289 32 91
noncomputable def o89:Obj:=clO "BadWorld" 284 32 87
noncomputable def o92(P:Xg):Obj:=d2O P 289 32 91
noncomputable def o93:Obj:=xcO "BadWorld" 84 282
noncomputable def pl1:Xd (Int×Int×Nat):=pl0++[(30,0,76),(32,0,89)]
noncomputable def hp1(P:Xg):Xd Obj:=(((hp0 P).set 3 (dE 12 (zxy P))).set 12 (pO pl1))++[{cls:=.type "tuple",data:=.seq #[.type "ValueError"]},prO,o73 P,tE,nE,o76,frO 76 73 "movehouse.errors" 262,tE,o79 P,meO [.ref 93],{cls:=.type "getset_descriptor",data:=.fields #[.str "__weakref__" 277,.ref 80,.builtin "ExceptionGroup.__weakref__",.none]},suO 80,isO 80,trO,prO,o86 P,tE,nE,o89,frO 89 86 "movehouse.errors" 262,tE,o92 P,o93,suO 93,isO 93]
noncomputable def S1(w:World)(os:Xf):Xa:=⟨⟨⟨hp1 w.params⟩,{ }⟩,#[],{ },298,os⟩
noncomputable def zx0(P:Xg):Xd Xh:=(zxy P)++[eR P "NoCaller" 313 105,eR P "NoHouse" 329 117]
noncomputable def o98(P:Xg):Obj:=d1O P "NoCaller" 305 34 103
noncomputable def zyr:Obj:=clO "NoCaller" 300 34 99
noncomputable def zys(P:Xg):Obj:=d2O P 305 34 103
noncomputable def zyt:Obj:=xcO "NoCaller" 96 298
noncomputable def zyu(P:Xg):Obj:=d1O P "NoHouse" 321 36 115
noncomputable def zyv:Obj:=clO "NoHouse" 316 36 111
noncomputable def zyw(P:Xg):Obj:=d2O P 321 36 115
noncomputable def zyx:Obj:=xcO "NoHouse" 108 314
noncomputable def pl2:Xd (Int×Int×Nat):=pl1++[(34,0,101),(36,0,113)]
noncomputable def hp2(P:Xg):Xd Obj:=((((hp1 P).set 3 (dE 14 (zx0 P))).set 12 (pO pl2)).set 80 (meO [.ref 93,.ref 105,.ref 117]))++[trO,prO,o98 P,tE,nE,zyr,frO 101 98 "movehouse.errors" 262,tE,zys P,zyt,suO 105,isO 105,trO,prO,zyu P,tE,nE,zyv,frO 113 110 "movehouse.errors" 262,tE,zyw P,zyx,suO 117,isO 117]
noncomputable def S2(w:World)(os:Xf):Xa:=⟨⟨⟨hp2 w.params⟩,{ }⟩,#[],{ },330,os⟩
noncomputable def zx1(P:Xg):Xd Xh:=(zx0 P)++[eR P "NoKey" 345 129,eR P "BadWish" 361 141]
noncomputable def zyy(P:Xg):Obj:=d1O P "NoKey" 337 38 127
noncomputable def zyz:Obj:=clO "NoKey" 332 38 123
noncomputable def zy0(P:Xg):Obj:=d2O P 337 38 127
noncomputable def zy1:Obj:=xcO "NoKey" 120 330
noncomputable def zy2(P:Xg):Obj:=d1O P "BadWish" 353 40 139
noncomputable def zy3:Obj:=clO "BadWish" 348 40 135
noncomputable def zy4(P:Xg):Obj:=d2O P 353 40 139
noncomputable def zy5:Obj:=xcO "BadWish" 132 346
noncomputable def pl3:Xd (Int×Int×Nat):=pl2++[(38,0,125),(40,0,137)]
noncomputable def hp3(P:Xg):Xd Obj:=((((hp2 P).set 3 (dE 16 (zx1 P))).set 12 (pO pl3)).set 80 (meO [.ref 93,.ref 105,.ref 117,.ref 129,.ref 141]))++[trO,prO,zyy P,tE,nE,zyz,frO 125 122 "movehouse.errors" 262,tE,zy0 P,zy1,suO 129,isO 129,trO,prO,zy2 P,tE,nE,zy3,frO 137 134 "movehouse.errors" 262,tE,zy4 P,zy5,suO 141,isO 141]
noncomputable def S3(w:World)(os:Xf):Xa:=⟨⟨⟨hp3 w.params⟩,{ }⟩,#[],{ },362,os⟩
noncomputable def zx2(P:Xg):Xd Xh:=(zx1 P)++[eR P "Busy" 377 153,eR P "Idle" 393 165]
noncomputable def zy6(P:Xg):Obj:=d1O P "Busy" 369 42 151
noncomputable def zy7:Obj:=clO "Busy" 364 42 147
noncomputable def zy8(P:Xg):Obj:=d2O P 369 42 151
noncomputable def zy9:Obj:=xcO "Busy" 144 362
noncomputable def zza(P:Xg):Obj:=d1O P "Idle" 385 44 163
noncomputable def zzb:Obj:=clO "Idle" 380 44 159
noncomputable def zzc(P:Xg):Obj:=d2O P 385 44 163
noncomputable def zzd:Obj:=xcO "Idle" 156 378
noncomputable def pl4:Xd (Int×Int×Nat):=pl3++[(42,0,149),(44,0,161)]
noncomputable def hp4(P:Xg):Xd Obj:=((((hp3 P).set 3 (dE 18 (zx2 P))).set 12 (pO pl4)).set 80 (meO [.ref 93,.ref 105,.ref 117,.ref 129,.ref 141,.ref 153,.ref 165]))++[trO,prO,zy6 P,tE,nE,zy7,frO 149 146 "movehouse.errors" 262,tE,zy8 P,zy9,suO 153,isO 153,trO,prO,zza P,tE,nE,zzb,frO 161 158 "movehouse.errors" 262,tE,zzc P,zzd,suO 165,isO 165]
noncomputable def S4(w:World)(os:Xf):Xa:=⟨⟨⟨hp4 w.params⟩,{ }⟩,#[],{ },394,os⟩
noncomputable def zx3(P:Xg):Xd Xh:=((zx2 P).set 0 (eS P "__name__" 165 "movehouse.desk" 426))++[eR P "NotHere" 409 177,eR P "NoLetter" 425 189,eV P "GREATEST" 431 (.int 1000000000000000000000000000000 430)]
noncomputable def o80:Obj:=meO [.ref 93,.ref 105,.ref 117,.ref 129,.ref 141,.ref 153,.ref 165,.ref 177,.ref 189]
noncomputable def zze(P:Xg):Obj:=d1O P "NotHere" 401 46 175
noncomputable def zzf:Obj:=clO "NotHere" 396 46 171
noncomputable def zzg(P:Xg):Obj:=d2O P 401 46 175
noncomputable def zzh:Obj:=xcO "NotHere" 168 394
noncomputable def zzi(P:Xg):Obj:=d1O P "NoLetter" 417 48 187
noncomputable def zzj:Obj:=clO "NoLetter" 412 48 183
noncomputable def zzk(P:Xg):Obj:=d2O P 417 48 187
noncomputable def zzl:Obj:=xcO "NoLetter" 180 410
noncomputable def pl5:Xd (Int×Int×Nat):=pl4++[(46,0,173),(48,0,185)]
noncomputable def hp5(P:Xg):Xd Obj:=((((hp4 P).set 3 (dE 21 (zx3 P))).set 12 (pO pl5)).set 80 (o80))++[trO,prO,zze P,tE,nE,zzf,frO 173 170 "movehouse.errors" 262,tE,zzg P,zzh,suO 177,isO 177,trO,prO,zzi P,tE,nE,zzj,frO 185 182 "movehouse.errors" 262,tE,zzk P,zzl,suO 189,isO 189]
noncomputable def S5(w:World)(os:Xf):Xa:=⟨⟨⟨hp5 w.params⟩,{ }⟩,#[],{ },432,os⟩
noncomputable def zx4(P:Xg):Xd Xh:=((zx3 P).set 0 (eS P "__name__" 165 "movehouse.houses" 454))++[eR P "is_whole" 438 198,eR P "need_wish" 445 205,eR P "done" 453 212]
noncomputable def fL(n:String)(i a:Nat):Obj:=fO n n (z0 bd i) "law_uf030007_11" 816 a
noncomputable def cOL(n:String):=cO n n
noncomputable def kOL(n:String):=kO n n
noncomputable def zzm:Obj:=cOL "is_whole" 432 192 436 52 1
noncomputable def zzn:Obj:=fO "is_whole" "is_whole" (z0 bd 15) "movehouse.desk" 426 197
noncomputable def zzo:Obj:=cOL "need_wish" 439 199 443 54 1
noncomputable def zzp:Obj:=fO "need_wish" "need_wish" (z0 bd 16) "movehouse.desk" 426 204
noncomputable def zzq:Obj:=cOL "done" 446 206 451 63 2
noncomputable def zzr:Obj:=fO "done" "done" (z0 bd 17) "movehouse.desk" 426 211
noncomputable def pl6:Xd (Int×Int×Nat):=pl5++[(52,0,197),(54,0,204),(63,0,211)]
noncomputable def hp6(P:Xg):Xd Obj:=(((hp5 P).set 3 (dE 24 (zx4 P))).set 12 (pO pl6))++[tE,nE,tS 435 ["thing"],tE,gO "is_whole" "is_whole" (z0 bd 15),zzm,zzn,tE,nE,tS 442 ["wish"],tE,gO "need_wish" "need_wish" (z0 bd 16),zzo,zzp,tE,nE,tS 449 ["amount","wish"],tE,gO "done" "done" (z0 bd 17),zzq,zzr]
noncomputable def S6(w:World)(os:Xf):Xa:=⟨⟨⟨hp6 w.params⟩,{ }⟩,#[],{ },456,os⟩
noncomputable def zx5(P:Xg):Xd Xh:=(zx4 P)++[eR P "House" 558 286]
noncomputable def zzs(P:Xg):Obj:=dE 14 [eS P "__module__" 463 "movehouse.houses" 454,eS P "__qualname__" 465 "House" 464,eV P "__firstlineno__" 467 (.int 70 466),eR P "__init__" 477 226,eR P "has" 485 233,eR P "owes" 491 238,eR P "came" 500 245,eR P "called" 506 250,eR P "parcel" 515 257,eR P "move" 524 264,eR P "write" 532 271,eR P "sleep" 539 278,eR P "nudge" 545 283,eR P "__static_attributes__" 551 284]
noncomputable def zzt:Obj:=clO "House" 458 70 216
noncomputable def zzu:Obj:=cO "__init__" "House.__init__" 468 220 475 72 3
noncomputable def zzv:Obj:=fO "__init__" "House.__init__" (z0 (zq bd 19) 0) "movehouse.houses" 454 225
noncomputable def zzw:Obj:=cO "has" "House.has" 478 227 483 83 2
noncomputable def zzx:Obj:=fO "has" "House.has" (z0 (zq bd 19) 1) "movehouse.houses" 454 232
noncomputable def zzy:Obj:=kO "owes" "House.owes" 486 234 489 86 1
noncomputable def zzz:Obj:=fO "owes" "House.owes" (z0 (zq bd 19) 2) "movehouse.houses" 454 237
noncomputable def zz0:Obj:=cO "came" "House.came" 492 239 498 89 2
noncomputable def zz1:Obj:=fO "came" "House.came" (z0 (zq bd 19) 3) "movehouse.houses" 454 244
noncomputable def zz2:Obj:=kO "called" "House.called" 501 246 504 102 5
noncomputable def zz3:Obj:=fO "called" "House.called" (z0 (zq bd 19) 4) "movehouse.houses" 454 249
noncomputable def zz4:Obj:=cO "parcel" "House.parcel" 507 251 513 116 3
noncomputable def zz5:Obj:=fO "parcel" "House.parcel" (z0 (zq bd 19) 5) "movehouse.houses" 454 256
noncomputable def zz6:Obj:=cO "move" "House.move" 516 258 522 119 2
noncomputable def zz7:Obj:=fO "move" "House.move" (z0 (zq bd 19) 6) "movehouse.houses" 454 263
noncomputable def zz8:Obj:=cO "write" "House.write" 525 265 530 126 1
noncomputable def zz9:Obj:=fO "write" "House.write" (z0 (zq bd 19) 7) "movehouse.houses" 454 270
noncomputable def z0a:Obj:=cO "sleep" "House.sleep" 533 272 537 133 1
noncomputable def z0b:Obj:=fO "sleep" "House.sleep" (z0 (zq bd 19) 8) "movehouse.houses" 454 277
noncomputable def z0c:Obj:=kO "nudge" "House.nudge" 540 279 543 138 1
noncomputable def z0d:Obj:=fO "nudge" "House.nudge" (z0 (zq bd 19) 9) "movehouse.houses" 454 282
noncomputable def z0e(P:Xg):Obj:=dE 4 [eS P "__module__" 463 "movehouse.houses" 454,eV P "__firstlineno__" 467 (.int 70 466),eR P "__init__" 477 226,eR P "has" 485 233,eR P "owes" 491 238,eR P "came" 500 245,eR P "called" 506 250,eR P "parcel" 515 257,eR P "move" 524 264,eR P "write" 532 271,eR P "sleep" 539 278,eR P "nudge" 545 283,eR P "__static_attributes__" 551 284,eR P "__dict__" 553 287,eR P "__weakref__" 555 288,eV P "__doc__" 556 .none]
noncomputable def z0f:Obj:={cls:=.type "type",data:=.cls {name:=Str.ofString "House",bases:=[.type "object"],mro:=[.ref 286,.type "object"],ns:=285,qualname:=Str.ofString "House"},slots:=#[none,none,some (.str "House" 456),some (.str "House" 464),some (.builtin "object.__new__"),some (.bool true)]}
noncomputable def pl7:Xd (Int×Int×Nat):=pl6++[(70,0,218)]
noncomputable def hp7(P:Xg):Xd Obj:=(((hp6 P).set 3 (dE 25 (zx5 P))).set 12 (pO pl7))++[tE,prO,zzs P,tE,pO [(72,4,225),(83,4,232),(86,4,237),(89,4,244),(102,4,249),(116,4,256),(119,4,263),(126,4,270),(133,4,277),(138,4,282)],zzt,frO 218 215 "movehouse.houses" 454,tE,nE,tS 471 ["self","number","keys","key"],tE,gO "__init__" "House.__init__" (z0 (zq bd 19) 0),zzu,zzv,tE,nE,tS 481 ["self","key"],tE,gO "has" "House.has" (z0 (zq bd 19) 1),zzw,zzx,tE,nE,gO "owes" "House.owes" (z0 (zq bd 19) 2),zzy,zzz,tE,nE,tS 495 ["self","letter","one"],tE,gO "came" "House.came" (z0 (zq bd 19) 3),zz0,zz1,tE,nE,gO "called" "House.called" (z0 (zq bd 19) 4),zz2,zz3,tE,nE,tS 510 ["self","key","one"],tE,gO "parcel" "House.parcel" (z0 (zq bd 19) 5),zz4,zz5,tE,nE,tS 519 ["self","key","one"],tE,gO "move" "House.move" (z0 (zq bd 19) 6),zz6,zz7,tE,nE,tS 528 ["self","found"],tE,gO "write" "House.write" (z0 (zq bd 19) 7),zz8,zz9,tE,nE,tS 536 ["self"],tE,gO "sleep" "House.sleep" (z0 (zq bd 19) 8),z0a,z0b,tE,nE,gO "nudge" "House.nudge" (z0 (zq bd 19) 9),z0c,z0d,tS 546 ["fresh","known","laid","number","written"],z0e P,z0f,{cls:=.type "getset_descriptor",data:=.fields #[.str "__dict__" 552,.ref 286,.builtin "function.__dict__",.builtin "function.__dict__#set"]},{cls:=.type "getset_descriptor",data:=.fields #[.str "__weakref__" 554,.ref 286,.builtin "ExceptionGroup.__weakref__",.none]},suO 286,isO 286]
noncomputable def S7(w:World)(os:Xf):Xa:=⟨⟨⟨hp7 w.params⟩,{ }⟩,#[],{ },559,os⟩
noncomputable def zx6(P:Xg):Xd Xh:=((zx5 P).set 0 (eS P "__name__" 165 "movehouse.world" 559))++[eS P "LETTERS" 562 "abcdefghijklmnopqrstuvwxyz" 561,eV P "MOST" 564 (.int 6 563),eV P "LONGEST" 566 (.int 8 565),eR P "is_key" 574 297,eR P "need_world" 583 304]
noncomputable def z0g:Obj:=cOL "is_key" 567 291 572 144 1
noncomputable def z0h:Obj:=fO "is_key" "is_key" (z0 bd 24) "movehouse.world" 559 296
noncomputable def z0i:Obj:=cOL "need_world" 575 298 581 151 2
noncomputable def z0j:Obj:=fO "need_world" "need_world" (z0 bd 25) "movehouse.world" 559 303
noncomputable def pl8:Xd (Int×Int×Nat):=pl7++[(144,0,296),(151,0,303)]
noncomputable def hp8(P:Xg):Xd Obj:=(((hp7 P).set 3 (dE 30 (zx6 P))).set 12 (pO pl8))++[tE,nE,tS 570 ["thing","sign"],tE,gO "is_key" "is_key" (z0 bd 24),z0g,z0h,tE,nE,tS 578 ["keys","callers","k"],tE,gO "need_world" "need_world" (z0 bd 25),z0i,z0j]
noncomputable def S8(w:World)(os:Xf):Xa:=⟨⟨⟨hp8 w.params⟩,{ }⟩,#[],{ },584,os⟩
noncomputable def zx7(P:Xg):Xd Xh:=(zx6 P)++[eR P "World" 815 487]
noncomputable def z0k(P:Xg):Obj:=dE 29 [eS P "__module__" 591 "movehouse.world" 559,eS P "__qualname__" 593 "World" 592,eV P "__firstlineno__" 595 (.int 159 594),eR P "__init__" 601 316,eR P "need_caller" 609 323,eR P "need_house" 617 330,eR P "need_key" 625 337,eR P "need_place" 633 344,eR P "call" 645 351,eR P "again" 654 358,eR P "letters" 661 365,eR P "brought" 669 372,eR P "hand" 677 379,eR P "twice" 685 386,eR P "lose" 693 393,eR P "home" 702 400,eR P "move" 711 407,eR P "has" 720 414,eR P "write" 729 421,eR P "sleep" 737 428,eR P "nudge" 745 435,eR P "ledger" 752 442,eR P "asking" 760 449,eR P "answers" 768 456,eR P "owes" 776 463,eR P "is_settled" 784 470,eR P "one_round" 794 477,eR P "settle" 802 484,eR P "__static_attributes__" 808 485]
noncomputable def z0l:Obj:=clO "World" 586 159 308
noncomputable def z0m:Obj:=kO "__init__" "World.__init__" 596 312 599 161 3
noncomputable def z0n:Obj:=fO "__init__" "World.__init__" (z0 (zq bd 26) 0) "movehouse.world" 559 315
noncomputable def z0o:Obj:=cO "need_caller" "World.need_caller" 602 317 607 169 2
noncomputable def z0p:Obj:=fO "need_caller" "World.need_caller" (z0 (zq bd 26) 1) "movehouse.world" 559 322
noncomputable def z0q:Obj:=cO "need_house" "World.need_house" 610 324 615 173 2
noncomputable def z0r:Obj:=fO "need_house" "World.need_house" (z0 (zq bd 26) 2) "movehouse.world" 559 329
noncomputable def z0s:Obj:=cO "need_key" "World.need_key" 618 331 623 177 2
noncomputable def z0t:Obj:=fO "need_key" "World.need_key" (z0 (zq bd 26) 3) "movehouse.world" 559 336
noncomputable def z0u:Obj:=cO "need_place" "World.need_place" 626 338 631 181 2
noncomputable def z0v:Obj:=fO "need_place" "World.need_place" (z0 (zq bd 26) 4) "movehouse.world" 559 343
noncomputable def z0w:Obj:=cO "call" "World.call" 634 345 643 185 5
noncomputable def z0x:Obj:=fO "call" "World.call" (z0 (zq bd 26) 5) "movehouse.world" 559 350
noncomputable def z0y:Obj:=cO "again" "World.again" 646 352 652 196 3
noncomputable def z0z:Obj:=fO "again" "World.again" (z0 (zq bd 26) 6) "movehouse.world" 559 357
noncomputable def z00:Obj:=cO "letters" "World.letters" 655 359 659 203 1
noncomputable def z01:Obj:=fO "letters" "World.letters" (z0 (zq bd 26) 7) "movehouse.world" 559 364
noncomputable def z02:Obj:=cO "brought" "World.brought" 662 366 667 206 2
noncomputable def z03:Obj:=fO "brought" "World.brought" (z0 (zq bd 26) 8) "movehouse.world" 559 371
noncomputable def z04:Obj:=cO "hand" "World.hand" 670 373 675 212 2
noncomputable def z05:Obj:=fO "hand" "World.hand" (z0 (zq bd 26) 9) "movehouse.world" 559 378
noncomputable def z06:Obj:=cO "twice" "World.twice" 678 380 683 216 2
noncomputable def z07:Obj:=fO "twice" "World.twice" (z0 (zq bd 26) 10) "movehouse.world" 559 385
noncomputable def z08:Obj:=cO "lose" "World.lose" 686 387 691 220 2
noncomputable def z09:Obj:=fO "lose" "World.lose" (z0 (zq bd 26) 11) "movehouse.world" 559 392
noncomputable def z1a:Obj:=cO "home" "World.home" 694 394 700 224 2
noncomputable def z1b:Obj:=fO "home" "World.home" (z0 (zq bd 26) 12) "movehouse.world" 559 399
noncomputable def z1c:Obj:=cO "move" "World.move" 703 401 709 231 2
noncomputable def z1d:Obj:=fO "move" "World.move" (z0 (zq bd 26) 13) "movehouse.world" 559 406
noncomputable def z1e:Obj:=cO "has" "World.has" 712 408 718 237 3
noncomputable def z1f:Obj:=fO "has" "World.has" (z0 (zq bd 26) 14) "movehouse.world" 559 413
noncomputable def z1g:Obj:=cO "write" "World.write" 721 415 727 242 2
noncomputable def z1h:Obj:=fO "write" "World.write" (z0 (zq bd 26) 15) "movehouse.world" 559 420
noncomputable def z1i:Obj:=cO "sleep" "World.sleep" 730 422 735 248 2
noncomputable def z1j:Obj:=fO "sleep" "World.sleep" (z0 (zq bd 26) 16) "movehouse.world" 559 427
noncomputable def z1k:Obj:=cO "nudge" "World.nudge" 738 429 743 252 2
noncomputable def z1l:Obj:=fO "nudge" "World.nudge" (z0 (zq bd 26) 17) "movehouse.world" 559 434
noncomputable def z1m:Obj:=cO "ledger" "World.ledger" 746 436 750 256 1
noncomputable def z1n:Obj:=fO "ledger" "World.ledger" (z0 (zq bd 26) 18) "movehouse.world" 559 441
noncomputable def z1o:Obj:=cO "asking" "World.asking" 753 443 758 259 2
noncomputable def z1p:Obj:=fO "asking" "World.asking" (z0 (zq bd 26) 19) "movehouse.world" 559 448
noncomputable def z1q:Obj:=cO "answers" "World.answers" 761 450 766 263 2
noncomputable def z1r:Obj:=fO "answers" "World.answers" (z0 (zq bd 26) 20) "movehouse.world" 559 455
noncomputable def z1s:Obj:=cO "owes" "World.owes" 769 457 774 267 2
noncomputable def z1t:Obj:=fO "owes" "World.owes" (z0 (zq bd 26) 21) "movehouse.world" 559 462
noncomputable def z1u:Obj:=cO "is_settled" "World.is_settled" 777 464 782 271 1
noncomputable def z1v:Obj:=fO "is_settled" "World.is_settled" (z0 (zq bd 26) 22) "movehouse.world" 559 469
noncomputable def z1w:Obj:=cO "one_round" "World.one_round" 785 471 792 277 1
noncomputable def z1x:Obj:=fO "one_round" "World.one_round" (z0 (zq bd 26) 23) "movehouse.world" 559 476
noncomputable def z1y:Obj:=cO "settle" "World.settle" 795 478 800 289 1
noncomputable def z1z:Obj:=fO "settle" "World.settle" (z0 (zq bd 26) 24) "movehouse.world" 559 483
noncomputable def z10(P:Xg):Obj:=dE 4 [eS P "__module__" 591 "movehouse.world" 559,eV P "__firstlineno__" 595 (.int 159 594),eR P "__init__" 601 316,eR P "need_caller" 609 323,eR P "need_house" 617 330,eR P "need_key" 625 337,eR P "need_place" 633 344,eR P "call" 645 351,eR P "again" 654 358,eR P "letters" 661 365,eR P "brought" 669 372,eR P "hand" 677 379,eR P "twice" 685 386,eR P "lose" 693 393,eR P "home" 702 400,eR P "move" 711 407,eR P "has" 720 414,eR P "write" 729 421,eR P "sleep" 737 428,eR P "nudge" 745 435,eR P "ledger" 752 442,eR P "asking" 760 449,eR P "answers" 768 456,eR P "owes" 776 463,eR P "is_settled" 784 470,eR P "one_round" 794 477,eR P "settle" 802 484,eR P "__static_attributes__" 808 485,eR P "__dict__" 810 488,eR P "__weakref__" 812 489,eV P "__doc__" 813 .none]
noncomputable def z11:Obj:={cls:=.type "type",data:=.cls {name:=Str.ofString "World",bases:=[.type "object"],mro:=[.ref 487,.type "object"],ns:=486,qualname:=Str.ofString "World"},slots:=#[none,none,some (.str "World" 584),some (.str "World" 592),some (.builtin "object.__new__"),some (.bool true)]}
noncomputable def pl9:Xd (Int×Int×Nat):=pl8++[(159,0,310)]
noncomputable def hp9(P:Xg):Xd Obj:=(((hp8 P).set 3 (dE 31 (zx7 P))).set 12 (pO pl9))++[tE,prO,z0k P,tE,pO [(161,4,315),(169,4,322),(173,4,329),(177,4,336),(181,4,343),(185,4,350),(196,4,357),(203,4,364),(206,4,371),(212,4,378),(216,4,385),(220,4,392),(224,4,399),(231,4,406),(237,4,413),(242,4,420),(248,4,427),(252,4,434),(256,4,441),(259,4,448),(263,4,455),(267,4,462),(271,4,469),(277,4,476),(289,4,483)],z0l,frO 310 307 "movehouse.world" 559,tE,nE,gO "__init__" "World.__init__" (z0 (zq bd 26) 0),z0m,z0n,tE,nE,tS 605 ["self","caller"],tE,gO "need_caller" "World.need_caller" (z0 (zq bd 26) 1),z0o,z0p,tE,nE,tS 613 ["self","house"],tE,gO "need_house" "World.need_house" (z0 (zq bd 26) 2),z0q,z0r,tE,nE,tS 621 ["self","key"],tE,gO "need_key" "World.need_key" (z0 (zq bd 26) 3),z0s,z0t,tE,nE,tS 629 ["self","place"],tE,gO "need_place" "World.need_place" (z0 (zq bd 26) 4),z0u,z0v,tE,nE,tS 637 ["self","caller","house","key","wish","number"],tE,gO "call" "World.call" (z0 (zq bd 26) 5),z0w,z0x,tE,nE,tS 649 ["self","caller","house"],tE,gO "again" "World.again" (z0 (zq bd 26) 6),z0y,z0z,tE,nE,tS 658 ["self"],tE,gO "letters" "World.letters" (z0 (zq bd 26) 7),z00,z01,tE,nE,tS 665 ["self","letter"],tE,gO "brought" "World.brought" (z0 (zq bd 26) 8),z02,z03,tE,nE,tS 673 ["self","place"],tE,gO "hand" "World.hand" (z0 (zq bd 26) 9),z04,z05,tE,nE,tS 681 ["self","place"],tE,gO "twice" "World.twice" (z0 (zq bd 26) 10),z06,z07,tE,nE,tS 689 ["self","place"],tE,gO "lose" "World.lose" (z0 (zq bd 26) 11),z08,z09,tE,nE,tS 697 ["self","key","house"],tE,gO "home" "World.home" (z0 (zq bd 26) 12),z1a,z1b,tE,nE,tS 706 ["self","key","home"],tE,gO "move" "World.move" (z0 (zq bd 26) 13),z1c,z1d,tE,nE,tS 715 ["self","house","key"],tE,gO "has" "World.has" (z0 (zq bd 26) 14),z1e,z1f,tE,nE,tS 724 ["self","house","found"],tE,gO "write" "World.write" (z0 (zq bd 26) 15),z1g,z1h,tE,nE,tS 733 ["self","house"],tE,gO "sleep" "World.sleep" (z0 (zq bd 26) 16),z1i,z1j,tE,nE,tS 741 ["self","house"],tE,gO "nudge" "World.nudge" (z0 (zq bd 26) 17),z1k,z1l,tE,nE,tS 749 ["self"],tE,gO "ledger" "World.ledger" (z0 (zq bd 26) 18),z1m,z1n,tE,nE,tS 756 ["self","caller"],tE,gO "asking" "World.asking" (z0 (zq bd 26) 19),z1o,z1p,tE,nE,tS 764 ["self","caller"],tE,gO "answers" "World.answers" (z0 (zq bd 26) 20),z1q,z1r,tE,nE,tS 772 ["self","house"],tE,gO "owes" "World.owes" (z0 (zq bd 26) 21),z1s,z1t,tE,nE,tS 780 ["self","caller"],tE,gO "is_settled" "World.is_settled" (z0 (zq bd 26) 22),z1u,z1v,tE,nE,tS 788 ["self","house","caller","k"],tE,gO "one_round" "World.one_round" (z0 (zq bd 26) 23),z1w,z1x,tE,nE,tS 798 ["self","rounds"],tE,gO "settle" "World.settle" (z0 (zq bd 26) 24),z1y,z1z,tS 803 ["all_keys","callers","houses","post","rows"],z10 P,z11,{cls:=.type "getset_descriptor",data:=.fields #[.str "__dict__" 809,.ref 487,.builtin "function.__dict__",.builtin "function.__dict__#set"]},{cls:=.type "getset_descriptor",data:=.fields #[.str "__weakref__" 811,.ref 487,.builtin "ExceptionGroup.__weakref__",.none]},suO 487,isO 487]
noncomputable def S9(w:World)(os:Xf):Xa:=⟨⟨⟨hp9 w.params⟩,{ }⟩,#[],{ },816,os⟩
noncomputable def zur(P:Xg):Xd Xh:=((zx7 P).set 0 (eS P "__name__" 165 "law_uf030007_11" 816))++[eR P "_law_cell_at" 825 498,eR P "_law_alike" 831 503,eR P "_law_wish" 839 510,eR P "_law_keys" 845 515,eR P "_law_done" 853 522,eR P "_law_marked" 859 527,eR P "_law_last" 870 534,eR P "_law_new" 881 541,eR P "_law_parcel" 890 548,eR P "_law_called" 907 555,eR P "_law_moved" 919 562,eR P "_law_wrote" 927 569,eR P "_law_slept" 934 576,eR P "_law_nudged" 940 581]
noncomputable def z12:Obj:=cOL "_law_cell_at" 818 492 823 296 2
noncomputable def z13:Obj:=fL "_law_cell_at" 28 497
noncomputable def z14:Obj:=kOL "_law_alike" 826 499 829 300 2
noncomputable def z15:Obj:=fL "_law_alike" 29 502
noncomputable def z16:Obj:=cOL "_law_wish" 832 504 837 310 1
noncomputable def z17:Obj:=fL "_law_wish" 30 509
noncomputable def z18:Obj:=kOL "_law_keys" 840 511 843 315 1
noncomputable def z19:Obj:=fL "_law_keys" 31 514
noncomputable def z2a:Obj:=cOL "_law_done" 846 516 851 325 2
noncomputable def z2b:Obj:=fL "_law_done" 32 521
noncomputable def z2c:Obj:=kOL "_law_marked" 854 523 857 331 4
noncomputable def z2d:Obj:=fL "_law_marked" 33 526
noncomputable def z2e:Obj:=cOL "_law_last" 860 528 868 333 2
noncomputable def z2f:Obj:=fL "_law_last" 34 533
noncomputable def z2g:Obj:=cOL "_law_new" 871 535 879 338 2
noncomputable def z2h:Obj:=fL "_law_new" 35 540
noncomputable def z2i:Obj:=cOL "_law_parcel" 882 542 888 346 3
noncomputable def z2j:Obj:=fL "_law_parcel" 36 547
noncomputable def z2k:Obj:=cOL "_law_called" 891 549 905 348 5
noncomputable def z2l:Obj:=fL "_law_called" 37 554
noncomputable def z2m:Obj:=cOL "_law_moved" 908 556 917 358 2
noncomputable def z2n:Obj:=fL "_law_moved" 38 561
noncomputable def z2o:Obj:=cOL "_law_wrote" 920 563 925 362 1
noncomputable def z2p:Obj:=fL "_law_wrote" 39 568
noncomputable def z2q:Obj:=cOL "_law_slept" 928 570 932 368 1
noncomputable def z2r:Obj:=fL "_law_slept" 40 575
noncomputable def z2s:Obj:=kOL "_law_nudged" 935 577 938 372 2
noncomputable def z2t:Obj:=fL "_law_nudged" 41 580
noncomputable def z3o:Xd (Int×Int×Nat):=pl9++[(296,0,497),(300,0,502),(310,0,509),(315,0,514),(325,0,521),(331,0,526),(333,0,533),(338,0,540),(346,0,547),(348,0,554),(358,0,561),(362,0,568),(368,0,575),(372,0,580)]
noncomputable def zyb(P:Xg):Xd Obj:=(((hp9 P).set 3 (dE 45 (zur P))).set 12 (pO z3o))++[tE,nE,tS 821 ["_law_script","_law_k"],tE,gO "_law_cell_at" "_law_cell_at" (z0 bd 28),z12,z13,tE,nE,gO "_law_alike" "_law_alike" (z0 bd 29),z14,z15,tE,nE,tS 835 ["_law_cell","_law_number"],tE,gO "_law_wish" "_law_wish" (z0 bd 30),z16,z17,tE,nE,gO "_law_keys" "_law_keys" (z0 bd 31),z18,z19,tE,nE,tS 849 ["_law_amount","_law_wish_here"],tE,gO "_law_done" "_law_done" (z0 bd 32),z2a,z2b,tE,nE,gO "_law_marked" "_law_marked" (z0 bd 33),z2c,z2d,tE,nE,tS 863 ["_law_marks","_law_caller","_law_one","_law_number","_law_told_here"],tE,gO "_law_last" "_law_last" (z0 bd 34),z2e,z2f,tE,nE,tS 874 ["_law_number","_law_keys_here","_law_first","_law_known","_law_key"],tE,gO "_law_new" "_law_new" (z0 bd 35),z2g,z2h,tE,nE,tS 885 ["_law_own","_law_key","_law_row"],tE,gO "_law_parcel" "_law_parcel" (z0 bd 36),z2i,z2j,tE,nE,tS 894 ["_law_own","_law_caller","_law_number","_law_key","_law_wish_here","_law_turn","_law_state","_law_amount","_law_marks","_law_last_here","_law_told_here"],tE,gO "_law_called" "_law_called" (z0 bd 37),z2k,z2l,tE,nE,tS 911 ["_law_own","_law_key","_law_turn","_law_state","_law_amount","_law_marks"],tE,gO "_law_moved" "_law_moved" (z0 bd 38),z2m,z2n,tE,nE,tS 923 ["_law_own","_law_pair"],tE,gO "_law_wrote" "_law_wrote" (z0 bd 39),z2o,z2p,tE,nE,tS 931 ["_law_own"],tE,gO "_law_slept" "_law_slept" (z0 bd 40),z2q,z2r,tE,nE,gO "_law_nudged" "_law_nudged" (z0 bd 41),z2s,z2t]
noncomputable def S10(w:World)(os:Xf):Xa:=⟨⟨⟨zyb w.params⟩,{ }⟩,#[],{ },941,os⟩
noncomputable def zxz(P:Xg):Xd Xh:=(zur P)++[eR P "_law_brought" 954 588,eR P "_law_written" 964 595,eR P "_law_home" 973 602,eR P "_law_owes" 979 607,eR P "_law_rounds" 985 612,eR P "_law_posted" 999 619,eR P "_law_lettered" 1012 626,eR P "_law_refused" 1025 633,eR P "_law_nowhere" 1033 640,eR P "_law_step" 1046 647,eR P "_law_told" 1052 652,eR P "_law_due" 1058 657,eR P "_law_stands" 1070 664,eR P "law" 1076 669]
noncomputable def o3(P:Xg):Obj:=dE 59 (zxz P)
noncomputable def z2u:Obj:=cOL "_law_brought" 941 582 952 374 2
noncomputable def z2v:Obj:=fL "_law_brought" 42 587
noncomputable def z2w:Obj:=cOL "_law_written" 955 589 962 392 2
noncomputable def z2x:Obj:=fL "_law_written" 43 594
noncomputable def z2y:Obj:=cOL "_law_home" 965 596 971 396 2
noncomputable def z2z:Obj:=fL "_law_home" 44 601
noncomputable def z20:Obj:=kOL "_law_owes" 974 603 977 401 3
noncomputable def z21:Obj:=fL "_law_owes" 45 606
noncomputable def z22:Obj:=kOL "_law_rounds" 980 608 983 403 2
noncomputable def z23:Obj:=fL "_law_rounds" 46 611
noncomputable def z24:Obj:=cOL "_law_posted" 986 613 997 424 4
noncomputable def z25:Obj:=fL "_law_posted" 47 618
noncomputable def z26:Obj:=cOL "_law_lettered" 1000 620 1010 436 3
noncomputable def z27:Obj:=fL "_law_lettered" 48 625
noncomputable def z28:Obj:=cOL "_law_refused" 1013 627 1023 451 4
noncomputable def z29:Obj:=fL "_law_refused" 49 632
noncomputable def z3a:Obj:=cOL "_law_nowhere" 1026 634 1031 475 2
noncomputable def z3b:Obj:=fL "_law_nowhere" 50 639
noncomputable def z3c:Obj:=cOL "_law_step" 1034 641 1044 481 4
noncomputable def z3d:Obj:=fL "_law_step" 51 646
noncomputable def z3e:Obj:=kOL "_law_told" 1047 648 1050 506 2
noncomputable def z3f:Obj:=fL "_law_told" 52 651
noncomputable def z3g:Obj:=kOL "_law_due" 1053 653 1056 509 2
noncomputable def z3h:Obj:=fL "_law_due" 53 656
noncomputable def z3i:Obj:=cOL "_law_stands" 1059 658 1068 512 3
noncomputable def z3j:Obj:=fL "_law_stands" 54 663
noncomputable def z3k:Obj:=kOL "law" 1071 665 1074 521 1
noncomputable def z3l:Obj:=fL "law" 55 668
noncomputable def z41:Xd (Int×Int×Nat):=z3o++[(374,0,587),(392,0,594),(396,0,601),(401,0,606),(403,0,611),(424,0,618),(436,0,625),(451,0,632),(475,0,639),(481,0,646),(506,0,651),(509,0,656),(512,0,663),(521,0,668)]
noncomputable def zyc(P:Xg):Xd Obj:=(((zyb P).set 3 (o3 P)).set 12 (pO z41))++[tE,nE,tS 944 ["_law_own","_law_letter","_law_one","_law_house","_law_turn","_law_state","_law_amount","_law_marks"],tE,gO "_law_brought" "_law_brought" (z0 bd 42),z2u,z2v,tE,nE,tS 958 ["_law_own","_law_house","_law_posted_here","_law_rows"],tE,gO "_law_written" "_law_written" (z0 bd 43),z2w,z2x,tE,nE,tS 968 ["_law_own","_law_key","_law_house"],tE,gO "_law_home" "_law_home" (z0 bd 44),z2y,z2z,tE,nE,gO "_law_owes" "_law_owes" (z0 bd 45),z20,z21,tE,nE,gO "_law_rounds" "_law_rounds" (z0 bd 46),z22,z23,tE,nE,tS 989 ["_law_world","_law_own","_law_keys_here","_law_cell","_law_more","_law_house","_law_caller","_law_one"],tE,gO "_law_posted" "_law_posted" (z0 bd 47),z24,z25,tE,nE,tS 1003 ["_law_world","_law_own","_law_cell","_law_more","_law_many","_law_place","_law_letter"],tE,gO "_law_lettered" "_law_lettered" (z0 bd 48),z26,z27,tE,nE,tS 1016 ["_law_world","_law_own","_law_keys_here","_law_cell","_law_caller","_law_is_idle","_law_kind"],tE,gO "_law_refused" "_law_refused" (z0 bd 49),z28,z29,tE,nE,tS 1029 ["_law_world","_law_key"],tE,gO "_law_nowhere" "_law_nowhere" (z0 bd 50),z3a,z3b,tE,nE,tS 1037 ["_law_world","_law_own","_law_keys_here","_law_cell","_law_house","_law_key","_law_home_here"],tE,gO "_law_step" "_law_step" (z0 bd 51),z3c,z3d,tE,nE,gO "_law_told" "_law_told" (z0 bd 52),z3e,z3f,tE,nE,gO "_law_due" "_law_due" (z0 bd 53),z3g,z3h,tE,nE,tS 1062 ["_law_world","_law_own","_law_keys_here","_law_key","_law_home_here","_law_caller"],tE,gO "_law_stands" "_law_stands" (z0 bd 54),z3i,z3j,tE,nE,gO "law" "law" (z0 bd 55),z3k,z3l]
noncomputable def S11(w:World)(os:Xf):Xa:=⟨⟨⟨zyc w.params⟩,{ }⟩,#[],{ },1077,os⟩
noncomputable def hpf(P:Xg):Xd Obj:=(zyc P)
noncomputable def Sf(w:World)(os:Xf):Xa:=⟨⟨⟨hpf w.params⟩,{ }⟩,#[],{ },1077,os⟩
noncomputable def K(P:Xg):Frag :=
 [(2,boot_o_2 P),(3,o3 P),(13,o13),(17,o17 P),(20,o20),(27,o27),(28,o28),(34,o34),(35,o35),(41,o41),(42,o42),(48,o48),(49,o49),(55,o55),(56,o56),(62,o62),(63,o63),(65,o65 P),(66,o66),(73,o73 P),(76,o76),(79,o79 P),(80,o80),(86,o86 P),(89,o89),(92,o92 P),(93,o93),(98,o98 P),(101,zyr),(104,zys P),(105,zyt),(110,zyu P),(113,zyv),(116,zyw P),(117,zyx),(122,zyy P),(125,zyz),(128,zy0 P),(129,zy1),(134,zy2 P),(137,zy3),(140,zy4 P),(141,zy5),(146,zy6 P),(149,zy7),(152,zy8 P),(153,zy9),(158,zza P),(161,zzb),(164,zzc P),(165,zzd),(170,zze P),(173,zzf),(176,zzg P),(177,zzh),(182,zzi P),(185,zzj),(188,zzk P),(189,zzl),(197,zzm),(198,zzn),(204,zzo),(205,zzp),(211,zzq),(212,zzr),(215,zzs P),(218,zzt),(225,zzu),(226,zzv),(232,zzw),(233,zzx),(237,zzy),(238,zzz),(244,zz0),(245,zz1),(249,zz2),(250,zz3),(256,zz4),(257,zz5),(263,zz6),(264,zz7),(270,zz8),(271,zz9),(277,z0a),(278,z0b),(282,z0c),(283,z0d),(285,z0e P),(286,z0f),(296,z0g),(297,z0h),(303,z0i),(304,z0j),(307,z0k P),(310,z0l),(315,z0m),(316,z0n),(322,z0o),(323,z0p),(329,z0q),(330,z0r),(336,z0s),(337,z0t),(343,z0u),(344,z0v),(350,z0w),(351,z0x),(357,z0y),(358,z0z),(364,z00),(365,z01),(371,z02),(372,z03),(378,z04),(379,z05),(385,z06),(386,z07),(392,z08),(393,z09),(399,z1a),(400,z1b),(406,z1c),(407,z1d),(413,z1e),(414,z1f),(420,z1g),(421,z1h),(427,z1i),(428,z1j),(434,z1k),(435,z1l),(441,z1m),(442,z1n),(448,z1o),(449,z1p),(455,z1q),(456,z1r),(462,z1s),(463,z1t),(469,z1u),(470,z1v),(476,z1w),(477,z1x),(483,z1y),(484,z1z),(486,z10 P),(487,z11),(497,z12),(498,z13),(502,z14),(503,z15),(509,z16),(510,z17),(514,z18),(515,z19),(521,z2a),(522,z2b),(526,z2c),(527,z2d),(533,z2e),(534,z2f),(540,z2g),(541,z2h),(547,z2i),(548,z2j),(554,z2k),(555,z2l),(561,z2m),(562,z2n),(568,z2o),(569,z2p),(575,z2q),(576,z2r),(580,z2s),(581,z2t),(587,z2u),(588,z2v),(594,z2w),(595,z2x),(601,z2y),(602,z2z),(606,z20),(607,z21),(611,z22),(612,z23),(618,z24),(619,z25),(625,z26),(626,z27),(632,z28),(633,z29),(639,z3a),(640,z3b),(646,z3c),(647,z3d),(651,z3e),(652,z3f),(656,z3g),(657,z3h),(663,z3i),(664,z3j),(668,z3k),(669,z3l)]
noncomputable def asL:Xd Addr:=[2,3,13,17,20,27,28,34,35,41,42,48,49,55,56,62,63,65,66,73,76,79,80,86,89,92,93,98,101,104,105,110,113,116,117,122,125,128,129,134,137,140,141,146,149,152,153,158,161,164,165,170,173,176,177,182,185,188,189,197,198,204,205,211,212,215,218,225,226,232,233,237,238,244,245,249,250,256,257,263,264,270,271,277,278,282,283,285,286,296,297,303,304,307,310,315,316,322,323,329,330,336,337,343,344,350,351,357,358,364,365,371,372,378,379,385,386,392,393,399,400,406,407,413,414,420,421,427,428,434,435,441,442,448,449,455,456,462,463,469,470,476,477,483,484,486,487,497,498,502,503,509,510,514,515,521,522,526,527,533,534,540,541,547,548,554,555,561,562,568,569,575,576,580,581,587,588,594,595,601,602,606,607,611,612,618,619,625,626,632,633,639,640,646,647,651,652,656,657,663,664,668,669]
noncomputable def H:Hook:=kHook K asL (λξ=>by kernel_rfl)
theorem z3u(w:World)(os:Xf):topGo treeTable p w 11 (some (Value.ref 6)) 12 ⟨boot_heap w.params,#[],boot_drawn,boot_toks,os⟩ (topStub p)=some (Sa w os,⟨denote treeTable cd,cd,{line:=0,col:=0,endLine:=0,endCol:=0},[topFrame q]⟩):=by kernel_rfl
theorem z3s(w:World)(os:Xf):segRun treeTable p w 11 (some (Value.ref 6)) 1 1 (Sa w os) (blockOf r0 env cd {line:=0,col:=0,endLine:=0,endCol:=0} [topFrame q])=some (.next,Sb w os,cd,{line:=0,col:=0,endLine:=0,endCol:=0}):=by kernel_rfl
theorem t0(w:World)(os:Xf):segRun treeTable p w 11 (some (Value.ref 6)) 1 405 (Sb w os) (piecesOf l0 env cd {line:=0,col:=0,endLine:=0,endCol:=0} [topFrame q])=some (.next,S0 w os,cd,{line:=29,col:=0,endLine:=29,endCol:=8}):=by kernel_rfl
theorem t1(w:World)(os:Xf):segRun treeTable p w 11 (some (Value.ref 6)) 1 400 (S0 w os) (piecesOf l1 env cd {line:=29,col:=0,endLine:=29,endCol:=8} [topFrame q])=some (.next,S1 w os,cd,{line:=32,col:=0,endLine:=33,endCol:=8}):=by kernel_rfl
theorem t2(w:World)(os:Xf):segRun treeTable p w 11 (some (Value.ref 6)) 1 427 (S1 w os) (piecesOf l2 env cd {line:=32,col:=0,endLine:=33,endCol:=8} [topFrame q])=some (.next,S2 w os,cd,{line:=36,col:=0,endLine:=37,endCol:=8}):=by kernel_rfl
theorem t3(w:World)(os:Xf):segRun treeTable p w 11 (some (Value.ref 6)) 1 427 (S2 w os) (piecesOf l3 env cd {line:=36,col:=0,endLine:=37,endCol:=8} [topFrame q])=some (.next,S3 w os,cd,{line:=40,col:=0,endLine:=41,endCol:=8}):=by kernel_rfl
theorem t4(w:World)(os:Xf):segRun treeTable p w 11 (some (Value.ref 6)) 1 427 (S3 w os) (piecesOf l4 env cd {line:=40,col:=0,endLine:=41,endCol:=8} [topFrame q])=some (.next,S4 w os,cd,{line:=44,col:=0,endLine:=45,endCol:=8}):=by kernel_rfl
theorem t5(w:World)(os:Xf):segRun treeTable p w 11 (some (Value.ref 6)) 1 451 (S4 w os) (piecesOf l5 env cd {line:=44,col:=0,endLine:=45,endCol:=8} [topFrame q])=some (.next,S5 w os,cd,{line:=51,col:=0,endLine:=51,endCol:=8}):=by kernel_rfl
theorem t6(w:World)(os:Xf):segRun treeTable p w 11 (some (Value.ref 6)) 1 98 (S5 w os) (piecesOf l6 env cd {line:=51,col:=0,endLine:=51,endCol:=8} [topFrame q])=some (.next,S6 w os,cd,{line:=69,col:=0,endLine:=69,endCol:=8}):=by kernel_rfl
theorem t7(w:World)(os:Xf):segRun treeTable p w 11 (some (Value.ref 6)) 1 507 (S6 w os) (piecesOf l7 env cd {line:=69,col:=0,endLine:=69,endCol:=8} [topFrame q])=some (.next,S7 w os,cd,{line:=70,col:=0,endLine:=139,endCol:=110}):=by kernel_rfl
theorem t8(w:World)(os:Xf):segRun treeTable p w 11 (some (Value.ref 6)) 1 98 (S7 w os) (piecesOf l8 env cd {line:=70,col:=0,endLine:=139,endCol:=110} [topFrame q])=some (.next,S8 w os,cd,{line:=151,col:=0,endLine:=158,endCol:=51}):=by kernel_rfl
theorem t9(w:World)(os:Xf):segRun treeTable p w 11 (some (Value.ref 6)) 1 1000 (S8 w os) (piecesOf l9 env cd {line:=151,col:=0,endLine:=158,endCol:=51} [topFrame q])=some (.next,S9 w os,cd,{line:=159,col:=0,endLine:=294,endCol:=21}):=by kernel_rfl
theorem t10(w:World)(os:Xf):segRun treeTable p w 11 (some (Value.ref 6)) 1 433 (S9 w os) (piecesOf l10 env cd {line:=159,col:=0,endLine:=294,endCol:=21} [topFrame q])=some (.next,S10 w os,cd,{line:=372,col:=0,endLine:=373,endCol:=152}):=by kernel_rfl
theorem t11(w:World)(os:Xf):segRun treeTable p w 11 (some (Value.ref 6)) 1 435 (S10 w os) (piecesOf l11 env cd {line:=372,col:=0,endLine:=373,endCol:=152} [topFrame q])=some (.next,S11 w os,cd,{line:=521,col:=0,endLine:=539,endCol:=94}):=by kernel_rfl
theorem z3t(w:World)(os:Xf):topRun treeTable p w 11 (some (Value.ref 6)) 2 (S11 w os) ⟨doneF .next,cd,{line:=521,col:=0,endLine:=539,endCol:=94},[topFrame q]⟩=some (Sf w os):=by kernel_rfl
theorem z3v(w:World)(os:Xf):topRun treeTable p w 11 (some (Value.ref 6)) (12+(1+(405+(400+(427+(427+(427+(451+(98+(507+(98+(1000+(433+(435+(2))))))))))))))) ⟨boot_heap w.params,#[],boot_drawn,boot_toks,os⟩ (topStub p)=some (Sf w os) :=
 go_top (z3u w os) (piece_block (z3s w os) (piece_app (l:=l0) (rest:=r1) (t0 w os) (piece_app (l:=l1) (rest:=r2) (t1 w os) (piece_app (l:=l2) (rest:=r3) (t2 w os) (piece_app (l:=l3) (rest:=r4) (t3 w os) (piece_app (l:=l4) (rest:=r5) (t4 w os) (piece_app (l:=l5) (rest:=r6) (t5 w os) (piece_app (l:=l6) (rest:=r7) (t6 w os) (piece_app (l:=l7) (rest:=r8) (t7 w os) (piece_app (l:=l8) (rest:=r9) (t8 w os) (piece_app (l:=l9) (rest:=r10) (t9 w os) (piece_app (l:=l10) (rest:=r11) (t10 w os) (piece_app (l:=l11) (rest:=r12) (t11 w os) (piece_nil (z3t w os)))))))))))))))
theorem lft:LeftO p view [Str.ofString "GREATEST"] (λs=>xlAt view [(Str.ofString "GREATEST",.int 1000000000000000000000000000000)] s&&recOk (RowW.records PySem.Challenge.rw_uf030007_11.row.toRowW) s) (Hook.obs H) (Hook.val H) 10918 :=
 LeftO.of_pieces (H₀:=boot_heap) (H₁:=λP=>⟨⟨hpf P⟩,{ }⟩) (boot_open (by kernel_rfl) (by kernel_rfl) (λξ=>by kernel_rfl)) (λw=>by kernel_rfl) z3v (by kernel_rfl) (λw=>by kernel_rfl)
end Internal.L11
end

section
set_option tactic.hygienic true
open PySem PySem.W PyProof.Rows
set_option maxRecDepth 100000
set_option maxHeartbeats 8000000
namespace Internal.L11
noncomputable def nm: Names where
  fn f := (fnn.lookup f).getD Str.empty
  cls c := (["World", "House", "Caller"] : Xd Xv)[c]?.getD Str.empty
  meth m := (["has", "owes", "came", "called", "parcel", "move", "write", "sleep", "nudge", "begin", "letter", "asking", "answers", "need_caller", "need_house", "need_key", "need_place", "call", "again", "letters", "brought", "hand", "twice", "lose", "home", "ledger", "is_settled", "one_round", "settle"] : Xd Xv)[m]?.getD Str.empty
  attr := vg
  exc c := (["MoveError", "BadWorld", "NoCaller", "NoHouse", "NoKey", "BadWish", "Busy", "Idle", "NotHere", "NoLetter"] : Xd Xv)[c]?.getD Str.empty
  gi := [("GREATEST", 1000000000000000000000000000000), ("MOST", 6), ("LONGEST", 8)]
  gs := [("LETTERS", [97, 98, 99, 100, 101, 102, 103, 104, 105, 106, 107, 108, 109, 110, 111, 112, 113, 114, 115, 116, 117, 118, 119, 120, 121, 122])]
  xs := xsl
  xf f := xfl.contains f
  xm k := xml.contains k
  qf f := qfl.contains f
noncomputable def tab: Tab := ⟨[(0, 198), (1, 205), (2, 212), (4, 297), (5, 304), (100, 498), (101, 503), (102, 510), (103, 515), (104, 522), (105, 527), (106, 534), (107, 541), (108, 548), (109, 555), (110, 562), (111, 569), (112, 576), (113, 581), (114, 664), (117, 647), (118, 669), (120, 588), (121, 595), (122, 602), (123, 607), (124, 612), (125, 619), (126, 626), (127, 633), (128, 640), (129, 652), (130, 657), (11, 35), (12, 42), (13, 49), (14, 56), (15, 63), (21, 233), (22, 238), (23, 245), (24, 250), (25, 257), (26, 264), (27, 271), (28, 278), (29, 283), (41, 323), (42, 330), (43, 337), (44, 344), (45, 351), (46, 358), (47, 365), (48, 372), (49, 379), (50, 386), (51, 393), (52, 400), (53, 407), (54, 414), (55, 421), (56, 428), (57, 435), (58, 442), (59, 449), (60, 456), (61, 463), (62, 470), (63, 477), (64, 484), (10, 28), (20, 226), (40, 316)], [(0, 487), (1, 286), (2, 66)], fnl, mel, inl, xbl⟩
theorem ckF(p : Xg): zuq (K p) nm tab = true := by kernel_rfl
theorem z4h(p : Xg): ∀(G : Gd)(C : Calls)(n : Nat)(H : Hyp G nm C ⟨n, true⟩), ((fnl.take 19).all λq => (tab.fal.lookup q.1).any λa => bu (K p) n H q.2 a) = true := by intro G C n H;kernel_rfl
theorem z4i(p : Xg): ∀(G : Gd)(C : Calls)(n : Nat)(H : Hyp G nm C ⟨n, true⟩), (((fnl.drop 19).take 19).all λq => (tab.fal.lookup q.1).any λa => bu (K p) n H q.2 a) = true := by intro G C n H;kernel_rfl
theorem z4j(p : Xg): ∀(G : Gd)(C : Calls)(n : Nat)(H : Hyp G nm C ⟨n, true⟩), ((((fnl.drop 19).drop 19).take 19).all λq => (tab.fal.lookup q.1).any λa => bu (K p) n H q.2 a) = true := by intro G C n H;kernel_rfl
theorem z4k(p : Xg): ∀(G : Gd)(C : Calls)(n : Nat)(H : Hyp G nm C ⟨n, true⟩), ((((fnl.drop 19).drop 19).drop 19).all λq => (tab.fal.lookup q.1).any λa => bu (K p) n H q.2 a) = true := by intro G C n H;kernel_rfl
theorem ckB9(p : Xg): ∀(G : Gd)(C : Calls)(n : Nat)(H : Hyp G nm C ⟨n, true⟩), zxk (K p) tab n H = true := λG C n H => zbj 19 (z4h p G C n H) (zbj 19 (z4i p G C n H) (zbj 19 (z4j p G C n H) (z4k p G C n H)))
theorem ckX9(p : Xg): ∀(G : Gd)(C : Calls)(n : Nat)(H : Hyp G nm C ⟨n, true⟩), zxt (K p) tab n H = true := by intro G C n H;kernel_rfl
theorem ckQ9(p : Xg): ∀(G : Gd)(C : Calls)(n : Nat)(H : Hyp G nm C ⟨n, false⟩), zxq (K p) tab n H = true := by intro G C n H;kernel_rfl
theorem ckG0(p : Xg): zgi (K p) nm = true := by kernel_rfl
theorem ckG1(p : Xg): znq (K p) nm tab = true := by kernel_rfl
theorem ckG2(p : Xg): znp (K p) tab = true := by kernel_rfl
theorem ckG3(p : Xg): znt (K p) nm tab = true := by kernel_rfl
theorem ckG4(p : Xg): znr (K p) nm tab = true := by kernel_rfl
theorem ckG5(p : Xg): zxs (K p) tab = true := by kernel_rfl
theorem ckG6: zxu nm tab = true := by kernel_rfl
theorem ckG7(p : Xg): zxr (K p) nm tab = true := by kernel_rfl
theorem ckG8(p : Xg): zxw (K p) nm tab = true := by kernel_rfl
theorem ckG9(p : Xg): zxv (K p) nm.xs = true := by kernel_rfl
theorem ckG10(p : Xg): n4 (K p) = true := by kernel_rfl
theorem ckGl(p : Xg): u8 (K p) (Str.ofString "law") = some (Value.ref 669) := by kernel_rfl
noncomputable abbrev pg := PySem.Challenge.rw_uf030007_11.row.prog
theorem z4l: noRoadLSs {strict := !(importedModules pg.main.body).all cThrough.contains, foot := none, bare := (["vars", "dir", "locals"] : Xd Str).filter (readsOut pg pg.main.body)} pg.main.body = true := by kernel_rfl
theorem z4m: PySem.Challenge.rw_uf030007_11.row.wellSaid = true := by delta OpenRow.wellSaid OpenRow.partSaid looksOpen;rw[z4l];kernel_rfl
theorem ckGw: PySem.Challenge.rw_uf030007_11.wellSaid = true := by delta OpenLaw.wellSaid;rw[z4m];kernel_rfl
end Internal.L11
open Internal in
theorem PySem.Challenge.cw_uf030007_11_holds : PySem.Challenge.rw_uf030007_11.Holds := by
  refine holds_law L11.ckGw λsaid => ?_;refine holds_open (q := L11.view) (loose := [Str.ofString "GREATEST"]) (Xt := λs => xlAt L11.view [(Str.ofString "GREATEST", .int 1000000000000000000000000000000)] s&&recOk (RowW.records PySem.Challenge.rw_uf030007_11.row.toRowW) s) (XP := XL L11.view [(Str.ofString "GREATEST", .int 1000000000000000000000000000000)]) (Yf := Hook.obs L11.H) (Ya := Hook.val L11.H) (YP := Hook.says L11.H) (N := 10918) L11.lft (Hook.of L11.H) (Hook.keeps L11.H) (λs e => xl_of s (Zj.mp e).1) XL.keeps (by rfl) (by rfl) (by rfl) (λs e => recFacts_of (Zj.mp e).2) (by rfl) (by first|assumption|decide +kernel) (by decide +kernel) ⟨rfl, rfl, rfl, rfl, rfl, by decide +kernel⟩ ?hw ?hc
  case hw => w_witness2
  intro w s₀ s₁ mg mb G Y fa o pm cd doc dV kV ho hd hcd hD hmg hg args vals as hpre hlay hrd hwl hlo;have KX := kIn_of Y;clear ho hd hcd hD;refine Ground.open G ?_;intro T B D TE TW
  wrow_args hpre hlay hrd hwl hlo
  refine enter_call ?_;rename_i ns hs h0 hlay hx1 hx2 a1 a2 la vs a3 hL ra w1 r0 hI rr hc1 hc2;have hlen : ns.length <= 63 := by omega
  have hbits : ∀i ∈ ns, intBits i <= 1048576 := zng hlay;have S := zt6 (T := L11.tab) (N := L11.nm) (prog := PySem.Challenge.rw_uf030007_11.row.prog) (w := w) rfl KX T.g T.b T.builtins T.nolimit (L11.ckG0 _) (L11.ckG1 _) (L11.ckG2 _) (L11.ckG3 _) (L11.ckG4 _) (z4a KX (topRead_of T) (L11.ckG9 _)) (L11.ckG5 _) L11.ckG6 (L11.ckG7 _) (L11.ckG8 _);have hfa : fa = 669 := by
    have e := zag KX T.g (L11.ckG10 _) (Str.ofString "law");have e3 := hmg.symm.trans (e.trans (b := u8 _ _) (c := some (Value.ref 669)) (L11.ckGl _));cases e3;rfl
  subst hfa;obtain⟨v, st', hrun, rfl⟩ := z7 (L11.law_ok 11 ns);cases w1 with
  |list hz _ =>
    rename_i vs' _;have hvs : vs' = vs := by
      obtain⟨o, h1, h2, n, h3⟩ := hL;rw[hz]at h1;cases h1;simp at h3;exact h3.1
    subst hvs;refine zk3 S (L11.ckF _) (L11.ckB9 _) (L11.ckX9 _) (L11.ckQ9 _) (n := 24) (law := 118) ⟨λξ => rfl, by decide, by decide⟩ rfl hz hlen hI hrun λs' hk hos hgens => GoodW.toG ?_;refine⟨.inl ⟨.bool true, .bool true, [], rfl, raisesW_false (by wrow_none_raised), ?_, ?_, λξ => ⟨Qv, λa h => by cases h⟩⟩, hk, hos, hgens.trans hg⟩
    . constructor
    . wrow_post
end
