/- A part. -/
import Derived.Test.YtbifpocccfkhhaaGreatDoorKi
set_option linter.all false
namespace Go.Proofs.YtbifpocccfkhhaaGreatDoor
open Go Go.Proofs.Tryz
theorem Ex.ext'{x y:Ex}(a:x.kind=y.kind)(b:x.op=y.op)(c:x.n=y.n)(d:x.man=y.man∧x.exp=y.exp)(e:x.text=y.text)(f:x.args=y.args):x=y:=by
 obtain ⟨d,d'⟩:=d;cases x;cases y;simp only[Ex.kind,Ex.op,Ex.n,Ex.man,Ex.exp,Ex.text,Ex.args] at *;subst a b c d d' e f;rfl
theorem De.ext'{x y:De}(a:x.kind=y.kind)(b:x.own=y.own)(c:x.type=y.type)(d:x.names=y.names)(e:x.exps=y.exps)(f:x.formals=y.formals)(g:x.body=y.body):x=y:=by
 cases x;cases y;simp only[De.kind,De.own,De.type,De.names,De.exps,De.formals,De.body] at *;subst a b c d e f g;rfl
theorem Sm.ext'{x y:Sm}(a:x.elems=y.elems)(b:x.decls=y.decls)(c:x.labels=y.labels)(d:x.kind=y.kind)(e:x.text=y.text)(f:x.targets=y.targets)(g:x.exps=y.exps)(h:x.body=y.body):x=y:=by
 cases x;cases y;simp only[Sm.labels,Sm.kind,Sm.text,Sm.targets,Sm.exps,Sm.elems,Sm.decls,Sm.body] at *;subst a b c d e f g h;rfl
def qmz{α:Type}(l m:List α)(i:Nat):Prop:=∀j,j<i→l[j]?=m[j]?
theorem ZA{α:Type}{l m:List α}(hl:l.length=m.length)(h:qmz l m l.length):l=m:=by
 apply qrM;intro i;by_cases hi:i<l.length
 ·exact h i hi
 ·rw[qrv (by omega),qrv (by omega)]
open Classical in
theorem qfr(l m:List Bz)(hl:l.length≤B50):∀S,Fn prog 126 [.sl false (l.map .str),.sl false (m.map .str)] S (.bool (decide (l=m))):=by
 refine Pu.ib func126 ok126 (by simp[c126]) (by simp[V.under]) rfl ?_;unfold B50 at hl;by_cases hlen:l.length=m.length
 case neg=>
  have hne:¬ l=m:=fun h=>hlen (by rw[h])
  simp only[decide_eq_false hne];simp[c126,show ¬ ((l.length:Int)=m.length) by omega];exact qa rfl rfl rfl
 generalize hd:decide (l=m)=b;simp only[c126,C'.k];simp[hlen];refine qw (fun j e S'=>∃i:Nat,j=l.length - i∧i≤l.length∧qmz l m i∧
  e=[(13,.int .i64 i),(12,.int .i64 m.length),(0,.sl false (l.map .str)),(1,.sl false (m.map .str))]) l.length _ ?_ ⟨0,by simp,by omega,fun j hj=>by omega,rfl⟩ ?_
 ·repeat' first|exact Env.sub_nil _|refine Env.sub_cons (by simp[hlen]) ?_
 rintro j e S' ⟨i,rfl,hi,hq,rfl⟩;by_cases h:i<l.length
 ·have h':i<m.length:=by omega
  by_cases hx:l[i]=m[i]
  ·skip;simp[h,h',ZO,QZ,zW,yp,hx,zk (n:=(i:Int)+1)];refine ⟨_,?_,_,?_,i+1,rfl,by omega,?_,rfl⟩
   ·omega
   ·exact Env.so (by simp)
   ·intro j hj;by_cases hji:j=i
    ·subst hji;simp[h,h',hx]
    ·exact hq j (by omega)
  ·skip;simp[h,h',ZO,QZ,zW,yp,hx];refine qa rfl ?_ rfl;rw[←hd];have:¬ l=m:=fun hh=>hx (by subst hh;rfl)
   simp[qo,this]
 ·have:i=l.length:=by omega
  subst this;simp[hlen];refine qa rfl ?_ rfl;rw[←hd,decide_eq_true (ZA hlen hq)];rfl
open Classical in
theorem qkG(l m:List Fo)(hl:l.length≤B50):∀S,Fn prog 127 [.sl false (l.map Fo.v),.sl false (m.map Fo.v)] S (.bool (decide (l=m))):=by
 refine Pu.ib func127 ok127 (by simp[c127]) (by simp[V.under]) rfl ?_;unfold B50 at hl;by_cases hlen:l.length=m.length
 case neg=>
  have hne:¬ l=m:=fun h=>hlen (by rw[h])
  simp only[decide_eq_false hne];simp[c127,show ¬ ((l.length:Int)=m.length) by omega];exact qa rfl rfl rfl
 generalize hd:decide (l=m)=b;simp only[c127,C'.k];simp[hlen];refine qw (fun j e S'=>∃i:Nat,j=l.length - i∧i≤l.length∧qmz l m i∧
  e=[(13,.int .i64 i),(12,.int .i64 m.length),(0,.sl false (l.map Fo.v)),(1,.sl false (m.map Fo.v))]) l.length _ ?_ ⟨0,by simp,by omega,fun j hj=>by omega,rfl⟩ ?_
 ·repeat' first|exact Env.sub_nil _|refine Env.sub_cons (by simp[hlen]) ?_
 rintro j e S' ⟨i,rfl,hi,hq,rfl⟩;by_cases h:i<l.length
 ·have h':i<m.length:=by omega
  by_cases hx:l[i]=m[i]
  ·have hef:=qpG l[i] m[i];rw[decide_eq_true hx] at hef;simp[h,h',qlp,evX,Fo.v,yI,hef,QZ,zW,yp,zk (n:=(i:Int)+1)];refine ⟨_,?_,_,?_,i+1,rfl,by omega,?_,rfl⟩
   ·omega
   ·exact Env.so (by simp)
   ·intro j hj;by_cases hji:j=i
    ·subst hji;simp[h,h',hx]
    ·exact hq j (by omega)
  ·have hef:=qpG l[i] m[i];rw[decide_eq_false hx] at hef;simp[h,h',qlp,evX,Fo.v,yI,hef,QZ,zW,yp];refine qa rfl ?_ rfl;rw[←hd];have:¬ l=m:=fun hh=>hx (by subst hh;rfl)
   simp[qo,this]
 ·have:i=l.length:=by omega
  subst this;simp[hlen];refine qa rfl ?_ rfl;rw[←hd,decide_eq_true (ZA hlen hq)];rfl
open Classical in
theorem qgI(l m:List Ex)(hl:l.length≤B50)(g:Nat)(hg:∀x,x∈l→∀y S,Fn prog g [Ex.v x,Ex.v y] S (.bool (decide (x=y)))):∀S,Fn prog 165 [.sl false (l.map Ex.v),.sl false (m.map Ex.v),.fn (.func g) [] []] S (.bool (decide (l=m))):=by
 refine Pu.intro (R:=fun v=>v=.bool (decide (l=m))) func165 ok165 (by simp[c165]) (by simp[V.under,V.underL]) (by rintro v rfl;rfl) ?_;unfold B50 at hl;by_cases hlen:l.length=m.length
 case neg=>
  have hne:¬ l=m:=fun h=>hlen (by rw[h])
  simp only[decide_eq_false hne];simp[c165,show ¬ ((l.length:Int)=m.length) by omega];exact qa rfl rfl rfl
 generalize hd:decide (l=m)=b;simp only[c165,C'.k];simp[hlen];refine qw (fun j e S'=>∃i:Nat,j=l.length - i∧i≤l.length∧qmz l m i∧
  e=[(17,.int .i64 i),(16,.int .i64 m.length),(15,.sl false (l.map Ex.v)),(1,.sl false (m.map Ex.v)),(2,.fn (.func g) [] [])]) l.length _ ?_ ⟨0,by simp,by omega,fun j hj=>by omega,rfl⟩ ?_
 ·repeat' first|exact Env.sub_nil _|refine Env.sub_cons (by simp[hlen]) ?_
 rintro j e S' ⟨i,rfl,hi,hq,rfl⟩;by_cases h:i<l.length
 ·have h':i<m.length:=by omega
  simp[h',qjB,qG,ldS,stS,qh,h];refine qg (hg l[i] (qra h) m[i] _) ?_;by_cases hx:l[i]=m[i]
  ·rw[decide_eq_true hx];simp[zk (n:=(i:Int)+1)];refine ⟨_,?_,_,?_,i+1,rfl,by omega,?_,rfl⟩
   ·omega
   ·exact Env.so (by simp)
   ·intro j hj;by_cases hji:j=i
    ·subst hji;simp[h,h',hx]
    ·exact hq j (by omega)
  ·rw[decide_eq_false hx];simp;refine qa rfl ?_ rfl;rw[←hd];have:¬ l=m:=fun hh=>hx (by subst hh;rfl)
   simp[qo,this]
 ·have:i=l.length:=by omega
  subst this;simp[hlen];refine qa rfl ?_ rfl;rw[←hd,decide_eq_true (ZA hlen hq)];rfl
open Classical in
theorem qmR(l m:List Sm)(hl:l.length≤B50)(g:Nat)(hg:∀x,x∈l→∀y S,Fn prog g [Sm.v x,Sm.v y] S (.bool (decide (x=y)))):∀S,Fn prog 119 [.sl false (l.map Sm.v),.sl false (m.map Sm.v),.fn (.func g) [] []] S (.bool (decide (l=m))):=by
 refine Pu.intro (R:=fun v=>v=.bool (decide (l=m))) func119 ok119 (by simp[c119]) (by simp[V.under,V.underL]) (by rintro v rfl;rfl) ?_;unfold B50 at hl;by_cases hlen:l.length=m.length
 case neg=>
  have hne:¬ l=m:=fun h=>hlen (by rw[h])
  simp only[decide_eq_false hne];simp[c119,show ¬ ((l.length:Int)=m.length) by omega];exact qa rfl rfl rfl
 generalize hd:decide (l=m)=b;simp only[c119,C'.k];simp[hlen];refine qw (fun j e S'=>∃i:Nat,j=l.length - i∧i≤l.length∧qmz l m i∧
  e=[(17,.int .i64 i),(16,.int .i64 m.length),(15,.sl false (l.map Sm.v)),(1,.sl false (m.map Sm.v)),(2,.fn (.func g) [] [])]) l.length _ ?_ ⟨0,by simp,by omega,fun j hj=>by omega,rfl⟩ ?_
 ·repeat' first|exact Env.sub_nil _|refine Env.sub_cons (by simp[hlen]) ?_
 rintro j e S' ⟨i,rfl,hi,hq,rfl⟩;by_cases h:i<l.length
 ·have h':i<m.length:=by omega
  simp[h',qi4,qG,ldS,stS,qh,h];refine qg (hg l[i] (qra h) m[i] _) ?_;by_cases hx:l[i]=m[i]
  ·rw[decide_eq_true hx];simp[zk (n:=(i:Int)+1)];refine ⟨_,?_,_,?_,i+1,rfl,by omega,?_,rfl⟩
   ·omega
   ·exact Env.so (by simp)
   ·intro j hj;by_cases hji:j=i
    ·subst hji;simp[h,h',hx]
    ·exact hq j (by omega)
  ·rw[decide_eq_false hx];simp;refine qa rfl ?_ rfl;rw[←hd];have:¬ l=m:=fun hh=>hx (by subst hh;rfl)
   simp[qo,this]
 ·have:i=l.length:=by omega
  subst this;simp[hlen];refine qa rfl ?_ rfl;rw[←hd,decide_eq_true (ZA hlen hq)];rfl
open Classical in
theorem qlZ(l m:List El)(hl:l.length≤B50)(g:Nat)(hg:∀x,x∈l→∀y S,Fn prog g [El.v x,El.v y] S (.bool (decide (x=y)))):∀S,Fn prog 121 [.sl false (l.map El.v),.sl false (m.map El.v),.fn (.func g) [] []] S (.bool (decide (l=m))):=by
 refine Pu.intro (R:=fun v=>v=.bool (decide (l=m))) func121 ok121 (by simp[c121]) (by simp[V.under,V.underL]) (by rintro v rfl;rfl) ?_;unfold B50 at hl;by_cases hlen:l.length=m.length
 case neg=>
  have hne:¬ l=m:=fun h=>hlen (by rw[h])
  simp only[decide_eq_false hne];simp[c121,show ¬ ((l.length:Int)=m.length) by omega];exact qa rfl rfl rfl
 generalize hd:decide (l=m)=b;simp only[c121,C'.k];simp[hlen];refine qw (fun j e S'=>∃i:Nat,j=l.length - i∧i≤l.length∧qmz l m i∧
  e=[(17,.int .i64 i),(16,.int .i64 m.length),(15,.sl false (l.map El.v)),(1,.sl false (m.map El.v)),(2,.fn (.func g) [] [])]) l.length _ ?_ ⟨0,by simp,by omega,fun j hj=>by omega,rfl⟩ ?_
 ·repeat' first|exact Env.sub_nil _|refine Env.sub_cons (by simp[hlen]) ?_
 rintro j e S' ⟨i,rfl,hi,hq,rfl⟩;by_cases h:i<l.length
 ·have h':i<m.length:=by omega
  simp[h',qnX,qG,ldS,stS,qh,h];refine qg (hg l[i] (qra h) m[i] _) ?_;by_cases hx:l[i]=m[i]
  ·rw[decide_eq_true hx];simp[zk (n:=(i:Int)+1)];refine ⟨_,?_,_,?_,i+1,rfl,by omega,?_,rfl⟩
   ·omega
   ·exact Env.so (by simp)
   ·intro j hj;by_cases hji:j=i
    ·subst hji;simp[h,h',hx]
    ·exact hq j (by omega)
  ·rw[decide_eq_false hx];simp;refine qa rfl ?_ rfl;rw[←hd];have:¬ l=m:=fun hh=>hx (by subst hh;rfl)
   simp[qo,this]
 ·have:i=l.length:=by omega
  subst this;simp[hlen];refine qa rfl ?_ rfl;rw[←hd,decide_eq_true (ZA hlen hq)];rfl
open Classical in
theorem qlC(l m:List De)(hl:l.length≤B50)(g:Nat)(hg:∀x,x∈l→∀y S,Fn prog g [De.v x,De.v y] S (.bool (decide (x=y)))):∀S,Fn prog 124 [.sl false (l.map De.v),.sl false (m.map De.v),.fn (.func g) [] []] S (.bool (decide (l=m))):=by
 refine Pu.intro (R:=fun v=>v=.bool (decide (l=m))) func124 ok124 (by simp[c124]) (by simp[V.under,V.underL]) (by rintro v rfl;rfl) ?_;unfold B50 at hl;by_cases hlen:l.length=m.length
 case neg=>
  have hne:¬ l=m:=fun h=>hlen (by rw[h])
  simp only[decide_eq_false hne];simp[c124,show ¬ ((l.length:Int)=m.length) by omega];exact qa rfl rfl rfl
 generalize hd:decide (l=m)=b;simp only[c124,C'.k];simp[hlen];refine qw (fun j e S'=>∃i:Nat,j=l.length - i∧i≤l.length∧qmz l m i∧
  e=[(17,.int .i64 i),(16,.int .i64 m.length),(15,.sl false (l.map De.v)),(1,.sl false (m.map De.v)),(2,.fn (.func g) [] [])]) l.length _ ?_ ⟨0,by simp,by omega,fun j hj=>by omega,rfl⟩ ?_
 ·repeat' first|exact Env.sub_nil _|refine Env.sub_cons (by simp[hlen]) ?_
 rintro j e S' ⟨i,rfl,hi,hq,rfl⟩;by_cases h:i<l.length
 ·have h':i<m.length:=by omega
  simp[h',qm3,qG,ldS,stS,qh,h];refine qg (hg l[i] (qra h) m[i] _) ?_;by_cases hx:l[i]=m[i]
  ·rw[decide_eq_true hx];simp[zk (n:=(i:Int)+1)];refine ⟨_,?_,_,?_,i+1,rfl,by omega,?_,rfl⟩
   ·omega
   ·exact Env.so (by simp)
   ·intro j hj;by_cases hji:j=i
    ·subst hji;simp[h,h',hx]
    ·exact hq j (by omega)
  ·rw[decide_eq_false hx];simp;refine qa rfl ?_ rfl;rw[←hd];have:¬ l=m:=fun hh=>hx (by subst hh;rfl)
   simp[qo,this]
 ·have:i=l.length:=by omega
  subst this;simp[hlen];refine qa rfl ?_ rfl;rw[←hd,decide_eq_true (ZA hlen hq)];rfl
open Classical in
theorem qcc:∀k:Nat,(∀x:Ex,SizeOf.sizeOf x≤k→x.ok→∀y S,Fn prog 166 [x.v,y.v] S (.bool (decide (x=y)))):=by
 intro k
 induction k with
 | zero=>intro x h;exfalso;cases x;simp at h
 | succ k ih=>
  intro x hx hok y;refine Pu.ib func166 ok166 (by simp[c166]) (by simp[V.under]) rfl ?_;have hargs:=Ex.ok_args hok
  have ih':∀z,z∈x.args→∀y S,Fn prog 166 [Ex.v z,Ex.v y] S (.bool (decide (z=y))):=fun z hz=>ih z (by
   have:=qrL hz;cases x;simp only[Ex.args] at *;simp at hx;omega) (Ex.okL_mem hargs.2 z hz)
  have h123:∀S,Fn prog 123 [.sl false (x.args.map Ex.v),.sl false (y.args.map Ex.v)] S (.bool (decide (x.args=y.args))):=by
   refine Pu.ib func123 ok123 (by simp[c123]) (by simp[V.under]) rfl ?_;simp[c123];refine qg (qgI x.args y.args hargs.1 166 ih' _) ?_;simp;exact qa rfl rfl rfl
  generalize hr:decide (x=y)=r;simp[c166,qG,ldS];by_cases a1:x.kind=y.kind
  case neg=>
   simp[ldS,zT,eqV,evX,ze,a1];exact qa rfl (by rw[←hr,decide_eq_false (fun hh=>a1 (by subst hh;first|rfl|exact ⟨rfl,rfl⟩))];rfl) rfl
  by_cases a2:x.op=y.op
  case neg=>
   simp[ldS,zT,eqV,evX,ze,a1,a2];exact qa rfl (by rw[←hr,decide_eq_false (fun hh=>a2 (by subst hh;first|rfl|exact ⟨rfl,rfl⟩))];rfl) rfl
  by_cases a3:x.n=y.n
  case neg=>
   simp[ldS,zT,eqV,evX,ze,a1,a2,a3];exact qa rfl (by rw[←hr,decide_eq_false (fun hh=>a3 (by subst hh;first|rfl|exact ⟨rfl,rfl⟩))];rfl) rfl
  by_cases a4:x.man=y.man∧x.exp=y.exp
  case neg=>
   simp[ldS,zT,eqV,evX,ze,a1,a2,a3,a4];exact qa rfl (by rw[←hr,decide_eq_false (fun hh=>a4 (by subst hh;first|rfl|exact ⟨rfl,rfl⟩))];rfl) rfl
  by_cases a5:x.text=y.text
  case neg=>
   simp[ldS,zT,eqV,evX,ze,a1,a2,a3,a4,a5];exact qa rfl (by rw[←hr,decide_eq_false (fun hh=>a5 (by subst hh;first|rfl|exact ⟨rfl,rfl⟩))];rfl) rfl
  simp[ldS,zT,eqV,evX,ze,a1,a2,a3,a4,a5];refine qg (h123 _) ?_;by_cases a6:x.args=y.args
  case neg=>
   rw[decide_eq_false a6];simp;exact qa rfl (by rw[←hr,decide_eq_false (fun hh=>a6 (by rw[hh]))];rfl) rfl
  rw[decide_eq_true a6];simp[ldS,zT,eqV,evX,ze];exact qa rfl (by rw[←hr,decide_eq_true (Ex.ext' a1 a2 a3 a4 a5 a6)];rfl) rfl
open Classical in
theorem ql1(x:Ex)(h:x.ok)(y:Ex):∀S,Fn prog 166 [x.v,y.v] S (.bool (decide (x=y))):=qcc _ x (qqY _) h y
open Classical in
theorem qaH(l m:List Ex)(hl:l.length≤B50)(hok:Ex.okL l):∀S,Fn prog 123 [.sl false (l.map Ex.v),.sl false (m.map Ex.v)] S (.bool (decide (l=m))):=by
 refine Pu.ib func123 ok123 (by simp[c123]) (by simp[V.under]) rfl ?_;simp[c123];refine qg (qgI l m hl 166 (fun x hx y S=>ql1 x (Ex.okL_mem hok x hx) y S) _) ?_;simp;exact qa rfl rfl rfl
open Classical in
theorem qkI(x:El)(h:x.ok)(y:El):∀S,Fn prog 122 [x.v,y.v] S (.bool (decide (x=y))):=by
 refine Pu.ib func122 ok122 (by simp[c122]) (by simp[V.under]) rfl ?_;generalize hr:decide (x=y)=r;simp[c122,qG,ldS];by_cases a1:x.kind=y.kind
 case neg=>
  simp[ldS,zT,eqV,evX,ze,a1];exact qa rfl (by rw[←hr,decide_eq_false (fun hh=>a1 (by subst hh;first|rfl|exact ⟨rfl,rfl⟩))];rfl) rfl
 simp[ldS,zT,eqV,evX,ze,a1];refine qg (qaH x.exps y.exps h.1 h.2 _) ?_;by_cases a2:x.exps=y.exps
 case neg=>
  rw[decide_eq_false a2];simp;exact qa rfl (by rw[←hr,decide_eq_false (fun hh=>a2 (by rw[hh]))];rfl) rfl
 rw[decide_eq_true a2];simp[ldS,zT,eqV,evX,ze];exact qa rfl (by rw[←hr,decide_eq_true (by cases x;cases y;simp only at *;subst a1 a2;rfl)];rfl) rfl
open Classical in
theorem J9{l m:List Sm}(hl:l.length≤B50)(h:∀x,x∈l→∀y S,Fn prog 120 [Sm.v x,Sm.v y] S (.bool (decide (x=y)))):∀S,Fn prog 69 [.sl false (l.map Sm.v),.sl false (m.map Sm.v)] S (.bool (decide (l=m))):=by
 refine Pu.ib func69 ok69 (by simp[c69]) (by simp[V.under]) rfl ?_;simp[c69];refine qg (qmR l m hl 120 h _) ?_;simp;exact qa rfl rfl rfl
open Classical in
theorem qb3:∀k:Nat,(∀s:Sm,SizeOf.sizeOf s≤k→s.ok→∀t S,Fn prog 120 [s.v,t.v] S (.bool (decide (s=t))))∧(∀d:De,SizeOf.sizeOf d≤k→d.ok→∀e S,Fn prog 125 [d.v,e.v] S (.bool (decide (d=e)))):=by
 intro k
 induction k with
 | zero=>exact ⟨fun s h=>by exfalso;cases s;simp at h,fun s h=>by exfalso;cases s;simp at h⟩
 | succ k ih=>
  refine ⟨fun s hs hok t=>?_,fun d hd hok e=>?_⟩
  ·have O:=(Sm.ok_iff s).1 hok
   have ihb:∀z,z∈s.body→∀y S,Fn prog 120 [Sm.v z,Sm.v y] S (.bool (decide (z=y))):=fun z hz=>ih.1 z (by
    have:=qrL hz;cases s;simp only[Sm.body] at *;simp at hs;omega) (Sm.okL_mem O.body.2 z hz)
   have ihd:∀z,z∈s.decls→∀y S,Fn prog 125 [De.v z,De.v y] S (.bool (decide (z=y))):=fun z hz=>ih.2 z (by
    have:=qrL hz;cases s;simp only[Sm.decls] at *;simp at hs;omega) (De.okL_mem O.decls.2 z hz)
   refine Pu.ib func120 ok120 (by simp[c120]) (by simp[V.under]) rfl ?_;generalize hr:decide (s=t)=r;simp[c120,qG,ldS];refine qg (qlZ s.elems t.elems O.elems.1 122 (fun x hx y S=>qkI x (O.elems.2 x hx) y S) _) ?_;simp[ldS];refine qg (qlC s.decls t.decls O.decls.1 125 ihd _) ?_;by_cases a1:s.elems=t.elems
   case neg=>
    rw[decide_eq_false a1];simp;exact qa rfl (by rw[←hr,decide_eq_false (fun hh=>a1 (by rw[hh]))];rfl) rfl
   rw[decide_eq_true a1];by_cases a2:s.decls=t.decls
   case neg=>
    rw[decide_eq_false a2];simp;exact qa rfl (by rw[←hr,decide_eq_false (fun hh=>a2 (by rw[hh]))];rfl) rfl
   rw[decide_eq_true a2];simp[ldS,zT,eqV,evX,ze];refine qg (qfr s.labels t.labels O.labels.1 _) ?_;by_cases a3:s.labels=t.labels
   case neg=>
    rw[decide_eq_false a3];simp;exact qa rfl (by rw[←hr,decide_eq_false (fun hh=>a3 (by rw[hh]))];rfl) rfl
   rw[decide_eq_true a3];by_cases a4:s.kind=t.kind
   case neg=>
    simp[ldS,zT,eqV,evX,ze,a4];exact qa rfl (by rw[←hr,decide_eq_false (fun hh=>a4 (by subst hh;first|rfl|exact ⟨rfl,rfl⟩))];rfl) rfl
   by_cases a5:s.text=t.text
   case neg=>
    simp[ldS,zT,eqV,evX,ze,a4,a5];exact qa rfl (by rw[←hr,decide_eq_false (fun hh=>a5 (by subst hh;first|rfl|exact ⟨rfl,rfl⟩))];rfl) rfl
   simp[ldS,zT,eqV,evX,ze,a4,a5];refine qg (qaH s.targets t.targets O.targets.1 O.targets.2 _) ?_;by_cases a6:s.targets=t.targets
   case neg=>
    rw[decide_eq_false a6];simp;exact qa rfl (by rw[←hr,decide_eq_false (fun hh=>a6 (by rw[hh]))];rfl) rfl
   rw[decide_eq_true a6];simp[ldS,zT,eqV,evX,ze];refine qg (qaH s.exps t.exps O.exps.1 O.exps.2 _) ?_;by_cases a7:s.exps=t.exps
   case neg=>
    rw[decide_eq_false a7];simp;exact qa rfl (by rw[←hr,decide_eq_false (fun hh=>a7 (by rw[hh]))];rfl) rfl
   rw[decide_eq_true a7];simp[ldS,zT,eqV,evX,ze];refine qg (J9 O.body.1 ihb _) ?_;by_cases a8:s.body=t.body
   case neg=>
    rw[decide_eq_false a8];simp;exact qa rfl (by rw[←hr,decide_eq_false (fun hh=>a8 (by rw[hh]))];rfl) rfl
   rw[decide_eq_true a8];simp[ldS,zT,eqV,evX,ze];exact qa rfl (by rw[←hr,decide_eq_true (Sm.ext' a1 a2 a3 a4 a5 a6 a7 a8)];rfl) rfl
  ·have O:=(De.ok_iff d).1 hok
   have ihb:∀z,z∈d.body→∀y S,Fn prog 120 [Sm.v z,Sm.v y] S (.bool (decide (z=y))):=fun z hz=>ih.1 z (by
    have:=qrL hz;cases d;simp only[De.body] at *;simp at hd;omega) (Sm.okL_mem O.body.2 z hz)
   refine Pu.ib func125 ok125 (by simp[c125]) (by simp[V.under]) rfl ?_;generalize hr:decide (d=e)=r;simp[c125,qG,ldS];by_cases a1:d.kind=e.kind
   case neg=>
    simp[ldS,zT,eqV,evX,ze,a1];exact qa rfl (by rw[←hr,decide_eq_false (fun hh=>a1 (by subst hh;first|rfl|exact ⟨rfl,rfl⟩))];rfl) rfl
   by_cases a2:d.own=e.own
   case neg=>
    simp[ldS,zT,eqV,evX,ze,a1,show (d.own==e.own)=false by simpa using a2];exact qa rfl (by rw[←hr,decide_eq_false (fun hh=>a2 (by subst hh;first|rfl|exact ⟨rfl,rfl⟩))];rfl) rfl
   by_cases a3:d.type=e.type
   case neg=>
    simp[ldS,zT,eqV,evX,ze,a1,a2,a3];exact qa rfl (by rw[←hr,decide_eq_false (fun hh=>a3 (by subst hh;first|rfl|exact ⟨rfl,rfl⟩))];rfl) rfl
   simp[ldS,zT,eqV,evX,ze,a1,a2,a3];refine qg (qfr d.names e.names O.names.1 _) ?_;by_cases a4:d.names=e.names
   case neg=>
    rw[decide_eq_false a4];simp;exact qa rfl (by rw[←hr,decide_eq_false (fun hh=>a4 (by rw[hh]))];rfl) rfl
   rw[decide_eq_true a4];simp[ldS,zT,eqV,evX,ze];refine qg (qaH d.exps e.exps O.exps.1 O.exps.2 _) ?_;by_cases a5:d.exps=e.exps
   case neg=>
    rw[decide_eq_false a5];simp;exact qa rfl (by rw[←hr,decide_eq_false (fun hh=>a5 (by rw[hh]))];rfl) rfl
   rw[decide_eq_true a5];simp[ldS,zT,eqV,evX,ze];refine qg (qkG d.formals e.formals O.formals.1 _) ?_;by_cases a6:d.formals=e.formals
   case neg=>
    rw[decide_eq_false a6];simp;exact qa rfl (by rw[←hr,decide_eq_false (fun hh=>a6 (by rw[hh]))];rfl) rfl
   rw[decide_eq_true a6];simp[ldS,zT,eqV,evX,ze];refine qg (J9 O.body.1 ihb _) ?_;by_cases a7:d.body=e.body
   case neg=>
    rw[decide_eq_false a7];simp;exact qa rfl (by rw[←hr,decide_eq_false (fun hh=>a7 (by rw[hh]))];rfl) rfl
   rw[decide_eq_true a7];simp[ldS,zT,eqV,evX,ze];exact qa rfl (by rw[←hr,decide_eq_true (De.ext' a1 a2 a3 a4 a5 a6 a7)];rfl) rfl
open Classical in
theorem qnA(l m:List Sm)(hl:l.length≤B50)(hok:Sm.okL l):∀S,Fn prog 69 [.sl false (l.map Sm.v),.sl false (m.map Sm.v)] S (.bool (decide (l=m))):=
 J9 hl fun x hx y S=>(qb3 _).1 x (qqY _) (Sm.okL_mem hok x hx) y S
structure Pw where
 H:Type
 f:Nat→Bz→Bz
 nm:Option (Ex→Scs→Bool→Ex)
 cl:Option (Bz→Scs→Bz)
 ent:H→Nat→Bz→H
 nmH:H→Ex→Scs→Bool→H
 clH:H→Bz→Scs→H
def ZF(p:Pw)(sc:Scs)(x:Bz):Bz:=match sc.at x with
 | some k=>p.f k x
 | none=>x
def enters(p:Pw)(h:p.H)(s:Sco):p.H:=s.foldl (fun h e=>p.ent h e.2 e.1) h
def Pw.nmE(p:Pw)(sc:Scs)(tg:Bool)(x:Ex):Ex:=if Ex.named x.kind then match p.nm with
  | none=>.mk x.kind x.op x.n x.man x.exp (ZF p sc x.text) x.args
  | some g=>g x sc tg
 else x
def Pw.nmS(p:Pw)(sc:Scs)(tg:Bool)(h:p.H)(x:Ex):p.H:=if Ex.named x.kind then match p.nm with
  | none=>h
  | some _=>p.nmH h x sc tg
 else h
mutual
def Ex.wr(p:Pw)(sc:Scs)(tg:Bool):Ex→Ex
 | .mk k o n m e t a=>p.nmE sc tg (.mk k o n m e t (Ex.wrl p sc false a))
def Ex.wrl(p:Pw)(sc:Scs)(tg:Bool):List Ex→List Ex
 | []=>[]
 | x::l=>Ex.wr p sc tg x::Ex.wrl p sc tg l
end
theorem Ex.wrl_map(p:Pw)(sc:Scs)(tg:Bool):∀l,Ex.wrl p sc tg l=l.map (Ex.wr p sc tg)
 | []=>rfl
 | x::l=>by rw[Ex.wrl,Ex.wrl_map p sc tg l];rfl
mutual
def Ex.hs(p:Pw)(sc:Scs)(tg:Bool)(h:p.H):Ex→p.H
 | .mk k o n m e t a=>p.nmS sc tg (Ex.hsl p sc false h a) (.mk k o n m e t (Ex.wrl p sc false a))
def Ex.hsl(p:Pw)(sc:Scs)(tg:Bool)(h:p.H):List Ex→p.H
 | []=>h
 | x::l=>Ex.hsl p sc tg (Ex.hs p sc tg h x) l
end
theorem Ex.hsl_append(p:Pw)(sc:Scs)(tg:Bool):∀(l m:List Ex) (h:p.H),Ex.hsl p sc tg h (l++m)=Ex.hsl p sc tg (Ex.hsl p sc tg h l) m
 | [],m,h=>rfl
 | x::l,m,h=>by simp only[qrp,Ex.hsl];exact Ex.hsl_append p sc tg l m _
def El.wr(p:Pw)(sc:Scs)(e:El):El:=⟨e.kind,Ex.wrl p sc false e.exps⟩
def El.hsl(p:Pw)(sc:Scs)(h:p.H)(l:List El):p.H:=l.foldl (fun h e=>Ex.hsl p sc false h e.exps) h
def Fo.wr(p:Pw)(sc:Scs)(x:Fo):Fo:=⟨ZF p sc x.name,x.value,x.spec,x.type⟩
def Pw.clE(p:Pw)(sc:Scs)(k:Int)(t:Bz):Bz:=if k=6 then match p.cl with
  | none=>ZF p sc t
  | some c=>c t sc
 else t
def Pw.clS(p:Pw)(sc:Scs)(k:Int)(h:p.H)(t:Bz):p.H:=if k=6 then match p.cl with
  | none=>h
  | some _=>p.clH h t sc
 else h
mutual
def Sm.wr(p:Pw)(sc:Scs)(n:Nat):Sm→Sm
 | .mk l k t g e h d b=>
  if k=7 then
   .mk (l.map (ZF p sc)) k t (Ex.wrl p sc true g) e h (De.wrl p (qd (qe d b) n::sc) sc (n+(qd (qe d b) n).length) d) (Sm.wrl p (qd (qe d b) n::sc) (n+(qd (qe d b) n).length+De.nbl d) b)
  else if k=8 then
   .mk (l.map (ZF p sc)) k t (Ex.wrl p sc true g) e h d (Sm.wrl p (qd (qk b) n::sc) (n+(qd (qk b) n).length) b)
  else .mk (l.map (ZF p sc)) k (p.clE sc k t) (Ex.wrl p sc true g) (Ex.wrl p sc false e) (h.map (El.wr p sc)) d (Sm.wr1 p sc n b)
def De.wr(p:Pw)(own sc:Scs)(n:Nat):De→De
 | .mk k o t nm e fo b=>
  if k=4 then .mk k o t (nm.map (ZF p own)) (Ex.wrl p own false e) (fo.map (Fo.wr p (qd (fo.map Fo.name) n::own))) (Sm.wr1 p (qd (fo.map Fo.name) n::own) (n+(qd (fo.map Fo.name) n).length) b)
  else .mk k o t (nm.map (ZF p own)) (Ex.wrl p (if k=2 then sc else own) false e) fo b
def De.wrl(p:Pw)(own sc:Scs)(n:Nat):List De→List De
 | []=>[]
 | x::l=>De.wr p own sc n x::De.wrl p own sc (n+De.nb x) l
def Sm.wrl(p:Pw)(sc:Scs)(n:Nat):List Sm→List Sm
 | []=>[]
 | x::l=>Sm.wr p sc n x::Sm.wrl p sc (n+Sm.nb x) l
def Sm.wr1(p:Pw)(sc:Scs)(n:Nat):List Sm→List Sm
 | []=>[]
 | x::l=>Sm.wr p (qd x.labels n::sc) (n+(qd x.labels n).length) x::Sm.wr1 p sc (n+(qd x.labels n).length+Sm.nb x) l
end
mutual
def Sm.hs(p:Pw)(sc:Scs)(n:Nat)(h:p.H):Sm→p.H
 | .mk _ k t g e el d b=>
  if k=7 then
   Sm.hsl p (qd (qe d b) n::sc) (n+(qd (qe d b) n).length+De.nbl d) (De.hsl p (qd (qe d b) n::sc) sc (n+(qd (qe d b) n).length) (enters p (Ex.hsl p sc true h g) (qd (qe d b) n)) d) b
  else if k=8 then
   Sm.hsl p (qd (qk b) n::sc) (n+(qd (qk b) n).length) (enters p (Ex.hsl p sc true h g) (qd (qk b) n)) b
  else p.clS sc k (Sm.hs1 p sc n (El.hsl p sc (Ex.hsl p sc false (Ex.hsl p sc true h g) e) el) b) t
def De.hs(p:Pw)(own sc:Scs)(n:Nat)(h:p.H):De→p.H
 | .mk k _ _ _ e fo b=>
  if k=4 then Sm.hs1 p (qd (fo.map Fo.name) n::own) (n+(qd (fo.map Fo.name) n).length) (enters p (Ex.hsl p own false h e) (qd (fo.map Fo.name) n)) b
  else Ex.hsl p (if k=2 then sc else own) false h e
def De.hsl(p:Pw)(own sc:Scs)(n:Nat)(h:p.H):List De→p.H
 | []=>h
 | x::l=>De.hsl p own sc (n+De.nb x) (De.hs p own sc n h x) l
def Sm.hsl(p:Pw)(sc:Scs)(n:Nat)(h:p.H):List Sm→p.H
 | []=>h
 | x::l=>Sm.hsl p sc (n+Sm.nb x) (Sm.hs p sc n h x) l
def Sm.hs1(p:Pw)(sc:Scs)(n:Nat)(h:p.H):List Sm→p.H
 | []=>h
 | x::l=>Sm.hs1 p sc (n+(qd x.labels n).length+Sm.nb x) (Sm.hs p (qd x.labels n::sc) (n+(qd x.labels n).length) (enters p h (qd x.labels n)) x) l
end
def Sm.wholeR(p:Pw)(s:Sm):Sm:=s.wr p [qd s.labels 0] (qd s.labels 0).length
def Sm.wholeH(p:Pw)(h:p.H)(s:Sm):p.H:=s.hs p [qd s.labels 0] (qd s.labels 0).length (enters p h (qd s.labels 0))
theorem Sm.nbl_append:∀(l m:List Sm),Sm.nbl (l++m)=Sm.nbl l+Sm.nbl m
 | [],m=>by simp[Sm.nbl]
 | x::l,m=>by simp only[qrp,Sm.nbl,Sm.nbl_append l m];omega
theorem De.nbl_append:∀(l m:List De),De.nbl (l++m)=De.nbl l+De.nbl m
 | [],m=>by simp[De.nbl]
 | x::l,m=>by simp only[qrp,De.nbl,De.nbl_append l m];omega
theorem Sm.nb1_append:∀(l m:List Sm),Sm.nb1 (l++m)=Sm.nb1 l+Sm.nb1 m
 | [],m=>by simp[Sm.nb1]
 | x::l,m=>by simp only[qrp,Sm.nb1,Sm.nb1_append l m];omega
theorem Sm.wrl_append(p:Pw)(sc:Scs):∀(l m:List Sm) (n:Nat),Sm.wrl p sc n (l++m)=Sm.wrl p sc n l++Sm.wrl p sc (n+Sm.nbl l) m
 | [],m,n=>by simp[Sm.wrl,Sm.nbl]
 | x::l,m,n=>by simp only[qrp,Sm.wrl,Sm.nbl,Sm.wrl_append p sc l m,qrF]
theorem De.wrl_append(p:Pw)(own sc:Scs):∀(l m:List De) (n:Nat),De.wrl p own sc n (l++m)=De.wrl p own sc n l++De.wrl p own sc (n+De.nbl l) m
 | [],m,n=>by simp[De.wrl,De.nbl]
 | x::l,m,n=>by simp only[qrp,De.wrl,De.nbl,De.wrl_append p own sc l m,qrF]
theorem Sm.hsl_append(p:Pw)(sc:Scs):∀(l m:List Sm) (n:Nat) (h:p.H),Sm.hsl p sc n h (l++m)=Sm.hsl p sc (n+Sm.nbl l) (Sm.hsl p sc n h l) m
 | [],m,n,h=>by simp[Sm.hsl,Sm.nbl]
 | x::l,m,n,h=>by simp only[qrp,Sm.hsl,Sm.nbl,Sm.hsl_append p sc l m,qrF]
theorem De.hsl_append(p:Pw)(own sc:Scs):∀(l m:List De) (n:Nat) (h:p.H),De.hsl p own sc n h (l++m)=De.hsl p own sc (n+De.nbl l) (De.hsl p own sc n h l) m
 | [],m,n,h=>by simp[De.hsl,De.nbl]
 | x::l,m,n,h=>by simp only[qrp,De.hsl,De.nbl,De.hsl_append p own sc l m,qrF]
theorem Qm(m:Nat):∀(l:List Bz) (s s':Sco) (n n':Nat),s.map (·.1)=s'.map (·.1)→(binds l s n).map (·.1)=(binds l s' n').map (·.1)
 | [],s,s',n,n',h=>h
 | x::l,s,s',n,n',h=>by
  have at_eq:∀(s s':Sco),s.map (·.1)=s'.map (·.1)→(s.at x).isSome=(s'.at x).isSome:=by
   intro s
   induction s with
   | nil=>intro s' h;cases s' with
    | nil=>rfl
    | cons e s'=>simp at h
   | cons e s ih=>
    intro s' h
    cases s' with
    | nil=>simp at h
    | cons e' s'=>
     simp only[qq8,List.cons.injEq] at h;have:=ih s' h.2;simp only[Sco.at,List.find?_cons,h.1] at this ⊢;by_cases hx:e'.1=x
     ·simp[hx]
     ·simp only[decide_eq_false hx];exact this
  simp only[binds];rw[at_eq s s' h];split
  ·exact Qm m l s s' n n' h
  ·exact Qm m l _ _ _ _ (by simp[h])
theorem qq(l:List Bz)(n n':Nat):(qd l n).length=(qd l n').length:=by
 have:=congrArg List.length (Qm 0 l [] [] n n' rfl);rw[qq2,qq2] at this;exact this
structure Kg(F:Np)(S:St)(F':Np)(U:St):Prop where
 k:Kp F S U
 g:∀l,F' l→F l∨S.length≤l
theorem Kg.refl(F:Np)(S:St):Kg F S F S:=⟨Kp.refl _ _,fun _ h=>.inl h⟩
theorem Kg.trans{F G H:Np}{S T U:St}(h:Kg F S G T)(g:Kg G T H U):Kg F S H U:=
 ⟨⟨qrt h.k.len g.k.len,fun l hl hn=>by
  rw[g.k.get l (qry hl h.k.len) fun hh=>(h.g l hh).elim hn (by omega)];exact h.k.get l hl hn⟩,fun l hh=>(g.g l hh).elim (h.g l) fun hl=>.inr (qrt h.k.len hl)⟩
theorem Kg.push{F G:Np}{S U:St}(h:Kg F S G U)(os:List Ob):Kg F S G (U++os):=⟨h.k.push os,h.g⟩
theorem Kg.set{F G:Np}{S U:St}(h:Kg F S G U){l:Nat}(o:Ob)(hl:F l∨S.length≤l):Kg F S G (U.set l o):=⟨h.k.set o hl,h.g⟩
theorem Kg.off{F G:Np}{S U:St}(h:Kg F S G U){l:Nat}(hl:l<S.length)(hf:¬ F l):¬ G l:=fun hg=>(h.g l hg).elim hf (by omega)
theorem Kg.with{F G:Np}{S U:St}(h:Kg F S G U)(L:Nat)(hl:L<S.length):Kg (fun x=>F x∨x=L) S (fun x=>G x∨x=L) U:=⟨h.k.mono fun _ _ h=>.inl h,fun l hh=>hh.elim (fun a=>(h.g l a).imp .inl id) fun e=>.inl (.inr e)⟩
def RG(F0:Np)(U0:St)(L:Nat)(i0:LI)(J1 Dr:Np→St→Prop)(De:Nat→Np→St→Prop):V→St→Prop:=fun v U=>∃F,Kg (fun x=>F0 x∨x=L) U0 (fun x=>F x∨x=L) U∧
 ((v=.bool true∧J1 F U∧U[L]?=some (.loop i0))∨(v=.bool false∧Dr F U∧U[L]?=some (.loop { i0 with st:=.done,pend:=some .ret }))∨
  ∃id,v=.bool false∧De id F U∧U[L]?=some (.loop { i0 with st:=.done,pend:=some (.exit id) }))
theorem qay{F0 F:Np}{U0:St}{L:Nat}{i0:LI}{J1 Dr:Np→St→Prop}{De:Nat→Np→St→Prop}{e:Env}{U:St}(hi:i0.st=.ready∧i0.pend=none)(h:U[L]?=some (.loop { i0 with st:=.busy }))(k:Kg (fun x=>F0 x∨x=L) U0 (fun x=>F x∨x=L) U)(g:J1 F (U.set L (.loop i0))):Jp L (RG F0 U0 L i0 J1 Dr De) .normal e U:=by
 have hlt:=(qqT.1 h).1;have:({ i0 with st:=.ready,pend:=none }:LI)=i0:=by cases i0;simp only at hi;simp[hi.1,hi.2]
 refine ⟨_,h,F,k.set _ (.inl (.inr rfl)),.inl ⟨rfl,?_,?_⟩⟩
 ·simp only[this];exact g
 ·simp only[this];rw[qqV hlt]
theorem qna{F0 F:Np}{U0:St}{L:Nat}{i0:LI}{J1 Dr:Np→St→Prop}{De:Nat→Np→St→Prop}{e:Env}{U:St}(h:U[L]?=some (.loop { i0 with st:=.busy }))(k:Kg (fun x=>F0 x∨x=L) U0 (fun x=>F x∨x=L) U)(g:Dr F (U.set L (.loop { i0 with st:=.done,pend:=some .ret }))):Jp L (RG F0 U0 L i0 J1 Dr De) .ret e U:=by
 have hlt:=(qqT.1 h).1;exact ⟨_,h,F,k.set _ (.inl (.inr rfl)),.inr (.inl ⟨rfl,g,by rw[qqV hlt]⟩)⟩
def qaU(P:Program)(k:Nat)(fs cs:List V)(xs:List (List V))(cap:St→Prop):Prop:=
 ∀(S:St) (l:Nat) (J:Nat→Np→St→Prop) (D:Np→St→Prop) (F0:Np),(∀i F U,J i F U→∀x,F x→x<U.length)→(∀i F U,J i F U→cap U)→(∀i F U o,J i F U→J i F (U++[o]))→(∀F U o,D F U→D F (U++[o]))→
  (∀i F U L o o',S.length≤L→J i F U→U[L]?=some (.loop o)→J i F (U.set L (.loop o')))→(∀F U L o o',S.length≤L→D F U→U[L]?=some (.loop o)→D F (U.set L (.loop o')))→
  (∀(i:Nat) (a:List V),xs[i]?=some a→∀F U,J i F U→Kg F0 S F U→ye P l a U (fun v U'=>∃F',Kg F U F' U'∧((v=.bool true∧J (i+1) F' U')∨(v=.bool false∧D F' U'))))→J 0 F0 S→
  qt P k (fs++[.yld l]++cs) S (fun _ U=>∃F,Kg F0 S F U∧(J xs.length F U∨D F U))
theorem Kg.unloop{F G:Np}{S U:St}{o o':Ob}(h:Kg (fun x=>F x∨x=S.length) (S++[o]) (fun x=>G x∨x=S.length) U):Kg F S G (U.set S.length o'):=
 ⟨h.k.unloop,fun l hl=>(h.g l (.inl hl)).elim (fun a=>a.imp id (by omega)) fun a=>.inr (by simp at a;omega)⟩
theorem qbv{P:Program}{g:Opd}{ps:List Nat}{asg body:Code}{ca cb:C'}{N:Nat}{ts:List Nat}{Q:yD}{e:Env}{S:St}{k:Nat}{fs cs:List V}{xs:List (List V)}{cap:St→Prop}
  (hg:g.ev e=some (.fn (.func k) fs cs)) (hy:qaU P k fs cs xs cap) (na:ca.noRf=true) (nb:cb.noRf=true) (hps:ps.all (fun p=>decide (p<N))=true) (hlen:∀a,a∈xs→a.length=ps.length)
  (F0:Np) (J:Nat→Np→St→Prop) (Dr:Np→St→Prop) (De:Nat→Np→St→Prop) (hB:∀i F U,J i F U→∀x,F x→x<U.length) (hcap:∀i F U,J i F U→cap U)
  (hJ:∀i F U,J i F U→∀o,J i F (U++[o])) (hDr:∀F U,Dr F U→∀o,Dr F (U++[o])) (hDe:∀id F U,De id F U→∀o,De id F (U++[o]))
  (hJl:∀i F U L o o',S.length≤L→J i F U→U[L]?=some (.loop o)→J i F (U.set L (.loop o'))) (hDl:∀F U L o o',S.length≤L→Dr F U→U[L]?=some (.loop o)→Dr F (U.set L (.loop o'))) (hDel:∀id F U L o o',S.length≤L→De id F U→U[L]?=some (.loop o)→De id F (U.set L (.loop o')))
  (h0:J 0 F0 (S++[.loop ⟨.ready,none,ps,asg,body,e.keep ts,N⟩]))
  (hr:∀(i:Nat) (a:List V),xs[i]?=some a→∀F U,J i F U→Kg (fun x=>F0 x∨x=S.length) (S++[.loop ⟨.ready,none,ps,asg,body,e.keep ts,N⟩]) (fun x=>F x∨x=S.length) U→U[S.length]?=some (.loop ⟨.ready,none,ps,asg,body,e.keep ts,N⟩)→
   WP P ca (qa6 P S.length cb (RG F U S.length ⟨.ready,none,ps,asg,body,e.keep ts,N⟩ (J (i+1)) Dr De)) (QL ps a (e.keep ts)) U)
  (hn:∀F U,J xs.length F U→Kg F0 S F U→Q .normal e U) (hret:∀F U,Dr F U→Kg F0 S F U→Q .ret e U) (hexit:∀id F U,De id F U→Kg F0 S F U→Q (.exit id) e U):
  WP P (.rf g ps asg body ca cb N ts) Q e S:=by
 intro hca hcb;rw[hg];refine ⟨_,hy (S++[.loop ⟨.ready,none,ps,asg,body,e.keep ts,N⟩]) S.length (fun i G U=>∃F,G=(fun x=>F x∨x=S.length)∧J i F U∧U[S.length]?=some (.loop ⟨.ready,none,ps,asg,body,e.keep ts,N⟩))
  (fun G U=>∃F,G=(fun x=>F x∨x=S.length)∧((Dr F U∧U[S.length]?=some (.loop ⟨.done,some .ret,ps,asg,body,e.keep ts,N⟩))∨∃id,De id F U∧U[S.length]?=some (.loop ⟨.done,some (.exit id),ps,asg,body,e.keep ts,N⟩)))
  (fun x=>F0 x∨x=S.length) ?_ (fun i G U ⟨F,_,h,_⟩=>hcap i F U h) (fun i G U o ⟨F,h1,h2,h3⟩=>⟨F,h1,hJ i F U h2 o,?_⟩) ?_ ?_ ?_ ?_ ⟨F0,rfl,h0,by simp⟩,?_⟩
 ·rintro i G U ⟨F,rfl,h,h3⟩ x (hx|rfl)
  ·exact hB i F U h x hx
  ·exact (qqT.1 h3).1
 ·rw[qqW (qqT.1 h3).1];exact h3
 ·rintro G U o ⟨F,rfl,⟨h1,h2⟩|⟨id,h1,h2⟩⟩
  ·exact ⟨F,rfl,.inl ⟨hDr F U h1 o,by rw[qqW (qqT.1 h2).1];exact h2⟩⟩
  ·exact ⟨F,rfl,.inr ⟨id,hDe id F U h1 o,by rw[qqW (qqT.1 h2).1];exact h2⟩⟩
 ·rintro i G U L o o' hL ⟨F,rfl,h1,h2⟩ h3;simp at hL;exact ⟨F,rfl,hJl i F U L o o' (by omega) h1 h3,by rw[qqX (by omega)];exact h2⟩
 ·rintro G U L o o' hL ⟨F,rfl,⟨h1,h2⟩|⟨id,h1,h2⟩⟩ h3
  ·simp at hL;exact ⟨F,rfl,.inl ⟨hDl F U L o o' (by omega) h1 h3,by rw[qqX (by omega)];exact h2⟩⟩
  ·simp at hL;exact ⟨F,rfl,.inr ⟨id,hDel id F U L o o' (by omega) h1 h3,by rw[qqX (by omega)];exact h2⟩⟩
 ·rintro i a ha G U ⟨F,rfl,hj,hl⟩ hk;refine ye.mono' (ye.intro hl hca hcb rfl na nb ?_ hps (hr i a ha F U hj hk hl)) ?_
  ·exact hlen _ (qq1 ha)
  ·rintro v U' ⟨F',hk',⟨rfl,h1,h2⟩|⟨rfl,h1,h2⟩|⟨id,rfl,h1,h2⟩⟩
   ·exact ⟨_,hk',.inl ⟨rfl,F',rfl,h1,h2⟩⟩
   ·exact ⟨_,hk',.inr ⟨rfl,F',rfl,.inl ⟨h1,h2⟩⟩⟩
   ·exact ⟨_,hk',.inr ⟨rfl,F',rfl,.inr ⟨id,h1,h2⟩⟩⟩
 ·rintro r U ⟨G,hk,⟨F,rfl,h1,h2⟩|⟨F,rfl,⟨h1,h2⟩|⟨id,h1,h2⟩⟩⟩
  ·exact ⟨_,h2,by simp,hn F _ (hJl _ F U _ _ _ (qqY _) h1 h2) hk.unloop⟩
  ·exact ⟨_,h2,by simp,hret F _ (hDl F U _ _ _ (qqY _) h1 h2) hk.unloop⟩
  ·exact ⟨_,h2,by simp,hexit id F _ (hDel id F U _ _ _ (qqY _) h1 h2) hk.unloop⟩
abbrev Sct:=List (Bz×Nat×Nat)
def Sct.sco(t:Sct):Sco:=t.map fun e=>(e.1,e.2.1)
def qeO(e:Bz×Nat×Nat):V×V:=(.str e.1,.ptr e.2.2 0 0 1)
def plc(x:Bz)(k:Nat)(y:Bz):Ob:=.arr [.agg [.int .i64 k,.str x,.str y]] 3 1
def ScR(p:Pw)(X:Np)(S:St):V→List Sct→Prop
 | v,[]=>v=.nilp
 | v,t::r=>∃l lo lm v' bs ck,v=.ptr l 0 0 1∧(¬ X l∧¬ X lo∧¬ X lm)∧S[l]?=some (.arr [.agg [.ptr lo 0 0 1,.map lm]] 2 1)∧S[lo]?=some (.arr [.agg [v']] 1 1)∧S[lm]?=some (.map (t.map qeO) bs ck)∧
  (∀e,e∈t→¬ X e.2.2∧S[e.2.2]?=some (plc e.1 e.2.1 (p.f e.2.1 e.1)))∧ScR p X S v' r
def Scx(ts:List Sct):Scs:=ts.map Sct.sco
def Z9:Sct→Bz→Option (Nat×Nat)
 | [],_=>none
 | e::t,x=>if e.1=x then some e.2 else Z9 t x
def fnd:List Sct→Bz→Option (Nat×Nat)
 | [],_=>none
 | t::r,x=>match Z9 t x with
  | some p=>some p
  | none=>fnd r x
def ZT(ts:List Sct)(x:Bz):V:=match fnd ts x with
 | some p=>.ptr p.2 0 0 1
 | none=>.nilp
theorem qat:∀(t:Sct) (x:Bz),Sco.at t.sco x=(Z9 t x).map (·.1)
 | [],_=>rfl
 | e::t,x=>by
  have ih:=qat t x;simp only[Sco.at,Sct.sco,qq8,List.find?_cons,Z9] at *;by_cases h:e.1=x
  ·simp[h]
  ·simp only[decide_eq_false h,if_neg h];exact ih
theorem ZV:∀(ts:List Sct) (x:Bz),(Scx ts).at x=(fnd ts x).map (·.1)
 | [],_=>rfl
 | t::r,x=>by
  have ih:=ZV r x;simp only[Scx,qq8,Scs.at,fnd] at *;rw[qat]
  cases Z9 t x with
  | none=>exact ih
  | some p=>rfl
theorem qa3:∀{t:Sct} {x:Bz} {p:Nat×Nat},Z9 t x=some p→(x,p.1,p.2)∈t
 | e::t,x,p,h=>by
  simp only[Z9] at h;split at h
  ·rename_i hx;cases h;subst hx;simp
  ·exact qrV _ (qa3 h)
theorem ScR.fnd_get{p:Pw}{X:Np}{S:St}:∀{ts:List Sct} {v:V} {x:Bz} {q:Nat×Nat},ScR p X S v ts→fnd ts x=some q→S[q.2]?=some (plc x q.1 (p.f q.1 x))
 | t::r,v,x,q,⟨l,lo,lm,v',bs,ck,_,_,_,_,_,h5,h6⟩,hf=>by
  simp only[fnd] at hf;split at hf
  ·rename_i q hq;cases hf;exact (h5 _ (qa3 hq)).2
  ·exact ScR.fnd_get h6 hf
theorem Z7(x:Bz):∀(t:Sct) (i:Nat),∃j,zG .str (.str x) (t.map qeO) i=some ((Z9 t x).map fun p=>(j,.ptr p.2 0 0 1))
 | [],i=>⟨0,rfl⟩
 | e::t,i=>by
  simp only[qq8,qeO,zG,YU,Z9];by_cases h:x=e.1
  ·rw[show (x.data.toList==e.1.data.toList)=true by rw[h];simp,if_pos h.symm];exact ⟨i,rfl⟩
  ·rw[show (x.data.toList==e.1.data.toList)=false by
    rw[beq_eq_false_iff_ne];intro hh;exact h (qsQ (Array.ext' hh)),if_neg (Ne.symm h)]
   exact Z7 x t (i+1)
theorem qgA{S:St}{lm:Nat}{t:Sct}{bs:List Nat}{ck:Nat}(x:Bz)(h:S[lm]?=some (.map (t.map qeO) bs ck)):
  qbT S .str .nilp true (.map lm) (.str x)=some (.tup [(match Z9 t x with|some p=>.ptr p.2 0 0 1|none=>.nilp),.bool (Z9 t x).isSome]):=by
 obtain ⟨j,hj⟩:=Z7 x t 0;unfold qbT;rw[if_pos (by rfl)];simp only[qbA,h,hj];cases Z9 t x <;> rfl
theorem Ys{p:Pw}{X:Np}{S:St}{ts:List Sct}{v:V}(h:ScR p X S v ts)(x:Bz):Fn prog 60 [v,.str x] S (ZT ts x):=by
 refine qt.ib func60 ok60 ?_;generalize hr:ZT ts x=r;simp only[c60,C'.k];simp only[qc8,qc7,qgP,Jr,qcQ];refine qw (fun j e S'=>∃(ts':List Sct) (v':V),j=ts'.length∧ScR p X S v' ts'∧ZT ts' x=r∧S'=S∧e=[(0,v'),(1,.str x)]) ts.length _ ?_ ⟨ts,v,rfl,h,hr,rfl,rfl⟩ ?_
 ·exact Env.so (by simp)
 rintro j e S' ⟨ts',v',rfl,h',hr',rfl,rfl⟩
 cases ts' with
 | nil=>
  have h':v'=.nilp:=h';subst h';have:r=.nilp:=by rw[←hr'];rfl
  subst this;simp[zT,eqV,jG];exact qf rfl ⟨rfl,rfl⟩
 | cons t r'=>
  obtain ⟨l,lo,lm,v'',bs,ck,rfl,_,h2,h3,h4,h5,h6⟩:=h';have hl:=qgA x h4;simp[zT,eqV,zY,ldS,h2,evX,hl]
  cases hk:Z9 t x with
  | some p=>
   have:r=.ptr p.2 0 0 1:=by rw[←hr'];simp[ZT,fnd,hk]
   subst this;simp[jG];exact qf rfl ⟨rfl,rfl⟩
  | none=>
   simp[zT,eqV,zY,ldS,h2,h3];refine ⟨_,?_,_,?_,r',rfl,v'',h6,?_,rfl⟩
   ·simp
   ·exact Env.so (by simp)
   ·rw[←hr'];simp[ZT,fnd,hk]
theorem ScR.mono{p:Pw}{X X':Np}{S U:St}(hk:Kp X S U)(hX:∀l,X' l→X l∨S.length≤l):∀{ts:List Sct} {v:V},ScR p X S v ts→ScR p X' U v ts
 | [],_,h=>h
 | t::r,v,⟨l,lo,lm,v',bs,ck,h1,⟨x1,x2,x3⟩,h2,h3,h4,h5,h6⟩=>by
  have no:∀{l:Nat} {o:Ob},S[l]?=some o→¬ X l→¬ X' l:=fun ho hn hx=>(hX _ hx).elim hn fun hh=>by have:=(qqT.1 ho).1;omega
  exact ⟨l,lo,lm,v',bs,ck,h1,⟨no h2 x1,no h3 x2,no h4 x3⟩,hk.at h2 x1,hk.at h3 x2,hk.at h4 x3,fun e he=>⟨no (h5 e he).2 (h5 e he).1,hk.at (h5 e he).2 (h5 e he).1⟩,ScR.mono hk hX h6⟩
theorem ScR.sub{p:Pw}{X X':Np}{S:St}{v:V}{ts:List Sct}(h:ScR p X S v ts)(hX:∀l,X' l→X l):ScR p X' S v ts:=h.mono (Kp.refl _ _) fun l hl=>.inl (hX l hl)
theorem ScR.more{p:Pw}{X X':Np}{S:St}{v:V}{ts:List Sct}(h:ScR p X S v ts)(hX:∀l,X' l→X l∨S.length≤l):ScR p X' S v ts:=h.mono (Kp.refl _ _) hX
structure Cb extends Pw where
 fe:V
 fn:V
 fc:V
 I:H→Np→Np→St→Prop
 cn:H→Np
 lim:Nat
def wkr(c:Cb)(n:Nat):Ob:=.arr [.agg [.int .i64 n,c.fe,c.fn,c.fc]] 4 1
def grow(S:St)(F F':Np):Prop:=∀l,F' l→F l∨S.length≤l
theorem grow.refl(S:St)(F:Np):grow S F F:=fun _ h=>.inl h
theorem grow.trans{S T:St}{F G K:Np}(h:grow S F G)(g:grow T G K)(hl:S.length≤T.length):grow S F K:=fun l hk=>(g l hk).elim (h l) fun hh=>.inr (by omega)
structure Wk(c:Cb)(w n:Nat)(h:c.H)(F D:Np)(S:St):Prop where
 tw:S[w]?=some (wkr c n)
 st:c.I h F D S
 nF:¬ F w
 nD:¬ D w
 cn:c.cn h n
structure Stp(w:Nat)(F D:Np)(S:St)(F' D':Np)(U:St):Prop where
 k:Kp (fun l=>l=w∨F l) S U
 gF:grow S F F'
 gD:grow S D D'
theorem Stp.refl(w:Nat)(F D:Np)(S:St):Stp w F D S F D S:=⟨Kp.refl _ _,grow.refl _ _,grow.refl _ _⟩
theorem Stp.trans{w:Nat}{F D F1 D1 F2 D2:Np}{S T U:St}(h:Stp w F D S F1 D1 T)(g:Stp w F1 D1 T F2 D2 U):Stp w F D S F2 D2 U:=
 ⟨⟨qrt h.k.len g.k.len,fun l hl hn=>by
  rw[g.k.get l (qry hl h.k.len) fun hh=>hn (hh.elim .inl fun hh=>(h.gF l hh).elim .inr fun hh=>by omega)];exact h.k.get l hl hn⟩,h.gF.trans g.gF h.k.len,h.gD.trans g.gD h.k.len⟩
structure Cb.Ok(c:Cb):Prop where
 lim:c.lim≤100001
 lt:∀{h F D S},c.I h F D S→∀l,F l∨D l→l<S.length
 fr:∀{h F D S U M},c.I h F D S→Kp M S U→(∀l,M l→l<S.length→¬ F l∧¬ D l)→c.I h F D U
 lp:∀{h F D S},c.I h F D S→∀l o,S[l]?=some (.loop o)→¬ F l∧¬ D l
 ce:∀{h n} x,c.cn h n→c.cn (c.ent h n x) (n+1)
 cm:∀{h n} x sc tg,c.cn h n→c.cn (c.nmH h x sc tg) n
 cc:∀{h n} x sc,c.cn h n→c.cn (c.clH h x sc) n
 real:∀{h F D S},c.I h F D S→∀h',∃F' D' U,c.I h' F' D' U∧Kp F S U∧grow S F F'∧grow S D D'
 en:(c.fe=.nilfn∧(∀k x,c.f k x=x)∧∀h k x,c.ent h k x=h)∨∃g cs,c.fe=.fn (.func g) [] cs∧∀(U:St) (p k:Nat) (x:Bz) (h:c.H) (F D:Np),U[p]?=some (plc x k x)→¬ F p→¬ D p→k<c.lim→c.cn h k→c.I h F D U→
  qt prog g ([.ptr p 0 0 1]++cs) U (fun _ U'=>∃F' D',c.I (c.ent h k x) F' D' U'∧U'[p]?=some (plc x k (c.f k x))∧Kp (fun l=>l=p∨F l) U U'∧grow U F F'∧∀l,D' l→D l∨l=p∨U.length≤l)
 nm:match c.nm with
  | none=>c.fn=.nilfn
  | some g=>∃k cs,c.fn=.fn (.func k) [] cs∧∀(U:St) (x:Ex) (v:V) (ts:List Sct) (tg:Bool) (w:Nat) (h:c.H) (F D:Np),ScR c.toPw (fun l=>l=w∨F l) U v ts→c.I h F D U→
   qt prog k ([x.v,v,.bool tg]++cs) U (fun r U'=>r=(g x (Scx ts) tg).v∧∃F' D',c.I (c.nmH h x (Scx ts) tg) F' D' U'∧Kp F U U'∧grow U F F'∧grow U D D')
 cl:match c.cl with
  | none=>c.fc=.nilfn
  | some g=>∃k cs,c.fc=.fn (.func k) [] cs∧∀(U:St) (x:Bz) (v:V) (ts:List Sct) (w:Nat) (h:c.H) (F D:Np),ScR c.toPw (fun l=>l=w∨F l) U v ts→c.I h F D U→
   qt prog k ([.str x,v]++cs) U (fun r U'=>r=.str (g x (Scx ts))∧∃F' D',c.I (c.clH h x (Scx ts)) F' D' U'∧Kp F U U'∧grow U F F'∧grow U D D')
theorem Wk.push{c:Cb}(ok:c.Ok){w n:Nat}{h:c.H}{F D:Np}{S:St}(k:Wk c w n h F D S)(os:List Ob):Wk c w n h F D (S++os):=
 ⟨by rw[qqW (qqT.1 k.tw).1];exact k.tw,ok.fr (M:=fun _=>False) k.st ((Kp.refl _ _).push _) (fun _ h=>h.elim),k.nF,k.nD,k.cn⟩
theorem Wk.set{c:Cb}(ok:c.Ok){w n:Nat}{h:c.H}{F D:Np}{S:St}(k:Wk c w n h F D S){l:Nat}(o:Ob)(hw:l≠w)(hF:¬ F l)(hD:¬ D l):Wk c w n h F D (S.set l o):=
 ⟨by rw[qqX hw];exact k.tw,ok.fr (M:=fun x=>x=l) k.st ((Kp.refl _ _).set _ (.inl rfl)) (fun x hx _=>by rw[hx];exact ⟨hF,hD⟩),k.nF,k.nD,k.cn⟩
theorem Wk.out{c:Cb}(ok:c.Ok){w n:Nat}{h:c.H}{F D:Np}{S:St}(k:Wk c w n h F D S){l:Nat}(hl:S.length≤l):l≠w∧¬ F l∧¬ D l:=
 ⟨by rintro rfl;have:=(qqT.1 k.tw).1;omega,fun hf=>by have:=ok.lt k.st l (.inl hf);omega,fun hf=>by have:=ok.lt k.st l (.inr hf);omega⟩
def Off(w:Nat)(F D:Np)(l:Nat):Prop:=l≠w∧¬ F l∧¬ D l
theorem Off.next{w:Nat}{F D F' D':Np}{S U:St}{l:Nat}(h:Off w F D l)(hl:l<S.length)(s:Stp w F D S F' D' U):Off w F' D' l:=
 ⟨h.1,fun hf=>(s.gF l hf).elim h.2.1 (by omega),fun hf=>(s.gD l hf).elim h.2.2 (by omega)⟩
theorem Stp.at{w:Nat}{F D F' D':Np}{S U:St}{l:Nat}{o:Ob}(s:Stp w F D S F' D' U)(h:Off w F D l)(ho:S[l]?=some o):U[l]?=some o:=s.k.at ho fun hh=>hh.elim h.1 h.2.1
theorem Stp.push{w:Nat}{F D F' D':Np}{S U:St}(s:Stp w F D S F' D' U)(os:List Ob):Stp w F D S F' D' (U++os):=⟨s.k.push os,s.gF,s.gD⟩
theorem Stp.set{w:Nat}{F D F' D':Np}{S U:St}(s:Stp w F D S F' D' U){l:Nat}(o:Ob)(hl:S.length≤l):Stp w F D S F' D' (U.set l o):=⟨s.k.set o (.inr hl),s.gF,s.gD⟩
theorem Stp.ofPush{w:Nat}{F D F' D':Np}{S U:St}{os:List Ob}(s:Stp w F D (S++os) F' D' U):Stp w F D S F' D' U:=
 ⟨s.k.ofPush,fun l h=>(s.gF l h).imp id fun hh=>by simp at hh;omega,fun l h=>(s.gD l h).imp id fun hh=>by simp at hh;omega⟩
theorem ScR.step{p:Pw}{w:Nat}{F D F' D':Np}{S U:St}{v:V}{ts:List Sct}(h:ScR p (fun l=>l=w∨F l) S v ts)(s:Stp w F D S F' D' U):ScR p (fun l=>l=w∨F' l) U v ts:=
 h.mono s.k fun l hh=>hh.elim (fun e=>.inl (.inl e)) fun e=>(s.gF l e).imp .inr id
theorem ScR.push{p:Pw}{X:Np}{S:St}{v:V}{ts:List Sct}(h:ScR p X S v ts)(os:List Ob):ScR p X (S++os) v ts:=h.mono ((Kp.refl _ _).push _) fun _ hh=>.inl hh
def qeP(l:List Bz):List (List V):=l.map fun x=>[.str x]
theorem kN{l:List Bz}{i:Nat}{x:Bz}(h:l[i]?=some x):(qeP l)[i]?=some [.str x]:=by simp[qeP,h]
theorem Yk(l:List Bz):(qeP l).length=l.length:=by simp[qeP]
theorem qel{α β:Type}(g:α→List β){l:List α}{i:Nat}(h:i<l.length):l.flatMap g=(l.take i).flatMap g++(g l[i]++(l.drop (i+1)).flatMap g):=by
 have h1:l=l.take i++(l[i]::l.drop (i+1)):=by rw[←qst h,qsd]
 conv=>lhs;rw[h1]
 rw[qr5,qrs]
theorem qdx{α β:Type}(g:α→List β){l:List α}{i j:Nat}{y:β}(h:i<l.length)(hj:(g l[i])[j]?=some y):(l.flatMap g)[((l.take i).flatMap g).length+j]?=some y:=by
 rw[qel g h,qqU (by omega),qsi,qqW (qqT.1 hj).1,hj]
theorem qcF{α β:Type}(g:α→List β){l:List α}{i:Nat}(h:i<l.length):((l.take (i+1)).flatMap g).length=((l.take i).flatMap g).length+(g l[i]).length:=by
 rw[qrj,qqZ h,qrH,qr5,qrd];simp
def Qo(d:List De):List Bz:=d.flatMap De.names
theorem QR(d:List De)(b:List Sm):qe d b=Qo d++qk b:=rfl
theorem qbN(l:List Sm)(b:Bool)(S:St):qt prog 158 [.sl b (l.map Sm.v)] S (fun v U=>v=.fn (.func 187) [] [.ptr S.length 0 0 1]∧U=S++[.arr [.sl false (l.map Sm.v)] 1 1]):=by
 refine qt.weakA ?_;simp only[V.weakL,V.weak,wSm];refine qt.ib func158 ok158 ?_;simp[c158,qG];exact qf rfl ⟨rfl,rfl⟩
theorem qko(s:Sm)(S:St):qt prog 219 [s.v] S (fun v U=>v=.fn (.func 255) [] [.ptr S.length 0 0 1]∧U=S++[.arr [s.v] 8 1]):=by
 refine qt.ib func219 ok219 ?_;simp[c219,qG];exact qf rfl ⟨rfl,rfl⟩
theorem qkx(d:De)(S:St):qt prog 272 [d.v] S (fun v U=>v=.fn (.func 277) [] [.ptr S.length 0 0 1]∧U=S++[.arr [d.v] 7 1]):=by
 refine qt.ib func272 ok272 ?_;simp[c272,qG];exact qf rfl ⟨rfl,rfl⟩
theorem qgo(d:De)(hl:d.formals.length≤B50)(c:Nat):qaU prog 277 [] [.ptr c 0 0 1] (qeP (d.formals.map Fo.name)) (fun U=>U[c]?=some (.arr [d.v] 7 1)):=by
 intro S l J D F0 hB hcap hJ hD _ _ hy h0;have hc:=hcap _ _ _ h0;unfold B50 at hl;rw[Yk,qq2];refine qt.ib func277 ok277 ?_;simp[c277,ldS,hc];refine qw (fun j e S'=>∃i:Nat,j=d.formals.length - i∧i≤d.formals.length∧∃F,J i F S'∧Kg F0 S F S'∧
  e=[(8,.int .i64 i),(7,.int .i64 d.formals.length),(6,.sl false (d.formals.map Fo.v)),(0,.yld l)]) d.formals.length _ ?_ ⟨0,by simp,by omega,F0,h0,Kg.refl _ _,rfl⟩ ?_
 ·exact Env.so (by simp)
 rintro j e S' ⟨i,rfl,hi,F,hj,hk,rfl⟩;by_cases h:i<d.formals.length
 ·simp[h,qlp,qG,stS,qh,ldS];refine qjh (hy i _ (kN (x:=d.formals[i].name) (by simp[h])) F _ (hJ _ _ _ _ hj) (hk.push _)) ?_;rintro v U' ⟨F',hk',⟨rfl,hj'⟩|⟨rfl,hd'⟩⟩
  ·simp[zk (n:=(i:Int)+1)];refine ⟨_,?_,_,?_,i+1,rfl,by omega,F',hj',(hk.push _).trans hk',rfl⟩
   ·omega
   ·exact Env.so (by simp)
  ·simp;exact qf rfl ⟨F',(hk.push _).trans hk',.inr hd'⟩
 ·simp[h];have:i=d.formals.length:=by omega
  subst this;exact qA rfl ⟨F,hk,.inl hj⟩
theorem jv(l:List Sm)(hl:l.length≤B50)(hok:Sm.okL l)(c:Nat):qaU prog 187 [] [.ptr c 0 0 1] (qeP (qk l)) (fun U=>U[c]?=some (.arr [.sl false (l.map Sm.v)] 1 1)):=by
 intro S y J D F0 hB hcap hJ hD _ _ hy h0;have hc:=hcap _ _ _ h0;unfold B50 at hl;rw[Yk];refine qt.ib func187 ok187 ?_;simp[c187,ldS,hc];refine qw (fun j e S'=>∃i:Nat,j=l.length - i∧i≤l.length∧∃F,J (qk (l.take i)).length F S'∧Kg F0 S F S'∧
  e=[(9,.int .i64 i),(8,.int .i64 l.length),(7,.sl false (l.map Sm.v)),(0,.yld y)]) l.length _ ?_ ⟨0,by simp,by omega,F0,h0,Kg.refl _ _,rfl⟩ ?_
 ·exact Env.so (by simp)
 rintro j e S' ⟨i,rfl,hi,F,hj,hk,rfl⟩;by_cases h:i<l.length
 case neg=>
  simp[h];have:i=l.length:=by omega
  subst this;rw[qrP] at hj;exact qA rfl ⟨F,hk,.inl hj⟩
 have hll:=((Sm.ok_iff _).1 (Sm.okL_mem hok _ (qra h))).labels.1;unfold B50 at hll;simp[h,qi4,qG,stS,qh,ldS];refine qQ (fun e U=>∃F,J (qk (l.take (i+1))).length F U∧Kg F0 S F U∧e.get 9=some (.int .i64 i)∧e.get 8=some (.int .i64 l.length)∧e.get 7=some (.sl false (l.map Sm.v))∧e.get 0=some (.yld y)) ?_ ?_
 ·refine qw (fun j e U=>∃k:Nat,j=l[i].labels.length - k∧k≤l[i].labels.length∧∃F,J ((qk (l.take i)).length+k) F U∧Kg F0 S F U∧
   e=[(16,.int .i64 k),(15,.int .i64 l[i].labels.length),(14,.sl false (l[i].labels.map .str)),(9,.int .i64 i),(8,.int .i64 l.length),(7,.sl false (l.map Sm.v)),(0,.yld y)]) l[i].labels.length _ ?_ ⟨0,by simp,by omega,F,hJ _ _ _ _ hj,hk.push _,rfl⟩ ?_
  ·exact Env.so (by simp)
  rintro j e U ⟨k,rfl,hki,F,hj,hk,rfl⟩;by_cases g:k<l[i].labels.length
  ·simp[g,ZO];refine qjh (hy _ _ (kN (qdx Sm.labels h (y:=l[i].labels[k]) (by simp[g]))) F _ hj hk) ?_;rintro v U' ⟨F',hk',⟨rfl,hj'⟩|⟨rfl,hd'⟩⟩
   ·simp[zk (n:=(k:Int)+1)];refine ⟨_,?_,_,?_,k+1,rfl,by omega,F',hj',hk.trans hk',rfl⟩
    ·omega
    ·exact Env.so (by simp)
   ·simp;exact qf rfl ⟨F',hk.trans hk',.inr hd'⟩
  ·have:k=l[i].labels.length:=by omega
   subst this;simp;refine ⟨F,?_,hk⟩;have:=qcF Sm.labels h;unfold qk at *;rw[this];exact hj
 rintro e U ⟨F,hj,hk,g9,g8,g7,g0⟩;simp[g9,zk (n:=(i:Int)+1)];refine ⟨_,?_,_,?_,i+1,rfl,by omega,F,hj,hk,rfl⟩
 ·omega
 ·repeat' first|exact Env.sub_nil _|refine Env.sub_cons (by simp[g8,g7,g0]) ?_
theorem qfw(s:Sm)(hds:s.decls.length≤B50∧De.okL s.decls)(hbs:s.body.length≤B50∧Sm.okL s.body)(c:Nat):qaU prog 255 [] [.ptr c 0 0 1] (qeP (qe s.decls s.body)) (fun U=>U[c]?=some (.arr [s.v] 8 1)):=by
 intro S y J D F0 hB hcap hJ hD hJl hDl hy h0;have hc:=hcap _ _ _ h0;have hdl:=hds.1;unfold B50 at hdl;rw[Yk];have nM:¬ F0 S.length:=fun h=>by have:=hB _ _ _ h0 _ h;omega
 have hyd:∀(i:Nat) (x:Bz),(Qo s.decls)[i]?=some x→∀F U,J i F U→Kg F0 S F U→ye prog y [.str x] U (fun v U'=>∃F',Kg F U F' U'∧((v=.bool true∧J (i+1) F' U')∨(v=.bool false∧D F' U'))):=fun i x hx=>
  hy i _ (kN (by rw[QR,qqW (qqT.1 hx).1];exact hx))
 have hyl:∀(i:Nat) (a:List V),(qeP (qk s.body))[i]?=some a→∀F U,J ((Qo s.decls).length+i) F U→Kg F0 S F U→ye prog y a U (fun v U'=>∃F',Kg F U F' U'∧((v=.bool true∧J ((Qo s.decls).length+i+1) F' U')∨(v=.bool false∧D F' U'))):=fun i a ha=>
  hy _ a (by
   unfold qeP at ha ⊢;rw[qq7] at ha;obtain ⟨x,hx,rfl⟩:=qq3.1 ha;rw[QR,qrg];rw[qqU (by simp),qq2,qsi];simp[hx])
 refine qt.ib func255 ok255 ?_;have hc1:(S++[Ob.arr [.yld y] 1 1])[c]?=some (.arr [s.v] 8 1):=gp hc;have hy1:(S++[Ob.arr [.yld y] 1 1])[S.length]?=some (.arr [.yld y] 1 1):=by simp
 have hk1:Kg F0 S F0 (S++[Ob.arr [.yld y] 1 1]):=(Kg.refl _ _).push _;have hj1:=hJ _ _ _ (Ob.arr [.yld y] 1 1) h0;simp[c255,qG,V.cells,V.flat,V.size];generalize S++[Ob.arr [.yld y] 1 1]=S1 at hc1 hy1 hk1 hj1 ⊢;simp[ldS,hc1];refine qQ (fun e U=>∃F,J (Qo s.decls).length F U∧Kg F0 S F U∧¬ F S.length∧U[S.length]?=some (.arr [.yld y] 1 1)∧e.get 1=some (.ptr c 0 0 1)∧e.get 2=some (.ptr S.length 0 0 1)) ?_ ?_
 ·refine qw (fun j e U=>∃i:Nat,j=s.decls.length - i∧i≤s.decls.length∧∃F,J (Qo (s.decls.take i)).length F U∧Kg F0 S F U∧¬ F S.length∧U[S.length]?=some (.arr [.yld y] 1 1)∧
   e=[(11,.int .i64 i),(10,.int .i64 s.decls.length),(9,.sl false (s.decls.map De.v)),(1,.ptr c 0 0 1),(2,.ptr S.length 0 0 1)]) s.decls.length _ ?_ ⟨0,by simp,by omega,F0,hj1,hk1,nM,hy1,rfl⟩ ?_
  ·exact Env.so (by simp)
  rintro j e U ⟨i,rfl,hi,F,hj,hk,nF,hyy,rfl⟩;by_cases h:i<s.decls.length
  case neg=>
   have:i=s.decls.length:=by omega
   subst this;rw[qrP] at hj;simp;exact ⟨F,hj,hk,nF,hyy⟩
  have hll:=((De.ok_iff _).1 (De.okL_mem hds.2 _ (qra h))).names.1;unfold B50 at hll;simp[h,qm3,qG,stS,qh,ldS];refine qQ (fun e U=>∃F,J (Qo (s.decls.take (i+1))).length F U∧Kg F0 S F U∧¬ F S.length∧U[S.length]?=some (.arr [.yld y] 1 1)∧e.get 11=some (.int .i64 i)∧e.get 10=some (.int .i64 s.decls.length)∧e.get 9=some (.sl false (s.decls.map De.v))∧e.get 1=some (.ptr c 0 0 1)∧e.get 2=some (.ptr S.length 0 0 1)) ?_ ?_
  ·refine qw (fun j e U=>∃k:Nat,j=s.decls[i].names.length - k∧k≤s.decls[i].names.length∧∃F,J ((Qo (s.decls.take i)).length+k) F U∧Kg F0 S F U∧¬ F S.length∧U[S.length]?=some (.arr [.yld y] 1 1)∧
    e=[(18,.int .i64 k),(17,.int .i64 s.decls[i].names.length),(16,.sl false (s.decls[i].names.map .str)),(11,.int .i64 i),(10,.int .i64 s.decls.length),(9,.sl false (s.decls.map De.v)),(1,.ptr c 0 0 1),(2,.ptr S.length 0 0 1)]) s.decls[i].names.length _ ?_ ⟨0,by simp,by omega,F,hJ _ _ _ _ hj,hk.push _,nF,gp hyy,rfl⟩ ?_
   ·exact Env.so (by simp)
   rintro j e U ⟨k,rfl,hki,F,hj,hk,nF,hyy,rfl⟩;by_cases g:k<s.decls[i].names.length
   ·simp[g,ZO,ldS,hyy];refine qjh (hyd _ _ (qdx De.names h (y:=s.decls[i].names[k]) (by simp[g])) F _ hj hk) ?_;rintro v U' ⟨F',hk',⟨rfl,hj'⟩|⟨rfl,hd'⟩⟩
    ·simp[zk (n:=(k:Int)+1)];refine ⟨_,?_,_,?_,k+1,rfl,by omega,F',hj',hk.trans hk',hk'.off (glt hyy) nF,hk'.k.at hyy nF,rfl⟩
     ·omega
     ·exact Env.so (by simp)
    ·simp;exact qf rfl ⟨F',hk.trans hk',.inr hd'⟩
   ·have:k=s.decls[i].names.length:=by omega
    subst this;simp;refine ⟨F,?_,hk,nF,hyy⟩;have:=qcF De.names h;unfold Qo at *;rw[this];exact hj
  rintro e U ⟨F,hj,hk,nF,hyy,g11,g10,g9,g1,g2⟩;simp[g11,zk (n:=(i:Int)+1)];refine ⟨_,?_,_,?_,i+1,rfl,by omega,F,hj,hk,nF,hyy,rfl⟩
  ·omega
  ·repeat' first|exact Env.sub_nil _|refine Env.sub_cons (by simp[g10,g9,g1,g2]) ?_
 rintro e U ⟨F,hj,hk,nF,hyy,g1,g2⟩;have hcU:=hcap _ _ _ hj;have hBU:=hB _ _ _ hj;simp[g1,ldS,hcU];refine qi (qbN s.body false U) ?_;rintro v U2 ⟨rfl,rfl⟩;simp;have hlen:(qe s.decls s.body).length=(Qo s.decls).length+(qk s.body).length:=by rw[QR,qrd]
 have hUl:=hk.k.len;have hylt:=glt hyy;refine qbv (k:=187) (fs:=[]) (cs:=[.ptr U.length 0 0 1]) (by simp) (jv s.body hbs.1 hbs.2 U.length) rfl rfl rfl (by intro a ha;obtain ⟨x,_,rfl⟩:=qrf.1 ha;rfl) F
  (fun i F V=>J ((Qo s.decls).length+i) F V∧V[U.length]?=some (.arr [.sl false (s.body.map Sm.v)] 1 1)∧V[S.length]?=some (.arr [.yld y] 1 1)∧Kg F0 S F V∧¬ F S.length∧¬ F U.length∧¬ F (U.length+1)) (fun F V=>D F V∧Kg F0 S F V) (fun _ _ _=>False) ?_ ?_ ?_ ?_ ?_ ?_ ?_ ?_ ?_ ?_ ?_ ?_ ?_
 ·rintro i F V ⟨h,_⟩;exact hB _ _ _ h
 ·rintro i F V ⟨_,h,_⟩;exact h
 ·rintro i F V ⟨a,b,c,d,n⟩ o;exact ⟨hJ _ _ _ _ a,gp b,gp c,d.push _,n⟩
 ·rintro F V ⟨a,d⟩ o;exact ⟨hD _ _ _ a,d.push _⟩
 ·rintro id F V h;exact h.elim
 ·rintro i F V L o o' hL ⟨a,b,c,d,n⟩ hl;simp at hL;exact ⟨hJl _ _ _ _ _ _ (by omega) a hl,gl b (by simp) hl,gl c (by simp) hl,d.set _ (.inr (by omega)),n⟩
 ·rintro F V L o o' hL ⟨a,d⟩ hl;simp at hL;exact ⟨hDl _ _ _ _ _ (by omega) a hl,d.set _ (.inr (by omega))⟩
 ·rintro id F V L o o' hL h;exact h.elim
 ·exact ⟨hJ _ _ _ _ (hJ _ _ _ _ hj),by simp,gp (gp hyy),(hk.push _).push _,nF,fun h=>by have:=hBU _ h;omega,fun h=>by have:=hBU _ h;omega⟩
 ·rintro i av hav F V ⟨hjv,h1,h2,h3,nS,nU,nL⟩ hkk hl;have hav':=hav;unfold qeP at hav';rw[qq7] at hav';obtain ⟨x,hx,rfl⟩:=qq3.1 hav';generalize hke:Env.keep _ _=ke at hl ⊢;have k2:ke.get 2=some (.ptr S.length 0 0 1):=by rw[←hke];exact Env.keep_get (by simp) (by simp[g2])
  clear hke;simp at hl;simp[QL];refine Q4 hl rfl ?_;have lV:=glt hl;have hjw:=hJl _ _ _ _ _ { st:=.busy,pend:=none,ps:=[31],asg:=(QB Tryz.f255 0).1,body:=(QB Tryz.f255 0).2,e:=ke,N:=36 } (by omega) hjv hl;have hyw:=gl (i':={ st:=.busy,pend:=none,ps:=[31],asg:=(QB Tryz.f255 0).1,body:=(QB Tryz.f255 0).2,e:=ke,N:=36 }) h2 (by simp) hl;have hcw:=gl (i':={ st:=.busy,pend:=none,ps:=[31],asg:=(QB Tryz.f255 0).1,body:=(QB Tryz.f255 0).2,e:=ke,N:=36 }) h1 (by simp) hl;have hLw:(V.set (U.length+1) (.loop { st:=.busy,pend:=none,ps:=[31],asg:=(QB Tryz.f255 0).1,body:=(QB Tryz.f255 0).2,e:=ke,N:=36 }))[U.length+1]?=some (.loop _):=qqV lV;have hkw:Kg (fun x=>F x∨x=U.length+1) V (fun x=>F x∨x=U.length+1) (V.set (U.length+1) (.loop { st:=.busy,pend:=none,ps:=[31],asg:=(QB Tryz.f255 0).1,body:=(QB Tryz.f255 0).2,e:=ke,N:=36 })):=(Kg.refl _ _).set _ (.inl (.inr rfl));have h3w:Kg F0 S F (V.set (U.length+1) (.loop { st:=.busy,pend:=none,ps:=[31],asg:=(QB Tryz.f255 0).1,body:=(QB Tryz.f255 0).2,e:=ke,N:=36 })):=h3.set _ (.inr (by omega));generalize V.set (U.length+1) _=W at hjw hyw hcw hLw hkw h3w ⊢;simp[k2,ldS,hyw];refine qjh (hyl i _ hav F W hjw h3w) ?_;rintro v X ⟨F',xk,⟨rfl,xj⟩|⟨rfl,xd⟩⟩
  ·simp;have hLX:=xk.k.at hLw nL;exact qay ⟨rfl,rfl⟩ hLX (hkw.trans (xk.with _ (glt hLw))) ⟨hJl _ _ _ _ _ _ (by omega) xj hLX,gl (xk.k.at hcw nU) (by simp) hLX,gl (xk.k.at hyw nS) (by simp) hLX,(h3w.trans xk).set _ (.inr (by omega)),xk.off (glt hyw) nS,xk.off (glt hcw) nU,xk.off (glt hLw) nL⟩
  ·simp;have hLX:=xk.k.at hLw nL;exact qna hLX (hkw.trans (xk.with _ (glt hLw))) ⟨hDl _ _ _ _ _ (by omega) xd hLX,(h3w.trans xk).set _ (.inr (by omega))⟩
 ·rintro F V ⟨hjv,_,_,h3,_⟩ _;rw[Yk] at hjv;simp;refine qA rfl ⟨F,h3,.inl ?_⟩;rw[hlen];exact hjv
 ·rintro F V ⟨hd,h3⟩ _;exact qf rfl ⟨F,h3,.inr hd⟩
 ·rintro id F V h;exact h.elim
theorem YJ(x:Bz):∀(l:List Bz) (s:Sco) (n:Nat),binds (l++[x]) s n=(if ((binds l s n).at x).isSome then binds l s n else binds l s n++[(x,n+((binds l s n).length - s.length))])∧s.length≤(binds l s n).length
 | [],s,n=>by simp only[qr9,binds];exact ⟨by simp,qqY _⟩
 | y::l,s,n=>by
  simp only[qrp,binds];split
  ·exact YJ x l s n
  ·obtain ⟨h1,h2⟩:=YJ x l (s++[(y,n)]) (n+1);simp only[qrd,qrk,qrX] at h2;refine ⟨?_,by omega⟩;rw[h1];split
   ·rfl
   ·rw[show n+1+((binds l (s++[(y,n)]) (n+1)).length - (s++[(y,n)]).length)=n+((binds l (s++[(y,n)]) (n+1)).length - s.length) by simp;omega]
theorem Qh(x:Bz)(l:List Bz)(n:Nat):qd (l++[x]) n=if ((qd l n).at x).isSome then qd l n else qd l n++[(x,n+(qd l n).length)]:=by
 have:=(YJ x l [] n).1;unfold qd;rw[this];simp only[qrX,Nat.sub_zero]
theorem YY(names:List Bz)(n:Nat):∀(k i:Nat),i+k=names.length→(qd (names.take i) n).length≤(qd names n).length
 | 0,i,h=>by rw[qru (by omega)];exact qqY _
 | k+1,i,h=>by
  have h1:=YY names n k (i+1) (by omega);have hlt:i<names.length:=by omega
  have hs:=Qh names[i] (names.take i) n;rw[show names.take i++[names[i]]=names.take (i+1) by rw[qrj,qqZ hlt];rfl] at hs
  have:(qd (names.take i) n).length≤(qd (names.take (i+1)) n).length:=by
   rw[hs];split
   ·exact qqY _
   ·simp only[qrd];omega
  omega
theorem qhL(y:V):V.upd .nilp 0 1 y=if y.size=1∧y.cells.all V.flat=true then some y else none:=rfl
theorem qkh{S:St}{lm:Nat}{t:Sct}{bs:List Nat}{ck:Nat}(x:Bz)(v:V)(h:S[lm]?=some (.map (t.map qeO) bs ck))(hx:Z9 t x=none):
  qaV S .str (.map lm) (.str x) v=some (S.set lm (.map (t.map qeO++[(.str x,v)]) (bs++[ck]) (ck+1))):=by
 obtain ⟨j,hj⟩:=Z7 x t 0;unfold qaV;rw[if_pos (by rfl)];simp only[h,hj,hx];rfl
def kC(n:Nat):List Nat:=List.range n
structure BJ(c:Cb)(w ci n B:Nat)(v:V)(co:Ob)(h:c.H)(F D:Np)(t:Sct)(U:St):Prop where
 wk:Wk c w (n+t.length) (enters c.toPw h t.sco) F D U
 tc:U[ci]?=some co
 t0:U[B]?=some (.arr [.ptr w 0 0 1] 1 1)
 t1:U[B+1]?=some (.arr [.agg [v]] 1 1)
 t2:U[B+2]?=some (.map (t.map qeO) (kC t.length) t.length)
 t3:U[B+3]?=some (.arr [.agg [.ptr (B+1) 0 0 1,.map (B+2)]] 2 1)
 t4:U[B+4]?=some (.arr [.ptr (B+3) 0 0 1] 1 1)
 off:∀j,j<5→Off w F D (B+j)
 offc:Off w F D ci
 pl:∀e,e∈t→¬ F e.2.2∧U[e.2.2]?=some (plc e.1 e.2.1 (c.f e.2.1 e.1))
 ge:∀e,e∈t→B+6≤e.2.2
section
variable {c:Cb} (ok:c.Ok) {w ci n B:Nat} {v:V} {co:Ob} {h:c.H} {F D:Np} {t:Sct} {U:St}
include ok
theorem BJ.push(b:BJ c w ci n B v co h F D t U)(o:Ob):BJ c w ci n B v co h F D t (U++[o]):=
 ⟨b.wk.push ok _,gp b.tc,gp b.t0,gp b.t1,gp b.t2,gp b.t3,gp b.t4,b.off,b.offc,fun e he=>⟨(b.pl e he).1,gp (b.pl e he).2⟩,b.ge⟩
theorem Wk.loop{n:Nat}{h:c.H}(k:Wk c w n h F D U){L:Nat}{i:LI}(o:Ob)(hL:U[L]?=some (.loop i)):Wk c w n h F D (U.set L o):=
 k.set ok o (by rintro rfl;have:=k.tw;rw[hL] at this;cases this) (ok.lp k.st L i hL).1 (ok.lp k.st L i hL).2
theorem BJ.loop(b:BJ c w ci n B v co h F D t U)(hco:∀i,co≠.loop i){L:Nat}{i i':LI}(hL:U[L]?=some (.loop i)):BJ c w ci n B v co h F D t (U.set L (.loop i')):=
 ⟨b.wk.loop ok _ hL,gl b.tc hco hL,gl b.t0 (by simp) hL,gl b.t1 (by simp) hL,gl b.t2 (by simp) hL,gl b.t3 (by simp) hL,gl b.t4 (by simp) hL,b.off,b.offc,fun e he=>⟨(b.pl e he).1,gl (b.pl e he).2 (by simp[plc]) hL⟩,b.ge⟩
def Qk(c:Cb)(w n B:Nat)(x:Bz)(t:Sct)(W:St):St:=
 ((W++[plc x (n+t.length) x]).set w (wkr c (n+t.length+1))).set (B+2) (.map (t.map qeO++[(.str x,.ptr W.length 0 0 1)]) (kC t.length++[t.length]) (t.length+1))
omit ok in
theorem JM(x:Bz)(W:St):Kp (fun l=>l=w∨l=B+2) W (Qk c w n B x t W):=by
 unfold Qk;exact (((Kp.refl _ _).push _).set _ (.inl (.inl rfl))).set _ (.inl (.inr rfl))
omit ok in
theorem qaO(x:Bz)(W:St):(Qk c w n B x t W).length=W.length+1:=by unfold Qk;simp
omit ok in
theorem qm0(x:Bz){W:St}(hw:w<W.length)(hB:B+2<W.length):(Qk c w n B x t W)[W.length]?=some (plc x (n+t.length) x):=by
 unfold Qk;rw[qqX (by omega),qqX (by omega)];simp
theorem BJ.ready(b:BJ c w ci n B v co h F D t U)(x:Bz):c.I (enters c.toPw h t.sco) F D (Qk c w n B x t U):=
 ok.fr b.wk.st (JM x U) fun l hl _=>by
  rcases hl with rfl|rfl
  ·exact ⟨b.wk.nF,b.wk.nD⟩
  ·exact ⟨(b.off 2 (by omega)).2.1,(b.off 2 (by omega)).2.2⟩
theorem BJ.step(b:BJ c w ci n B v co h F D t U)(x:Bz)(hw:w<B)(hc:ci<B)(hB:B+6≤U.length){F' D':Np}{X:St}(hX:c.I (c.ent (enters c.toPw h t.sco) (n+t.length) x) F' D' X)
  (hp:X[U.length]?=some (plc x (n+t.length) (c.f (n+t.length) x))) (hk:Kp (fun l=>l=U.length∨F l) (Qk c w n B x t U) X) (gF:grow (Qk c w n B x t U) F F') (gD:∀l,D' l→D l∨l=U.length∨(Qk c w n B x t U).length≤l):
  BJ c w ci n B v co h F' D' (t++[(x,n+t.length,U.length)]) X∧(∀{F0 D0:Np} {S:St},S.length≤B→Stp w F0 D0 S F D U→Stp w F0 D0 S F' D' X):=by
 have hl:=qaO (c:=c) (w:=w) (n:=n) (B:=B) (t:=t) x U;have lt:∀l,F l∨D l→l<U.length:=ok.lt b.wk.st;have hs:=b.push ok (plc x (n+t.length) x)
 have get:∀(l:Nat) (o:Ob),U[l]?=some o→l≠w→l≠B+2→¬ F l→X[l]?=some o:=fun l o ho h1 h2 h3=>by
  have hlt:=(qqT.1 ho).1;exact hk.at ((JM x U).at ho (by rintro (rfl|rfl) <;> contradiction)) (by rintro (rfl|hf);omega;exact h3 hf)
 have nF:∀l,l<U.length→¬ F l→¬ F' l:=fun l h1 h2 h3=>(gF l h3).elim h2 (by omega)
 have nD:∀l,l<U.length→¬ D l→¬ D' l:=fun l h1 h2 h3=>(gD l h3).elim h2 (by omega)
 have offN:∀l,l<U.length→Off w F D l→Off w F' D' l:=fun l h1 h2=>⟨h2.1,nF l h1 h2.2.1,nD l h1 h2.2.2⟩
 have hsl:t.sco.length=t.length:=qq2 _;have hsco:Sct.sco (t++[(x,n+t.length,U.length)])=t.sco++[(x,n+t.length)]:=qrg;refine ⟨⟨⟨?_,?_,nF w (by omega) b.wk.nF,nD w (by omega) b.wk.nD,?_⟩,get _ _ b.tc b.offc.1 (by omega) b.offc.2.1,get _ _ b.t0 (by omega) (by omega) (b.off 0 (by omega)).2.1,get _ _ b.t1 (by omega) (by omega) (b.off 1 (by omega)).2.1,?_,get _ _ b.t3 (by omega) (by omega) (b.off 3 (by omega)).2.1,get _ _ b.t4 (by omega) (by omega) (b.off 4 (by omega)).2.1,fun j hj=>offN _ (by omega) (b.off j hj),offN _ (by omega) b.offc,?_,?_⟩,fun {F0 D0 S} hS s=>⟨⟨?_,fun l hl hn=>?_⟩,fun l hf=>(gF l hf).elim (s.gF l) (by have:=s.k.len;omega),fun l hf=>(gD l hf).elim (s.gD l) (by have:=s.k.len;omega)⟩⟩
 ·have:(Qk c w n B x t U)[w]?=some (wkr c (n+t.length+1)):=by
   unfold Qk;rw[qqX (by omega),qqV (by simp;omega)]
  rw[hk.at this (by rintro (rfl|hf);omega;exact b.wk.nF hf)];simp[qrF]
 ·rw[hsco];unfold enters;rw[qrD];exact hX
 ·rw[hsco];unfold enters;rw[qrD,qrd,←qrF];exact ok.ce x b.wk.cn
 ·have:(Qk c w n B x t U)[B+2]?=some (.map (t.map qeO++[(.str x,.ptr U.length 0 0 1)]) (kC t.length++[t.length]) (t.length+1)):=by
   unfold Qk;rw[qqV (by simp;omega)]
  rw[hk.at this (by rintro (hh|hf);omega;exact (b.off 2 (by omega)).2.1 hf)];simp[kC,List.range_succ,qeO]
 ·intro e he;rcases qq0.1 he with he|he
  ·have h1:=b.ge e he;have h2:=glt (b.pl e he).2;exact ⟨nF _ h2 (b.pl e he).1,get _ _ (b.pl e he).2 (by omega) (by omega) (b.pl e he).1⟩
  ·simp at he;subst he;refine ⟨fun hf=>(gF _ hf).elim (fun hh=>?_) (fun hh=>?_),hp⟩
   ·have:=lt _ (.inl hh);simp at this
   ·simp only at hh;omega
 ·intro e he;rcases qq0.1 he with he|he
  ·exact b.ge e he
  ·simp at he;subst he;exact hB
 ·have:=s.k.len;have:=hk.len;omega
 ·have h1:=s.k.len;have h2:¬ F l:=fun hf=>hn (.inr ((s.gF l hf).resolve_right (by omega)))
  rw[hk.get l (by omega) (by rintro (rfl|hf);omega;exact h2 hf),(JM x U).get l (by omega) (by rintro (rfl|rfl);exact hn (.inl rfl);omega)];exact s.k.get l hl hn
end
def qo0(c:Cb)(w n:Nat)(h:c.H)(F D Y:Np)(ts:List Sct)(s:Sco)(S:St)(r:V)(U:St):Prop:=
 ∃(t:Sct) (F' D':Np),t.sco=s∧Wk c w (n+t.length) (enters c.toPw h s) F' D' U∧Stp w F D S F' D' U∧ScR c.toPw (fun l=>l=w∨F' l∨Y l) U r (t::ts)
def qqL(c:Cb)(w ci n:Nat)(v:V)(co:Ob)(h:c.H)(F D:Np)(names:List Bz)(S:St)(i:Nat)(G:Np)(U:St):Prop:=
 ∃(t:Sct) (F' D':Np),G=(fun x=>x=w∨x=S.length+2∨F' x)∧t.sco=qd (names.take i) n∧BJ c w ci n S.length v co h F' D' t U∧Stp w F D S F' D' U
theorem kL(c:Cb)(ok:c.Ok)(w n:Nat)(h:c.H)(F D:Np)(v:V)(ts:List Sct)(names:List Bz)(g:Nat)(cs:List V)(ci:Nat)(co:Ob)(hy:qaU prog g [] cs (qeP names) (fun U=>U[ci]?=some co))(hco:∀i,co≠.loop i)(S:St)
  (hk:Wk c w n h F D S) (Y:Np) (hY:∀l,Y l→l<S.length) (hsc:ScR c.toPw (fun l=>l=w∨F l∨Y l) S v ts) (hc:S[ci]?=some co) (hoc:Off w F D ci) (hn:n+(qd names n).length≤c.lim):
  qt prog 157 [.ptr w 0 0 1,v,.fn (.func g) [] cs] S (fun r U=>qo0 c w n h F D Y ts (qd names n) S r U):=by
 refine qt.ib func157 ok157 ?_;have lw:=glt hk.tw;have lc:=glt hc
 obtain ⟨hvc,hvf⟩:v.cells=[v]∧v.flat=true:=by
  cases ts with
  | nil=>have h':v=.nilp:=hsc;subst h';exact ⟨rfl,rfl⟩
  | cons t r=>obtain ⟨l,_,_,_,_,_,rfl,_⟩:=hsc;exact ⟨rfl,rfl⟩
 have hvs:v.size=1:=by show v.cells.length=1;rw[hvc];rfl
 simp[c157,qG,ldS,stS,qh,qhL,qF,qB,evX,hvc,hvf,hvs];obtain ⟨B1,hB1⟩:∃B1:St,S++[.arr [.ptr w 0 0 1] 1 1,.arr [.agg [v]] 1 1,.map [] [] 0,.arr [.agg [.ptr (S.length+1) 0 0 1,.map (S.length+2)]] 2 1,.arr [.ptr (S.length+3) 0 0 1] 1 1]=B1:=⟨_,rfl⟩
 have hb:∀(j:Nat) (o:Ob),[Ob.arr [.ptr w 0 0 1] 1 1,.arr [.agg [v]] 1 1,.map [] [] 0,.arr [.agg [.ptr (S.length+1) 0 0 1,.map (S.length+2)]] 2 1,.arr [.ptr (S.length+3) 0 0 1] 1 1][j]?=some o→B1[S.length+j]?=some o:=fun j o h=>by
  rw[←hB1,qqU (by omega),qsi];exact h
 have lB:B1.length=S.length+5:=by rw[←hB1];simp
 have kB:Stp w F D S F D B1:=by rw[←hB1];exact (Stp.refl _ _ _ _).push _
 have bj0:BJ c w ci n S.length v co h F D [] B1:=⟨by rw[←hB1];exact hk.push ok _,by rw[←hB1,qqW lc];exact hc,hb 0 _ rfl,hb 1 _ rfl,hb 2 _ rfl,hb 3 _ rfl,hb 4 _ rfl,fun j _=>hk.out ok (by omega),hoc,fun e he=>by simp at he,fun e he=>by simp at he⟩;rw[hB1];clear hb hB1;refine qbv (k:=g) (fs:=[]) (cs:=cs) (by simp) hy rfl rfl rfl (by intro a ha;obtain ⟨x,_,rfl⟩:=qrf.1 ha;rfl) (fun x=>x=w∨x=S.length+2∨F x)
  (qqL c w ci n v co h F D names S) (fun _ _=>False) (fun _ _ _=>False) ?_ ?_ ?_ ?_ ?_ ?_ ?_ ?_ ?_ ?_ ?_ ?_ ?_
 ·rintro i G U ⟨t,F',D',rfl,_,h,_⟩ x (rfl|rfl|hx)
  ·exact glt h.wk.tw
  ·exact glt h.t2
  ·exact ok.lt h.wk.st x (.inl hx)
 ·rintro i G U ⟨t,F',D',_,_,h,_⟩;exact h.tc
 ·rintro i G U ⟨t,F',D',h0,h1,h,hk⟩ o;exact ⟨t,F',D',h0,h1,h.push ok o,hk.push _⟩
 ·rintro G U h;exact h.elim
 ·rintro id G U h;exact h.elim
 ·rintro i G U L o o' hL ⟨t,F',D',h0,h1,h,hk⟩ hl;exact ⟨t,F',D',h0,h1,h.loop ok hco hl,hk.set _ (by omega)⟩
 ·rintro G U L o o' hL h;exact h.elim
 ·rintro id G U L o o' hL h;exact h.elim
 ·exact ⟨[],F,D,rfl,rfl,bj0.push ok _,kB.push _⟩
 ·rintro i av hav G U ⟨t,F1,D1,rfl,ht,hj,hkS⟩ hk1 hl;unfold qeP at hav;rw[qq7] at hav;obtain ⟨x,hx,rfl⟩:=qq3.1 hav;have hnext:=Qh x (names.take i) n;have hte:names.take i++[x]=names.take (i+1):=by rw[qrj,hx];rfl
  rw[hte,←ht,qat] at hnext;have hsl:t.sco.length=t.length:=qq2 _
  have htl:t.length≤(qd names n).length:=by
   have h1:=YY names n (names.length - i) i (by have:=(qqT.1 hx).1;omega);rw[←ht,hsl] at h1;exact h1
  generalize hke:Env.keep _ _=ke at hl ⊢;have k3:ke.get 3=some (.ptr S.length 0 0 1):=by rw[←hke];exact Env.keep_get (by simp) (by simp)
  have k7:ke.get 7=some (.ptr (S.length+4) 0 0 1):=by rw[←hke];exact Env.keep_get (by simp) (by simp)
  clear hke;simp[QL];refine Q4 hl rfl ?_;have lV:=glt hl;obtain ⟨li,hli⟩:∃li:LI,li={ st:=.busy,pend:=none,ps:=[19],asg:=(QB Tryz.f157 0).fst,body:=(QB Tryz.f157 0).snd,e:=ke,N:=63 }:=⟨_,rfl⟩;show WP _ _ _ _ (U.set B1.length (.loop { st:=.busy,pend:=none,ps:=[19],asg:=(QB Tryz.f157 0).fst,body:=(QB Tryz.f157 0).snd,e:=ke,N:=63 }));rw[←hli];have hjw:=hj.loop ok hco hl (i':=li);have hLw:(U.set B1.length (.loop li))[B1.length]?=some (.loop li):=qqV lV;have hLo:=hj.wk.loop ok (o:=.loop li) hl;have hoL:Off w F1 D1 B1.length:=⟨by omega,(ok.lp hj.wk.st _ _ hl).1,(ok.lp hj.wk.st _ _ hl).2⟩;have h3w:Stp w F D S F1 D1 (U.set B1.length (.loop li)):=hkS.set _ (by omega);have lW:(U.set B1.length (.loop li)).length=U.length:=by simp
  have hkw:Kg (fun x=>(x=w∨x=S.length+2∨F1 x)∨x=B1.length) U (fun x=>(x=w∨x=S.length+2∨F1 x)∨x=B1.length) (U.set B1.length (.loop li)):=(Kg.refl _ _).set _ (.inl (.inr rfl));generalize U.set B1.length (.loop li)=W at hjw hLw h3w lW hkw ⊢;clear hLo;have hlk:=qgA x hjw.t2;simp[k3,k7,zY,ldS,hjw.t4,hjw.t3,evX,hlk]
  cases hlo:Z9 t x with
  | some p=>
   rw[hlo] at hnext;simp only[qre,Option.isSome_some,if_true] at hnext;simp;subst hli;exact qay ⟨rfl,rfl⟩ hLw hkw ⟨t,F1,D1,rfl,hnext.symm,hjw.loop ok hco hLw,h3w.set _ (by omega)⟩
  | none=>
   rw[hlo] at hnext;simp only[Option.map_none,Option.isSome_none,qrn,if_false,hsl] at hnext;have hw0:=hjw.wk.tw;unfold wkr at hw0;simp[k3,k7,zY,ldS,hjw.t0,hw0,stS,qF,qB,evX,qh,qG];have hs1:=hjw.push ok (plc x (n+t.length) x);have hme:=qkh x (.ptr W.length 0 0 1) (lm:=S.length+2) (S:=(W++[plc x (n+t.length) x]).set w (wkr c (n+t.length+1))) (by rw[qqX (by omega)];exact hs1.t2) hlo;have hs1w:=hs1.wk.tw;have p0:=hs1.t0;have p4:=hs1.t4;have p3:=hs1.t3;have hbs:Qk c w n S.length x t W=((W++[plc x (n+t.length) x]).set w (wkr c (n+t.length+1))).set (S.length+2) (.map (t.map qeO++[(.str x,.ptr W.length 0 0 1)]) (kC t.length++[t.length]) (t.length+1)):=rfl;unfold wkr plc at hs1w hme hbs;unfold plc at p0 p3 p4;push_cast at hs1w hme hbs p0 p3 p4;generalize hW1:W++[Ob.arr [.agg [.int .i64 ((n:Int)+(t.length:Int)),.str x,.str x]] 3 1]=W1 at hs1w hme hbs p0 p3 p4 ⊢;have lW1:W1.length=W.length+1:=by rw[←hW1];simp
   have hL:=ok.lim
   have htl1:t.length+1≤(qd names n).length:=by
    have h1:=YY names n (names.length - (i+1)) (i+1) (by have:=(qqT.1 hx).1;omega);rw[hnext,qrd,hsl] at h1;exact h1
   have i1:=qu (n:=(n:Int)+(t.length:Int)+1) (by omega) (by omega);obtain ⟨wo,hwo⟩:∃wo,wo=Ob.arr [V.agg [V.int IntKind.i64 (↑n+↑t.length+1),c.fe,c.fn,c.fc]] 4 1:=⟨_,rfl⟩;have e0:(W1.set w wo)[S.length]?=some (.arr [.ptr w 0 0 1] 1 1):=by rw[qqX (by omega)];exact p0
   have e3:(W1.set w wo)[S.length+3]?=some (.arr [.agg [.ptr (S.length+1) 0 0 1,.map (S.length+2)]] 2 1):=by rw[qqX (by omega)];exact p3
   have e4:(W1.set w wo)[S.length+4]?=some (.arr [.ptr (S.length+3) 0 0 1] 1 1):=by rw[qqX (by omega)];exact p4
   have ew:(W1.set w wo)[w]?=some wo:=qqV (by omega);simp[k3,k7,zY,ldS,p0,hs1w,stS,qh,i1];rw[←hwo] at hme hbs ⊢;generalize W1.set w wo=W2 at e0 e3 e4 ew hme hbs ⊢;subst hwo;simp[k3,k7,zY,ldS,e4,e3,evX,hme];rw[←hbs];have hbl:=qaO (c:=c) (w:=w) (n:=n) (B:=S.length) (t:=t) x W;have kb:=JM (c:=c) (w:=w) (n:=n) (B:=S.length) (t:=t) x W;have g0:(Qk c w n S.length x t W)[S.length]?=some (.arr [.ptr w 0 0 1] 1 1):=by rw[hbs,qqX (by omega)];exact e0
   have gw:(Qk c w n S.length x t W)[w]?=some (Ob.arr [V.agg [V.int IntKind.i64 (↑n+↑t.length+1),c.fe,c.fn,c.fc]] 4 1):=by rw[hbs,qqX (by omega)];exact ew
   have gL:(Qk c w n S.length x t W)[B1.length]?=some (.loop li):=kb.at hLw (by omega);have gp':=qm0 (c:=c) (w:=w) (n:=n) (B:=S.length) (t:=t) x (W:=W) (by omega) (by omega);have gI:=hjw.ready ok x;have kk:Kp (fun x=>(x=w∨x=S.length+2∨F1 x)∨x=B1.length) U (Qk c w n S.length x t W):=hkw.k.trans (kb.mono fun l _ h=>.inl (h.imp id .inl));clear hbs hme e3 e4;have z0:=e0;clear e0;have fin:∀(F2 D2:Np) (X:St),c.I (c.ent (enters c.toPw h t.sco) (n+t.length) x) F2 D2 X→X[W.length]?=some (plc x (n+t.length) (c.f (n+t.length) x))→Kp (fun l=>l=W.length∨F1 l) (Qk c w n S.length x t W) X→grow (Qk c w n S.length x t W) F1 F2→(∀l,D2 l→D1 l∨l=W.length∨(Qk c w n S.length x t W).length≤l)→
     ∃(t':Sct) (F' D':Np),X[B1.length]?=some (.loop li)∧Kg (fun x=>(x=w∨x=S.length+2∨F1 x)∨x=B1.length) U (fun x=>(x=w∨x=S.length+2∨F' x)∨x=B1.length) X∧t'.sco=qd (names.take (i+1)) n∧BJ c w ci n S.length v co h F' D' t' X∧Stp w F D S F' D' X:=fun F2 D2 X hX hp hkX gF gD=>by
    obtain ⟨q1,q2⟩:=hjw.step ok x lw lc (by omega) hX hp hkX gF gD;refine ⟨_,F2,D2,hkX.at gL (by rintro (hh|hh);omega;exact hoL.2.1 hh),⟨⟨qrt kk.len hkX.len,fun l hl hn=>?_⟩,fun l hl=>?_⟩,by rw[hnext];exact qrg,q1,q2 (qqY _) h3w⟩
    ·rw[hkX.get l (by omega) (by
      rintro (hh|hh)
      ·omega
      ·exact hn (.inl (.inr (.inr hh))))]
     exact kk.get l hl hn
    ·rcases hl with (hl|hl|hl)|hl
     ·exact .inl (.inl (.inl hl))
     ·exact .inl (.inl (.inr (.inl hl)))
     ·exact (gF l hl).imp (fun a=>.inl (.inr (.inr a))) fun a=>by omega
     ·exact .inl (.inr hl)
   generalize Qk c w n S.length x t W=W3 at g0 gw gL gp' gI kk fin hbl ⊢;rcases ok.en with ⟨e0,e1,e2⟩|⟨ge,ces,e0,hfs⟩
   ·simp[k3,k7,zY,ldS,g0,gw,z0,ew,e0,zT,eqV];obtain ⟨t',F',D',f1,f2,f3,f4,f5⟩:=fin F1 D1 W3 (by rw[e2];exact gI) (by rw[e1];exact gp') (Kp.refl _ _) (grow.refl _ _) (fun l hl=>.inl hl);subst hli;exact qay ⟨rfl,rfl⟩ f1 f2 ⟨t',F',D',rfl,f3,f4.loop ok hco f1,f5.set _ (by omega)⟩
   ·simp[k3,k7,zY,ldS,g0,gw,z0,ew,e0,zT,eqV];refine qi (hfs W3 W.length (n+t.length) x _ F1 D1 gp' (fun hf=>by have:=ok.lt hjw.wk.st _ (.inl hf);omega) (fun hf=>by have:=ok.lt hjw.wk.st _ (.inr hf);omega) (by omega) hjw.wk.cn gI) ?_;rintro r X ⟨F2,D2,hX,hp,hkX,gF,gD⟩;simp;obtain ⟨t',F',D',f1,f2,f3,f4,f5⟩:=fin F2 D2 X hX hp hkX gF gD;subst hli;exact qay ⟨rfl,rfl⟩ f1 f2 ⟨t',F',D',rfl,f3,f4.loop ok hco f1,f5.set _ (by omega)⟩
 ·rintro G U ⟨t,F',D',rfl,ht,hj,hkS⟩ hk;rw[Yk,qrP] at ht;simp[ldS,hj.t4];refine qf rfl ⟨t,F',D',ht,by rw[←ht];exact hj.wk,hkS,S.length+3,S.length+1,S.length+2,v,_,_,rfl,⟨?_,?_,?_⟩,hj.t3,hj.t1,hj.t2,fun e he=>⟨?_,(hj.pl e he).2⟩,hsc.mono (hkS.k.mono fun l _ hh=>hh.imp id .inl) fun l hh=>?_⟩
  ·rintro (hh|hh|hh)
   ·omega
   ·exact (hj.off 3 (by omega)).2.1 hh
   ·have:=hY _ hh;omega
  ·rintro (hh|hh|hh)
   ·omega
   ·exact (hj.off 1 (by omega)).2.1 hh
   ·have:=hY _ hh;omega
  ·rintro (hh|hh|hh)
   ·omega
   ·exact (hj.off 2 (by omega)).2.1 hh
   ·have:=hY _ hh;omega
  ·have:=hj.ge e he;rintro (hh|hh|hh)
   ·omega
   ·exact (hj.pl e he).1 hh
   ·have:=hY _ hh;omega
  ·rcases hh with hh|hh|hh
   ·exact .inl (.inl hh)
   ·exact (hkS.gF l hh).imp (fun a=>.inr (.inl a)) id
   ·exact .inl (.inr (.inr hh))
 ·rintro G U h;exact h.elim
 ·rintro id G U h;exact h.elim
structure Rp where
 fresh:List Bz
 fro:List Bz
 to:List Ex
structure Rst where
 free:List Bz
 bad:Bool
 caught:Bool
def Scs.flat:Scs→Sco
 | []=>[]
 | s::r=>Scs.flat r++s
def mtL:List Bz→List Ex→Bz→Option Ex
 | f::fs,e::es,x=>if f=x then some e else mtL fs es x
 | _,_,_=>none
def mt(r:Rp)(x:Bz):Option Ex:=mtL r.fro r.to x
def qdc(r:Rp)(sc:Scs)(x:Bz):Bz:=match sc.at x with
 | some k=>(r.fresh[k]?).getD x
 | none=>x
def qnB(r:Rp)(sc:Scs)(x:Bz)(st:Rst):Rst:=match sc.at x with
 | some _=>st
 | none=>{ free:=st.free++[x],bad:=st.bad,caught:=st.caught || (match mt r x with
  | some e=>decide (e.kind=6) && (Scs.flat sc).any fun p=>decide (p.1=e.text)
  | none=>false) }
def rmt(r:Rp)(sc:Scs)(x:Bz):Option Ex:=match sc.at x with
 | some _=>none
 | none=>mt r x
def jb(r:Rp)(sc:Scs)(x:Bz):Bz:=match rmt r sc x with
 | some e=>if e.kind=6 then e.text else x
 | none=>qdc r sc x
def qcd(r:Rp)(sc:Scs)(x:Bz)(st:Rst):Rst:={ qnB r sc x st with bad:=(qnB r sc x st).bad || (match rmt r sc x with
 | some e=>!decide (e.kind=6)
 | none=>false) }
mutual
def Ex.rw(r:Rp)(sc:Scs):Ex→Ex
 | .mk k o n m e t a=>if k=6 then (match rmt r sc t with
   | some x=>x
   | none=>.mk 6 0 0 0 0 (qdc r sc t) [])
  else .mk k o n m e (if k=7∨k=8 then jb r sc t else t) (Ex.rwl r sc a)
def Ex.rwl(r:Rp)(sc:Scs):List Ex→List Ex
 | []=>[]
 | x::l=>Ex.rw r sc x::Ex.rwl r sc l
end
mutual
def Ex.rs(r:Rp)(sc:Scs)(st:Rst):Ex→Rst
 | .mk k _ _ _ _ t a=>if k=6 then qnB r sc t st else Ex.rsl r sc (if k=7∨k=8 then qcd r sc t st else st) a
def Ex.rsl(r:Rp)(sc:Scs)(st:Rst):List Ex→Rst
 | []=>st
 | x::l=>Ex.rsl r sc (Ex.rs r sc st x) l
end
def qpw(l:List Ex):Bool:=l.any fun x=>decide (x.kind≠6) && decide (x.kind≠7)
def El.rw(r:Rp)(sc:Scs)(e:El):El:=⟨e.kind,Ex.rwl r sc e.exps⟩
def El.rsl(r:Rp)(sc:Scs)(st:Rst)(l:List El):Rst:=l.foldl (fun st e=>Ex.rsl r sc st e.exps) st
def Fo.rw(r:Rp)(sc:Scs)(x:Fo):Fo:=⟨qdc r sc x.name,x.value,x.spec,x.type⟩
def tgS(r:Rp)(sc:Scs)(st:Rst)(l:List Ex):Rst:={ Ex.rsl r sc st l with bad:=(Ex.rsl r sc st l).bad || qpw (Ex.rwl r sc l) }
mutual
def Sm.rw(r:Rp)(sc:Scs)(n:Nat):Sm→Sm
 | .mk l k t g e h d b=>
  if k=7 then
   .mk (l.map (qdc r sc)) k t g e h (De.rwl r (qd (qe d b) n::sc) sc (n+(qd (qe d b) n).length) d) (Sm.rwl r (qd (qe d b) n::sc) (n+(qd (qe d b) n).length+De.nbl d) b)
  else if k=8 then
   .mk (l.map (qdc r sc)) k t g e h d (Sm.rwl r (qd (qk b) n::sc) (n+(qd (qk b) n).length) b)
  else .mk (l.map (qdc r sc)) k (if k=6 then jb r sc t else t) (Ex.rwl r sc g) (Ex.rwl r sc e) (h.map (El.rw r sc)) d (Sm.rw1 r sc n b)
def De.rw(r:Rp)(own sc:Scs)(n:Nat):De→De
 | .mk k o t nm e fo b=>
  if k=4 then .mk k o t (nm.map (qdc r own)) (Ex.rwl r own e) (fo.map (Fo.rw r (qd (fo.map Fo.name) n::own))) (Sm.rw1 r (qd (fo.map Fo.name) n::own) (n+(qd (fo.map Fo.name) n).length) b)
  else .mk k o t (nm.map (qdc r own)) (Ex.rwl r (if k=2 then sc else own) e) fo b
def De.rwl(r:Rp)(own sc:Scs)(n:Nat):List De→List De
 | []=>[]
 | x::l=>De.rw r own sc n x::De.rwl r own sc (n+De.nb x) l
def Sm.rwl(r:Rp)(sc:Scs)(n:Nat):List Sm→List Sm
 | []=>[]
 | x::l=>Sm.rw r sc n x::Sm.rwl r sc (n+Sm.nb x) l
def Sm.rw1(r:Rp)(sc:Scs)(n:Nat):List Sm→List Sm
 | []=>[]
 | x::l=>Sm.rw r (qd x.labels n::sc) (n+(qd x.labels n).length) x::Sm.rw1 r sc (n+(qd x.labels n).length+Sm.nb x) l
end
mutual
def Sm.rs(r:Rp)(sc:Scs)(n:Nat)(st:Rst):Sm→Rst
 | .mk _ k t g e h d b=>
  if k=7 then Sm.rsl r (qd (qe d b) n::sc) (n+(qd (qe d b) n).length+De.nbl d) (De.rsl r (qd (qe d b) n::sc) sc (n+(qd (qe d b) n).length) st d) b
  else if k=8 then Sm.rsl r (qd (qk b) n::sc) (n+(qd (qk b) n).length) st b
  else Sm.rs1 r sc n (Ex.rsl r sc (El.rsl r sc (tgS r sc (if k=6 then qcd r sc t st else st) g) h) e) b
def De.rs(r:Rp)(own sc:Scs)(n:Nat)(st:Rst):De→Rst
 | .mk k _ _ _ e fo b=>
  if k=4 then Sm.rs1 r (qd (fo.map Fo.name) n::own) (n+(qd (fo.map Fo.name) n).length) (Ex.rsl r own st e) b
  else Ex.rsl r (if k=2 then sc else own) st e
def De.rsl(r:Rp)(own sc:Scs)(n:Nat)(st:Rst):List De→Rst
 | []=>st
 | x::l=>De.rsl r own sc (n+De.nb x) (De.rs r own sc n st x) l
def Sm.rsl(r:Rp)(sc:Scs)(n:Nat)(st:Rst):List Sm→Rst
 | []=>st
 | x::l=>Sm.rsl r sc (n+Sm.nb x) (Sm.rs r sc n st x) l
def Sm.rs1(r:Rp)(sc:Scs)(n:Nat)(st:Rst):List Sm→Rst
 | []=>st
 | x::l=>Sm.rs1 r sc (n+(qd x.labels n).length+Sm.nb x) (Sm.rs r (qd x.labels n::sc) (n+(qd x.labels n).length) st x) l
end
def nms(l:List Bz):List Bz:=(qd l 0).map (·.1)
mutual
def Sm.bn:Sm→List Bz
 | .mk _ k _ _ _ _ d b=>if k=7 then nms (qe d b)++De.bnl d++Sm.bnl b else if k=8 then nms (qk b)++Sm.bnl b else Sm.bn1 b
def De.bn:De→List Bz
 | .mk k _ _ _ _ f b=>if k=4 then nms (f.map Fo.name)++Sm.bn1 b else []
def De.bnl:List De→List Bz
 | []=>[]
 | x::l=>De.bn x++De.bnl l
def Sm.bnl:List Sm→List Bz
 | []=>[]
 | x::l=>Sm.bn x++Sm.bnl l
def Sm.bn1:List Sm→List Bz
 | []=>[]
 | x::l=>nms x.labels++Sm.bn x++Sm.bn1 l
end
theorem qz(l:List Bz):(nms l).length=(qd l 0).length:=qq2 _
mutual
theorem Sm.bn_length:∀s:Sm,s.bn.length=s.nb
 | .mk _ k _ _ _ _ d b=>by
  simp only[Sm.bn,Sm.nb];split
  ·rw[qrd,qrd,qz,De.bnl_length d,Sm.bnl_length b]
  ·split
   ·rw[qrd,qz,Sm.bnl_length b]
   ·exact Sm.bn1_length b
theorem De.bn_length:∀s:De,s.bn.length=s.nb
 | .mk k _ _ _ _ f b=>by
  simp only[De.bn,De.nb];split
  ·rw[qrd,qz,Sm.bn1_length b]
  ·rfl
theorem De.bnl_length:∀s:List De,(De.bnl s).length=De.nbl s
 | []=>rfl
 | x::l=>by simp only[De.bnl,De.nbl,qrd,De.bn_length x,De.bnl_length l]
theorem Sm.bnl_length:∀s:List Sm,(Sm.bnl s).length=Sm.nbl s
 | []=>rfl
 | x::l=>by simp only[Sm.bnl,Sm.nbl,qrd,Sm.bn_length x,Sm.bnl_length l]
theorem Sm.bn1_length:∀s:List Sm,(Sm.bn1 s).length=Sm.nb1 s
 | []=>rfl
 | x::l=>by simp only[Sm.bn1,Sm.nb1,qrd,qz,Sm.bn_length x,Sm.bn1_length l]
end
def Sm.wholeQ(r:Rp)(s:Sm):Sm:=s.rw r [qd s.labels 0] (qd s.labels 0).length
structure HInv(p:Pw)(Q:List Bz→p.H→Prop):Prop where
 e:∀{l h} x,Q l h→Q (l++[x]) (p.ent h l.length x)
 n:∀{l h} x sc tg,Q l h→Q l (p.nmH h x sc tg)
 c:∀{l h} x sc,Q l h→Q l (p.clH h x sc)
theorem qce(p:Pw)(h:p.H)(s:Sco)(e:Bz×Nat):enters p h (s++[e])=p.ent (enters p h s) e.2 e.1:=by unfold enters;rw[qrD];rfl
theorem qcK(x:Bz)(l:List Bz):nms (l++[x])=if ((qd l 0).at x).isSome then nms l else nms l++[x]:=by
 unfold nms;rw[Qh];split <;> simp
theorem qas(x:Bz)(n:Nat):∀(k:Nat) (l:List Bz),l.length≤k→((qd l n).at x).isSome=((qd l 0).at x).isSome
 | _,[],_=>rfl
 | 0,_::_,h=>by simp at h
 | k+1,y::l',h=>by
  obtain ⟨l,z,hl⟩:∃l z,y::l'=l++[z]:=⟨(y::l').dropLast,(y::l').getLast (by simp),(List.dropLast_concat_getLast _).symm⟩;rw[hl] at h ⊢;have hk:l.length≤k:=by simp at h;exact h
  rw[Qh,Qh,qas z n k l hk];have ih:=qas x n k l hk;split
  ·exact ih
  ·unfold Sco.at at *;rw[qsN,qsN];cases h1:List.find? (fun e=>decide (e.1=x)) (qd l n) <;> cases h2:List.find? (fun e=>decide (e.1=x)) (qd l 0) <;> simp[h1,h2] at ih ⊢;split <;> rfl
section
variable {p:Pw} {Q:List Bz→p.H→Prop} (i:HInv p Q)
include i
theorem HInv.enters{l:List Bz}{h:p.H}(hq:Q l h):∀(k:Nat) (a:List Bz),a.length≤k→Q (l++nms a) (enters p h (qd a l.length))
 | _,[],_=>by simpa[nms,qd,binds,Go.Proofs.YtbifpocccfkhhaaGreatDoor.enters] using hq
 | 0,_::_,h=>by simp at h
 | k+1,y::l',hk=>by
  obtain ⟨a,z,hl⟩:∃a z,y::l'=a++[z]:=⟨(y::l').dropLast,(y::l').getLast (by simp),(List.dropLast_concat_getLast _).symm⟩;rw[hl] at hk ⊢;have hk:a.length≤k:=by simp at hk;exact hk
  have ih:=HInv.enters hq k a hk;rw[Qh,qcK,qas z l.length k a hk];split
  ·exact ih
  ·rw[qce,←qrc];have h2:(l++nms a).length=l.length+(qd a l.length).length:=by rw[qrd,qz,qq a l.length 0]
   have h3:=i.e z ih;rw[h2] at h3;exact h3
theorem HInv.nmS{l:List Bz}{h:p.H}(sc:Scs)(tg:Bool)(x:Ex)(hq:Q l h):Q l (p.nmS sc tg h x):=by
 unfold Pw.nmS;split
 ·split
  ·exact hq
  ·exact i.n _ _ _ hq
 ·exact hq
theorem HInv.clS{l:List Bz}{h:p.H}(sc:Scs)(k:Int)(t:Bz)(hq:Q l h):Q l (p.clS sc k h t):=by
 unfold Pw.clS;split
 ·split
  ·exact hq
  ·exact i.c _ _ hq
 ·exact hq
mutual
theorem HInv.ex{l:List Bz}(sc:Scs)(tg:Bool):∀(x:Ex) {h:p.H},Q l h→Q l (x.hs p sc tg h)
 | .mk k o n m e t a,h,hq=>by simp only[Ex.hs];exact i.nmS _ _ _ (HInv.exl sc false a hq)
theorem HInv.exl{l:List Bz}(sc:Scs)(tg:Bool):∀(x:List Ex) {h:p.H},Q l h→Q l (Ex.hsl p sc tg h x)
 | [],h,hq=>hq
 | x::r,h,hq=>by simp only[Ex.hsl];exact HInv.exl sc tg r (HInv.ex sc tg x hq)
end
theorem HInv.el{l:List Bz}(sc:Scs):∀(x:List El) {h:p.H},Q l h→Q l (El.hsl p sc h x)
 | [],h,hq=>hq
 | x::r,h,hq=>HInv.el sc r (h:=Ex.hsl p sc false h x.exps) (i.exl sc false x.exps hq)
omit i in
theorem ja(l a:List Bz):(l++nms a).length=l.length+(qd a l.length).length:=by rw[qrd,qz,qq a l.length 0]
mutual
theorem HInv.sm(sc:Scs){l:List Bz}:∀(s:Sm) {h:p.H},Q l h→Q (l++s.bn) (s.hs p sc l.length h)
 | .mk lb k t g e el d b,h,hq=>by
  simp only[Sm.hs,Sm.bn];split
  ·have h1:=i.enters (i.exl sc true g hq) _ (qe d b) (qqY _);rw[←ja];have h2:=HInv.del (qd (qe d b) l.length::sc) sc d h1;have h3:=HInv.sml (qd (qe d b) l.length::sc) b h2;rw[qrd,De.bnl_length] at h3;rw[←qrc,←qrc];exact h3
  ·split
   ·have h1:=i.enters (i.exl sc true g hq) _ (qk b) (qqY _);rw[←ja];have h3:=HInv.sml (qd (qk b) l.length::sc) b h1;rw[←qrc];exact h3
   ·exact i.clS _ _ _ (HInv.sm1 sc b (i.el sc el (i.exl sc false e (i.exl sc true g hq))))
theorem HInv.de(own sc:Scs){l:List Bz}:∀(d:De) {h:p.H},Q l h→Q (l++d.bn) (d.hs p own sc l.length h)
 | .mk k o t nm e f b,h,hq=>by
  simp only[De.hs,De.bn];split
  ·have h1:=i.enters (i.exl own false e hq) _ (f.map Fo.name) (qqY _);rw[←ja,←qrc];exact HInv.sm1 _ b h1
  ·rw[qr8];exact i.exl _ _ e hq
theorem HInv.del(own sc:Scs){l:List Bz}:∀(d:List De) {h:p.H},Q l h→Q (l++De.bnl d) (De.hsl p own sc l.length h d)
 | [],h,hq=>by simpa[De.bnl,De.hsl] using hq
 | x::r,h,hq=>by
  have h1:=HInv.del own sc r (HInv.de own sc x hq);rw[qrd,De.bn_length,qrc] at h1;simp only[De.bnl,De.hsl];exact h1
theorem HInv.sml(sc:Scs){l:List Bz}:∀(s:List Sm) {h:p.H},Q l h→Q (l++Sm.bnl s) (Sm.hsl p sc l.length h s)
 | [],h,hq=>by simpa[Sm.bnl,Sm.hsl] using hq
 | x::r,h,hq=>by
  have h1:=HInv.sml sc r (HInv.sm sc x hq);rw[qrd,Sm.bn_length,qrc] at h1;simp only[Sm.bnl,Sm.hsl];exact h1
theorem HInv.sm1(sc:Scs){l:List Bz}:∀(s:List Sm) {h:p.H},Q l h→Q (l++Sm.bn1 s) (Sm.hs1 p sc l.length h s)
 | [],h,hq=>by simpa[Sm.bn1,Sm.hs1] using hq
 | x::r,h,hq=>by
  have h0:=i.enters hq _ x.labels (qqY _);have h1:=HInv.sm1 sc r (HInv.sm (qd x.labels l.length::sc) x h0);rw[qrd,Sm.bn_length,ja,qrc,qrc] at h1;simp only[Sm.bn1,Sm.hs1,qrc];exact h1
end
end
theorem HInv.cn{c:Cb}(ok:c.Ok):HInv c.toPw fun l h=>c.cn h l.length:=⟨fun x h=>by rw[qrd];exact ok.ce x h,fun x sc tg h=>ok.cm x sc tg h,fun x sc h=>ok.cc x sc h⟩
section
variable {c:Cb} (ok:c.Ok)
include ok
theorem qoi{n:Nat}{h:c.H}(sc:Scs)(tg:Bool)(x:List Ex)(k:c.cn h n):c.cn (Ex.hsl c.toPw sc tg h x) n:=by
 have:=(HInv.cn ok).exl (l:=List.replicate n ⟨⟨[]⟩⟩) sc tg x (h:=h) (by simpa using k);simpa using this
theorem qoy{n:Nat}{h:c.H}(a:List Bz)(k:c.cn h n):c.cn (enters c.toPw h (qd a n)) (n+(qd a n).length):=by
 have:=(HInv.cn ok).enters (l:=List.replicate n ⟨⟨[]⟩⟩) (h:=h) (by simpa using k) _ a (qqY _);simp only[ja] at this;simpa using this
theorem qoe{n:Nat}{h:c.H}(sc:Scs)(s:List Sm)(k:c.cn h n):c.cn (Sm.hsl c.toPw sc n h s) (n+Sm.nbl s):=by
 have:=(HInv.cn ok).sml (l:=List.replicate n ⟨⟨[]⟩⟩) sc s (h:=h) (by simpa using k);simp only[qrd,Sm.bnl_length] at this;simpa using this
end
def Gw(sz n0 w:Nat)(F D:Np)(xs:List V)(v:V)(S:St):Prop:=(xs=[]∧v=.sl true [])∨∃l wr,n0≤l∧Off w F D l∧v=.arr l 0 xs.length xs.length∧S[l]?=some (.arr xs sz wr)∧wr≤xs.length
theorem Gw.nil(sz n0 w:Nat)(F D:Np)(S:St):Gw sz n0 w F D [] (.sl true []) S:=.inl ⟨rfl,rfl⟩
theorem Gw.step{sz n0 w:Nat}{F D F' D':Np}{xs:List V}{v:V}{S U:St}(h:Gw sz n0 w F D xs v S)(s:Stp w F D S F' D' U):Gw sz n0 w F' D' xs v U:=by
 rcases h with h|⟨l,wr,h1,h2,h3,h4,h5⟩
 ·exact .inl h
 ·exact .inr ⟨l,wr,h1,h2.next (qqT.1 h4).1 s,h3,s.at h2 h4,h5⟩
theorem Gw.push{sz n0 w:Nat}{F D:Np}{xs:List V}{v:V}{S:St}(h:Gw sz n0 w F D xs v S)(os:List Ob):Gw sz n0 w F D xs v (S++os):=by
 rcases h with h|⟨l,wr,h1,h2,h3,h4,h5⟩
 ·exact .inl h
 ·exact .inr ⟨l,wr,h1,h2,h3,by rw[qqW (qqT.1 h4).1];exact h4,h5⟩
theorem Gw.app1{c:Cb}(ok:c.Ok){sz w n bytes:Nat}{hh:c.H}{F0 D0 F D:Np}{xs:List V}{y v:V}{S0 S:St}{b:Bool}(h:Gw sz S0.length w F D xs v S)(k:Wk c w n hh F D S)(s:Stp w F0 D0 S0 F D S)(hy:fits sz [y]=true)(hr:(xs.length+1) * bytes≤2 ^ 47):
  ∃v' S',Jz S sz bytes v (.sl b [y])=some (v',S')∧Gw sz S0.length w F D (xs++[y]) v' S'∧Wk c w n hh F D S'∧Stp w F0 D0 S0 F D S':=by
 have hlen:=s.k.len;rcases h with ⟨rfl,rfl⟩|⟨l,wr,h1,h2,rfl,h3,h4⟩
 ·have hr':[y].length * bytes≤2 ^ 47:=by simpa using hr
  refine ⟨.arr S.length 0 1 1,S++[.arr [y] sz 1],?_,.inr ⟨S.length,1,hlen,k.out ok (qqY _),by simp,by simp,by simp⟩,k.push ok _,s.push _⟩;unfold Jz;rw[ZX];have hc:true=true∧fits sz [y]=true∧(([]:List V).all fun v=>v.size==sz)=true∧(([]:List V).length+[y].length) * bytes≤2 ^ 47:=⟨rfl,hy,rfl,hr⟩;show (if [y].isEmpty=true then _ else _)=_;rw[if_neg (by simp),if_pos hc];simp
 ·have hc:0=0∧xs.length=xs.length∧xs.length=xs.length∧sz=sz∧fits sz [y]=true∧(xs.length+[y].length) * bytes≤2 ^ 47:=⟨rfl,rfl,rfl,rfl,hy,hr⟩;have hlt:l<S.length:=(qqT.1 h3).1;refine ⟨.arr l 0 (xs.length+1) (xs.length+1),S.set l (.arr (xs++[y]) sz wr),?_,.inr ⟨l,wr,h1,h2,by simp,by rw[qqV hlt],by simp;omega⟩,k.set ok _ h2.1 h2.2.1 h2.2.2,s.set _ h1⟩;unfold Jz;rw[ZX];show (match S[l]? with|_=>_)=_;rw[h3];show (if _ then _ else _)=_;rw[if_pos hc];rfl
theorem Gw.fin{c:Cb}(ok:c.Ok){sz w n:Nat}{hh:c.H}{F0 D0 F D:Np}{xs:List V}{v:V}{S0 U:St}(h:Gw sz S0.length w F D xs v U)(k:Wk c w n hh F D U)(s:Stp w F0 D0 S0 F D U):
  ∃U',zp S0.length v U (.sl false (xs.map V.weak)) U'∧Wk c w n hh F D U'∧Stp w F0 D0 S0 F D U':=by
 rcases h with ⟨rfl,rfl⟩|⟨l,wr,h1,h2,rfl,h3,h4⟩
 ·exact ⟨U,zp.weak (r:=.sl true []),k,s⟩
 ·have g1:=zp.freeze (n:=S0.length) (l:=l) (off:=0) (len:=xs.length) (st:=xs.length) h3 h4 (by omega);simp only[List.drop_zero,qrP] at g1;have g2:zp S0.length (.sl false xs) (U.set l .dead) (V.sl false xs).weak (U.set l .dead):=zp.weak;simp only[V.weak,zc] at g2;exact ⟨_,g1.trans g2,k.set ok _ h2.1 h2.2.1 h2.2.2,s.set _ h1⟩
def Wd(c:Cb)(w n:Nat)(h':c.H)(F D:Np)(S:St)(x:V)(r:V)(U:St):Prop:=r=x∧∃F' D',Wk c w n h' F' D' U∧Stp w F D S F' D' U
theorem YT{c:Cb}(ok:c.Ok){sz w n:Nat}{hh:c.H}{F0 D0 F D:Np}{xs:List V}{v:V}{S0 U:St}{rs:List RV}{e:Env}(hv:rvs e U rs=some [v])(h:Gw sz S0.length w F D xs v U)(k:Wk c w n hh F D U)(s:Stp w F0 D0 S0 F D U){ys:List V}(hx:xs.map V.weak=ys):
  JQ rs S0.length (fun r U=>Wd c w n hh F0 D0 S0 (.sl false ys) r U) .ret e U:=by
 obtain ⟨U',g,k',s'⟩:=h.fin ok k s;exact ⟨_,hv,_,U',g,by rw[hx],F,D,k',s'⟩
def Ww(c:Cb)(sz w n:Nat)(hh:c.H)(F D:Np)(S:St)(reg:Nat)(xs:List V)(e:Env)(U:St):Prop:=∃(gv:V) (F' D':Np),e.get reg=some gv∧Gw sz S.length w F' D' xs gv U∧Wk c w n hh F' D' U∧Stp w F D S F' D' U
def Lw(c:Cb)(sz w:Nat)(F D:Np)(S:St)(len:Nat)(n:Nat→Nat)(hh:Nat→c.H)(xs:Nat→List V)(env:Nat→V→Env)(j:Nat)(e:Env)(U:St):Prop:=∃(i:Nat) (gv:V) (F' D':Np),j=len - i∧i≤len∧Gw sz S.length w F' D' (xs i) gv U∧Wk c w (n i) (hh i) F' D' U∧Stp w F D S F' D' U∧e=env i gv
theorem Ex.fits1(x:Ex):fits 7 [x.v]=true:=by simp[fits]
def P97(c:Cb)(w:Nat)(x:Ex):Prop:=∀(n:Nat) (h:c.H) (F D:Np) (S:St) (v:V) (ts:List Sct) (tg:Bool),Wk c w n h F D S→ScR c.toPw (fun l=>l=w∨F l) S v ts→
 qt prog 97 [.ptr w 0 0 1,x.v,v,.bool tg] S (fun r U=>Wd c w n (Ex.hs c.toPw (Scx ts) tg h x) F D S (x.wr c.toPw (Scx ts) tg).v r U)
theorem jY(c:Cb)(ok:c.Ok)(w:Nat)(l:List Ex)(H:∀x,x∈l→P97 c w x)(hl:l.length≤4000)(n:Nat)(h:c.H)(F D:Np)(S:St)(v:V)(ts:List Sct)(tg:Bool)(hk:Wk c w n h F D S)(hsc:ScR c.toPw (fun l=>l=w∨F l) S v ts):
  qt prog 134 [.ptr w 0 0 1,.sl false (l.map Ex.v),v,.bool tg] S (fun r U=>Wd c w n (Ex.hsl c.toPw (Scx ts) tg h l) F D S (.sl false ((Ex.wrl c.toPw (Scx ts) tg l).map Ex.v)) r U):=by
 refine qt.ib func134 ok134 ?_;simp[c134];refine qQ (Ww c 7 w n (Ex.hsl c.toPw (Scx ts) tg h l) F D S 9 ((Ex.wrl c.toPw (Scx ts) tg l).map Ex.v)) ?_ ?_
 ·refine qw (Lw c 7 w F D S l.length (fun _=>n) (fun i=>Ex.hsl c.toPw (Scx ts) tg h (l.take i)) (fun i=>(Ex.wrl c.toPw (Scx ts) tg (l.take i)).map Ex.v)
   (fun i gv=>[(14,.int .i64 i),(13,.int .i64 l.length),(12,.sl false (l.map Ex.v)),(9,gv),(0,.ptr w 0 0 1),(2,v),(3,.bool tg)])) l.length _ ?_ ⟨0,_,F,D,by simp,by omega,Gw.nil _ _ _ _ _ _,hk,Stp.refl _ _ _ _,rfl⟩ ?_
  ·exact Env.so (by simp)
  rintro j e U ⟨i,gv,F1,D1,rfl,hi,hg,hk1,hs1,rfl⟩;by_cases hlt:i<l.length
  ·simp[hlt,qjB,qG,stS,qh,ldS];refine qi (H l[i] (qra hlt) n _ F1 D1 _ v ts tg (hk1.push ok _) ((hsc.step hs1).push _)) ?_;rintro r U2 ⟨rfl,F2,D2,hk2,hs2⟩;have hg2:=(hg.push [Ob.arr [l[i].v] 7 1]).step hs2;have hs3:=hs1.trans hs2.ofPush;obtain ⟨v',U3,ha,hg3,hk3,hs4⟩:=hg2.app1 ok (bytes:=80) (b:=true) hk2 hs3 (Ex.fits1 (l[i].wr c.toPw (Scx ts) tg)) (by rw[qq2,Ex.wrl_map,qq2,qsf];omega)
   have hn:(Ex.wrl c.toPw (Scx ts) tg (l.take i)).map Ex.v++[(l[i].wr c.toPw (Scx ts) tg).v]=(Ex.wrl c.toPw (Scx ts) tg (l.take (i+1))).map Ex.v:=by
    rw[Ex.wrl_map,Ex.wrl_map,qrj,qqZ hlt,qrH,qrg,qrg];rfl
   have hn2:Ex.hs c.toPw (Scx ts) tg (Ex.hsl c.toPw (Scx ts) tg h (l.take i)) l[i]=Ex.hsl c.toPw (Scx ts) tg h (l.take (i+1)):=by
    rw[qrj,qqZ hlt,qrH,Ex.hsl_append];rfl
   rw[hn] at hg3;rw[hn2] at hk3;simp[Ex.fits1,ha,zk (n:=(i:Int)+1)];refine ⟨_,?_,_,?_,i+1,v',F2,D2,rfl,by omega,hg3,hk3,hs4,rfl⟩
   ·omega
   ·exact Env.so (by simp)
  ·have:i=l.length:=by omega
   subst this;simp only[qrP] at hg hk1;simp;exact ⟨gv,F1,D1,rfl,hg,hk1,hs1⟩
 rintro e U ⟨gv,F1,D1,g9,hg,hk1,hs1⟩;simp[g9];exact YT ok rfl hg hk1 hs1 (by rw[←zc,wEx])
theorem Ex.hs_eq(p:Pw)(sc:Scs)(tg:Bool)(h:p.H)(x:Ex):x.hs p sc tg h=p.nmS sc tg (Ex.hsl p sc false h x.args) (.mk x.kind x.op x.n x.man x.exp x.text (Ex.wrl p sc false x.args)):=by cases x;simp only[Ex.hs,Ex.kind,Ex.op,Ex.n,Ex.man,Ex.exp,Ex.text,Ex.args]
theorem Ex.wr_eq(p:Pw)(sc:Scs)(tg:Bool)(x:Ex):x.wr p sc tg=p.nmE sc tg (.mk x.kind x.op x.n x.man x.exp x.text (Ex.wrl p sc false x.args)):=by cases x;simp only[Ex.wr,Ex.kind,Ex.op,Ex.n,Ex.man,Ex.exp,Ex.text,Ex.args]
theorem exV(x:Ex)(l:List Ex):V.agg [.int .i64 x.kind,.int .i64 x.op,.int .i64 x.n,.int .i64 x.man,.int .i64 x.exp,.str x.text,.sl false (l.map Ex.v)]=(Ex.mk x.kind x.op x.n x.man x.exp x.text l).v:=by rw[Ex.v_eq];rfl
theorem Wk.call0{c:Cb}(ok:c.Ok){w n:Nat}{h h':c.H}{F D F' D':Np}{S U:St}(k:Wk c w n h F D S)(hI:c.I h' F' D' U)(hk:Kp F S U)(gF:grow S F F')(gD:grow S D D'):(U[w]?=some (wkr c n)∧¬ F' w∧¬ D' w)∧Stp w F D S F' D' U:=by
 have hlt:=(qqT.1 k.tw).1;exact ⟨⟨hk.at k.tw k.nF,fun hf=>(gF w hf).elim k.nF (by omega),fun hf=>(gD w hf).elim k.nD (by omega)⟩,hk.mono fun _ _ h=>.inr h,gF,gD⟩
theorem Wk.call{c:Cb}(ok:c.Ok){w n:Nat}{h h':c.H}{F D F' D':Np}{S U:St}(k:Wk c w n h F D S)(hc:c.cn h' n)(hI:c.I h' F' D' U)(hk:Kp F S U)(gF:grow S F F')(gD:grow S D D'):Wk c w n h' F' D' U∧Stp w F D S F' D' U:=
 have ⟨⟨a,b,d⟩,s⟩:=k.call0 ok hI hk gF gD
 ⟨⟨a,hI,b,d,hc⟩,s⟩
theorem qeZ(c:Cb)(ok:c.Ok)(w:Nat):∀(m:Nat) (x:Ex),(Pa.ex x).size≤m→m≤4000→P97 c w x
 | 0,x,hx,_=>by have:=(Pa.ex x).size_pos;omega
 | m+1,x,hx,hm=>by
  intro n h F D S v ts tg hk hsc;have hsz:(Pa.ex x).size=1+qK (x.args.map Pa.ex):=by rw[Pa.size_eq];rfl
  have hl:x.args.length≤4000:=by have:=zQ (x.args.map Pa.ex);rw[qq2] at this;omega
  have IH:∀y,y∈x.args→P97 c w y:=fun y hy=>qeZ c ok w m y (by
   obtain ⟨i,hi⟩:=qrI (qrG (f:=Pa.ex) hy);have:=zK hi;omega) (by omega)
  refine qt.ib func97 ok97 ?_;obtain ⟨S1,hS1⟩:∃S1:St,S1=S++[.arr [x.v] 7 1,.arr [.agg [.int .i64 0,.int .i64 0,.int .i64 0,.int .i64 0,.int .i64 0,.str ⟨⟨[]⟩⟩,.sl true []]] 7 1]:=⟨_,rfl⟩;have b0:S1[S.length]?=some (.arr [x.v] 7 1):=by rw[hS1,qqU (by omega)];simp
  have b1:S1[S.length+1]?=some (.arr [.agg [.int .i64 0,.int .i64 0,.int .i64 0,.int .i64 0,.int .i64 0,.str ⟨⟨[]⟩⟩,.sl true []]] 7 1):=by rw[hS1,qqU (by omega)];simp
  have l1:S1.length=S.length+2:=by rw[hS1];simp
  have k1:Wk c w n h F D S1:=by rw[hS1];exact hk.push ok _
  have s1:Stp w F D S F D S1:=by rw[hS1];exact (Stp.refl _ _ _ _).push _
  have o0:Off w F D S.length:=hk.out ok (qqY _);have o1:Off w F D (S.length+1):=hk.out ok (by omega);simp[c97,qG,ldS,qh];rw[←hS1];refine qi (jY c ok w x.args IH hl n h F D S1 v ts false k1 (hsc.step s1)) ?_;rintro r U ⟨rfl,F1,D1,k2,s2⟩;have c0:=s2.at o0 b0;have c1:=s2.at o1 b1;have p0:=o0.next (by omega) s2;have p1:=o1.next (by omega) s2;have s2':=s1.trans s2;generalize hl':Ex.wrl c.toPw (Scx ts) false x.args=l' at *;generalize hh':Ex.hsl c.toPw (Scx ts) false h x.args=h' at *;have hu:=s2.k.len;obtain ⟨y,hy⟩:∃y:Ex,y=.mk x.kind x.op x.n x.man x.exp x.text l':=⟨_,rfl⟩;have yk:y.kind=x.kind:=by rw[hy];rfl
  have yt:y.text=x.text:=by rw[hy];rfl
  have hst:Ob.arr [V.agg [.int .i64 x.kind,.int .i64 x.op,.int .i64 x.n,.int .i64 x.man,.int .i64 x.exp,.str x.text,.sl false (l'.map Ex.v)]] 7 1=.arr [y.v] 7 1:=by rw[exV,←hy]
  obtain ⟨U2,hU2⟩:∃U2:St,U2=U.set S.length (.arr [y.v] 7 1):=⟨_,rfl⟩;have d0:U2[S.length]?=some (.arr [y.v] 7 1):=by rw[hU2,qqV (by omega)]
  have d1:U2[S.length+1]?=some (.arr [.agg [.int .i64 0,.int .i64 0,.int .i64 0,.int .i64 0,.int .i64 0,.str ⟨⟨[]⟩⟩,.sl true []]] 7 1):=by rw[hU2,qqX (by omega)];exact c1
  have k3:Wk c w n h' F1 D1 U2:=by rw[hU2];exact k2.set ok _ p0.1 p0.2.1 p0.2.2
  have s3:Stp w F D S F1 D1 U2:=by rw[hU2];exact s2'.set _ (qqY _)
  have l2:U2.length=U.length:=by rw[hU2];simp
  simp[stS,ldS,c0,qbx,qh];rw[hst,←hU2];rw[Ex.wr_eq,Ex.hs_eq,hl',hh',←hy];have fin:∀(h2:c.H) (F2 D2:Np) (U3:St) (z:Ex),U3[S.length+1]?=some (.arr [z.v] 7 1)→Wk c w n h2 F2 D2 U3→Stp w F D S F2 D2 U3→∀e:Env,e.get 8=some (.ptr (S.length+1) 0 0 1)→JQ [.cell 8 (some 7)] S.length (fun r U=>Wd c w n h2 F D S z.v r U) .ret e U3:=
   fun h2 F2 D2 U3 z hz hk3 hs3 e he=>qf (vs:=[z.v]) (by simp[rvs,he,ldS,hz]) ⟨rfl,F2,D2,hk3,hs3⟩
  have fin2:∀(h2:c.H) (F2 D2:Np) (U3:St) (z:Ex) (o:Ob),U3[S.length+1]?=some o→Off w F2 D2 (S.length+1)→Wk c w n h2 F2 D2 U3→Stp w F D S F2 D2 U3→∀e:Env,e.get 8=some (.ptr (S.length+1) 0 0 1)→JQ [.cell 8 (some 7)] S.length (fun r U=>Wd c w n h2 F D S z.v r U) .ret e (U3.set (S.length+1) (.arr [z.v] 7 1)):=
   fun h2 F2 D2 U3 z o hz po hk3 hs3 e he=>fin h2 F2 D2 _ z (qqV (qqT.1 hz).1) (hk3.set ok _ po.1 po.2.1 po.2.2) (hs3.set _ (by omega)) e he
  by_cases hn:Ex.named x.kind=true
  case neg=>
   have e6:x.kind≠6:=fun hh=>hn (by rw[hh];rfl)
   have e7:x.kind≠7:=fun hh=>hn (by rw[hh];rfl)
   have e8:x.kind≠8:=fun hh=>hn (by rw[hh];rfl)
   simp[ldS,d0,yk,e6,e7,e8,stS,d1,qh];have e1:c.toPw.nmE (Scx ts) tg y=y:=by unfold Pw.nmE;rw[yk,if_neg hn]
   have e2:c.toPw.nmS (Scx ts) tg h' y=h':=by unfold Pw.nmS;rw[yk,if_neg hn]
   rw[e1,e2];exact fin2 _ F1 D1 _ _ _ d1 p1 k3 s3 _ rfl
  have hk3:x.kind=6∨x.kind=7∨x.kind=8:=by
   unfold Ex.named at hn;simpa[or_assoc] using hn
  have tw:=k3.tw;unfold wkr at tw
  cases hnm:c.nm with
  | none=>
   have hfn:c.fn=.nilfn:=by have:=ok.nm;rw[hnm] at this;exact this
   rw[hfn] at tw;have hsc3:=hsc.step s3;have hfind:=Ys hsc3 x.text;have e2:c.toPw.nmS (Scx ts) tg h' y=h':=by unfold Pw.nmS;rw[hnm];simp
   have e1:c.toPw.nmE (Scx ts) tg y=.mk y.kind y.op y.n y.man y.exp (ZF c.toPw (Scx ts) y.text) y.args:=by unfold Pw.nmE;rw[yk,if_pos hn,hnm]
   rw[e1,e2,yt];have hat:=ZV ts x.text
   cases hf:fnd ts x.text with
   | none=>
    have hr:ZF c.toPw (Scx ts) x.text=x.text:=by unfold ZF;rw[hat,hf];rfl
    have hv:ZT ts x.text=.nilp:=by simp[ZT,hf]
    rw[hv] at hfind;have hy':Ex.mk y.kind y.op y.n y.man y.exp x.text y.args=y:=by rw[hy];rfl
    rw[hr,hy'];rcases hk3 with e|e| e
    all_goals
     simp[ldS,d0,yk,yt,e,zY,tw,zT,eqV]
     refine qg hfind ?_
     simp[ldS,d0,zT,eqV,stS,d1,qh]
     exact fin2 _ F1 D1 _ _ _ d1 p1 k3 s3 _ rfl
   | some q=>
    have hr:ZF c.toPw (Scx ts) x.text=c.f q.1 x.text:=by unfold ZF;rw[hat,hf];rfl
    have hv:ZT ts x.text=.ptr q.2 0 0 1:=by simp[ZT,hf]
    rw[hv] at hfind;have hq:=hsc3.fnd_get hf;unfold plc at hq;obtain ⟨z,hz⟩:∃z:Ex,z=.mk y.kind y.op y.n y.man y.exp (c.f q.1 x.text) y.args:=⟨_,rfl⟩;have hzv:Ob.arr [V.agg [.int .i64 y.kind,.int .i64 y.op,.int .i64 y.n,.int .i64 y.man,.int .i64 y.exp,.str (c.f q.1 x.text),.sl false (y.args.map Ex.v)]] 7 1=.arr [z.v] 7 1:=by rw[hz,Ex.v_eq];rfl
    rw[hr,←hz];have hlt0:S.length<U2.length:=glt d0;rcases hk3 with e|e| e
    all_goals
     simp[ldS,d0,yk,yt,e,zY,tw,zT,eqV]
     refine qg hfind ?_
     simp[ldS,d0,zT,eqV,zY,hq,stS,qbx,qh]
     rw[hzv]
     have f0:(U2.set S.length (.arr [z.v] 7 1))[S.length]?=some (.arr [z.v] 7 1):=qqV hlt0
     have f1:(U2.set S.length (.arr [z.v] 7 1))[S.length+1]?=some (.arr [.agg [.int .i64 0,.int .i64 0,.int .i64 0,.int .i64 0,.int .i64 0,.str ⟨⟨[]⟩⟩,.sl true []]] 7 1):=by rw[qqX (by omega)];exact d1
     have k4:=k3.set ok (.arr [z.v] 7 1) p0.1 p0.2.1 p0.2.2
     have s4:=s3.set (.arr [z.v] 7 1) (qqY _)
     generalize U2.set S.length (.arr [z.v] 7 1)=U4 at f0 f1 k4 s4 ⊢
     simp[ldS,f0,stS,f1,qh]
     exact fin2 _ F1 D1 _ _ _ f1 p1 k4 s4 _ rfl
  | some g=>
   have hcb:=ok.nm;rw[hnm] at hcb;obtain ⟨kf,cs,hfn,hsp⟩:=hcb;rw[hfn] at tw;have e2:c.toPw.nmS (Scx ts) tg h' y=c.nmH h' y (Scx ts) tg:=by unfold Pw.nmS;rw[yk,if_pos hn,hnm]
   have e1:c.toPw.nmE (Scx ts) tg y=g y (Scx ts) tg:=by unfold Pw.nmE;rw[yk,if_pos hn,hnm]
   rw[e1,e2];have hsp3:=hsp U2 y v ts tg w h' F1 D1 (hsc.step s3) k3.st;obtain ⟨Fi,Di,Ui,hi⟩:=ok.real k3.st (c.nmH h' y (Scx ts) tg);rcases hk3 with e|e| e
   all_goals
    simp[ldS,d0,yk,e,zY,tw,zT,eqV]
    refine Qd hsp3 ⟨_,Ui,rfl,Fi,Di,hi⟩ ?_
    rintro r U3 ⟨rfl,F2,D2,q1,q2,q3,q4⟩
    obtain ⟨k4,s4⟩:=k3.call ok (ok.cm _ _ _ k3.cn) q1 q2 q3 q4
    have f1:=s4.at p1 d1
    have p1':=p1.next (by omega) s4
    simp[stS,f1,qh,QZ,zW]
    exact fin2 _ F2 D2 _ _ _ f1 p1' k4 (s3.trans s4) _ rfl
def JA(p:Pw)(sc:Scs)(l:List Bz):List Bz:=l.map (ZF p sc)
def El.wrl(p:Pw)(sc:Scs)(l:List El):List El:=l.map (El.wr p sc)
theorem qfa(c:Cb)(ok:c.Ok)(w:Nat)(l:List Bz)(hl:l.length≤4000)(n:Nat)(h:c.H)(F D:Np)(S:St)(v:V)(ts:List Sct)(hin:∀x,x∈l→((Scx ts).at x).isSome=true)(hk:Wk c w n h F D S)(hsc:ScR c.toPw (fun l=>l=w∨F l) S v ts):
  qt prog 218 [.sl false (l.map .str),v] S (fun r U=>Wd c w n h F D S (.sl false ((JA c.toPw (Scx ts) l).map .str)) r U):=by
 refine qt.ib func218 ok218 ?_;simp[c218];refine qQ (Ww c 1 w n h F D S 5 ((JA c.toPw (Scx ts) l).map .str)) ?_ ?_
 ·refine qw (Lw c 1 w F D S l.length (fun _=>n) (fun _=>h) (fun i=>(JA c.toPw (Scx ts) (l.take i)).map .str)
   (fun i gv=>[(10,.int .i64 i),(9,.int .i64 l.length),(8,.sl false (l.map .str)),(5,gv),(1,v)])) l.length _ ?_ ⟨0,_,F,D,by simp,by omega,Gw.nil _ _ _ _ _ _,hk,Stp.refl _ _ _ _,rfl⟩ ?_
  ·exact Env.so (by simp)
  rintro j e U ⟨i,gv,F1,D1,rfl,hi,hg,hk1,hs1,rfl⟩;by_cases hlt:i<l.length
  ·have hsc1:=hsc.step hs1;have hfind:=Ys hsc1 l[i];have hat:=ZV ts l[i]
   obtain ⟨q,hq⟩:∃q,fnd ts l[i]=some q:=by
    have:=hin l[i] (qra hlt);rw[hat] at this
    cases hf:fnd ts l[i] with
    | none=>rw[hf] at this;cases this
    | some q=>exact ⟨q,rfl⟩
   have hv:ZT ts l[i]=.ptr q.2 0 0 1:=by simp[ZT,hq]
   have hr:ZF c.toPw (Scx ts) l[i]=c.f q.1 l[i]:=by unfold ZF;rw[hat,hq];rfl
   rw[hv] at hfind;have hg1:=hsc1.fnd_get hq;unfold plc at hg1;simp[hlt,ZO];refine qg hfind ?_;obtain ⟨v',U3,ha,hg3,hk3,hs4⟩:=hg.app1 ok (bytes:=16) (b:=true) (y:=.str (c.f q.1 l[i])) hk1 hs1 (by rfl) (by simp only[JA,El.wrl,qq2,qsf];omega)
   have hn:(JA c.toPw (Scx ts) (l.take i)).map V.str++[.str (c.f q.1 l[i])]=(JA c.toPw (Scx ts) (l.take (i+1))).map V.str:=by
    unfold JA;rw[qrj,qqZ hlt,qrH,qrg,qrg,←hr];rfl
   rw[hn] at hg3;have hfs:fits 1 [V.str (c.f q.1 l[i])]=true:=rfl;simp[zY,ldS,hg1,hfs,ha,zk (n:=(i:Int)+1)];refine ⟨_,?_,_,?_,i+1,v',F1,D1,rfl,by omega,hg3,hk3,hs4,rfl⟩
   ·omega
   ·exact Env.so (by simp)
  ·have:i=l.length:=by omega
   subst this;simp only[qrP] at hg hk1;simp;exact ⟨gv,F1,D1,rfl,hg,hk1,hs1⟩
 rintro e U ⟨gv,F1,D1,g5,hg,hk1,hs1⟩;simp[g5];exact YT ok rfl hg hk1 hs1 (by rw[←zc,qeM])
theorem El.fits1(x:El):fits 2 [x.v]=true:=by simp[fits]
theorem El.hsl_append(p:Pw)(sc:Scs)(h:p.H)(l m:List El):El.hsl p sc h (l++m)=El.hsl p sc (El.hsl p sc h l) m:=by unfold El.hsl;rw[qrD]
theorem jn(c:Cb)(ok:c.Ok)(w:Nat)(l:List Ex)(hl:qK (l.map Pa.ex)≤4000)(n:Nat)(h:c.H)(F D:Np)(S:St)(v:V)(ts:List Sct)(tg:Bool)(hk:Wk c w n h F D S)(hsc:ScR c.toPw (fun l=>l=w∨F l) S v ts):
  qt prog 134 [.ptr w 0 0 1,.sl false (l.map Ex.v),v,.bool tg] S (fun r U=>Wd c w n (Ex.hsl c.toPw (Scx ts) tg h l) F D S (.sl false ((Ex.wrl c.toPw (Scx ts) tg l).map Ex.v)) r U):=
 jY c ok w l (fun x hx=>qeZ c ok w 4000 x (by
  obtain ⟨i,hi⟩:=qrI (qrG (f:=Pa.ex) hx);have:=zK hi;omega) (by omega)) (by have:=zQ (l.map Pa.ex);rw[qq2] at this;omega) n h F D S v ts tg hk hsc
theorem Wd.some{c:Cb}(ok:c.Ok){w n n':Nat}{h:c.H}{F D:Np}{S:St}(hk:Wk c w n h F D S)(h':c.H)(hc:c.cn h' n')(x:V):∃r U,Wd c w n' h' F D S x r U:=by
 obtain ⟨F',D',U,q1,q2,q3,q4⟩:=ok.real hk.st h';obtain ⟨⟨a,b,d⟩,s⟩:=hk.call0 ok q1 q2 q3 q4;have hlt:=(qqT.1 a).1;refine ⟨x,U.set w (wkr c n'),rfl,F',D',⟨qqV hlt,ok.fr (M:=fun l=>l=w) q1 ((Kp.refl _ _).set _ (.inl rfl)) (fun l hl _=>by rw[hl];exact ⟨b,d⟩),b,d,hc⟩,s.k.set _ (.inl (.inl rfl)),s.gF,s.gD⟩
theorem qkN(c:Cb)(ok:c.Ok)(w:Nat)(l:List El)(hl:qK (l.map Pa.el)≤4000)(n:Nat)(h:c.H)(F D:Np)(S:St)(v:V)(ts:List Sct)(hk:Wk c w n h F D S)(hsc:ScR c.toPw (fun l=>l=w∨F l) S v ts):
  qt prog 221 [.ptr w 0 0 1,.sl false (l.map El.v),v] S (fun r U=>Wd c w n (El.hsl c.toPw (Scx ts) h l) F D S (.sl false ((El.wrl c.toPw (Scx ts) l).map El.v)) r U):=by
 have hlen:l.length≤4000:=by have:=zQ (l.map Pa.el);rw[qq2] at this;omega
 refine qt.ib func221 ok221 ?_;simp[c221];refine qQ (Ww c 2 w n (El.hsl c.toPw (Scx ts) h l) F D S 7 ((El.wrl c.toPw (Scx ts) l).map El.v)) ?_ ?_
 ·refine qw (Lw c 2 w F D S l.length (fun _=>n) (fun i=>El.hsl c.toPw (Scx ts) h (l.take i)) (fun i=>(El.wrl c.toPw (Scx ts) (l.take i)).map El.v)
   (fun i gv=>[(12,.int .i64 i),(11,.int .i64 l.length),(10,.sl false (l.map El.v)),(7,gv),(0,.ptr w 0 0 1),(2,v)])) l.length _ ?_ ⟨0,_,F,D,by simp,by omega,Gw.nil _ _ _ _ _ _,hk,Stp.refl _ _ _ _,rfl⟩ ?_
  ·exact Env.so (by simp)
  rintro j e U ⟨i,gv,F1,D1,rfl,hi,hg,hk1,hs1,rfl⟩;by_cases hlt:i<l.length
  ·have hse:qK (l[i].exps.map Pa.ex)≤4000:=by
    have h1:=zK (l:=l.map Pa.el) (i:=i) (q:=Pa.el l[i]) (by simp[hlt]);have h2:(Pa.el l[i]).size=1+qK (l[i].exps.map Pa.ex):=by rw[Pa.size_eq];rfl
    omega
   obtain ⟨U1,hU1⟩:∃U1:St,U1=U++[.arr [l[i].v] 2 1]:=⟨_,rfl⟩;have hk2:Wk c w n (El.hsl c.toPw (Scx ts) h (l.take i)) F1 D1 U1:=by rw[hU1];exact hk1.push ok _
   have hs2:Stp w F D S F1 D1 U1:=by rw[hU1];exact hs1.push _
   have hg2:Gw 2 S.length w F1 D1 ((El.wrl c.toPw (Scx ts) (l.take i)).map El.v) gv U1:=by rw[hU1];exact hg.push _
   have b0:U1[U.length]?=some (.arr [l[i].v] 2 1):=by rw[hU1];simp
   have o0:Off w F1 D1 U.length:=hk1.out ok (qqY _);have hlU:U1.length=U.length+1:=by rw[hU1];simp
   have hcall:=jn c ok w l[i].exps hse n _ F1 D1 U1 v ts false hk2 (hsc.step hs2);simp[hlt,qnX,qG,stS,qh,ldS];rw[←hU1];refine Qd hcall (Wd.some ok hk2 _ (qoi ok _ _ _ hk2.cn) _) ?_;rintro r U2 ⟨rfl,F2,D2,hk3,hs3⟩;have b1:=hs3.at o0 b0;have hg3:=hg2.step hs3;have hs4:=hs2.trans hs3;obtain ⟨v',U3,ha,hg4,hk4,hs5⟩:=hg3.app1 ok (bytes:=32) (b:=true) hk3 hs4 (El.fits1 (l[i].wr c.toPw (Scx ts))) (by simp only[JA,El.wrl,qq2,qsf];omega)
   have hn:(El.wrl c.toPw (Scx ts) (l.take i)).map El.v++[(l[i].wr c.toPw (Scx ts)).v]=(El.wrl c.toPw (Scx ts) (l.take (i+1))).map El.v:=by
    unfold El.wrl;rw[qrj,qqZ hlt,qrH,qrg,qrg];rfl
   have hn2:Ex.hsl c.toPw (Scx ts) false (El.hsl c.toPw (Scx ts) h (l.take i)) l[i].exps=El.hsl c.toPw (Scx ts) h (l.take (i+1)):=by
    rw[qrj,qqZ hlt,qrH,El.hsl_append];rfl
   rw[hn] at hg4;rw[hn2] at hk4;have hb:qF (.agg [.int .i64 0,.sl true []]) [(0,1,.int .i64 l[i].kind),(1,1,.sl false ((Ex.wrl c.toPw (Scx ts) false l[i].exps).map Ex.v))]=some (l[i].wr c.toPw (Scx ts)).v:=by simp[qF,qh];rfl
   simp[qB,hb,El.fits1,ha,QZ,zW,yp,ldS,b0,b1,zk (n:=(i:Int)+1)];refine ⟨_,?_,_,?_,i+1,v',F2,D2,rfl,by omega,hg4,hk4,hs5,rfl⟩
   ·omega
   ·exact Env.so (by simp)
  ·have:i=l.length:=by omega
   subst this;simp only[qrP] at hg hk1;simp;exact ⟨gv,F1,D1,rfl,hg,hk1,hs1⟩
 rintro e U ⟨gv,F1,D1,g5,hg,hk1,hs1⟩;simp[g5];exact YT ok rfl hg hk1 hs1 (by rw[←zc,wEl])
theorem qf7(s:Sco)(e:Bz×Nat)(y:Bz)(h:(s.at y).isSome=true):(Sco.at (s++[e]) y).isSome=true:=by
 unfold Sco.at at *;rw[qsN]
 cases hf:s.find? fun p=>decide (p.1=y) with
 | none=>rw[hf] at h;simp at h
 | some p=>simp
theorem qmP(s:Sco)(x:Bz)(n:Nat):(Sco.at (s++[(x,n)]) x).isSome=true:=by
 unfold Sco.at;rw[qsN]
 cases hf:s.find? fun p=>decide (p.1=x) with
 | none=>simp
 | some p=>simp
theorem Zz(y:Bz):∀(l:List Bz) (s:Sco) (n:Nat),(s.at y).isSome=true→((binds l s n).at y).isSome=true
 | [],_,_,h=>h
 | x::l,s,n,h=>by
  simp only[binds];split
  ·exact Zz y l s n h
  ·exact Zz y l _ _ (qf7 s _ y h)
theorem JL(y:Bz):∀(l:List Bz) (s:Sco) (n:Nat),y∈l→((binds l s n).at y).isSome=true
 | x::l,s,n,h=>by
  simp only[binds];rcases qrl.1 h with rfl| h
  ·split
   ·rename_i hs;exact Zz y l s n hs
   ·exact Zz y l _ _ (qmP s y n)
  ·split
   ·exact JL y l s n h
   ·exact JL y l _ _ h
def qeJ(sc:Scs)(l:List Bz):Prop:=∀x,x∈l→(sc.at x).isSome=true
theorem zJ(l:List Bz)(n:Nat)(sc:Scs):qeJ (qd l n::sc) l:=fun x hx=>by
 have:=JL x l [] n hx;unfold Scs.at;unfold qd
 cases h:Sco.at (binds l [] n) x with
 | none=>rw[h] at this;cases this
 | some k=>rfl
theorem qeJ.sub{sc:Scs}{l m:List Bz}(h:qeJ sc l)(hm:∀x,x∈m→x∈l):qeJ sc m:=fun x hx=>h x (hm x hx)
theorem qeg{l:List Sm}{s:Sm}(hs:s∈l):∀x,x∈s.labels→x∈qk l:=fun x hx=>qr6.2 ⟨s,hs,hx⟩
theorem Sm.fits1(x:Sm):fits 8 [x.v]=true:=by simp[fits]
theorem De.fits1(x:De):fits 7 [x.v]=true:=by simp[fits]
def qmm(c:Cb)(w:Nat)(s:Sm):Prop:=∀(n:Nat) (h:c.H) (F D:Np) (S:St) (v:V) (ts:List Sct),Wk c w n h F D S→ScR c.toPw (fun l=>l=w∨F l) S v ts→qeJ (Scx ts) s.labels→n+s.nb≤c.lim→
 qt prog 186 [.ptr w 0 0 1,s.v,v] S (fun r U=>Wd c w (n+s.nb) (s.hs c.toPw (Scx ts) n h) F D S (s.wr c.toPw (Scx ts) n).v r U)
theorem ScR.weak{p:Pw}{X:Np}{S:St}{v:V}{ts:List Sct}(h:ScR p X S v ts):v.weak=v:=by
 cases ts with
 | nil=>have h':v=.nilp:=h;rw[h'];rfl
 | cons t r=>obtain ⟨l,_,_,_,_,_,rfl,_⟩:=h;rfl
theorem wrl_len(p:Pw)(sc:Scs):∀(m:List Sm) (n:Nat),(Sm.wrl p sc n m).length=m.length
 | [],_=>rfl
 | x::m,n=>by simp only[Sm.wrl,qrk,wrl_len p sc m]
theorem YI(c:Cb)(ok:c.Ok)(w:Nat)(l:List Sm)(b:Bool)(H:∀s,s∈l→qmm c w s)(hl:l.length≤4000)(n:Nat)(h:c.H)(F D:Np)(S:St)(v:V)(ts:List Sct)(hk:Wk c w n h F D S)(hsc:ScR c.toPw (fun l=>l=w∨F l) S v ts)
  (hin:qeJ (Scx ts) (qk l)) (hn:n+Sm.nbl l≤c.lim):
  qt prog 156 [.ptr w 0 0 1,.sl b (l.map Sm.v),v] S (fun r U=>Wd c w (n+Sm.nbl l) (Sm.hsl c.toPw (Scx ts) n h l) F D S (.sl false ((Sm.wrl c.toPw (Scx ts) n l).map Sm.v)) r U):=by
 refine qt.weakA ?_;simp only[V.weakL,V.weak,wSm,hsc.weak];refine qt.ib func156 ok156 ?_;simp[c156];refine qQ (Ww c 8 w (n+Sm.nbl l) (Sm.hsl c.toPw (Scx ts) n h l) F D S 7 ((Sm.wrl c.toPw (Scx ts) n l).map Sm.v)) ?_ ?_
 ·refine qw (Lw c 8 w F D S l.length (fun i=>n+Sm.nbl (l.take i)) (fun i=>Sm.hsl c.toPw (Scx ts) n h (l.take i)) (fun i=>(Sm.wrl c.toPw (Scx ts) n (l.take i)).map Sm.v)
   (fun i gv=>[(12,.int .i64 i),(11,.int .i64 l.length),(10,.sl false (l.map Sm.v)),(7,gv),(0,.ptr w 0 0 1),(2,v)])) l.length _ ?_ ⟨0,_,F,D,by simp,by omega,Gw.nil _ _ _ _ _ _,hk,Stp.refl _ _ _ _,rfl⟩ ?_
  ·exact Env.so (by simp)
  rintro j e U ⟨i,gv,F1,D1,rfl,hi,hg,hk1,hs1,rfl⟩;dsimp only at hg hk1;by_cases hlt:i<l.length
  ·have ht:l.take (i+1)=l.take i++[l[i]]:=by rw[qrj,qqZ hlt];rfl
   have hnb:Sm.nbl (l.take (i+1))=Sm.nbl (l.take i)+l[i].nb:=by rw[ht,Sm.nbl_append];simp[Sm.nbl]
   have hnl:Sm.nbl (l.take (i+1))≤Sm.nbl l:=by
    have:Sm.nbl l=Sm.nbl (l.take (i+1))+Sm.nbl (l.drop (i+1)):=by rw[←Sm.nbl_append,qsd]
    omega
   simp[hlt,qi4,qG,stS,qh,ldS];refine qi (H l[i] (qra hlt) _ _ F1 D1 _ v ts (hk1.push ok _) ((hsc.step hs1).push _) (hin.sub (qeg (qra hlt))) (by omega)) ?_;rintro r U2 ⟨rfl,F2,D2,hk2,hs2⟩;have hg2:=(hg.push [Ob.arr [l[i].v] 8 1]).step hs2;have hs3:=hs1.trans hs2.ofPush
   obtain ⟨v',U3,ha,hg3,hk3,hs4⟩:=hg2.app1 ok (bytes:=168) (b:=true) hk2 hs3 (Sm.fits1 (l[i].wr c.toPw (Scx ts) (n+Sm.nbl (l.take i)))) (by
    rw[qq2,wrl_len,qsf];omega)
   have hn1:(Sm.wrl c.toPw (Scx ts) n (l.take i)).map Sm.v++[(l[i].wr c.toPw (Scx ts) (n+Sm.nbl (l.take i))).v]=(Sm.wrl c.toPw (Scx ts) n (l.take (i+1))).map Sm.v:=by
    rw[ht,Sm.wrl_append,qrg];rfl
   have hn2:Sm.hs c.toPw (Scx ts) (n+Sm.nbl (l.take i)) (Sm.hsl c.toPw (Scx ts) n h (l.take i)) l[i]=Sm.hsl c.toPw (Scx ts) n h (l.take (i+1)):=by
    rw[ht,Sm.hsl_append];rfl
   rw[hn1] at hg3;rw[hn2,qrF,←hnb] at hk3;simp[Sm.fits1,ha,zk (n:=(i:Int)+1)];refine ⟨_,?_,_,?_,i+1,v',F2,D2,rfl,by omega,hg3,hk3,hs4,rfl⟩
   ·omega
   ·exact Env.so (by simp)
  ·have:i=l.length:=by omega
   subst this;simp only[qrP] at hg hk1;simp;exact ⟨gv,F1,D1,rfl,hg,hk1,hs1⟩
 rintro e U ⟨gv,F1,D1,g9,hg,hk1,hs1⟩;simp[g9];exact YT ok rfl hg hk1 hs1 (by rw[←zc,wSm])
theorem Sco.len_of{t:Sct}{s:Sco}(h:t.sco=s):t.length=s.length:=by rw[←h];exact (qq2 _).symm
theorem wr1_len(p:Pw)(sc:Scs):∀(m:List Sm) (n:Nat),(Sm.wr1 p sc n m).length=m.length
 | [],_=>rfl
 | x::m,n=>by simp only[Sm.wr1,qrk,wr1_len p sc m]
theorem Sm.wr1_append(p:Pw)(sc:Scs):∀(l m:List Sm) (n:Nat),Sm.wr1 p sc n (l++m)=Sm.wr1 p sc n l++Sm.wr1 p sc (n+Sm.nb1 l) m
 | [],m,n=>by simp[Sm.wr1,Sm.nb1]
 | x::l,m,n=>by
  have:=qq x.labels n 0;simp only[qrp,Sm.wr1,Sm.nb1,Sm.wr1_append p sc l m,this,qrF]
theorem Sm.hs1_append(p:Pw)(sc:Scs):∀(l m:List Sm) (n:Nat) (h:p.H),Sm.hs1 p sc n h (l++m)=Sm.hs1 p sc (n+Sm.nb1 l) (Sm.hs1 p sc n h l) m
 | [],m,n,h=>by simp[Sm.hs1,Sm.nb1]
 | x::l,m,n,h=>by
  have:=qq x.labels n 0;simp only[qrp,Sm.hs1,Sm.nb1,Sm.hs1_append p sc l m,this,qrF]
theorem YE(c:Cb)(ok:c.Ok)(w:Nat)(l:List Sm)(b:Bool)(H:∀s,s∈l→qmm c w s)(hl:l.length≤4000)(hls:∀s,s∈l→s.ok)(n:Nat)(h:c.H)(F D:Np)(S:St)(v:V)(ts:List Sct)(hk:Wk c w n h F D S)(hsc:ScR c.toPw (fun l=>l=w∨F l) S v ts)
  (hn:n+Sm.nb1 l≤c.lim):
  qt prog 111 [.ptr w 0 0 1,.sl b (l.map Sm.v),v] S (fun r U=>Wd c w (n+Sm.nb1 l) (Sm.hs1 c.toPw (Scx ts) n h l) F D S (.sl false ((Sm.wr1 c.toPw (Scx ts) n l).map Sm.v)) r U):=by
 refine qt.weakA ?_;simp only[V.weakL,V.weak,wSm,hsc.weak];refine qt.ib func111 ok111 ?_;simp[c111];refine qQ (Ww c 8 w (n+Sm.nb1 l) (Sm.hs1 c.toPw (Scx ts) n h l) F D S 7 ((Sm.wr1 c.toPw (Scx ts) n l).map Sm.v)) ?_ ?_
 ·refine qw (Lw c 8 w F D S l.length (fun i=>n+Sm.nb1 (l.take i)) (fun i=>Sm.hs1 c.toPw (Scx ts) n h (l.take i)) (fun i=>(Sm.wr1 c.toPw (Scx ts) n (l.take i)).map Sm.v)
   (fun i gv=>[(13,.int .i64 i),(12,.int .i64 l.length),(11,.sl false (l.map Sm.v)),(7,gv),(0,.ptr w 0 0 1),(2,v)])) l.length _ ?_ ⟨0,_,F,D,by simp,by omega,Gw.nil _ _ _ _ _ _,hk,Stp.refl _ _ _ _,rfl⟩ ?_
  ·exact Env.so (by simp)
  rintro j e U ⟨i,gv,F1,D1,rfl,hi,hg,hk1,hs1,rfl⟩;dsimp only at hg hk1;by_cases hlt:i<l.length
  ·have ht:l.take (i+1)=l.take i++[l[i]]:=by rw[qrj,qqZ hlt];rfl
   have hnb:Sm.nb1 (l.take (i+1))=Sm.nb1 (l.take i)+((qd l[i].labels 0).length+l[i].nb):=by rw[ht,Sm.nb1_append];simp[Sm.nb1]
   have hnl:Sm.nb1 (l.take (i+1))≤Sm.nb1 l:=by
    have:Sm.nb1 l=Sm.nb1 (l.take (i+1))+Sm.nb1 (l.drop (i+1)):=by rw[←Sm.nb1_append,qsd]
    omega
   have hbl:=qq l[i].labels (n+Sm.nb1 (l.take i)) 0;have hlab:qk [l[i]]=l[i].labels:=by simp[qk]
   have hoks:Sm.okL [l[i]]:=⟨hls _ (qra hlt),trivial⟩;have hy:=jv [l[i]] (by unfold B50;simp) hoks (U.length+1);rw[hlab] at hy;simp[hlt,qi4,qG,stS,qh,ldS,Sm.fits1];obtain ⟨U1,hU1⟩:∃U1:St,U1=U++[.arr [l[i].v] 8 1]:=⟨_,rfl⟩;rw[←hU1];have lU1:U1.length=U.length+1:=by rw[hU1];simp
   have q1:=qbN [l[i]] true U1;simp only[qq8,qrY] at q1 hy;refine qi q1 ?_;rintro r U2 ⟨rfl,hU2⟩;have hk2:Wk c w (n+Sm.nb1 (l.take i)) (Sm.hs1 c.toPw (Scx ts) n h (l.take i)) F1 D1 U2:=by rw[hU2,hU1];exact (hk1.push ok _).push ok _
   have hs2:Stp w F D S F1 D1 U2:=by rw[hU2,hU1];exact (hs1.push _).push _
   have hg2:Gw 8 S.length w F1 D1 ((Sm.wr1 c.toPw (Scx ts) n (l.take i)).map Sm.v) gv U2:=by rw[hU2,hU1];exact (hg.push _).push _
   have hc2:U2[U.length+1]?=some (.arr [.sl false [l[i].v]] 1 1):=by rw[hU2,qqU (by omega)];simp[lU1]
   have lU2:U2.length=U.length+2:=by rw[hU2];simp[lU1]
   simp;rw[lU1];refine qi (kL c ok w _ _ F1 D1 v ts l[i].labels 187 [.ptr (U.length+1) 0 0 1] (U.length+1) _ hy (by simp) U2 hk2 (fun _=>False) (fun _ h=>h.elim) ((hsc.step hs2).sub fun l hh=>hh.imp id fun a=>a.resolve_right id) hc2 (hk1.out ok (by omega)) (by omega)) ?_;rintro r U3 ⟨t,F2,D2,hts,hk3,hs3,hsc3⟩;have hsc3:=hsc3.sub (X':=fun l=>l=w∨F2 l) fun l hh=>hh.imp id .inl
   have htl:=Sco.len_of hts;have hscx:Scx (t::ts)=qd l[i].labels (n+Sm.nb1 (l.take i))::Scx ts:=by simp only[Scx,qq8,hts]
   simp;have q2:=YI c ok w [l[i]] true (fun s hs=>by simp at hs;subst hs;exact H _ (qra hlt)) (by simp) _ _ F2 D2 U3 r (t::ts) hk3 hsc3 (by rw[hscx,hlab];exact zJ _ _ _) (by simp only[Sm.nbl];omega);simp only[qq8,qrY,hscx,Sm.nbl,Sm.hsl,Sm.wrl,qsV] at q2;refine qi q2 ?_;rintro r U4 ⟨rfl,F3,D3,hk4,hs4⟩;have hs34:=hs3.trans hs4;have hg4:=hg2.step hs34;have hs5:=hs2.trans hs34
   obtain ⟨v',U5,ha,hg5,hk5,hs6⟩:=hg4.app1 ok (bytes:=168) (b:=false) hk4 hs5 (Sm.fits1 (l[i].wr c.toPw (qd l[i].labels (n+Sm.nb1 (l.take i))::Scx ts) (n+Sm.nb1 (l.take i)+t.length))) (by
    rw[qq2,wr1_len,qsf];omega)
   have hn1:(Sm.wr1 c.toPw (Scx ts) n (l.take i)).map Sm.v++[(l[i].wr c.toPw (qd l[i].labels (n+Sm.nb1 (l.take i))::Scx ts) (n+Sm.nb1 (l.take i)+t.length)).v]=(Sm.wr1 c.toPw (Scx ts) n (l.take (i+1))).map Sm.v:=by
    rw[ht,Sm.wr1_append,qrg,htl];rfl
   have hn2:Sm.hs c.toPw (qd l[i].labels (n+Sm.nb1 (l.take i))::Scx ts) (n+Sm.nb1 (l.take i)+t.length) (enters c.toPw (Sm.hs1 c.toPw (Scx ts) n h (l.take i)) (qd l[i].labels (n+Sm.nb1 (l.take i)))) l[i]=Sm.hs1 c.toPw (Scx ts) n h (l.take (i+1)):=by
    rw[ht,Sm.hs1_append,htl];rfl
   rw[hn1] at hg5;rw[hn2,show n+Sm.nb1 (l.take i)+t.length+l[i].nb=n+Sm.nb1 (l.take (i+1)) by omega] at hk5;simp[ha,zk (n:=(i:Int)+1)];refine ⟨_,?_,_,?_,i+1,v',F3,D3,rfl,by omega,hg5,hk5,hs6,rfl⟩
   ·omega
   ·exact Env.so (by simp)
  ·have:i=l.length:=by omega
   subst this;simp only[qrP] at hg hk1;simp;exact ⟨gv,F1,D1,rfl,hg,hk1,hs1⟩
 rintro e U ⟨gv,F1,D1,g9,hg,hk1,hs1⟩;simp[g9];exact YT ok rfl hg hk1 hs1 (by rw[←zc,wSm])
end Go.Proofs.YtbifpocccfkhhaaGreatDoor
