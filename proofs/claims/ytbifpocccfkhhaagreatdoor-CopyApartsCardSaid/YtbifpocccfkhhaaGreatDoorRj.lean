/- A part. -/
import Derived.Test.YtbifpocccfkhhaaGreatDoorRi
set_option linter.all false
noncomputable section
namespace Go.Proofs.YtbifpocccfkhhaaGreatDoor
open Go Go.Proofs.Tryz
theorem qC{P:Program}{a b:C'}{Q:yG}{e:Env}{S:St}(M:Env→St→Prop)(h1:WP P a (ZO M Q) e S)(h2:∀e S,M e S→WP P b Q e S):WP P (.seq a b) Q e S:=by
 rw[qcO];exact qjj M h1 h2
def qi6(l m:List Bz)(i:Nat):Prop:=∀j,j<i→l[j]?=m[j]?
theorem qdU{l m:List Bz}(hl:l.length=m.length)(h:qi6 l m l.length):l=m:=by
 apply qq9;intro i;by_cases hi:i<l.length
 ·exact h i hi
 ·rw[qqT (by omega),qqT (by omega)]
theorem qhp(l m:List Bz)(hl:l.length≤B50):∀S,Fn prog 233 [.sl false (l.map .str),.sl false (m.map .str)] S (.bool (decide (l=m))):=by
 refine Pu.ib func233 ok233 (by simp[c233]) (by simp[V.under]) rfl ?_;unfold B50 at hl;by_cases hlen:l.length=m.length
 case neg=>
  have hne:¬ l=m:=fun h=>hlen (by rw[h])
  simp only[decide_eq_false hne];simp[c233,show ¬ ((l.length:Int)=m.length) by omega];exact qa rfl rfl rfl
 generalize hd:decide (l=m)=b;simp only[c233,C'.k];simp[hlen];refine qq (fun j e S'=>∃i:Nat,j=l.length - i∧i≤l.length∧qi6 l m i∧
  e=[(5,.int .i64 i),(0,.sl false (l.map .str)),(1,.sl false (m.map .str))]) l.length _ ?_ ⟨0,by simp,by omega,fun j hj=>by omega,rfl⟩ ?_
 ·exact Env.so (by simp)
 rintro j e S' ⟨i,rfl,hi,hq,rfl⟩;by_cases h:i<l.length
 ·have h':i<m.length:=by omega
  by_cases hx:l[i]=m[i]
  ·simp[h,h',Q4,Qd,zA,zK,hx,qO (n:=(i:Int)+1)];refine ⟨_,?_,_,?_,i+1,rfl,by omega,?_,rfl⟩
   ·omega
   ·exact Env.so (by simp)
   ·intro j hj;by_cases hji:j=i
    ·subst hji;simp[h,h',hx]
    ·exact hq j (by omega)
  ·simp[h,h',Q4,Qd,zA,zK,hx];refine qa rfl ?_ rfl;rw[←hd];have:¬ l=m:=fun hh=>hx (by simp[hh])
   simp[qo,this]
 ·have:i=l.length:=by omega
  subst this;simp;refine qa rfl ?_ rfl;rw[←hd,decide_eq_true (qdU hlen hq)];rfl
open Classical in
theorem qpT(f g:Fo):zy [.str f.name,.bool f.value,.int .i64 f.spec,.int .i64 f.type] [.str g.name,.bool g.value,.int .i64 g.spec,.int .i64 g.type] [(0,.s),(1,.b),(2,.i),(3,.i)]=some (decide (f=g)):=by
 by_cases h1:f.name=g.name
 ·by_cases h2:f.value=g.value
  ·by_cases h3:f.spec=g.spec
   ·by_cases h4:f.type=g.type
    ·have:f=g:=by cases f;cases g;simp at *;exact ⟨h1,h2,h3,h4⟩
     simp[zy,Qz,this]
    ·have hb:(f.type==g.type)=false:=by simpa using h4
     have:¬ f=g:=fun h=>h4 (by rw[h])
     simp[zy,Qz,h1,h2,h3,hb,this]
   ·have hb:(f.spec==g.spec)=false:=by simpa using h3
    have:¬ f=g:=fun h=>h3 (by rw[h])
    simp[zy,Qz,h1,h2,hb,this]
  ·have hb:(f.value==g.value)=false:=by simpa using h2
   have:¬ f=g:=fun h=>h2 (by rw[h])
   simp[zy,Qz,h1,hb,this]
 ·have hb:(f.name.data.toList==g.name.data.toList)=false:=by
   rw[beq_eq_false_iff_ne];intro hh;exact h1 (qry (Array.ext' hh))
  have:¬ f=g:=fun h=>h1 (by rw[h])
  simp[zy,Qz,hb,this]
def YV(s t:Sm):Prop:=s.targets.length=t.targets.length∧s.exps.length=t.exps.length∧s.elems.length=t.elems.length∧s.decls.length=t.decls.length∧s.body.length=t.body.length
def qaq(c d:De)(e f:El)(x y:Ex):Prop:=c.exps.length=d.exps.length∧c.body.length=d.body.length∧e.exps.length=f.exps.length∧x.args.length=y.args.length
def EqS(s t:Sm):Prop:=s.kind=t.kind∧s.text=t.text∧s.labels=t.labels
def EqD(c d:De):Prop:=c.kind=d.kind∧c.own=d.own∧c.type=d.type∧c.names=d.names
def EqX(x y:Ex):Prop:=x.kind=y.kind∧x.op=y.op∧x.n=y.n∧(x.man=y.man∧x.exp=y.exp)∧x.text=y.text
def EqP(k k':Int)(s t:Sm)(c d:De)(e f:El)(x y:Ex):Prop:=(k=k'∧c.formals=d.formals)∧(YV s t∧qaq c d e f x y)∧EqS s t∧EqD c d∧e.kind=f.kind∧EqX x y
structure G195(e:Env):Prop where
 g2:e.get 2=some (.ptr 0 0 0 1)
 g3:e.get 3=some (.ptr 1 0 0 1)
 g5:e.get 5=some (.ptr 2 0 0 1)
 g6:e.get 6=some (.ptr 3 0 0 1)
 g7:e.get 7=some (.ptr 4 0 0 1)
 g8:e.get 8=some (.ptr 5 0 0 1)
structure H195(e:Env):Prop where
 g:G195 e
 g10:e.get 10=some (.ptr 6 0 0 1)
 g11:e.get 11=some (.ptr 7 0 0 1)
def qnF(l m:List Fo)(i:Nat):Prop:=∀j,j<i→l[j]?=m[j]?
theorem qeW{l m:List Fo}(hl:l.length=m.length)(h:qnF l m l.length):l=m:=by
 apply qq9;intro i;by_cases hi:i<l.length
 ·exact h i hi
 ·rw[qqT (by omega),qqT (by omega)]
open Classical in
theorem kG(k k':Int)(s t:Sm)(c d:De)(e f:El)(x y:Ex)(hs:s.ok)(hc:c.ok):∀S,Fn prog 195 [paV k s c e x,paV k' t d f y] S (.bool (decide (EqP k k' s t c d e f x y))):=by
 refine Pu.ib func195 ok195 (by simp[c195]) (by simp) rfl ?_;have hO:=(Sm.ok_iff s).1 hs;have hP:=(De.ok_iff c).1 hc;have hfl:=hP.formals.1;unfold B50 at hfl;obtain ⟨S6,hS6⟩:∃S6:St,S6=[.arr [paV k s c e x] 25 1,.arr [paV k' t d f y] 25 1,.arr [s.v] 8 1,.arr [t.v] 8 1,.arr [c.v] 7 1,.arr [d.v] 7 1]:=⟨_,rfl⟩;obtain ⟨S8,hS8⟩:∃S8:St,S8=[.arr [paV k s c e x] 25 1,.arr [paV k' t d f y] 25 1,.arr [s.v] 8 1,.arr [t.v] 8 1,.arr [c.v] 7 1,.arr [d.v] 7 1,.arr [x.v] 7 1,.arr [y.v] 7 1]:=⟨_,rfl⟩;have h60:S6[0]?=some (.arr [paV k s c e x] 25 1):=by rw[hS6];rfl
 have h61:S6[1]?=some (.arr [paV k' t d f y] 25 1):=by rw[hS6];rfl
 have h64:S6[4]?=some (.arr [c.v] 7 1):=by rw[hS6];rfl
 have h65:S6[5]?=some (.arr [d.v] 7 1):=by rw[hS6];rfl
 have h80:S8[0]?=some (.arr [paV k s c e x] 25 1):=by rw[hS8];rfl
 have h81:S8[1]?=some (.arr [paV k' t d f y] 25 1):=by rw[hS8];rfl
 have h82:S8[2]?=some (.arr [s.v] 8 1):=by rw[hS8];rfl
 have h83:S8[3]?=some (.arr [t.v] 8 1):=by rw[hS8];rfl
 have h84:S8[4]?=some (.arr [c.v] 7 1):=by rw[hS8];rfl
 have h85:S8[5]?=some (.arr [d.v] 7 1):=by rw[hS8];rfl
 have h86:S8[6]?=some (.arr [x.v] 7 1):=by rw[hS8];rfl
 have h87:S8[7]?=some (.arr [y.v] 7 1):=by rw[hS8];rfl
 have hX:∀z:Ex,z.v=.agg [.int .i64 z.kind,.int .i64 z.op,.int .i64 z.n,.int .i64 z.man,.int .i64 z.exp,.str z.text,.sl false (z.args.map Ex.v)]:=Ex.v_eq;generalize hres:decide (EqP k k' s t c d e f x y)=res;simp only[c195,C'.k];refine qC (fun E U=>E.get 2=some (.ptr 0 0 0 1)∧E.get 3=some (.ptr 1 0 0 1)∧U=[.arr [paV k s c e x] 25 1,.arr [paV k' t d f y] 25 1]) (by simp[qw,z6]) ?_;rintro E U ⟨g2,g3,rfl⟩;refine qC (fun E U=>E.get 2=some (.ptr 0 0 0 1)∧E.get 3=some (.ptr 1 0 0 1)∧E.get 5=some (.ptr 2 0 0 1)∧E.get 6=some (.ptr 3 0 0 1)∧U=[.arr [paV k s c e x] 25 1,.arr [paV k' t d f y] 25 1,.arr [s.v] 8 1,.arr [t.v] 8 1]) ?_ ?_
 ·simp[g2,g3,phs,ldS,stS,qc,Qd,zA,zK]
 clear g2 g3 E;rintro E U ⟨g2,g3,g5,g6,rfl⟩;refine qC (fun E U=>G195 E∧U=S6) ?_ ?_
 ·simp[g2,g3,phs,ldS,stS,qc,Qd,zA,zK];exact ⟨⟨by simp[g2],by simp[g3],by simp[g5],by simp[g6],by simp,by simp⟩,hS6.symm⟩
 clear g2 g3 g5 g6 E;rintro E U ⟨⟨g2,g3,g5,g6,g7,g8⟩,hU⟩;rw[hU];clear hU U;refine qC (fun E U=>G195 E∧U=S6∧k=k'∧c.formals.length=d.formals.length) ?_ ?_
 ·by_cases hk:k=k'
  case neg=>
   simp[g2,g3,g7,g8,ldS,h60,h61,h64,h65,hk];refine qa rfl ?_ rfl;rw[←hres,decide_eq_false (fun h=>hk h.1.1)];rfl
  by_cases hf:c.formals.length=d.formals.length
  case neg=>
   simp[g2,g3,g7,g8,ldS,h60,h61,h64,h65,hk,show ¬ ((c.formals.length:Int)=d.formals.length) by omega];refine qa rfl ?_ rfl;rw[←hres,decide_eq_false (fun h=>hf (by rw[h.1.2]))];rfl
  simp[g2,g3,g7,g8,ldS,h60,h61,h64,h65,hk,hf];exact ⟨by simp[g2],by simp[g3],by simp[g5],by simp[g6],by simp[g7],by simp[g8]⟩
 clear g2 g3 g5 g6 g7 g8 E;rintro E U ⟨⟨g2,g3,g5,g6,g7,g8⟩,hU,hkk,hff⟩;rw[hU];clear hU U;refine qC (fun E U=>G195 E∧U=S6∧c.formals=d.formals) ?_ ?_
 ·simp;refine qE (fun E U=>G195 E∧U=S6∧c.formals=d.formals) ?_ (fun E U h=>h);refine qq (fun j E U=>∃i:Nat,j=c.formals.length - i∧i≤c.formals.length∧qnF c.formals d.formals i∧U=S6∧
   E=[(9,.int .i64 i),(2,.ptr 0 0 0 1),(3,.ptr 1 0 0 1),(5,.ptr 2 0 0 1),(6,.ptr 3 0 0 1),(7,.ptr 4 0 0 1),(8,.ptr 5 0 0 1)]) c.formals.length _ ?_ ⟨0,by simp,by omega,fun j hj=>by omega,rfl,rfl⟩ ?_
  ·repeat' first|exact Env.sub_nil _|refine Env.sub_cons (by simp[g2,g3,g5,g6,g7,g8]) ?_
  rintro j E' U ⟨i,rfl,hi,hq,hU,rfl⟩;rw[hU];clear hU U;by_cases h:i<c.formals.length
  ·have h':i<d.formals.length:=by omega
   have hef:=qpT c.formals[i] d.formals[i];by_cases hx:c.formals[i]=d.formals[i]
   ·rw[decide_eq_true hx] at hef;simp[h,h',ldS,h64,h65,qhs,evX,Fo.v,qf,hef,Qd,zA,zK,qO (n:=(i:Int)+1)];refine ⟨_,?_,_,?_,i+1,rfl,by omega,?_,rfl⟩
    ·omega
    ·exact Env.so (by simp)
    ·intro j hj;by_cases hji:j=i
     ·subst hji;simp[h,h',hx]
     ·exact hq j (by omega)
   ·rw[decide_eq_false hx] at hef;simp[h,h',ldS,h64,h65,qhs,evX,Fo.v,qf,hef,Qd,zA,zK];refine qa rfl ?_ rfl;rw[←hres,decide_eq_false (fun hh=>hx (by simp[hh.1.2]))];rfl
  ·have:i=c.formals.length:=by omega
   subst this;simp[h,ldS,h64,h65];exact ⟨⟨by simp,by simp,by simp,by simp,by simp,by simp⟩,qeW hff hq⟩
 clear g2 g3 g5 g6 g7 g8 E;rintro E U ⟨⟨g2,g3,g5,g6,g7,g8⟩,hU,hfo⟩;rw[hU];clear hU U;refine qC (fun E U=>H195 E∧U=S8) ?_ ?_
 ·simp only[hS6];simp[g2,g3,phs,ldS,stS,qc,Qd,zA,zK];exact ⟨⟨⟨by simp[g2],by simp[g3],by simp[g5],by simp[g6],by simp[g7],by simp[g8]⟩,by simp,by simp⟩,hS8.symm⟩
 clear g2 g3 g5 g6 g7 g8 E;rintro E U ⟨⟨⟨g2,g3,g5,g6,g7,g8⟩,g10,g11⟩,hU⟩;rw[hU];clear hU U;refine qC (fun E U=>H195 E∧E.get 12=some (.bool (decide (YV s t)))∧U=S8) ?_ ?_
 ·generalize hv:decide (YV s t)=v;by_cases a0:s.targets.length=t.targets.length
  case neg=>
   simp[g2,g3,g5,g6,g7,g8,g10,g11,ldS,h80,h81,h82,h83,h84,h85,h86,h87,show ¬ ((s.targets.length:Int)=t.targets.length) by omega];refine ⟨⟨⟨by simp[g2],by simp[g3],by simp[g5],by simp[g6],by simp[g7],by simp[g8]⟩,by simp[g10],by simp[g11]⟩,by rw[←hv,decide_eq_false (fun hh:YV s t=>a0 hh.1)]⟩
  by_cases a1:s.exps.length=t.exps.length
  case neg=>
   simp[g2,g3,g5,g6,g7,g8,g10,g11,ldS,h80,h81,h82,h83,h84,h85,h86,h87,a0,show ¬ ((s.exps.length:Int)=t.exps.length) by omega];refine ⟨⟨⟨by simp[g2],by simp[g3],by simp[g5],by simp[g6],by simp[g7],by simp[g8]⟩,by simp[g10],by simp[g11]⟩,by rw[←hv,decide_eq_false (fun hh:YV s t=>a1 hh.2.1)]⟩
  by_cases a2:s.elems.length=t.elems.length
  case neg=>
   simp[g2,g3,g5,g6,g7,g8,g10,g11,ldS,h80,h81,h82,h83,h84,h85,h86,h87,a0,a1,show ¬ ((s.elems.length:Int)=t.elems.length) by omega];refine ⟨⟨⟨by simp[g2],by simp[g3],by simp[g5],by simp[g6],by simp[g7],by simp[g8]⟩,by simp[g10],by simp[g11]⟩,by rw[←hv,decide_eq_false (fun hh:YV s t=>a2 hh.2.2.1)]⟩
  by_cases a3:s.decls.length=t.decls.length
  case neg=>
   simp[g2,g3,g5,g6,g7,g8,g10,g11,ldS,h80,h81,h82,h83,h84,h85,h86,h87,a0,a1,a2,show ¬ ((s.decls.length:Int)=t.decls.length) by omega];refine ⟨⟨⟨by simp[g2],by simp[g3],by simp[g5],by simp[g6],by simp[g7],by simp[g8]⟩,by simp[g10],by simp[g11]⟩,by rw[←hv,decide_eq_false (fun hh:YV s t=>a3 hh.2.2.2.1)]⟩
  by_cases a4:s.body.length=t.body.length
  case neg=>
   simp[g2,g3,g5,g6,g7,g8,g10,g11,ldS,h80,h81,h82,h83,h84,h85,h86,h87,a0,a1,a2,a3,show ¬ ((s.body.length:Int)=t.body.length) by omega];refine ⟨⟨⟨by simp[g2],by simp[g3],by simp[g5],by simp[g6],by simp[g7],by simp[g8]⟩,by simp[g10],by simp[g11]⟩,by rw[←hv,decide_eq_false (fun hh:YV s t=>a4 hh.2.2.2.2)]⟩
  simp[g2,g3,g5,g6,g7,g8,g10,g11,ldS,h80,h81,h82,h83,h84,h85,h86,h87,a0,a1,a2,a3,a4];refine ⟨⟨⟨by simp[g2],by simp[g3],by simp[g5],by simp[g6],by simp[g7],by simp[g8]⟩,by simp[g10],by simp[g11]⟩,by rw[←hv,decide_eq_true ⟨a0,a1,a2,a3,a4⟩]⟩
 clear g2 g3 g5 g6 g7 g8 g10 g11 E;rintro E U ⟨⟨⟨g2,g3,g5,g6,g7,g8⟩,g10,g11⟩,g12,hU⟩;rw[hU];clear hU U;refine qC (fun E U=>H195 E∧E.get 12=some (.bool (decide (YV s t∧qaq c d e f x y)))∧U=S8) ?_ ?_
 ·generalize hv:decide (YV s t∧qaq c d e f x y)=v;by_cases b0:YV s t
  case neg=>
   rw[decide_eq_false b0] at g12;simp[g2,g3,g5,g6,g7,g8,g10,g11,ldS,h80,h81,h82,h83,h84,h85,h86,h87,g12];refine ⟨⟨⟨by simp[g2],by simp[g3],by simp[g5],by simp[g6],by simp[g7],by simp[g8]⟩,by simp[g10],by simp[g11]⟩,by rw[←hv,decide_eq_false (fun hh=>b0 hh.1)]⟩
  rw[decide_eq_true b0] at g12;by_cases a0:c.exps.length=d.exps.length
  case neg=>
   simp[g2,g3,g5,g6,g7,g8,g10,g11,ldS,h80,h81,h82,h83,h84,h85,h86,h87,g12,show ¬ ((c.exps.length:Int)=d.exps.length) by omega];refine ⟨⟨⟨by simp[g2],by simp[g3],by simp[g5],by simp[g6],by simp[g7],by simp[g8]⟩,by simp[g10],by simp[g11]⟩,by rw[←hv,decide_eq_false (fun hh:YV s t∧qaq c d e f x y=>a0 hh.2.1)]⟩
  by_cases a1:c.body.length=d.body.length
  case neg=>
   simp[g2,g3,g5,g6,g7,g8,g10,g11,ldS,h80,h81,h82,h83,h84,h85,h86,h87,a0,g12,show ¬ ((c.body.length:Int)=d.body.length) by omega];refine ⟨⟨⟨by simp[g2],by simp[g3],by simp[g5],by simp[g6],by simp[g7],by simp[g8]⟩,by simp[g10],by simp[g11]⟩,by rw[←hv,decide_eq_false (fun hh:YV s t∧qaq c d e f x y=>a1 hh.2.2.1)]⟩
  by_cases a2:e.exps.length=f.exps.length
  case neg=>
   simp[g2,g3,g5,g6,g7,g8,g10,g11,ldS,h80,h81,h82,h83,h84,h85,h86,h87,a0,a1,g12,show ¬ ((e.exps.length:Int)=f.exps.length) by omega];refine ⟨⟨⟨by simp[g2],by simp[g3],by simp[g5],by simp[g6],by simp[g7],by simp[g8]⟩,by simp[g10],by simp[g11]⟩,by rw[←hv,decide_eq_false (fun hh:YV s t∧qaq c d e f x y=>a2 hh.2.2.2.1)]⟩
  by_cases a3:x.args.length=y.args.length
  case neg=>
   simp[g2,g3,g5,g6,g7,g8,g10,g11,ldS,h80,h81,h82,h83,h84,h85,h86,h87,a0,a1,a2,g12,show ¬ ((x.args.length:Int)=y.args.length) by omega];refine ⟨⟨⟨by simp[g2],by simp[g3],by simp[g5],by simp[g6],by simp[g7],by simp[g8]⟩,by simp[g10],by simp[g11]⟩,by rw[←hv,decide_eq_false (fun hh:YV s t∧qaq c d e f x y=>a3 hh.2.2.2.2)]⟩
  simp[g2,g3,g5,g6,g7,g8,g10,g11,ldS,h80,h81,h82,h83,h84,h85,h86,h87,a0,a1,a2,a3,g12];refine ⟨⟨⟨by simp[g2],by simp[g3],by simp[g5],by simp[g6],by simp[g7],by simp[g8]⟩,by simp[g10],by simp[g11]⟩,by rw[←hv,decide_eq_true ⟨b0,a0,a1,a2,a3⟩]⟩
 clear g2 g3 g5 g6 g7 g8 g10 g11 g12 E;rintro E U ⟨⟨⟨g2,g3,g5,g6,g7,g8⟩,g10,g11⟩,g12,hU⟩;rw[hU];clear hU U;refine qC (fun E U=>H195 E∧E.get 12=some (.bool (decide (YV s t∧qaq c d e f x y)))∧E.get 13=some (.bool (decide (EqS s t)))∧U=S8) ?_ ?_
 ·generalize hv:decide (EqS s t)=v;generalize decide (YV s t∧qaq c d e f x y)=v12 at *;by_cases a0:s.kind=t.kind
  case neg=>
   simp[g2,g3,g5,g6,g7,g8,g10,g11,ldS,h80,h81,h82,h83,h84,h85,h86,h87,a0];refine ⟨⟨⟨by simp[g2],by simp[g3],by simp[g5],by simp[g6],by simp[g7],by simp[g8]⟩,by simp[g10],by simp[g11]⟩,by simp[g12],by rw[←hv,decide_eq_false (fun hh:EqS s t=>a0 hh.1)]⟩
  by_cases a1:s.text=t.text
  case neg=>
   simp[g2,g3,g5,g6,g7,g8,g10,g11,ldS,h80,h81,h82,h83,h84,h85,h86,h87,a0,a1];refine ⟨⟨⟨by simp[g2],by simp[g3],by simp[g5],by simp[g6],by simp[g7],by simp[g8]⟩,by simp[g10],by simp[g11]⟩,by simp[g12],by rw[←hv,decide_eq_false (fun hh:EqS s t=>a1 hh.2.1)]⟩
  simp[g2,g3,g5,g6,g7,g8,g10,g11,ldS,h80,h81,h82,h83,h84,h85,h86,h87,a0,a1];refine qj (qhp s.labels t.labels hO.labels.1 _) ?_;by_cases a2:s.labels=t.labels
  case neg=>
   simp[a2];refine ⟨⟨⟨by simp[g2],by simp[g3],by simp[g5],by simp[g6],by simp[g7],by simp[g8]⟩,by simp[g10],by simp[g11]⟩,by simp[g12],by rw[←hv,decide_eq_false (fun hh:EqS s t=>a2 hh.2.2)]⟩
  simp[g2,g3,g5,g6,g7,g8,g10,g11,ldS,h80,h81,h82,h83,h84,h85,h86,h87,a0,a1,a2];refine ⟨⟨⟨by simp[g2],by simp[g3],by simp[g5],by simp[g6],by simp[g7],by simp[g8]⟩,by simp[g10],by simp[g11]⟩,by simp[g12],by rw[←hv,decide_eq_true ⟨a0,a1,a2⟩]⟩
 clear g2 g3 g5 g6 g7 g8 g10 g11 g12 E;rintro E U ⟨⟨⟨g2,g3,g5,g6,g7,g8⟩,g10,g11⟩,g12,g13,hU⟩;rw[hU];clear hU U;refine qC (fun E U=>H195 E∧E.get 12=some (.bool (decide (YV s t∧qaq c d e f x y)))∧E.get 13=some (.bool (decide (EqS s t)))∧E.get 14=some (.bool (decide (EqD c d)))∧U=S8) ?_ ?_
 ·generalize hv:decide (EqD c d)=v;generalize decide (YV s t∧qaq c d e f x y)=v12 at *;generalize decide (EqS s t)=v13 at *;by_cases a0:c.kind=d.kind
  case neg=>
   simp[g2,g3,g5,g6,g7,g8,g10,g11,ldS,h80,h81,h82,h83,h84,h85,h86,h87,Z6,eqV,a0];refine ⟨⟨⟨by simp[g2],by simp[g3],by simp[g5],by simp[g6],by simp[g7],by simp[g8]⟩,by simp[g10],by simp[g11]⟩,by simp[g12],by simp[g13],by rw[←hv,decide_eq_false (fun hh:EqD c d=>a0 hh.1)]⟩
  by_cases a1:c.own=d.own
  case neg=>
   simp[g2,g3,g5,g6,g7,g8,g10,g11,ldS,h80,h81,h82,h83,h84,h85,h86,h87,a0,Z6,eqV,Z6,eqV,show (c.own==d.own)=false by simpa using a1];refine ⟨⟨⟨by simp[g2],by simp[g3],by simp[g5],by simp[g6],by simp[g7],by simp[g8]⟩,by simp[g10],by simp[g11]⟩,by simp[g12],by simp[g13],by rw[←hv,decide_eq_false (fun hh:EqD c d=>a1 hh.2.1)]⟩
  by_cases a2:c.type=d.type
  case neg=>
   simp[g2,g3,g5,g6,g7,g8,g10,g11,ldS,h80,h81,h82,h83,h84,h85,h86,h87,a0,a1,Z6,eqV,Z6,eqV,a2];refine ⟨⟨⟨by simp[g2],by simp[g3],by simp[g5],by simp[g6],by simp[g7],by simp[g8]⟩,by simp[g10],by simp[g11]⟩,by simp[g12],by simp[g13],by rw[←hv,decide_eq_false (fun hh:EqD c d=>a2 hh.2.2.1)]⟩
  simp[g2,g3,g5,g6,g7,g8,g10,g11,ldS,h80,h81,h82,h83,h84,h85,h86,h87,a0,a1,a2,Z6,eqV];refine qj (qhp c.names d.names hP.names.1 _) ?_;by_cases a3:c.names=d.names
  case neg=>
   simp[a3];refine ⟨⟨⟨by simp[g2],by simp[g3],by simp[g5],by simp[g6],by simp[g7],by simp[g8]⟩,by simp[g10],by simp[g11]⟩,by simp[g12],by simp[g13],by rw[←hv,decide_eq_false (fun hh:EqD c d=>a3 hh.2.2.2)]⟩
  simp[g2,g3,g5,g6,g7,g8,g10,g11,ldS,h80,h81,h82,h83,h84,h85,h86,h87,a0,a1,a2,a3,Z6,eqV];refine ⟨⟨⟨by simp[g2],by simp[g3],by simp[g5],by simp[g6],by simp[g7],by simp[g8]⟩,by simp[g10],by simp[g11]⟩,by simp[g12],by simp[g13],by rw[←hv,decide_eq_true ⟨a0,a1,a2,a3⟩]⟩
 clear g2 g3 g5 g6 g7 g8 g10 g11 g12 g13 E;rintro E U ⟨⟨⟨g2,g3,g5,g6,g7,g8⟩,g10,g11⟩,g12,g13,g14,hU⟩;rw[hU];clear hU U;refine qC (fun E U=>H195 E∧E.get 12=some (.bool (decide (YV s t∧qaq c d e f x y)))∧E.get 13=some (.bool (decide (EqS s t)))∧E.get 14=some (.bool (decide (EqD c d)))∧E.get 15=some (.bool (decide (EqX x y)))∧U=S8) ?_ ?_
 ·generalize hv:decide (EqX x y)=v;generalize decide (YV s t∧qaq c d e f x y)=v12 at *;generalize decide (EqS s t)=v13 at *;generalize decide (EqD c d)=v14 at *;by_cases a0:x.kind=y.kind
  case neg=>
   simp[g2,g3,g5,g6,g7,g8,g10,g11,ldS,h80,h81,h82,h83,h84,h85,h86,h87,evX,Zj,a0];refine ⟨⟨⟨by simp[g2],by simp[g3],by simp[g5],by simp[g6],by simp[g7],by simp[g8]⟩,by simp[g10],by simp[g11]⟩,by simp[g12],by simp[g13],by simp[g14],by rw[←hv,decide_eq_false (fun hh:EqX x y=>a0 hh.1)]⟩
  by_cases a1:x.op=y.op
  case neg=>
   simp[g2,g3,g5,g6,g7,g8,g10,g11,ldS,h80,h81,h82,h83,h84,h85,h86,h87,a0,evX,Zj,a1];refine ⟨⟨⟨by simp[g2],by simp[g3],by simp[g5],by simp[g6],by simp[g7],by simp[g8]⟩,by simp[g10],by simp[g11]⟩,by simp[g12],by simp[g13],by simp[g14],by rw[←hv,decide_eq_false (fun hh:EqX x y=>a1 hh.2.1)]⟩
  by_cases a2:x.n=y.n
  case neg=>
   simp[g2,g3,g5,g6,g7,g8,g10,g11,ldS,h80,h81,h82,h83,h84,h85,h86,h87,a0,a1,evX,Zj,a2];refine ⟨⟨⟨by simp[g2],by simp[g3],by simp[g5],by simp[g6],by simp[g7],by simp[g8]⟩,by simp[g10],by simp[g11]⟩,by simp[g12],by simp[g13],by simp[g14],by rw[←hv,decide_eq_false (fun hh:EqX x y=>a2 hh.2.2.1)]⟩
  by_cases a3:x.man=y.man∧x.exp=y.exp
  case neg=>
   simp[g2,g3,g5,g6,g7,g8,g10,g11,ldS,h80,h81,h82,h83,h84,h85,h86,h87,a0,a1,a2,evX,Zj,evX,Zj,a3];refine ⟨⟨⟨by simp[g2],by simp[g3],by simp[g5],by simp[g6],by simp[g7],by simp[g8]⟩,by simp[g10],by simp[g11]⟩,by simp[g12],by simp[g13],by simp[g14],by rw[←hv,decide_eq_false (fun hh:EqX x y=>a3 hh.2.2.2.1)]⟩
  by_cases a4:x.text=y.text
  case neg=>
   simp[g2,g3,g5,g6,g7,g8,g10,g11,ldS,h80,h81,h82,h83,h84,h85,h86,h87,a0,a1,a2,a3,evX,Zj,evX,Zj,a4];refine ⟨⟨⟨by simp[g2],by simp[g3],by simp[g5],by simp[g6],by simp[g7],by simp[g8]⟩,by simp[g10],by simp[g11]⟩,by simp[g12],by simp[g13],by simp[g14],by rw[←hv,decide_eq_false (fun hh:EqX x y=>a4 hh.2.2.2.2)]⟩
  simp[g2,g3,g5,g6,g7,g8,g10,g11,ldS,h80,h81,h82,h83,h84,h85,h86,h87,a0,a1,a2,a3,a4,evX,Zj];refine ⟨⟨⟨by simp[g2],by simp[g3],by simp[g5],by simp[g6],by simp[g7],by simp[g8]⟩,by simp[g10],by simp[g11]⟩,by simp[g12],by simp[g13],by simp[g14],by rw[←hv,decide_eq_true ⟨a0,a1,a2,a3,a4⟩]⟩
 clear g2 g3 g5 g6 g7 g8 g10 g11 g12 g13 g14 E;rintro E U ⟨⟨⟨g2,g3,g5,g6,g7,g8⟩,g10,g11⟩,g12,g13,g14,g15,hU⟩;rw[hU];clear hU U
 have hfin:res=(decide (YV s t∧qaq c d e f x y) && decide (EqS s t) && decide (EqD c d) && decide (e.kind=f.kind) && decide (EqX x y)):=by
  rw[←hres,qqy];rw[decide_eq_true_eq,qp1,qp1,qp1,qp1,decide_eq_true_eq,decide_eq_true_eq,decide_eq_true_eq,decide_eq_true_eq,decide_eq_true_eq];unfold EqP;constructor
  ·rintro ⟨_,h2,h3,h4,h5,h6⟩;exact ⟨⟨⟨⟨h2,h3⟩,h4⟩,h5⟩,h6⟩
  ·rintro ⟨⟨⟨⟨h2,h3⟩,h4⟩,h5⟩,h6⟩;exact ⟨⟨hkk,hfo⟩,h2,h3,h4,h5,h6⟩
 generalize decide (YV s t∧qaq c d e f x y)=v12 at *;generalize decide (EqS s t)=v13 at *;generalize decide (EqD c d)=v14 at *;generalize decide (EqX x y)=v15 at *
 cases v12 with
 | false=>simp[g12];exact qa rfl (by rw[hfin];rfl) rfl
 | true=>
  cases v13 with
  | false=>simp[g12,g13];exact qa rfl (by rw[hfin];rfl) rfl
  | true=>
   cases v14 with
   | false=>simp[g12,g13,g14];exact qa rfl (by rw[hfin];rfl) rfl
   | true=>
    by_cases he:e.kind=f.kind
    ·simp[g2,g3,ldS,h80,h81,g12,g13,g14,g15,he];exact qa rfl (by rw[hfin];simp[qo,he]) rfl
    ·simp[g2,g3,ldS,h80,h81,g12,g13,g14,g15,he];exact qa rfl (by rw[hfin];simp[qo,he]) rfl
theorem qlc(m e:Int):∀S,Fn prog 226 [.agg [.int .i64 m,.int .i64 e]] S (.bool (qex m e)):=by
 refine Pu.intro (R:=fun v=>v=.bool (qex m e)) func226 ok226 (by simp[c226]) (by simp[V.under,V.underL]) (by rintro v rfl;rfl) ?_;have hr:qex m e=(decide (m=0∧e=0) || (decide (1≤mag m∧mag m<16777216) && (decide (e=-150) || (decide (8388608≤mag m) && decide (-150<e∧e≤150))))):=rfl;generalize hres:qex m e=r at hr ⊢
 have fin:∀a:Int,mag m=a→¬ a=0→r=(decide (1≤a∧a<16777216) && (decide (e=-150) || (decide (8388608≤a) && decide (-150<e∧e≤150)))):=fun a ha h0=>by
  have hm:¬ (m=0∧e=0):=fun h=>h0 (by rw[←ha,h.1];rfl)
  rw[hr,decide_eq_false hm,ha];rfl
 have key:∀(E:Env) (S:St) (a:Int),mag m=a→E.get 3=some (.int .i64 a)→E.get 1=some (.ptr 0 0 0 1)→S=[.arr [.agg [.int .i64 m,.int .i64 e]] 2 1]→
   WP prog (match c226.body with|.seq _ (.seq _ (.seq _ b))=>b|x=>x) (Z4 [.t 2] 0 fun v U=>v=.bool r∧U=[]) E S:=by
  rintro E S a ha g3 g1 rfl;by_cases h0:a=0
  ·have hr0:r=decide (m=0∧e=0):=by
    rw[hr,ha,h0];simp
   by_cases hm:m=0
   ·simp[c226,g3,g1,h0,ldS,hm];exact qa rfl (by rw[hr0];simp[qo,hm]) rfl
   ·simp[c226,g3,g1,h0,ldS,hm];exact qa rfl (by rw[hr0];simp[qo,hm]) rfl
  have hf:=fin a ha h0;by_cases h1:a<0
  ·simp[c226,g3,g1,h0,h1,ldS];exact qa rfl (by rw[hf];simp[qo];omega) rfl
  by_cases h2:16777216≤a
  ·simp[c226,g3,g1,h0,h1,h2,ldS];exact qa rfl (by rw[hf];simp[qo];omega) rfl
  by_cases h3:e< -150
  ·simp[c226,g3,g1,h0,h1,h2,h3,ldS];exact qa rfl (by rw[hf];simp[qo];omega) rfl
  by_cases h4:150<e
  ·simp[c226,g3,g1,h0,h1,h2,h3,h4,ldS];exact qa rfl (by rw[hf];simp[qo];omega) rfl
  by_cases h5:8388608≤a
  ·simp[c226,g3,g1,h0,h1,h2,h3,h4,h5,ldS];exact qa rfl (by rw[hf];simp[qo];omega) rfl
  ·simp[c226,g3,g1,h0,h1,h2,h3,h4,h5,ldS];refine qa rfl ?_ rfl;rw[hf];simp only[qo,V.bool.injEq];rw[qqy];simp;omega
 by_cases hm:m<0
 ·have ha:mag m=IntKind.i64.wrap (-m):=by unfold mag;rw[if_pos hm]
  have k:=fun E S=>key E S _ ha
  simp only[c226,C'.k] at k ⊢;refine qC (fun E S=>E.get 1=some (.ptr 0 0 0 1)∧S=[.arr [.agg [.int .i64 m,.int .i64 e]] 2 1]) (by simp[qw,z6]) ?_;rintro E S ⟨g1,rfl⟩;refine qC (fun E S=>E.get 1=some (.ptr 0 0 0 1)∧E.get 3=some (.int .i64 m)∧S=[.arr [.agg [.int .i64 m,.int .i64 e]] 2 1]) (by simp[g1,ldS]) ?_;rintro E S ⟨g1,g3,rfl⟩;refine qC (fun E S=>E.get 1=some (.ptr 0 0 0 1)∧E.get 3=some (.int .i64 (IntKind.i64.wrap (-m)))∧S=[.arr [.agg [.int .i64 m,.int .i64 e]] 2 1]) (by simp[g1,g3,hm]) ?_;rintro E S ⟨g1,g3,rfl⟩;exact k E _ g3 g1 rfl
 ·have ha:mag m=m:=by unfold mag;rw[if_neg hm]
  have k:=fun E S=>key E S _ ha
  simp only[c226,C'.k] at k ⊢;refine qC (fun E S=>E.get 1=some (.ptr 0 0 0 1)∧S=[.arr [.agg [.int .i64 m,.int .i64 e]] 2 1]) (by simp[qw,z6]) ?_;rintro E S ⟨g1,rfl⟩;refine qC (fun E S=>E.get 1=some (.ptr 0 0 0 1)∧E.get 3=some (.int .i64 m)∧S=[.arr [.agg [.int .i64 m,.int .i64 e]] 2 1]) (by simp[g1,ldS]) ?_;rintro E S ⟨g1,g3,rfl⟩;refine qC (fun E S=>E.get 1=some (.ptr 0 0 0 1)∧E.get 3=some (.int .i64 m)∧S=[.arr [.agg [.int .i64 m,.int .i64 e]] 2 1]) (by simp[g1,g3,hm]) ?_;rintro E S ⟨g1,g3,rfl⟩;exact k E _ g3 g1 rfl
theorem qlf(s:Bz)(hs:s.size≤B50):∀S,Fn prog 227 [.str s] S (.bool (Qy s)):=by
 refine Pu.ib func227 ok227 (by simp[c227]) (by simp[V.under]) rfl ?_;unfold B50 at hs;have hp:Qy s=(prB s.data.toList && decide (s.size≤80)):=rfl;generalize hpr:Qy s=pr at hp ⊢;simp only[c227,C'.k];simp;refine qq (fun j e S'=>∃i:Nat,j=s.size - i∧i≤s.size∧prB (s.data.toList.take i)=true∧
  e=[(3,.int .i64 i),(0,.str s)]) s.size _ ?_ ⟨0,by simp,by omega,rfl,rfl⟩ ?_
 ·exact Env.so (by simp)
 rintro j e S' ⟨i,rfl,hi,hq,rfl⟩;by_cases h:i<s.size
 ·have hb:s.data.toList[i]?=some (s.data[i]'h):=by simp[h]
  generalize hx:s.data[i]'h=x at hb;have hi':qfZ s i=some (.int .u8 x.toNat):=by rw[←hx];exact qn2 h
  have hlt:=x.toNat_lt
  have hno:Zc x=false→pr=false:=fun hh=>by
   rw[hp,qrr];left
   cases ha:prB s.data.toList with
   | false=>rfl
   | true=>
    unfold prB at ha;rw[qqi] at ha;rw[ha x (qp6 hb)] at hh;cases hh
  by_cases h1:(x.toNat:Int)<32
  ·simp[h,hi',h1];refine qa rfl ?_ rfl;rw[hno (by unfold Zc;simp;omega)];rfl
  by_cases h2:(126:Int)<x.toNat
  ·simp[h,hi',h1,h2];refine qa rfl ?_ rfl;rw[hno (by unfold Zc;simp;omega)];rfl
  by_cases h3:(x.toNat:Int)=34
  ·simp[h,hi',h3];refine qa rfl ?_ rfl;rw[hno (by unfold Zc;simp;omega)];rfl
  simp[h,hi',h1,h2,h3,qO (n:=(i:Int)+1)];refine ⟨_,?_,_,?_,i+1,rfl,by omega,?_,rfl⟩
  ·omega
  ·exact Env.so (by simp)
  ·unfold prB at *;rw[qp9,List.all_append,hq,hb];simp[Zc];omega
 ·simp[h];have hsz:s.data.toList.length=s.size:=rfl;rw[qqt (by omega)] at hq;refine qa rfl ?_ rfl;rw[hp,hq];simp only[qo,V.bool.injEq,qrM,decide_eq_decide];omega
theorem qjN(x:Ex):∀S,Fn prog 257 [x.v] S (.bool x.tgt):=by
 refine Pu.ib func257 ok257 (by simp[c257]) (by simp[V.under]) rfl ?_;by_cases h6:x.kind=6
 ·simp[c257,qw,ldS,h6];exact qa rfl (by simp[qo,Ex.tgt,h6]) rfl
 ·simp[c257,qw,ldS,h6];exact qa rfl (by simp[qo,Ex.tgt,h6]) rfl
theorem YQ(n lo hi:Int):∀S,Fn prog 224 [.int .i64 n,.int .i64 lo,.int .i64 hi] S (.bool (decide (lo≤n) && decide (n≤hi))):=by
 refine Pu.ib func224 ok224 (by simp[c224]) (by simp[V.under]) rfl ?_;by_cases h:lo≤n
 ·simp[c224,h];exact qa rfl rfl rfl
 ·simp[c224,h];exact qa rfl rfl rfl
def ZF{α:Type}(l:List α)(q:α→Bool):Bool:=l.all q
theorem qgt(l:List Ex)(hl:l.length≤B50):∀S,Fn prog 222 [.sl false (l.map Ex.v)] S (.bool (ZF l Ex.tgt && decide (0<l.length))):=by
 refine Pu.ib func222 ok222 (by simp[c222]) (by simp[V.under]) rfl ?_;unfold B50 at hl;simp only[c222,C'.k];simp;refine qq (fun j e S'=>∃i:Nat,j=l.length - i∧i≤l.length∧ZF (l.take i) Ex.tgt=true∧
  e=[(3,.int .i64 i),(0,.sl false (l.map Ex.v))]) l.length _ ?_ ⟨0,by simp,by omega,rfl,rfl⟩ ?_
 ·exact Env.so (by simp)
 rintro j e S' ⟨i,rfl,hi,hq,rfl⟩;by_cases h:i<l.length
 ·simp[h,qht];refine qj (qjN l[i] _) ?_
  cases hx:Ex.tgt l[i] with
  | false=>
   simp;refine qa rfl ?_ rfl
   have:ZF l Ex.tgt=false:=by
    cases ha:ZF l Ex.tgt with
    | false=>rfl
    | true=>
     unfold ZF at ha;rw[qqi] at ha;rw[ha _ (qp5 h)] at hx;cases hx
   rw[this];rfl
  | true=>
   simp[qO (n:=(i:Int)+1)];refine ⟨_,?_,_,?_,i+1,rfl,by omega,?_,rfl⟩
   ·omega
   ·exact Env.so (by simp)
   ·unfold ZF at *;rw[qp9,qpZ h,List.all_append,hq];simp[hx]
 ·simp[h];rw[qqt (by omega)] at hq;refine qa rfl ?_ rfl;rw[hq];simp[qo]
theorem qeP(l:List Bz)(hl:l.length≤B50):∀S,Fn prog 223 [.sl false (l.map V.str)] S (.bool (ZF l qb)):=by
 refine Pu.ib func223 ok223 (by simp[c223]) (by simp[V.under]) rfl ?_;unfold B50 at hl;simp only[c223,C'.k];simp;refine qq (fun j e S'=>∃i:Nat,j=l.length - i∧i≤l.length∧ZF (l.take i) qb=true∧
  e=[(3,.int .i64 i),(0,.sl false (l.map V.str))]) l.length _ ?_ ⟨0,by simp,by omega,rfl,rfl⟩ ?_
 ·exact Env.so (by simp)
 rintro j e S' ⟨i,rfl,hi,hq,rfl⟩;by_cases h:i<l.length
 ·simp[h,Q4];refine qj (Qv l[i] _) ?_
  cases hx:qb l[i] with
  | false=>
   simp;refine qa rfl ?_ rfl
   have:ZF l qb=false:=by
    cases ha:ZF l qb with
    | false=>rfl
    | true=>
     unfold ZF at ha;rw[qqi] at ha;rw[ha _ (qp5 h)] at hx;cases hx
   rw[this];rfl
  | true=>
   simp[qO (n:=(i:Int)+1)];refine ⟨_,?_,_,?_,i+1,rfl,by omega,?_,rfl⟩
   ·omega
   ·exact Env.so (by simp)
   ·unfold ZF at *;rw[qp9,qpZ h,List.all_append,hq];simp[hx]
 ·simp[h];rw[qqt (by omega)] at hq;refine qa rfl ?_ rfl;rw[hq];rfl
theorem qli(f:Fo):∀S,Fn prog 258 [f.v] S (.bool (f.vOwn qb)):=by
 refine Pu.ib func258 ok258 (by simp[c258]) (by simp[V.under]) rfl ?_;have hv:f.vOwn qb=((if f.spec=0∨f.spec=3∨f.spec=4∨f.spec=5 then decide (f.type=0) && !f.value
   else if f.spec=1 then decide (1≤f.type∧f.type≤3)
   else if f.spec=2 then decide (0≤f.type∧f.type≤3) && (!f.value || decide (f.type≠0))
   else if f.spec=6 then decide (0≤f.type∧f.type≤3) && !f.value
   else false) && qb f.name):=by unfold Fo.vOwn;rw[qqm]
 generalize f.vOwn qb=r at hv ⊢;by_cases h0:f.spec=0
 ·simp only[h0] at hv;by_cases ht:f.type=0
  case neg=>
   cases hval:f.value
   case false=>
    simp[c258,qw,ldS,h0,ht,hval];exact qa rfl (by rw[hv];simp[qo,ht]) rfl
   simp[c258,qw,ldS,h0,ht,hval];exact qa rfl (by rw[hv];simp[qo,ht]) rfl
  cases hval:f.value
  case true=>
   simp[c258,qw,ldS,h0,ht,hval];exact qa rfl (by rw[hv];simp[qo,hval]) rfl
  simp[c258,qw,ldS,h0,ht,hval];refine qj (Qv f.name _) ?_;cases hn:qb f.name
  case false=>
   simp;exact qa rfl (by rw[hv];simp[qo,hn]) rfl
  simp;exact qa rfl (by rw[hv];simp[qo,hn,ht,hval]) rfl
 by_cases h3:f.spec=3
 ·simp only[h3] at hv;by_cases ht:f.type=0
  case neg=>
   cases hval:f.value
   case false=>
    simp[c258,qw,ldS,h3,ht,hval];exact qa rfl (by rw[hv];simp[qo,ht]) rfl
   simp[c258,qw,ldS,h3,ht,hval];exact qa rfl (by rw[hv];simp[qo,ht]) rfl
  cases hval:f.value
  case true=>
   simp[c258,qw,ldS,h3,ht,hval];exact qa rfl (by rw[hv];simp[qo,hval]) rfl
  simp[c258,qw,ldS,h3,ht,hval];refine qj (Qv f.name _) ?_;cases hn:qb f.name
  case false=>
   simp;exact qa rfl (by rw[hv];simp[qo,hn]) rfl
  simp;exact qa rfl (by rw[hv];simp[qo,hn,ht,hval]) rfl
 by_cases h4:f.spec=4
 ·simp only[h4] at hv;by_cases ht:f.type=0
  case neg=>
   cases hval:f.value
   case false=>
    simp[c258,qw,ldS,h4,ht,hval];exact qa rfl (by rw[hv];simp[qo,ht]) rfl
   simp[c258,qw,ldS,h4,ht,hval];exact qa rfl (by rw[hv];simp[qo,ht]) rfl
  cases hval:f.value
  case true=>
   simp[c258,qw,ldS,h4,ht,hval];exact qa rfl (by rw[hv];simp[qo,hval]) rfl
  simp[c258,qw,ldS,h4,ht,hval];refine qj (Qv f.name _) ?_;cases hn:qb f.name
  case false=>
   simp;exact qa rfl (by rw[hv];simp[qo,hn]) rfl
  simp;exact qa rfl (by rw[hv];simp[qo,hn,ht,hval]) rfl
 by_cases h5:f.spec=5
 ·simp only[h5] at hv;by_cases ht:f.type=0
  case neg=>
   cases hval:f.value
   case false=>
    simp[c258,qw,ldS,h5,ht,hval];exact qa rfl (by rw[hv];simp[qo,ht]) rfl
   simp[c258,qw,ldS,h5,ht,hval];exact qa rfl (by rw[hv];simp[qo,ht]) rfl
  cases hval:f.value
  case true=>
   simp[c258,qw,ldS,h5,ht,hval];exact qa rfl (by rw[hv];simp[qo,hval]) rfl
  simp[c258,qw,ldS,h5,ht,hval];refine qj (Qv f.name _) ?_;cases hn:qb f.name
  case false=>
   simp;exact qa rfl (by rw[hv];simp[qo,hn]) rfl
  simp;exact qa rfl (by rw[hv];simp[qo,hn,ht,hval]) rfl
 by_cases h1:f.spec=1
 ·simp only[h1] at hv;simp[c258,qw,ldS,h1];refine qj (YQ _ _ _ _) ?_;by_cases ht:1≤f.type∧f.type≤3
  case neg=>
   rw[qK ht];cases hval:f.value
   case false=>
    simp[ldS,hval];exact qa rfl (by rw[hv];simp[qo,ht]) rfl
   simp[ldS,hval];exact qa rfl (by rw[hv];simp[qo,ht]) rfl
  rw[qN ht];cases hval:f.value
  case false=>
   simp[ldS,hval];refine qj (Qv f.name _) ?_;cases hn:qb f.name
   case false=>
    simp;exact qa rfl (by rw[hv];simp[qo,hn]) rfl
   simp;exact qa rfl (by rw[hv];simp[qo,hn,ht]) rfl
  simp[ldS,hval,h1,show ¬ f.type=0 by omega];refine qj (Qv f.name _) ?_;cases hn:qb f.name
  case false=>
   simp;exact qa rfl (by rw[hv];simp[qo,hn]) rfl
  simp;exact qa rfl (by rw[hv];simp[qo,hn,ht]) rfl
 by_cases h2:f.spec=2
 ·simp only[h2] at hv;simp[c258,qw,ldS,h2];refine qj (YQ _ _ _ _) ?_;by_cases ht:0≤f.type∧f.type≤3
  case neg=>
   rw[qK ht];cases hval:f.value
   case false=>
    simp[ldS,hval];exact qa rfl (by rw[hv];simp[qo,ht]) rfl
   simp[ldS,hval];exact qa rfl (by rw[hv];simp[qo,ht]) rfl
  rw[qN ht];cases hval:f.value
  case false=>
   simp[ldS,hval];refine qj (Qv f.name _) ?_;cases hn:qb f.name
   case false=>
    simp;exact qa rfl (by rw[hv];simp[qo,hn]) rfl
   simp;exact qa rfl (by rw[hv];simp[qo,hn,ht,hval]) rfl
  by_cases ht0:f.type=0
  case pos=>
   simp[ldS,hval,h2,ht0];exact qa rfl (by rw[hv];simp[qo,hval,ht0]) rfl
  simp[ldS,hval,h2,ht0];refine qj (Qv f.name _) ?_;cases hn:qb f.name
  case false=>
   simp;exact qa rfl (by rw[hv];simp[qo,hn]) rfl
  simp;exact qa rfl (by rw[hv];simp[qo,hn,ht,hval,ht0]) rfl
 by_cases h6:f.spec=6
 ·simp only[h6] at hv;simp[c258,qw,ldS,h6];refine qj (YQ _ _ _ _) ?_;by_cases ht:0≤f.type∧f.type≤3
  case neg=>
   rw[qK ht];cases hval:f.value
   case false=>
    simp[ldS,hval];exact qa rfl (by rw[hv];simp[qo,ht]) rfl
   simp[ldS,hval];exact qa rfl (by rw[hv];simp[qo,ht]) rfl
  rw[qN ht];cases hval:f.value
  case false=>
   simp[ldS,hval];refine qj (Qv f.name _) ?_;cases hn:qb f.name
   case false=>
    simp;exact qa rfl (by rw[hv];simp[qo,hn]) rfl
   simp;exact qa rfl (by rw[hv];simp[qo,hn,ht,hval]) rfl
  simp[ldS,hval,h6];exact qa rfl (by rw[hv];simp[qo,hval]) rfl
 have hv':r=false:=by rw[hv];simp[h0,h1,h2,h3,h4,h5,h6]
 cases hval:f.value
 case false=>
  simp[c258,qw,ldS,hval,h0,h1,h2,h3,h4,h5,h6];exact qa rfl (by rw[hv'];rfl) rfl
 simp[c258,qw,ldS,hval,h0,h1,h2,h3,h4,h5,h6];exact qa rfl (by rw[hv'];rfl) rfl
def qmU(l:List Fo)(i k:Nat):Prop:=∀(j:Nat) (x y:Fo),j<k→l[j]?=some x→l[i]?=some y→¬ x.name=y.name
theorem qkI(l:List Fo)(hl:l.length≤B50):∀S,Fn prog 225 [.sl false (l.map Fo.v)] S (.bool (zV qb l [] && decide (l.length≤8))):=by
 refine Pu.ib func225 ok225 (by simp[c225]) (by simp[V.under]) rfl ?_;unfold B50 at hl;generalize hr:(zV qb l [] && decide (l.length≤8))=r;have hno:zV qb l []=false→r=false:=fun h=>by rw[←hr,h];rfl
 simp only[c225,C'.k];simp;refine qE (fun e S=>zV qb l []=true∧e.get 0=some (.sl false (l.map Fo.v))) ?_ ?_;rotate_left
 ·rintro e S ⟨h1,g0⟩;simp[g0];refine qa rfl ?_ rfl;rw[←hr,h1];simp only[qo,V.bool.injEq,qrM,decide_eq_decide];omega
 refine qq (fun j e S'=>∃i:Nat,j=l.length - i∧i≤l.length∧zV qb (l.take i) []=true∧
  e=[(3,.int .i64 i),(0,.sl false (l.map Fo.v))]) l.length _ ?_ ⟨0,by simp,by omega,rfl,rfl⟩ ?_
 ·exact Env.so (by simp)
 rintro j e S' ⟨i,rfl,hi,hq,rfl⟩;by_cases h:i<l.length
 case neg=>
  rw[qqt (by omega)] at hq;simp[h,hq]
 have hnext:zV qb (l.take (i+1)) []=(l[i].vOwn qb && !((l.take i).map Fo.name).any fun x=>decide (x=l[i].name)):=by
  rw[qp9,qpZ h,qqx,yM,hq];simp[zV]
 have hall:zV qb l []=true→zV qb (l.take (i+1)) []=true:=fun hh=>by
  rw[←qqE (i+1) l,yM,qp1] at hh;exact hh.1
 simp[h];refine qE (fun e S=>qmU l i i∧e.get 3=some (.int .i64 i)∧e.get 0=some (.sl false (l.map Fo.v))) ?_ ?_
 ·refine qq (fun j e S'=>∃k:Nat,j=i - k∧k≤i∧qmU l i k∧
   e=[(4,.int .i64 k),(3,.int .i64 i),(0,.sl false (l.map Fo.v))]) i _ ?_ ⟨0,by simp,by omega,fun j x y hj=>by omega,rfl⟩ ?_
  ·exact Env.so (by simp)
  rintro j e S' ⟨k,rfl,hk,hd,rfl⟩;by_cases g:k<i
  case neg=>
   have:k=i:=by omega
   subst this;simp[hd]
  have gl:k<l.length:=by omega
  by_cases hx:l[k].name=l[i].name
  ·simp[g,gl,h,qhs,hx,Qd,zA,zK];refine qa rfl ?_ rfl;rw[hno]
   ·rfl
   ·cases hh:zV qb l [] with
    | false=>rfl
    | true=>
     have h2:=hall hh;rw[hnext,qp1,Bool.not_eq_true'] at h2
     have:(((l.take i).map Fo.name).any fun x=>decide (x=l[i].name))=true:=by
      rw[qrB];refine ⟨l[k].name,qql.2 ⟨l[k],?_,rfl⟩,by simp[hx]⟩;exact List.mem_iff_getElem?.2 ⟨k,by rw[qrP,if_pos g];simp⟩
     rw[this] at h2;cases h2.2
  ·simp[g,gl,h,qhs,hx,Qd,zA,zK,qO (n:=(k:Int)+1)];refine ⟨_,?_,_,?_,k+1,rfl,by omega,?_,rfl⟩
   ·omega
   ·exact Env.so (by simp)
   ·intro j x y hj h1 h2;by_cases hjk:j=k
    ·subst hjk;rw[qpZ gl] at h1;cases h1;rw[qpZ h] at h2;cases h2;exact hx
    ·exact hd j x y (by omega) h1 h2
 rintro e U ⟨hd,g3,g0⟩
 have hany:(((l.take i).map Fo.name).any fun x=>decide (x=l[i].name))=false:=by
  cases hh:(((l.take i).map Fo.name).any fun x=>decide (x=l[i].name)) with
  | false=>rfl
  | true=>
   rw[qrB] at hh;obtain ⟨x,h1,h2⟩:=hh;obtain ⟨f,h3,rfl⟩:=qql.1 h1;obtain ⟨j,hj⟩:=List.mem_iff_getElem?.1 h3;rw[qrP] at hj;split at hj
   ·exact absurd (by simpa using h2) (hd j f l[i] (by assumption) hj (by simp[h]))
   ·cases hj
 rw[hany] at hnext;simp[g3,g0,h,qhs];refine qj (qli l[i] _) ?_
 cases hv:l[i].vOwn qb with
 | false=>
  rw[hv] at hnext;simp;refine qa rfl ?_ rfl;rw[hno]
  ·rfl
  ·cases hh:zV qb l [] with
   | false=>rfl
   | true=>rw[hall hh] at hnext;cases hnext
 | true=>
  rw[hv] at hnext;simp[g3,qO (n:=(i:Int)+1)];refine ⟨_,?_,_,?_,i+1,rfl,by omega,hnext,rfl⟩
  ·omega
  ·repeat' first|exact Env.sub_nil _|refine Env.sub_cons (by simp[g0]) ?_
noncomputable def qbY:C':=(.k [.f 148 6 1,
 .l 149 148,
 .f 150 6 3,
 .s 1 150 149]
 (.seq (.draw [.p (.m 151 5) [],
 .p (.m 152 151) [0],
 .p (.v 153 152 true (.ld (some 7) (.t 1))) [1,0],
 .q (.v 154 152 true (.call (.f 141) [(.t 153)])) true false [2,1,0] 0 0,
 .q (.v 155 152 true (.ld (some 7) (.t 3))) false true [1,0] 0 1,
 .q (.v 156 152 true (.call (.f 141) [(.t 155)])) true false [4,3,2,1,0] 1 1,
 .q (.v 157 152 true (.call (.f 195) [(.t 154),(.t 156)])) true false [5,4,3,2,1,0] 2 2,
 .q (.y 158 152 157) false false [6,5,4,3,2,1,0] 3 3,
 .q (.m 2 158) false false [7,6,5,4,3,2,1,0] 3 3] [])
 (.ret)))
theorem zx:qbY=(.k [.f 148 6 1,
 .l 149 148,
 .f 150 6 3,
 .s 1 150 149]
 (.seq (.draw [.p (.m 151 5) [],
 .p (.m 152 151) [0],
 .p (.v 153 152 true (.ld (some 7) (.t 1))) [1,0],
 .q (.v 154 152 true (.call (.f 141) [(.t 153)])) true false [2,1,0] 0 0,
 .q (.v 155 152 true (.ld (some 7) (.t 3))) false true [1,0] 0 1,
 .q (.v 156 152 true (.call (.f 141) [(.t 155)])) true false [4,3,2,1,0] 1 1,
 .q (.v 157 152 true (.call (.f 195) [(.t 154),(.t 156)])) true false [5,4,3,2,1,0] 2 2,
 .q (.y 158 152 157) false false [6,5,4,3,2,1,0] 3 3,
 .q (.m 2 158) false false [7,6,5,4,3,2,1,0] 3 3] [])
 (.ret))):=rfl
theorem qr(t:Bz):decide (t=⟨⟨[]⟩⟩)=zr t:=by
 unfold zr;rw[decide_eq_decide];exact Yn
open Classical in
theorem qoI(x y:Ex):EqP 4 4 Sm.z Sm.z De.z De.z El.z El.z x y↔EqX x y∧x.args.length=y.args.length:=by
 unfold EqP YV qaq EqS EqD;simp;exact And.comm
theorem Ex.z_ok:Sm.z.ok:=by simp[Sm.z,Sm.ok,okS,Ex.okL,De.okL,Sm.okL];decide
theorem De.z_ok:De.z.ok:=by simp[De.z,De.ok,okS,Ex.okL,Sm.okL]
open Classical in
theorem qt(x:Ex)(ok:Bool)(o n m e:Int)(t:Bz)(r:Bool){E:Env}{S:St}
  (hS:S=[.arr [x.v] 7 1,.arr [.agg [.int .i64 x.kind,.int .i64 o,.int .i64 n,.int .i64 m,.int .i64 e,.str t,.sl true []]] 7 1])
  (hr:r=(ok && (decide (x.op=o) && decide (x.n=n) && (decide (x.man=m) && decide (x.exp=e)) && decide (x.text=t)))) (g1:E.get 1=some (.ptr 0 0 0 1):=by simp) (g3:E.get 3=some (.ptr 1 0 0 1):=by simp) (g5:E.get 5=some (.bool ok):=by simp):
  WP prog qbY (Z4 [.t 2] 0 fun v U=>v=.bool r∧U=[]) E S:=by
 subst hS;have hy:(Ex.mk x.kind o n m e t x.args).v=.agg [.int .i64 x.kind,.int .i64 o,.int .i64 n,.int .i64 m,.int .i64 e,.str t,.sl false (x.args.map Ex.v)]:=Ex.v_eq _;generalize hyy:Ex.mk x.kind o n m e t x.args=y at hy;simp only[qbY]
 cases ok with
 | false=>
  simp[g1,g3,g5,ldS,stS,qc,Qd,zA,zK];exact qa rfl (by rw[hr];rfl) rfl
 | true=>
  simp[g1,g3,g5,ldS,stS,qc,qf];refine zt (qe0 x _) ?_;simp[g3,ldS,qf];have h2:=qe0 y [.arr [x.v] 7 1,.arr [.agg [.int .i64 x.kind,.int .i64 o,.int .i64 n,.int .i64 m,.int .i64 e,.str t,.sl false (x.args.map Ex.v)]] 7 1];rw[hy] at h2;refine zt h2 ?_;simp;refine zt (kG 4 4 Sm.z Sm.z De.z De.z El.z El.z x y Ex.z_ok De.z_ok _) ?_;simp[Qd,zA,zK,g3,ldS,qf];refine qa rfl ?_ rfl;rw[hr];simp only[qo,V.bool.injEq,qrM];rw[qqy,decide_eq_true_eq,qoI,←hyy];rw[qp1,qp1,qp1,qp1,decide_eq_true_eq,decide_eq_true_eq,decide_eq_true_eq,decide_eq_true_eq,decide_eq_true_eq];unfold EqX;constructor
  ·rintro ⟨⟨_,h2,h3,h4,h5⟩,_⟩;exact ⟨⟨⟨h2,h3⟩,h4⟩,h5⟩
  ·rintro ⟨⟨⟨h2,h3⟩,h4⟩,h5⟩;exact ⟨⟨rfl,h2,h3,h4,h5⟩,rfl⟩
theorem qfl(x:Ex)(hx:x.ok)(hk:x.kind=1):∀S,Fn prog 192 [x.v] S (.bool (x.vOwn qb)):=by
 refine Pu.ib func192 ok192 (by simp[c192]) (by simp[V.under]) rfl ?_;have hv:=Ex.vOwn_eq qb x;have hle:x.args.length≤B50:=(Ex.ok_args hx).1;unfold B50 at hle;generalize x.vOwn qb=r at hv ⊢;simp only[c192,←zx];simp only[hk] at hv;simp at hv;by_cases c1:0≤x.n
 case neg=>
  simp[qw,ldS,stS,qc,qf,ql,qh,hk,c1];exact qt x false 0 x.n 0 0 ⟨⟨[]⟩⟩ r (by simp[hk]) (by rw[hv];simp[qr,c1])
 by_cases c2:x.n≤2147483647
 case neg=>
  simp[qw,ldS,stS,qc,qf,ql,qh,hk,c1,c2];exact qt x false 0 x.n 0 0 ⟨⟨[]⟩⟩ r (by simp[hk]) (by rw[hv];simp[qr,c1,c2])
 by_cases hl:x.args=[]
 case neg=>
  simp[qw,ldS,stS,qc,qf,ql,qh,hk,c1,c2,hl];exact qt x false 0 x.n 0 0 ⟨⟨[]⟩⟩ r (by simp[hk]) (by rw[hv];simp[qr,c1,c2,hl])
 simp[qw,ldS,stS,qc,qf,ql,qh,hk,c1,c2,hl];exact qt x true 0 x.n 0 0 ⟨⟨[]⟩⟩ r (by simp[hk]) (by rw[hv];simp[qr,c1,c2,hl])
theorem qge(x:Ex)(hx:x.ok)(hk:x.kind=2):∀S,Fn prog 192 [x.v] S (.bool (x.vOwn qb)):=by
 refine Pu.ib func192 ok192 (by simp[c192]) (by simp[V.under]) rfl ?_;have hv:=Ex.vOwn_eq qb x;have hle:x.args.length≤B50:=(Ex.ok_args hx).1;unfold B50 at hle;generalize x.vOwn qb=r at hv ⊢;simp only[c192,←zx];simp only[hk] at hv;simp at hv;simp[qw,ldS,stS,qc,qf,ql,qh,hk];refine qj (qlc _ _ _) ?_;cases hc:qex x.man x.exp
 case false=>
  simp[qw,ldS,stS,qc,qf,ql,qh];exact qt x false 0 0 x.man x.exp ⟨⟨[]⟩⟩ r (by simp[hk]) (by rw[hv];simp[qr,hc])
 by_cases c1:0≤x.man
 case neg=>
  simp[qw,ldS,stS,qc,qf,ql,qh,c1];exact qt x false 0 0 x.man x.exp ⟨⟨[]⟩⟩ r (by simp[hk]) (by rw[hv];simp[qr,hc,c1])
 by_cases hl:x.args=[]
 case neg=>
  simp[qw,ldS,stS,qc,qf,ql,qh,c1,hl];exact qt x false 0 0 x.man x.exp ⟨⟨[]⟩⟩ r (by simp[hk]) (by rw[hv];simp[qr,hc,c1,hl])
 simp[qw,ldS,stS,qc,qf,ql,qh,c1,hl];exact qt x true 0 0 x.man x.exp ⟨⟨[]⟩⟩ r (by simp[hk]) (by rw[hv];simp[qr,hc,c1,hl])
theorem qfx(x:Ex)(hx:x.ok)(hk:x.kind=3):∀S,Fn prog 192 [x.v] S (.bool (x.vOwn qb)):=by
 refine Pu.ib func192 ok192 (by simp[c192]) (by simp[V.under]) rfl ?_;have hv:=Ex.vOwn_eq qb x;have hle:x.args.length≤B50:=(Ex.ok_args hx).1;unfold B50 at hle;generalize x.vOwn qb=r at hv ⊢;simp only[c192,←zx];simp only[hk] at hv;simp at hv;by_cases hl:x.args=[]
 case neg=>
  simp[qw,ldS,stS,qc,qf,ql,qh,hk,hl];exact qt x false 0 0 0 0 ⟨⟨[]⟩⟩ r (by simp[hk]) (by rw[hv];simp[qr,hl])
 simp[qw,ldS,stS,qc,qf,ql,qh,hk,hl];exact qt x true 0 0 0 0 ⟨⟨[]⟩⟩ r (by simp[hk]) (by rw[hv];simp[qr,hl])
theorem qeN(x:Ex)(hx:x.ok)(hk:x.kind=4):∀S,Fn prog 192 [x.v] S (.bool (x.vOwn qb)):=by
 refine Pu.ib func192 ok192 (by simp[c192]) (by simp[V.under]) rfl ?_;have hv:=Ex.vOwn_eq qb x;have hle:x.args.length≤B50:=(Ex.ok_args hx).1;unfold B50 at hle;generalize x.vOwn qb=r at hv ⊢;simp only[c192,←zx];simp only[hk] at hv;simp at hv;by_cases hl:x.args=[]
 case neg=>
  simp[qw,ldS,stS,qc,qf,ql,qh,hk,hl];exact qt x false 0 0 0 0 ⟨⟨[]⟩⟩ r (by simp[hk]) (by rw[hv];simp[qr,hl])
 simp[qw,ldS,stS,qc,qf,ql,qh,hk,hl];exact qt x true 0 0 0 0 ⟨⟨[]⟩⟩ r (by simp[hk]) (by rw[hv];simp[qr,hl])
theorem qfY(x:Ex)(hx:x.ok)(hk:x.kind=5):∀S,Fn prog 192 [x.v] S (.bool (x.vOwn qb)):=by
 refine Pu.ib func192 ok192 (by simp[c192]) (by simp[V.under]) rfl ?_;have hv:=Ex.vOwn_eq qb x;have hle:x.args.length≤B50:=(Ex.ok_args hx).1;unfold B50 at hle;generalize x.vOwn qb=r at hv ⊢;simp only[c192,←zx];simp only[hk] at hv;simp at hv;simp[qw,ldS,stS,qc,qf,ql,qh,hk];refine qj (qlf _ (Ex.ok_text hx) _) ?_;cases hc:Qy x.text
 case false=>
  simp[qw,ldS,stS,qc,qf,ql,qh];exact qt x false 0 0 0 0 x.text r (by simp[hk]) (by rw[hv];simp[qr,hc])
 by_cases hl:x.args=[]
 case neg=>
  simp[qw,ldS,stS,qc,qf,ql,qh,hl];exact qt x false 0 0 0 0 x.text r (by simp[hk]) (by rw[hv];simp[qr,hc,hl])
 simp[qw,ldS,stS,qc,qf,ql,qh,hl];exact qt x true 0 0 0 0 x.text r (by simp[hk]) (by rw[hv];simp[qr,hc,hl])
theorem qgr(x:Ex)(hx:x.ok)(hk:x.kind=6):∀S,Fn prog 192 [x.v] S (.bool (x.vOwn qb)):=by
 refine Pu.ib func192 ok192 (by simp[c192]) (by simp[V.under]) rfl ?_;have hv:=Ex.vOwn_eq qb x;have hle:x.args.length≤B50:=(Ex.ok_args hx).1;unfold B50 at hle;generalize x.vOwn qb=r at hv ⊢;simp only[c192,←zx];simp only[hk] at hv;simp at hv;simp[qw,ldS,stS,qc,qf,ql,qh,hk];refine qj (Qv _ _) ?_;cases hc:qb x.text
 case false=>
  simp[qw,ldS,stS,qc,qf,ql,qh];exact qt x false 0 0 0 0 x.text r (by simp[hk]) (by rw[hv];simp[qr,hc])
 by_cases hl:x.args=[]
 case neg=>
  simp[qw,ldS,stS,qc,qf,ql,qh,hl];exact qt x false 0 0 0 0 x.text r (by simp[hk]) (by rw[hv];simp[qr,hc,hl])
 simp[qw,ldS,stS,qc,qf,ql,qh,hl];exact qt x true 0 0 0 0 x.text r (by simp[hk]) (by rw[hv];simp[qr,hc,hl])
theorem qeL(x:Ex)(hx:x.ok)(hk:x.kind=7):∀S,Fn prog 192 [x.v] S (.bool (x.vOwn qb)):=by
 refine Pu.ib func192 ok192 (by simp[c192]) (by simp[V.under]) rfl ?_;have hv:=Ex.vOwn_eq qb x;have hle:x.args.length≤B50:=(Ex.ok_args hx).1;unfold B50 at hle;generalize x.vOwn qb=r at hv ⊢;simp only[c192,←zx];simp only[hk] at hv;simp at hv;simp[qw,ldS,stS,qc,qf,ql,qh,hk];refine qj (Qv _ _) ?_;cases hc:qb x.text
 case false=>
  simp[qw,ldS,stS,qc,qf,ql,qh];exact qt x false 0 0 0 0 x.text r (by simp[hk]) (by rw[hv];simp[qr,hc])
 by_cases hl1:1≤x.args.length
 case neg=>
  simp[qw,ldS,stS,qc,qf,ql,qh,show ¬ ((1:Int)≤x.args.length) by omega];exact qt x false 0 0 0 0 x.text r (by simp[hk]) (by rw[hv];simp[qr,hc,hl1])
 by_cases hl2:x.args.length≤4
 case neg=>
  simp[qw,ldS,stS,qc,qf,ql,qh,show (1:Int)≤x.args.length by omega,show ¬ ((x.args.length:Int)≤4) by omega];exact qt x false 0 0 0 0 x.text r (by simp[hk]) (by rw[hv];simp[qr,hc,hl1,hl2])
 simp[qw,ldS,stS,qc,qf,ql,qh,show (1:Int)≤x.args.length by omega,show (x.args.length:Int)≤4 by omega];exact qt x true 0 0 0 0 x.text r (by simp[hk]) (by rw[hv];simp[qr,hc,hl1,hl2])
theorem qgR(x:Ex)(hx:x.ok)(hk:x.kind=8):∀S,Fn prog 192 [x.v] S (.bool (x.vOwn qb)):=by
 refine Pu.ib func192 ok192 (by simp[c192]) (by simp[V.under]) rfl ?_;have hv:=Ex.vOwn_eq qb x;have hle:x.args.length≤B50:=(Ex.ok_args hx).1;unfold B50 at hle;generalize x.vOwn qb=r at hv ⊢;simp only[c192,←zx];simp only[hk] at hv;simp at hv;simp[qw,ldS,stS,qc,qf,ql,qh,hk];refine qj (Qv _ _) ?_;cases hc:qb x.text
 case false=>
  simp[qw,ldS,stS,qc,qf,ql,qh];exact qt x false 0 0 0 0 x.text r (by simp[hk]) (by rw[hv];simp[qr,hc])
 by_cases hl1:1≤x.args.length
 case neg=>
  simp[qw,ldS,stS,qc,qf,ql,qh,show ¬ ((1:Int)≤x.args.length) by omega];exact qt x false 0 0 0 0 x.text r (by simp[hk]) (by rw[hv];simp[qr,hc,hl1])
 by_cases hl2:x.args.length≤8
 case neg=>
  simp[qw,ldS,stS,qc,qf,ql,qh,show (1:Int)≤x.args.length by omega,show ¬ ((x.args.length:Int)≤8) by omega];exact qt x false 0 0 0 0 x.text r (by simp[hk]) (by rw[hv];simp[qr,hc,hl1,hl2])
 simp[qw,ldS,stS,qc,qf,ql,qh,show (1:Int)≤x.args.length by omega,show (x.args.length:Int)≤8 by omega];exact qt x true 0 0 0 0 x.text r (by simp[hk]) (by rw[hv];simp[qr,hc,hl1,hl2])
theorem qfA(x:Ex)(hx:x.ok)(hk:x.kind=9):∀S,Fn prog 192 [x.v] S (.bool (x.vOwn qb)):=by
 refine Pu.ib func192 ok192 (by simp[c192]) (by simp[V.under]) rfl ?_;have hv:=Ex.vOwn_eq qb x;have hle:x.args.length≤B50:=(Ex.ok_args hx).1;unfold B50 at hle;generalize x.vOwn qb=r at hv ⊢;simp only[c192,←zx];simp only[hk] at hv;simp at hv;by_cases hl:x.args.length=1
 case pos=>
  by_cases c1:x.op=1
  case pos=>
   simp[qw,ldS,stS,qc,qf,ql,qh,hk,c1,show (x.args.length:Int)=1 by omega];exact qt x true 1 0 0 0 ⟨⟨[]⟩⟩ r (by simp[hk]) (by rw[hv];simp[qr,c1,hl])
  by_cases c2:x.op=2
  case pos=>
   simp[qw,ldS,stS,qc,qf,ql,qh,hk,c2,show (x.args.length:Int)=1 by omega];exact qt x true 2 0 0 0 ⟨⟨[]⟩⟩ r (by simp[hk]) (by rw[hv];simp[qr,c2,hl])
  simp[qw,ldS,stS,qc,qf,ql,qh,hk,c1,c2];exact qt x false x.op 0 0 0 ⟨⟨[]⟩⟩ r (by simp[hk]) (by rw[hv];simp[qr,c1,c2])
 case neg=>
  by_cases c1:x.op=1
  case pos=>
   simp[qw,ldS,stS,qc,qf,ql,qh,hk,c1,show ¬ ((x.args.length:Int)=1) by omega];exact qt x false 1 0 0 0 ⟨⟨[]⟩⟩ r (by simp[hk]) (by rw[hv];simp[qr,c1,hl])
  by_cases c2:x.op=2
  case pos=>
   simp[qw,ldS,stS,qc,qf,ql,qh,hk,c2,show ¬ ((x.args.length:Int)=1) by omega];exact qt x false 2 0 0 0 ⟨⟨[]⟩⟩ r (by simp[hk]) (by rw[hv];simp[qr,c2,hl])
  simp[qw,ldS,stS,qc,qf,ql,qh,hk,c1,c2];exact qt x false x.op 0 0 0 ⟨⟨[]⟩⟩ r (by simp[hk]) (by rw[hv];simp[qr,c1,c2])
theorem qen(x:Ex)(hx:x.ok)(hk:x.kind=10):∀S,Fn prog 192 [x.v] S (.bool (x.vOwn qb)):=by
 refine Pu.ib func192 ok192 (by simp[c192]) (by simp[V.under]) rfl ?_;have hv:=Ex.vOwn_eq qb x;have hle:x.args.length≤B50:=(Ex.ok_args hx).1;unfold B50 at hle;generalize x.vOwn qb=r at hv ⊢;simp only[c192,←zx];simp only[hk] at hv;simp at hv;by_cases c1:3≤x.op
 case neg=>
  simp[qw,ldS,stS,qc,qf,ql,qh,hk,c1];exact qt x false x.op 0 0 0 ⟨⟨[]⟩⟩ r (by simp[hk]) (by rw[hv];simp[qr,c1])
 by_cases c2:x.op≤18
 case neg=>
  simp[qw,ldS,stS,qc,qf,ql,qh,hk,c1,c2];exact qt x false x.op 0 0 0 ⟨⟨[]⟩⟩ r (by simp[hk]) (by rw[hv];simp[qr,c1,c2])
 by_cases hl:x.args.length=2
 case neg=>
  simp[qw,ldS,stS,qc,qf,ql,qh,hk,c1,c2,show ¬ ((x.args.length:Int)=2) by omega];exact qt x false x.op 0 0 0 ⟨⟨[]⟩⟩ r (by simp[hk]) (by rw[hv];simp[qr,c1,c2,hl])
 simp[qw,ldS,stS,qc,qf,ql,qh,hk,c1,c2,show (x.args.length:Int)=2 by omega];exact qt x true x.op 0 0 0 ⟨⟨[]⟩⟩ r (by simp[hk]) (by rw[hv];simp[qr,c1,c2,hl])
theorem qea(x:Ex)(hx:x.ok)(hk:x.kind=11):∀S,Fn prog 192 [x.v] S (.bool (x.vOwn qb)):=by
 refine Pu.ib func192 ok192 (by simp[c192]) (by simp[V.under]) rfl ?_;have hv:=Ex.vOwn_eq qb x;have hle:x.args.length≤B50:=(Ex.ok_args hx).1;unfold B50 at hle;generalize x.vOwn qb=r at hv ⊢;simp only[c192,←zx];simp only[hk] at hv;simp at hv;by_cases hl:x.args.length=3
 case neg=>
  simp[qw,ldS,stS,qc,qf,ql,qh,hk,show ¬ ((x.args.length:Int)=3) by omega];exact qt x false 0 0 0 0 ⟨⟨[]⟩⟩ r (by simp[hk]) (by rw[hv];simp[qr,hl])
 simp[qw,ldS,stS,qc,qf,ql,qh,hk,show (x.args.length:Int)=3 by omega];exact qt x true 0 0 0 0 ⟨⟨[]⟩⟩ r (by simp[hk]) (by rw[hv];simp[qr,hl])
theorem qdq(x:Ex)(hx:x.ok)(h1:¬ x.kind=1)(h2:¬ x.kind=2)(h3:¬ x.kind=3)(h4:¬ x.kind=4)(h5:¬ x.kind=5)(h6:¬ x.kind=6)(h7:¬ x.kind=7)(h8:¬ x.kind=8)(h9:¬ x.kind=9)(h10:¬ x.kind=10)(h11:¬ x.kind=11):∀S,Fn prog 192 [x.v] S (.bool (x.vOwn qb)):=by
 refine Pu.ib func192 ok192 (by simp[c192]) (by simp[V.under]) rfl ?_;have hv:=Ex.vOwn_eq qb x;have hle:x.args.length≤B50:=(Ex.ok_args hx).1;unfold B50 at hle;generalize x.vOwn qb=r at hv ⊢;simp only[c192,←zx];have hv':r=false:=by rw[hv];simp[h1,h2,h3,h4,h5,h6,h7,h8,h9,h10,h11]
 simp[qw,ldS,stS,qc,qf,ql,qh,h1,h2,h3,h4,h5,h6,h7,h8,h9,h10,h11];exact qt x false 0 0 0 0 ⟨⟨[]⟩⟩ r (by simp) (by rw[hv'];rfl)
theorem qlR(x:Ex)(hx:x.ok):∀S,Fn prog 192 [x.v] S (.bool (x.vOwn qb)):=by
 by_cases h1:x.kind=1
 ·exact qfl x hx h1
 by_cases h2:x.kind=2
 ·exact qge x hx h2
 by_cases h3:x.kind=3
 ·exact qfx x hx h3
 by_cases h4:x.kind=4
 ·exact qeN x hx h4
 by_cases h5:x.kind=5
 ·exact qfY x hx h5
 by_cases h6:x.kind=6
 ·exact qgr x hx h6
 by_cases h7:x.kind=7
 ·exact qeL x hx h7
 by_cases h8:x.kind=8
 ·exact qgR x hx h8
 by_cases h9:x.kind=9
 ·exact qfA x hx h9
 by_cases h10:x.kind=10
 ·exact qen x hx h10
 by_cases h11:x.kind=11
 ·exact qea x hx h11
 exact qdq x hx h1 h2 h3 h4 h5 h6 h7 h8 h9 h10 h11
noncomputable def qbE:C':=(.seq (.draw [.p (.m 146 6) [],
 .p (.m 147 146) [0],
 .p (.v 148 147 true (.fa 0 (.t 1))) [1,0],
 .p (.M 149 147 true 148) [2,1,0],
 .q (.v 150 147 true (.call (.f 223) [(.t 149)])) true false [3,2,1,0] 0 0,
 .q (.y 151 147 150) false false [4,3,2,1,0] 1 1,
 .q (.m 152 151) false false [5,4,3,2,1,0] 1 1,
 .q (.v 153 152 true (.ld (some 8) (.t 1))) false false [6,5,4,3,2,1,0] 1 1,
 .q (.v 154 152 true (.call (.f 113) [(.t 153)])) true false [7,6,5,4,3,2,1,0] 1 1,
 .q (.v 155 152 true (.ld (some 8) (.t 3))) false true [6,5,4,3,2,1,0] 1 2,
 .q (.v 156 152 true (.call (.f 113) [(.t 155)])) true false [9,8,7,6,5,4,3,2,1,0] 2 2,
 .q (.v 157 152 true (.call (.f 195) [(.t 154),(.t 156)])) true false [10,9,8,7,6,5,4,3,2,1,0] 3 3,
 .q (.y 158 152 157) false false [11,10,9,8,7,6,5,4,3,2,1,0] 4 4,
 .q (.m 2 158) false false [12,11,10,9,8,7,6,5,4,3,2,1,0] 4 4] [])
 (.ret))
theorem zZ:qbE=(.seq (.draw [.p (.m 146 6) [],
 .p (.m 147 146) [0],
 .p (.v 148 147 true (.fa 0 (.t 1))) [1,0],
 .p (.M 149 147 true 148) [2,1,0],
 .q (.v 150 147 true (.call (.f 223) [(.t 149)])) true false [3,2,1,0] 0 0,
 .q (.y 151 147 150) false false [4,3,2,1,0] 1 1,
 .q (.m 152 151) false false [5,4,3,2,1,0] 1 1,
 .q (.v 153 152 true (.ld (some 8) (.t 1))) false false [6,5,4,3,2,1,0] 1 1,
 .q (.v 154 152 true (.call (.f 113) [(.t 153)])) true false [7,6,5,4,3,2,1,0] 1 1,
 .q (.v 155 152 true (.ld (some 8) (.t 3))) false true [6,5,4,3,2,1,0] 1 2,
 .q (.v 156 152 true (.call (.f 113) [(.t 155)])) true false [9,8,7,6,5,4,3,2,1,0] 2 2,
 .q (.v 157 152 true (.call (.f 195) [(.t 154),(.t 156)])) true false [10,9,8,7,6,5,4,3,2,1,0] 3 3,
 .q (.y 158 152 157) false false [11,10,9,8,7,6,5,4,3,2,1,0] 4 4,
 .q (.m 2 158) false false [12,11,10,9,8,7,6,5,4,3,2,1,0] 4 4] [])
 (.ret)):=rfl
noncomputable def qb7:C':=(.seq (.draw [.p (.m 110 5) [],
 .p (.m 111 110) [0],
 .p (.v 112 111 true (.fa 3 (.t 1))) [1,0],
 .p (.M 113 111 true 112) [2,1,0],
 .q (.v 114 111 true (.call (.f 223) [(.t 113)])) true false [3,2,1,0] 0 0,
 .q (.y 115 111 114) false false [4,3,2,1,0] 1 1,
 .q (.m 116 115) false false [5,4,3,2,1,0] 1 1,
 .q (.v 117 116 true (.ld (some 7) (.t 1))) false false [6,5,4,3,2,1,0] 1 1,
 .q (.v 118 116 true (.call (.f 135) [(.t 117)])) true false [7,6,5,4,3,2,1,0] 1 1,
 .q (.v 119 116 true (.ld (some 7) (.t 3))) false true [6,5,4,3,2,1,0] 1 2,
 .q (.v 120 116 true (.call (.f 135) [(.t 119)])) true false [9,8,7,6,5,4,3,2,1,0] 2 2,
 .q (.v 121 116 true (.call (.f 195) [(.t 118),(.t 120)])) true false [10,9,8,7,6,5,4,3,2,1,0] 3 3,
 .q (.y 122 116 121) false false [11,10,9,8,7,6,5,4,3,2,1,0] 4 4,
 .q (.m 2 122) false false [12,11,10,9,8,7,6,5,4,3,2,1,0] 4 4] [])
 (.ret))
theorem QA:qb7=(.seq (.draw [.p (.m 110 5) [],
 .p (.m 111 110) [0],
 .p (.v 112 111 true (.fa 3 (.t 1))) [1,0],
 .p (.M 113 111 true 112) [2,1,0],
 .q (.v 114 111 true (.call (.f 223) [(.t 113)])) true false [3,2,1,0] 0 0,
 .q (.y 115 111 114) false false [4,3,2,1,0] 1 1,
 .q (.m 116 115) false false [5,4,3,2,1,0] 1 1,
 .q (.v 117 116 true (.ld (some 7) (.t 1))) false false [6,5,4,3,2,1,0] 1 1,
 .q (.v 118 116 true (.call (.f 135) [(.t 117)])) true false [7,6,5,4,3,2,1,0] 1 1,
 .q (.v 119 116 true (.ld (some 7) (.t 3))) false true [6,5,4,3,2,1,0] 1 2,
 .q (.v 120 116 true (.call (.f 135) [(.t 119)])) true false [9,8,7,6,5,4,3,2,1,0] 2 2,
 .q (.v 121 116 true (.call (.f 195) [(.t 118),(.t 120)])) true false [10,9,8,7,6,5,4,3,2,1,0] 3 3,
 .q (.y 122 116 121) false false [11,10,9,8,7,6,5,4,3,2,1,0] 4 4,
 .q (.m 2 122) false false [12,11,10,9,8,7,6,5,4,3,2,1,0] 4 4] [])
 (.ret)):=rfl
open Classical in
theorem qol(s t:Sm):EqP 1 1 s t De.z De.z El.z El.z Ex.z Ex.z↔YV s t∧EqS s t:=by
 unfold EqP qaq EqD EqX;simp
open Classical in
theorem qos(c d:De):EqP 2 2 Sm.z Sm.z c d El.z El.z Ex.z Ex.z↔c.formals=d.formals∧(c.exps.length=d.exps.length∧c.body.length=d.body.length)∧EqD c d:=by
 unfold EqP YV qaq EqS EqX;simp
theorem zW{α:Type}{l:List α}(q:α→Bool)(h:l.length=0):l.all q=true:=by
 rw[qqq h];rfl
open Classical in
theorem qG(s:Sm)(hs:s.ok)(ok:Bool)(t:Bz)(b3 b4 b5 b6 b7:Bool)(g e:List Ex)(f:List El)(d:List De)(b:List Sm)(r:Bool){E:Env}{S:St}
  (hS:S=[.arr [s.v] 8 1,.arr [.agg [.sl false (s.labels.map .str),.int .i64 s.kind,.str t,.sl b3 (g.map Ex.v),.sl b4 (e.map Ex.v),.sl b5 (f.map El.v),.sl b6 (d.map De.v),.sl b7 (b.map Sm.v)]] 8 1])
  (hr:r=(ok && (s.labels.all qb && (decide (s.targets.length=g.length) && decide (s.exps.length=e.length) && decide (s.elems.length=f.length) && decide (s.decls.length=d.length) && decide (s.body.length=b.length) && decide (s.text=t))))) (g1:E.get 1=some (.ptr 0 0 0 1):=by simp) (g3:E.get 3=some (.ptr 1 0 0 1):=by simp) (g6:E.get 6=some (.bool ok):=by simp):
  WP prog qbE (Z4 [.t 2] 0 fun v U=>v=.bool r∧U=[]) E S:=by
 subst hS;have hO:=(Sm.ok_iff s).1 hs
 have hy:V.weakL [V.agg [.sl false (s.labels.map .str),.int .i64 s.kind,.str t,.sl b3 (g.map Ex.v),.sl b4 (e.map Ex.v),.sl b5 (f.map El.v),.sl b6 (d.map De.v),.sl b7 (b.map Sm.v)]]=[(Sm.mk s.labels s.kind t g e f d b).v]:=by
  simp only[V.weakL,V.weak,wEx,wEl,wDe,wSm,kx];rw[Sm.v_eq];rfl
 have h113:=fun S=>qB.weakA (args:=[V.agg [.sl false (s.labels.map .str),.int .i64 s.kind,.str t,.sl b3 (g.map Ex.v),.sl b4 (e.map Ex.v),.sl b5 (f.map El.v),.sl b6 (d.map De.v),.sl b7 (b.map Sm.v)]]) (by rw[hy];exact JJ (Sm.mk s.labels s.kind t g e f d b) S)
 generalize hyy:Sm.mk s.labels s.kind t g e f d b=y at hy h113;simp only[qbE]
 cases ok with
 | false=>
  simp[g1,g3,g6,ldS,Qd,zA,zK];exact qa rfl (by rw[hr];rfl) rfl
 | true=>
  simp[g1,g3,g6,ldS];refine zt (qeP s.labels hO.labels.1 _) ?_
  cases hn:ZF s.labels qb with
  | false=>
   unfold ZF at hn;simp[g1,g3,g6,ldS,Qd,zA,zK];exact qa rfl (by rw[hr,hn];rfl) rfl
  | true=>
   unfold ZF at hn;simp[g1,ldS];refine zt (JJ s _) ?_;simp[g3,ldS,qf];refine zt (h113 _) ?_;simp;refine zt (kG 1 1 s y De.z De.z El.z El.z Ex.z Ex.z hs De.z_ok _) ?_;simp[Qd,zA,zK,g3,ldS,qf];refine qa rfl ?_ rfl;rw[hr,hn];simp only[qo,V.bool.injEq,qrM];rw[qqy,decide_eq_true_eq,qol,←hyy];rw[qp1,qp1,qp1,qp1,qp1,decide_eq_true_eq,decide_eq_true_eq,decide_eq_true_eq,decide_eq_true_eq,decide_eq_true_eq,decide_eq_true_eq];unfold YV EqS;constructor
   ·rintro ⟨⟨h1,h2,h3,h4,h5⟩,_,h6,_⟩;exact ⟨⟨⟨⟨⟨h1,h2⟩,h3⟩,h4⟩,h5⟩,h6⟩
   ·rintro ⟨⟨⟨⟨⟨h1,h2⟩,h3⟩,h4⟩,h5⟩,h6⟩;exact ⟨⟨h1,h2,h3,h4,h5⟩,rfl,h6,rfl⟩
open Classical in
theorem qQ(c:De)(hs:c.ok)(ok:Bool)(o:Bool)(t:Int)(b4 b5 b6:Bool)(e:List Ex)(f:List Fo)(b:List Sm)(r:Bool){E:Env}{S:St}
  (hS:S=[.arr [c.v] 7 1,.arr [.agg [.int .i64 c.kind,.bool o,.int .i64 t,.sl false (c.names.map .str),.sl b4 (e.map Ex.v),.sl b5 (f.map Fo.v),.sl b6 (b.map Sm.v)]] 7 1])
  (hr:r=(ok && (c.names.all qb && (decide (c.formals=f) && decide (c.exps.length=e.length) && decide (c.body.length=b.length) && decide (c.own=o) && decide (c.type=t))))) (g1:E.get 1=some (.ptr 0 0 0 1):=by simp) (g3:E.get 3=some (.ptr 1 0 0 1):=by simp) (g5:E.get 5=some (.bool ok):=by simp):
  WP prog qb7 (Z4 [.t 2] 0 fun v U=>v=.bool r∧U=[]) E S:=by
 subst hS;have hO:=(De.ok_iff c).1 hs
 have hy:V.weakL [V.agg [.int .i64 c.kind,.bool o,.int .i64 t,.sl false (c.names.map .str),.sl b4 (e.map Ex.v),.sl b5 (f.map Fo.v),.sl b6 (b.map Sm.v)]]=[(De.mk c.kind o t c.names e f b).v]:=by
  simp only[V.weakL,V.weak,wEx,wFo,wSm,kx];rw[De.v_eq];rfl
 have h135:=fun S=>qB.weakA (args:=[V.agg [.int .i64 c.kind,.bool o,.int .i64 t,.sl false (c.names.map .str),.sl b4 (e.map Ex.v),.sl b5 (f.map Fo.v),.sl b6 (b.map Sm.v)]]) (by rw[hy];exact qgz (De.mk c.kind o t c.names e f b) S)
 generalize hyy:De.mk c.kind o t c.names e f b=y at hy h135;simp only[qb7]
 cases ok with
 | false=>
  simp[g1,g3,g5,ldS,Qd,zA,zK];exact qa rfl (by rw[hr];rfl) rfl
 | true=>
  simp[g1,g3,g5,ldS];refine zt (qeP c.names hO.names.1 _) ?_
  cases hn:ZF c.names qb with
  | false=>
   unfold ZF at hn;simp[g1,g3,g5,ldS,Qd,zA,zK];exact qa rfl (by rw[hr,hn];rfl) rfl
  | true=>
   unfold ZF at hn;simp[g1,ldS];refine zt (qgz c _) ?_;simp[g3,ldS,qf];refine zt (h135 _) ?_;simp;refine zt (kG 2 2 Sm.z Sm.z c y El.z El.z Ex.z Ex.z Ex.z_ok hs _) ?_;simp[Qd,zA,zK,g3,ldS,qf];refine qa rfl ?_ rfl;rw[hr,hn];simp only[qo,V.bool.injEq,qrM];rw[qqy,decide_eq_true_eq,qos,←hyy];rw[qp1,qp1,qp1,qp1,decide_eq_true_eq,decide_eq_true_eq,decide_eq_true_eq,decide_eq_true_eq,decide_eq_true_eq];unfold EqD;constructor
   ·rintro ⟨h1,⟨h2,h3⟩,_,h4,h5,_⟩;exact ⟨⟨⟨⟨h1,h2⟩,h3⟩,h4⟩,h5⟩
   ·rintro ⟨⟨⟨⟨h1,h2⟩,h3⟩,h4⟩,h5⟩;exact ⟨h1,⟨h2,h3⟩,rfl,h4,h5,rfl⟩
theorem qj3(e:El):∀S,Fn prog 191 [e.v] S (.bool e.vOwn):=by
 refine Pu.ib func191 ok191 (by simp[c191]) (by simp[V.under]) rfl ?_;unfold El.vOwn;by_cases h1:e.kind=1
 ·by_cases hl:(e.exps.length:Int)=1
  ·simp[c191,qw,ldS,h1,hl];exact qa rfl (by simp[qo];omega) rfl
  ·simp[c191,qw,ldS,h1,hl];exact qa rfl (by simp[qo];omega) rfl
 by_cases h2:e.kind=2
 ·by_cases hl:(e.exps.length:Int)=3
  ·simp[c191,qw,ldS,h2,hl];exact qa rfl (by simp[qo];omega) rfl
  ·simp[c191,qw,ldS,h2,hl];exact qa rfl (by simp[qo];omega) rfl
 by_cases h3:e.kind=3
 ·simp[c191,qw,ldS,h3];exact qa rfl (by simp[qo];omega) rfl
 simp[c191,qw,ldS,h1,h2,h3];exact qa rfl rfl rfl
theorem qgu(s:Sm)(hs:s.ok)(hk:s.kind=1):∀S,Fn prog 189 [s.v] S (.bool (s.vOwn qb)):=by
 refine Pu.ib func189 ok189 (by simp[c189]) (by simp[V.under]) rfl ?_;have hO:=(Sm.ok_iff s).1 hs;have hv:=Sm.vOwn_1 qb s hk;simp only[qY,zp,zm,zl,zn] at hv;have hnt:=qr s.text;generalize s.vOwn qb=r at hv ⊢;simp only[c189,←zZ];simp[qw,ldS,stS,qc,qf,ql,qh,hk]
 exact qG s hs true ⟨⟨[]⟩⟩ true true true true true [] [] [] [] [] r (by simp[hk]) (by
  rw[hv];by_cases ht0:s.targets.length=0
  ·rw[zW Ex.tgt ht0];simp[hnt,true_and] <;> simp only[qqj,qqm,qqa]
  ·simp[hnt,show ¬ s.targets=[] from fun h=>ht0 (by rw[h];rfl),true_and])
theorem qgq(s:Sm)(hs:s.ok)(hk:s.kind=2):∀S,Fn prog 189 [s.v] S (.bool (s.vOwn qb)):=by
 refine Pu.ib func189 ok189 (by simp[c189]) (by simp[V.under]) rfl ?_;have hO:=(Sm.ok_iff s).1 hs;have hv:=Sm.vOwn_2 qb s hk;simp only[qY,zp,zm,zl,zn] at hv;have hnt:=qr s.text;generalize s.vOwn qb=r at hv ⊢;simp only[c189,←zZ];simp[qw,ldS,stS,qc,qf,ql,qh,hk];refine qj (qgt s.targets hO.targets.1 _) ?_;cases d1:ZF s.targets Ex.tgt && decide (0<s.targets.length)
 case false=>
  simp[qw,ldS,stS,qc,qf,ql,qh]
  exact qG s hs false ⟨⟨[]⟩⟩ false false true true true s.targets s.exps [] [] [] r (by simp[hk]) (by
   rw[hv];rw[qrr] at d1;rcases d1 with d1|d1
   ·unfold ZF at d1;simp[d1]
   ·have:s.targets.length=0:=by have:=of_decide_eq_false d1;omega
    simp[this])
 rw[qp1,decide_eq_true_eq] at d1;obtain ⟨da,db⟩:=d1;unfold ZF at da;by_cases d2:s.exps.length=1
 case neg=>
  simp[qw,ldS,stS,qc,qf,ql,qh,show ¬ ((s.exps.length:Int)=1) by omega]
  exact qG s hs false ⟨⟨[]⟩⟩ false false true true true s.targets s.exps [] [] [] r (by simp[hk]) (by
   rw[hv];simp[hnt,da,db,show ¬ s.targets=[] from fun h=>by rw[h] at db;simp at db,show 1≤s.targets.length from db,d2,not_false_eq_true,true_and] <;> simp only[qqj,qqm,qqa];)
 simp[qw,ldS,stS,qc,qf,ql,qh,show (s.exps.length:Int)=1 by omega]
 exact qG s hs true ⟨⟨[]⟩⟩ false false true true true s.targets s.exps [] [] [] r (by simp[hk]) (by
  rw[hv];simp[hnt,da,db,show ¬ s.targets=[] from fun h=>by rw[h] at db;simp at db,show 1≤s.targets.length from db,d2,true_and] <;> simp only[qqj,qqm,qqa];)
theorem qfj(s:Sm)(hs:s.ok)(hk:s.kind=3):∀S,Fn prog 189 [s.v] S (.bool (s.vOwn qb)):=by
 refine Pu.ib func189 ok189 (by simp[c189]) (by simp[V.under]) rfl ?_;have hO:=(Sm.ok_iff s).1 hs;have hv:=Sm.vOwn_3 qb s hk;simp only[qY,zp,zm,zl,zn] at hv;have hnt:=qr s.text;generalize s.vOwn qb=r at hv ⊢;simp only[c189,←zZ];by_cases d1:s.exps.length=1
 case neg=>
  simp[qw,ldS,stS,qc,qf,ql,qh,hk,show ¬ ((s.exps.length:Int)=1) by omega]
  exact qG s hs false ⟨⟨[]⟩⟩ true false true true true [] s.exps [] [] [] r (by simp[hk]) (by
   rw[hv];by_cases ht0:s.targets.length=0
   ·rw[zW Ex.tgt ht0];simp[hnt,d1,not_false_eq_true,true_and] <;> simp only[qqj,qqm,qqa]
   ·simp[hnt,show ¬ s.targets=[] from fun h=>ht0 (by rw[h];rfl),d1,not_false_eq_true,true_and])
 simp[qw,ldS,stS,qc,qf,ql,qh,hk,show (s.exps.length:Int)=1 by omega]
 exact qG s hs true ⟨⟨[]⟩⟩ true false true true true [] s.exps [] [] [] r (by simp[hk]) (by
  rw[hv];by_cases ht0:s.targets.length=0
  ·rw[zW Ex.tgt ht0];simp[hnt,d1,true_and] <;> simp only[qqj,qqm,qqa]
  ·simp[hnt,show ¬ s.targets=[] from fun h=>ht0 (by rw[h];rfl),d1,true_and])
theorem qgO(s:Sm)(hs:s.ok)(hk:s.kind=4):∀S,Fn prog 189 [s.v] S (.bool (s.vOwn qb)):=by
 refine Pu.ib func189 ok189 (by simp[c189]) (by simp[V.under]) rfl ?_;have hO:=(Sm.ok_iff s).1 hs;have hv:=Sm.vOwn_4 qb s hk;simp only[qY,zp,zm,zl,zn] at hv;have hnt:=qr s.text;generalize s.vOwn qb=r at hv ⊢;simp only[c189,←zZ];by_cases d1:s.exps.length=1
 case neg=>
  simp[qw,ldS,stS,qc,qf,ql,qh,hk,show ¬ ((s.exps.length:Int)=1) by omega]
  exact qG s hs false ⟨⟨[]⟩⟩ true false true true false [] s.exps [] [] s.body r (by simp[hk]) (by
   rw[hv];by_cases ht0:s.targets.length=0
   ·rw[zW Ex.tgt ht0];simp[hnt,d1,not_false_eq_true,true_and] <;> simp only[qqj,qqm,qqa]
   ·simp[hnt,show ¬ s.targets=[] from fun h=>ht0 (by rw[h];rfl),d1,not_false_eq_true,true_and])
 by_cases d2:1≤s.body.length
 case neg=>
  simp[qw,ldS,stS,qc,qf,ql,qh,hk,show (s.exps.length:Int)=1 by omega,show ¬ ((1:Int)≤(s.body.length:Int)) by omega]
  exact qG s hs false ⟨⟨[]⟩⟩ true false true true false [] s.exps [] [] s.body r (by simp[hk]) (by
   rw[hv];by_cases ht0:s.targets.length=0
   ·rw[zW Ex.tgt ht0];simp[hnt,d1,d2,not_false_eq_true,true_and] <;> simp only[qqj,qqm,qqa]
   ·simp[hnt,show ¬ s.targets=[] from fun h=>ht0 (by rw[h];rfl),d1,d2,not_false_eq_true,true_and])
 by_cases d3:s.body.length≤2
 case neg=>
  simp[qw,ldS,stS,qc,qf,ql,qh,hk,show (s.exps.length:Int)=1 by omega,show (1:Int)≤(s.body.length:Int) by omega,show ¬ ((s.body.length:Int)≤2) by omega]
  exact qG s hs false ⟨⟨[]⟩⟩ true false true true false [] s.exps [] [] s.body r (by simp[hk]) (by
   rw[hv];by_cases ht0:s.targets.length=0
   ·rw[zW Ex.tgt ht0];simp[hnt,d1,d2,d3,not_false_eq_true,true_and] <;> simp only[qqj,qqm,qqa]
   ·simp[hnt,show ¬ s.targets=[] from fun h=>ht0 (by rw[h];rfl),d1,d2,d3,not_false_eq_true,true_and])
 have hb0:0<s.body.length:=by omega
 have hno:=qf6 hb0;by_cases d4:s.body[0].kind=4
 case pos=>
  simp[qw,ldS,stS,qc,qf,ql,qh,hk,show (s.exps.length:Int)=1 by omega,show (1:Int)≤(s.body.length:Int) by omega,show (s.body.length:Int)≤2 by omega,qdO hb0,d4]
  exact qG s hs false ⟨⟨[]⟩⟩ true false true true false [] s.exps [] [] s.body r (by simp[hk]) (by
   rw[hv];by_cases ht0:s.targets.length=0
   ·rw[zW Ex.tgt ht0];simp[hnt,d1,d2,d3,hno,d4,true_and] <;> simp only[qqj,qqm,qqa]
   ·simp[hnt,show ¬ s.targets=[] from fun h=>ht0 (by rw[h];rfl),d1,d2,d3,hno,d4,true_and])
 by_cases d5:s.body[0].kind=5
 case pos=>
  simp[qw,ldS,stS,qc,qf,ql,qh,hk,show (s.exps.length:Int)=1 by omega,show (1:Int)≤(s.body.length:Int) by omega,show (s.body.length:Int)≤2 by omega,qdO hb0,d4,d5]
  exact qG s hs false ⟨⟨[]⟩⟩ true false true true false [] s.exps [] [] s.body r (by simp[hk]) (by
   rw[hv];by_cases ht0:s.targets.length=0
   ·rw[zW Ex.tgt ht0];simp[hnt,d1,d2,d3,d4,hno,hno,d5,true_and] <;> simp only[qqj,qqm,qqa]
   ·simp[hnt,show ¬ s.targets=[] from fun h=>ht0 (by rw[h];rfl),d1,d2,d3,d4,hno,hno,d5,true_and])
 simp[qw,ldS,stS,qc,qf,ql,qh,hk,show (s.exps.length:Int)=1 by omega,show (1:Int)≤(s.body.length:Int) by omega,show (s.body.length:Int)≤2 by omega,qdO hb0,d4,d5]
 exact qG s hs true ⟨⟨[]⟩⟩ true false true true false [] s.exps [] [] s.body r (by simp[hk]) (by
  rw[hv];by_cases ht0:s.targets.length=0
  ·rw[zW Ex.tgt ht0];simp[hnt,d1,d2,d3,d4,hno,d5,true_and] <;> simp only[qqj,qqm,qqa]
  ·simp[hnt,show ¬ s.targets=[] from fun h=>ht0 (by rw[h];rfl),d1,d2,d3,d4,hno,d5,true_and])
theorem qeZ(s:Sm)(hs:s.ok)(hk:s.kind=5):∀S,Fn prog 189 [s.v] S (.bool (s.vOwn qb)):=by
 refine Pu.ib func189 ok189 (by simp[c189]) (by simp[V.under]) rfl ?_;have hO:=(Sm.ok_iff s).1 hs;have hv:=Sm.vOwn_5 qb s hk;simp only[qY,zp,zm,zl,zn] at hv;have hnt:=qr s.text;generalize s.vOwn qb=r at hv ⊢;simp only[c189,←zZ];simp[qw,ldS,stS,qc,qf,ql,qh,hk];refine qj (qgt s.targets hO.targets.1 _) ?_;cases d1:ZF s.targets Ex.tgt && decide (0<s.targets.length)
 case false=>
  simp[qw,ldS,stS,qc,qf,ql,qh]
  exact qG s hs false ⟨⟨[]⟩⟩ false true false true false s.targets [] s.elems [] s.body r (by simp[hk]) (by
   rw[hv];rw[qrr] at d1;rcases d1 with d1|d1
   ·unfold ZF at d1;simp[d1]
   ·have:s.targets.length=0:=by have:=of_decide_eq_false d1;omega
    simp[this])
 rw[qp1,decide_eq_true_eq] at d1;obtain ⟨da,db⟩:=d1;unfold ZF at da;by_cases d2:s.targets.length=1
 case neg=>
  simp[qw,ldS,stS,qc,qf,ql,qh,show ¬ ((s.targets.length:Int)=1) by omega]
  exact qG s hs false ⟨⟨[]⟩⟩ false true false true false s.targets [] s.elems [] s.body r (by simp[hk]) (by
   rw[hv];simp[hnt,da,db,show ¬ s.targets=[] from fun h=>by rw[h] at db;simp at db,show 1≤s.targets.length from db,d2,not_false_eq_true,true_and] <;> simp only[qqj,qqm,qqa];)
 by_cases d3:1≤s.elems.length
 case neg=>
  simp[qw,ldS,stS,qc,qf,ql,qh,show (s.targets.length:Int)=1 by omega,show ¬ ((1:Int)≤(s.elems.length:Int)) by omega]
  exact qG s hs false ⟨⟨[]⟩⟩ false true false true false s.targets [] s.elems [] s.body r (by simp[hk]) (by
   rw[hv];simp[hnt,da,db,show ¬ s.targets=[] from fun h=>by rw[h] at db;simp at db,show 1≤s.targets.length from db,d2,d3,not_false_eq_true,true_and] <;> simp only[qqj,qqm,qqa];)
 by_cases d4:s.body.length=1
 case neg=>
  simp[qw,ldS,stS,qc,qf,ql,qh,show (s.targets.length:Int)=1 by omega,show (1:Int)≤(s.elems.length:Int) by omega,show ¬ ((s.body.length:Int)=1) by omega]
  exact qG s hs false ⟨⟨[]⟩⟩ false true false true false s.targets [] s.elems [] s.body r (by simp[hk]) (by
   rw[hv];simp[hnt,da,db,show ¬ s.targets=[] from fun h=>by rw[h] at db;simp at db,show 1≤s.targets.length from db,d2,d3,d4,not_false_eq_true,true_and] <;> simp only[qqj,qqm,qqa];)
 simp[qw,ldS,stS,qc,qf,ql,qh,show (s.targets.length:Int)=1 by omega,show (1:Int)≤(s.elems.length:Int) by omega,show (s.body.length:Int)=1 by omega]
 exact qG s hs true ⟨⟨[]⟩⟩ false true false true false s.targets [] s.elems [] s.body r (by simp[hk]) (by
  rw[hv];simp[hnt,da,db,show ¬ s.targets=[] from fun h=>by rw[h] at db;simp at db,show 1≤s.targets.length from db,d2,d3,d4,true_and] <;> simp only[qqj,qqm,qqa];)
theorem qeT(s:Sm)(hs:s.ok)(hk:s.kind=6):∀S,Fn prog 189 [s.v] S (.bool (s.vOwn qb)):=by
 refine Pu.ib func189 ok189 (by simp[c189]) (by simp[V.under]) rfl ?_;have hO:=(Sm.ok_iff s).1 hs;have hv:=Sm.vOwn_6 qb s hk;simp only[qY,zp,zm,zl,zn] at hv;have hnt:=qr s.text;generalize s.vOwn qb=r at hv ⊢;simp only[c189,←zZ];simp[qw,ldS,stS,qc,qf,ql,qh,hk];refine qj (Qv s.text _) ?_;cases d1:qb s.text
 case false=>
  simp[qw,ldS,stS,qc,qf,ql,qh]
  exact qG s hs false s.text true false true true true [] s.exps [] [] [] r (by simp[hk]) (by
   rw[hv];by_cases ht0:s.targets.length=0
   ·rw[zW Ex.tgt ht0];simp[hnt,d1,true_and] <;> simp only[qqj,qqm,qqa]
   ·simp[hnt,show ¬ s.targets=[] from fun h=>ht0 (by rw[h];rfl),d1,true_and])
 by_cases d2:s.exps.length≤8
 case neg=>
  simp[qw,ldS,stS,qc,qf,ql,qh,show ¬ ((s.exps.length:Int)≤8) by omega]
  exact qG s hs false s.text true false true true true [] s.exps [] [] [] r (by simp[hk]) (by
   rw[hv];by_cases ht0:s.targets.length=0
   ·rw[zW Ex.tgt ht0];simp[hnt,d1,d2,not_false_eq_true,true_and] <;> simp only[qqj,qqm,qqa]
   ·simp[hnt,show ¬ s.targets=[] from fun h=>ht0 (by rw[h];rfl),d1,d2,not_false_eq_true,true_and])
 simp[qw,ldS,stS,qc,qf,ql,qh,show (s.exps.length:Int)≤8 by omega]
 exact qG s hs true s.text true false true true true [] s.exps [] [] [] r (by simp[hk]) (by
  rw[hv];by_cases ht0:s.targets.length=0
  ·rw[zW Ex.tgt ht0];simp[hnt,d1,d2,true_and] <;> simp only[qqj,qqm,qqa]
  ·simp[hnt,show ¬ s.targets=[] from fun h=>ht0 (by rw[h];rfl),d1,d2,true_and])
theorem qfn(s:Sm)(hs:s.ok)(hk:s.kind=7):∀S,Fn prog 189 [s.v] S (.bool (s.vOwn qb)):=by
 refine Pu.ib func189 ok189 (by simp[c189]) (by simp[V.under]) rfl ?_;have hO:=(Sm.ok_iff s).1 hs;have hv:=Sm.vOwn_7 qb s hk;simp only[qY,zp,zm,zl,zn] at hv;have hnt:=qr s.text;generalize s.vOwn qb=r at hv ⊢;simp only[c189,←zZ];by_cases d1:1≤s.decls.length
 case neg=>
  simp[qw,ldS,stS,qc,qf,ql,qh,hk,show ¬ ((1:Int)≤(s.decls.length:Int)) by omega]
  exact qG s hs false ⟨⟨[]⟩⟩ true true true false false [] [] [] s.decls s.body r (by simp[hk]) (by
   rw[hv];by_cases ht0:s.targets.length=0
   ·rw[zW Ex.tgt ht0];simp[hnt,d1,not_false_eq_true,true_and] <;> simp only[qqj,qqm,qqa]
   ·simp[hnt,show ¬ s.targets=[] from fun h=>ht0 (by rw[h];rfl),d1,not_false_eq_true,true_and])
 by_cases d2:1≤s.body.length
 case neg=>
  simp[qw,ldS,stS,qc,qf,ql,qh,hk,show (1:Int)≤(s.decls.length:Int) by omega,show ¬ ((1:Int)≤(s.body.length:Int)) by omega]
  exact qG s hs false ⟨⟨[]⟩⟩ true true true false false [] [] [] s.decls s.body r (by simp[hk]) (by
   rw[hv];by_cases ht0:s.targets.length=0
   ·rw[zW Ex.tgt ht0];simp[hnt,d1,d2,not_false_eq_true,true_and] <;> simp only[qqj,qqm,qqa]
   ·simp[hnt,show ¬ s.targets=[] from fun h=>ht0 (by rw[h];rfl),d1,d2,not_false_eq_true,true_and])
 simp[qw,ldS,stS,qc,qf,ql,qh,hk,show (1:Int)≤(s.decls.length:Int) by omega,show (1:Int)≤(s.body.length:Int) by omega]
 exact qG s hs true ⟨⟨[]⟩⟩ true true true false false [] [] [] s.decls s.body r (by simp[hk]) (by
  rw[hv];by_cases ht0:s.targets.length=0
  ·rw[zW Ex.tgt ht0];simp[hnt,d1,d2,true_and] <;> simp only[qqj,qqm,qqa]
  ·simp[hnt,show ¬ s.targets=[] from fun h=>ht0 (by rw[h];rfl),d1,d2,true_and])
theorem qg3(s:Sm)(hs:s.ok)(hk:s.kind=8):∀S,Fn prog 189 [s.v] S (.bool (s.vOwn qb)):=by
 refine Pu.ib func189 ok189 (by simp[c189]) (by simp[V.under]) rfl ?_;have hO:=(Sm.ok_iff s).1 hs;have hv:=Sm.vOwn_8 qb s hk;simp only[qY,zp,zm,zl,zn] at hv;have hnt:=qr s.text;generalize s.vOwn qb=r at hv ⊢;simp only[c189,←zZ];by_cases d1:1≤s.body.length
 case neg=>
  simp[qw,ldS,stS,qc,qf,ql,qh,hk,show ¬ ((1:Int)≤(s.body.length:Int)) by omega]
  exact qG s hs false ⟨⟨[]⟩⟩ true true true true false [] [] [] [] s.body r (by simp[hk]) (by
   rw[hv];by_cases ht0:s.targets.length=0
   ·rw[zW Ex.tgt ht0];simp[hnt,d1,not_false_eq_true,true_and] <;> simp only[qqj,qqm,qqa]
   ·simp[hnt,show ¬ s.targets=[] from fun h=>ht0 (by rw[h];rfl),d1,not_false_eq_true,true_and])
 simp[qw,ldS,stS,qc,qf,ql,qh,hk,show (1:Int)≤(s.body.length:Int) by omega]
 exact qG s hs true ⟨⟨[]⟩⟩ true true true true false [] [] [] [] s.body r (by simp[hk]) (by
  rw[hv];by_cases ht0:s.targets.length=0
  ·rw[zW Ex.tgt ht0];simp[hnt,d1,true_and] <;> simp only[qqj,qqm,qqa]
  ·simp[hnt,show ¬ s.targets=[] from fun h=>ht0 (by rw[h];rfl),d1,true_and])
theorem qdr(s:Sm)(hs:s.ok)(h:¬ (1≤s.kind∧s.kind≤8)):∀S,Fn prog 189 [s.v] S (.bool (s.vOwn qb)):=by
 refine Pu.ib func189 ok189 (by simp[c189]) (by simp[V.under]) rfl ?_;have hO:=(Sm.ok_iff s).1 hs;have hv:=Sm.vOwn_no qb s h;have hnt:=qr s.text;generalize s.vOwn qb=r at hv ⊢;simp only[c189,←zZ];simp[qw,ldS,stS,qc,qf,ql,qh,show ¬ s.kind=1 by omega,show ¬ s.kind=2 by omega,show ¬ s.kind=3 by omega,show ¬ s.kind=4 by omega,show ¬ s.kind=5 by omega,show ¬ s.kind=6 by omega,show ¬ s.kind=7 by omega,show ¬ s.kind=8 by omega];exact qG s hs false ⟨⟨[]⟩⟩ true true true true true [] [] [] [] [] r (by simp) (by rw[hv];rfl)
theorem qmn(s:Sm)(hs:s.ok):∀S,Fn prog 189 [s.v] S (.bool (s.vOwn qb)):=by
 by_cases h1:s.kind=1
 ·exact qgu s hs h1
 by_cases h2:s.kind=2
 ·exact qgq s hs h2
 by_cases h3:s.kind=3
 ·exact qfj s hs h3
 by_cases h4:s.kind=4
 ·exact qgO s hs h4
 by_cases h5:s.kind=5
 ·exact qeZ s hs h5
 by_cases h6:s.kind=6
 ·exact qeT s hs h6
 by_cases h7:s.kind=7
 ·exact qfn s hs h7
 by_cases h8:s.kind=8
 ·exact qg3 s hs h8
 exact qdr s hs (by omega)
theorem qf4(d:De)(hs:d.ok)(hk:d.kind=1):∀S,Fn prog 190 [d.v] S (.bool (d.vOwn qb)):=by
 refine Pu.ib func190 ok190 (by simp[c190]) (by simp[V.under]) rfl ?_;have hO:=(De.ok_iff d).1 hs;have hv:=De.vOwn_1 qb d hk;simp only[qY,zp,zm,zl,zn,yc] at hv;generalize d.vOwn qb=r at hv ⊢;simp only[c190,←QA];simp[qw,ldS,stS,qc,qf,ql,qh,hk];refine qj (YQ _ _ _ _) ?_;by_cases d1:1≤d.type∧d.type≤3
 case neg=>
  rw[qK d1];simp[qw,ldS,stS,qc,qf,ql,qh]
  exact qQ d hs false d.own d.type true true true [] [] [] r (by simp[hk]) (by
   rw[hv];simp[d1,true_and] <;> simp only[qqj,qqm,qqa])
 rw[qN d1];by_cases d2:1≤d.names.length
 case neg=>
  simp[qw,ldS,stS,qc,qf,ql,qh,show ¬ ((1:Int)≤(d.names.length:Int)) by omega]
  exact qQ d hs false d.own d.type true true true [] [] [] r (by simp[hk]) (by
   rw[hv];simp[d1,d2,not_false_eq_true,true_and] <;> simp only[qqj,qqm,qqa])
 simp[qw,ldS,stS,qc,qf,ql,qh,show (1:Int)≤(d.names.length:Int) by omega]
 exact qQ d hs true d.own d.type true true true [] [] [] r (by simp[hk]) (by
  rw[hv];simp[d1,d2,true_and] <;> simp only[qqj,qqm,qqa])
theorem qeQ(d:De)(hs:d.ok)(hk:d.kind=2):∀S,Fn prog 190 [d.v] S (.bool (d.vOwn qb)):=by
 refine Pu.ib func190 ok190 (by simp[c190]) (by simp[V.under]) rfl ?_;have hO:=(De.ok_iff d).1 hs;have hv:=De.vOwn_2 qb d hk;simp only[qY,zp,zm,zl,zn,yc] at hv;generalize d.vOwn qb=r at hv ⊢;simp only[c190,←QA];simp[qw,ldS,stS,qc,qf,ql,qh,hk];refine qj (YQ _ _ _ _) ?_;by_cases d1:1≤d.type∧d.type≤3
 case neg=>
  rw[qK d1];simp[qw,ldS,stS,qc,qf,ql,qh]
  exact qQ d hs false d.own d.type false true true d.exps [] [] r (by simp[hk]) (by
   rw[hv];simp[d1,true_and] <;> simp only[qqj,qqm,qqa])
 rw[qN d1];by_cases d2:1≤d.names.length
 case neg=>
  simp[qw,ldS,stS,qc,qf,ql,qh,show ¬ ((1:Int)≤(d.names.length:Int)) by omega]
  exact qQ d hs false d.own d.type false true true d.exps [] [] r (by simp[hk]) (by
   rw[hv];simp[d1,d2,not_false_eq_true,true_and] <;> simp only[qqj,qqm,qqa])
 by_cases d3:2≤d.exps.length
 case neg=>
  simp[qw,ldS,stS,qc,qf,ql,qh,show (1:Int)≤(d.names.length:Int) by omega,show ¬ ((2:Int)≤(d.exps.length:Int)) by omega]
  exact qQ d hs false d.own d.type false true true d.exps [] [] r (by simp[hk]) (by
   rw[hv];simp[d1,d2,d3,not_false_eq_true,true_and] <;> simp only[qqj,qqm,qqa])
 have hmod:=qor d.exps.length;by_cases d4:d.exps.length % 2=0
 case neg=>
  simp[qw,ldS,stS,qc,qf,ql,qh,hmod,show (1:Int)≤(d.names.length:Int) by omega,show (2:Int)≤(d.exps.length:Int) by omega,show ¬ ((d.exps.length:Int) % 2=0) by omega]
  exact qQ d hs false d.own d.type false true true d.exps [] [] r (by simp[hk]) (by
   rw[hv];simp[d1,d2,d3,d4,true_and] <;> simp only[qqj,qqm,qqa])
 by_cases d5:d.exps.length≤8
 case neg=>
  simp[qw,ldS,stS,qc,qf,ql,qh,show (1:Int)≤(d.names.length:Int) by omega,show (2:Int)≤(d.exps.length:Int) by omega,hmod,show (d.exps.length:Int) % 2=0 by omega,show ¬ ((d.exps.length:Int)≤8) by omega]
  exact qQ d hs false d.own d.type false true true d.exps [] [] r (by simp[hk]) (by
   rw[hv];simp[d1,d2,d3,d4,d5,not_false_eq_true,true_and] <;> simp only[qqj,qqm,qqa])
 simp[qw,ldS,stS,qc,qf,ql,qh,show (1:Int)≤(d.names.length:Int) by omega,show (2:Int)≤(d.exps.length:Int) by omega,hmod,show (d.exps.length:Int) % 2=0 by omega,show (d.exps.length:Int)≤8 by omega]
 exact qQ d hs true d.own d.type false true true d.exps [] [] r (by simp[hk]) (by
  rw[hv];simp[d1,d2,d3,d4,d5,true_and] <;> simp only[qqj,qqm,qqa])
theorem qf0(d:De)(hs:d.ok)(hk:d.kind=3):∀S,Fn prog 190 [d.v] S (.bool (d.vOwn qb)):=by
 refine Pu.ib func190 ok190 (by simp[c190]) (by simp[V.under]) rfl ?_;have hO:=(De.ok_iff d).1 hs;have hv:=De.vOwn_3 qb d hk;simp only[qY,zp,zm,zl,zn,yc] at hv;generalize d.vOwn qb=r at hv ⊢;simp only[c190,←QA];by_cases d1:d.names.length=1
 case neg=>
  simp[qw,ldS,stS,qc,qf,ql,qh,hk,show ¬ ((d.names.length:Int)=1) by omega]
  exact qQ d hs false false 0 false true true d.exps [] [] r (by simp[hk]) (by
   rw[hv];simp[d1,not_false_eq_true,true_and] <;> simp only[qqj,qqm,qqa])
 by_cases d2:1≤d.exps.length
 case neg=>
  simp[qw,ldS,stS,qc,qf,ql,qh,hk,show (d.names.length:Int)=1 by omega,show ¬ ((1:Int)≤(d.exps.length:Int)) by omega]
  exact qQ d hs false false 0 false true true d.exps [] [] r (by simp[hk]) (by
   rw[hv];simp[d1,d2,not_false_eq_true,true_and] <;> simp only[qqj,qqm,qqa])
 simp[qw,ldS,stS,qc,qf,ql,qh,hk,show (d.names.length:Int)=1 by omega,show (1:Int)≤(d.exps.length:Int) by omega]
 exact qQ d hs true false 0 false true true d.exps [] [] r (by simp[hk]) (by
  rw[hv];simp[d1,d2,true_and] <;> simp only[qqj,qqm,qqa])
theorem qgX(d:De)(hs:d.ok)(hk:d.kind=4):∀S,Fn prog 190 [d.v] S (.bool (d.vOwn qb)):=by
 refine Pu.ib func190 ok190 (by simp[c190]) (by simp[V.under]) rfl ?_;have hO:=(De.ok_iff d).1 hs;have hv:=De.vOwn_4 qb d hk;simp only[qY,zp,zm,zl,zn,yc] at hv;generalize d.vOwn qb=r at hv ⊢;simp only[c190,←QA];simp[qw,ldS,stS,qc,qf,ql,qh,hk];refine qj (YQ _ _ _ _) ?_;by_cases d1:0≤d.type∧d.type≤3
 case neg=>
  rw[qK d1];simp[qw,ldS,stS,qc,qf,ql,qh]
  exact qQ d hs false false d.type true false false [] d.formals d.body r (by simp[hk]) (by
   rw[hv];simp[d1,true_and] <;> simp only[qqj,qqm,qqa])
 rw[qN d1];by_cases d2:d.names.length=1
 case neg=>
  simp[qw,ldS,stS,qc,qf,ql,qh,show ¬ ((d.names.length:Int)=1) by omega]
  exact qQ d hs false false d.type true false false [] d.formals d.body r (by simp[hk]) (by
   rw[hv];simp[d1,d2,not_false_eq_true,true_and] <;> simp only[qqj,qqm,qqa])
 simp[qw,ldS,stS,qc,qf,ql,qh,show (d.names.length:Int)=1 by omega];refine qj (qkI d.formals hO.formals.1 _) ?_;cases d3:(zV qb d.formals [] && decide (d.formals.length≤8))
 case false=>
  simp[qw,ldS,stS,qc,qf,ql,qh];rw[qrr] at d3;rcases d3 with d3|d3
  ·skip
   exact qQ d hs false false d.type true false false [] d.formals d.body r (by simp[hk]) (by
    rw[hv];simp[d1,d2,d3,true_and] <;> simp only[qqj,qqm,qqa])
  ·have hf8:¬ d.formals.length≤8:=of_decide_eq_false d3
   exact qQ d hs false false d.type true false false [] d.formals d.body r (by simp[hk]) (by
    rw[hv];simp[d1,d2,hf8,true_and] <;> simp only[qqj,qqm,qqa])
 rw[qp1,decide_eq_true_eq] at d3;obtain ⟨da,db⟩:=d3;by_cases d4:d.body.length=1
 case neg=>
  simp[qw,ldS,stS,qc,qf,ql,qh,show ¬ ((d.body.length:Int)=1) by omega]
  exact qQ d hs false false d.type true false false [] d.formals d.body r (by simp[hk]) (by
   rw[hv];simp[d1,d2,da,db,d4,not_false_eq_true,true_and] <;> simp only[qqj,qqm,qqa])
 simp[qw,ldS,stS,qc,qf,ql,qh,show (d.body.length:Int)=1 by omega]
 exact qQ d hs true false d.type true false false [] d.formals d.body r (by simp[hk]) (by
  rw[hv];simp[d1,d2,da,db,d4,true_and] <;> simp only[qqj,qqm,qqa])
theorem qeg(d:De)(hs:d.ok)(h:¬ (1≤d.kind∧d.kind≤4)):∀S,Fn prog 190 [d.v] S (.bool (d.vOwn qb)):=by
 refine Pu.ib func190 ok190 (by simp[c190]) (by simp[V.under]) rfl ?_;have hO:=(De.ok_iff d).1 hs;have hv:=De.vOwn_no qb d h;generalize d.vOwn qb=r at hv ⊢;simp only[c190,←QA];simp[qw,ldS,stS,qc,qf,ql,qh,show ¬ d.kind=1 by omega,show ¬ d.kind=2 by omega,show ¬ d.kind=3 by omega,show ¬ d.kind=4 by omega];exact qQ d hs false false 0 true true true [] [] [] r (by simp) (by rw[hv];rfl)
theorem qj5(d:De)(hs:d.ok):∀S,Fn prog 190 [d.v] S (.bool (d.vOwn qb)):=by
 by_cases h1:d.kind=1
 ·exact qf4 d hs h1
 by_cases h2:d.kind=2
 ·exact qeQ d hs h2
 by_cases h3:d.kind=3
 ·exact qf0 d hs h3
 by_cases h4:d.kind=4
 ·exact qgX d hs h4
 exact qeg d hs (by omega)
theorem qjA:∀(k:Nat) (p:Pa),p.wt≤k→p.ok→p.size≤2000→∀S,Fn prog 160 [p.v] S (.bool (p.valid qb)):=by
 intro k
 induction k with
 | zero=>intro p h;exfalso;cases p with
  | st s=>cases s;simp[Pa.wt] at h
  | de s=>cases s;simp[Pa.wt] at h
  | el s=>cases s;simp[Pa.wt] at h
  | ex s=>cases s;simp[Pa.wt] at h
 | succ k ih=>
  intro p hw hp hsz;refine Pu.ib func160 ok160 (by simp[c160]) (by simp) rfl ?_;have hs:=p.size_eq;have hlen:=qT p.kids;have hown:=p.own_pos;have hve:=Pa.valid_eq qb p;generalize hr:p.valid qb=r at hve ⊢;have rest:∀(E:Env) (S:St),E.get 3=some (.bool (p.vOwn qb))→E.get 1=some (.ptr 0 0 0 1)→S[0]?=some (.arr [p.v] 25 1)→
    WP prog (match c160.body with|.seq _ (.seq _ (.seq _ b))=>b|x=>x) (Z4 [.t 2] 0 fun v U=>v=.bool r∧U=[]) E S:=by
   intro E S g3 g1 h0;simp[c160,g1,ldS,h0];refine qj (jk p hp (by omega) _) ?_;simp;refine qE (fun e U=>e.get 3=some (.bool r)) ?_ ?_;rotate_left
   ·rintro e U g;simp[g];exact qa (vs:=[.bool r]) (by simp) rfl rfl
   refine qq (fun j e S'=>∃i:Nat,j=p.kids.length - i∧i≤p.kids.length∧
    e=[(5,.int .i64 i),(4,.sl false (p.kids.map Pa.v)),(3,.bool (p.vOwn qb && ZF (p.kids.take i) (Pa.valid qb)))]) p.kids.length _ ?_ ⟨0,by simp,by omega,rfl⟩ ?_
   ·have hz:ZF [] (Pa.valid qb)=true:=rfl
    repeat' first|exact Env.sub_nil _|refine Env.sub_cons (by simp[g3,hz]) ?_
   rintro j e S' ⟨i,rfl,hi,rfl⟩
   have hrest:p.vOwn qb=true→ZF (p.kids.take i) (Pa.valid qb)=false→r=false:=fun _ h=>by
    rw[hve];unfold ZF at h
    cases ha:p.kids.all (Pa.valid qb) with
    | false=>simp
    | true=>
     rw[qqi] at ha;have:(p.kids.take i).all (Pa.valid qb)=true:=qqi.2 fun q hq=>ha q (List.mem_of_mem_take hq)
     rw[this] at h;cases h
   by_cases h:i<p.kids.length
   ·cases ho:p.vOwn qb with
    | false=>
     simp[h];rw[hve,ho];rfl
    | true=>
     cases hq:ZF (p.kids.take i) (Pa.valid qb) with
     | false=>
      simp[h];rw[hrest ho hq]
     | true=>
      have hk:=Pa.kid_lt (qp5 h);have q2:=zb (l:=p.kids) (i:=i) (q:=p.kids[i]) (by simp[h]);simp[h,qoa];refine qj (ih p.kids[i] (by omega) (Pa.kid_ok hp (qp5 h)) (by omega) _) ?_;simp[qO (n:=(i:Int)+1)];refine ⟨_,?_,_,?_,i+1,rfl,by omega,rfl⟩
      ·omega
      ·have ha:ZF (p.kids.take (i+1)) (Pa.valid qb)=p.kids[i].valid qb:=by
        unfold ZF at *;rw[qp9,qpZ h,List.all_append,hq];simp
       exact Env.sub_cons (k:=5) (v:=.int .i64 (i+1:Nat)) (by simp) (Env.sub_cons (k:=4) (v:=.sl false (p.kids.map Pa.v)) (by simp) (Env.sub_cons (k:=3) (v:=.bool (true && ZF (p.kids.take (i+1)) (Pa.valid qb))) (by simp[ha]) (Env.sub_nil _)))
   ·have:i=p.kids.length:=by omega
    subst this;simp;rw[hve];unfold ZF;rfl
  cases p with
  | st s=>
   have hown':(Pa.st s).vOwn qb=s.vOwn qb:=rfl;simp only[c160,C'.k] at rest ⊢;refine qC (fun E U=>E.get 1=some (.ptr 0 0 0 1)∧U=[.arr [(Pa.st s).v] 25 1]) (by simp[qw,z6]) ?_;rintro E U ⟨g1,rfl⟩;refine qC (fun E U=>E.get 1=some (.ptr 0 0 0 1)∧E.get 3=some (.bool false)∧U=[.arr [(Pa.st s).v] 25 1]) (by simp[g1]) ?_;rintro E U ⟨g1,g3,rfl⟩;refine qC (fun E U=>E.get 1=some (.ptr 0 0 0 1)∧E.get 3=some (.bool ((Pa.st s).vOwn qb))∧U=[.arr [(Pa.st s).v] 25 1]) ?_ ?_
   ·simp only[Pa.v,Pa.kind,Pa.toS,Pa.toD,Pa.toE,Pa.toX];simp[g1,ldS];refine qj (qmn s hp _) ?_;simp[g1,hown']
   rintro E U ⟨g1,g3,rfl⟩;exact rest E _ g3 g1 rfl
  | de d=>
   have hown':(Pa.de d).vOwn qb=d.vOwn qb:=rfl;simp only[c160,C'.k] at rest ⊢;refine qC (fun E U=>E.get 1=some (.ptr 0 0 0 1)∧U=[.arr [(Pa.de d).v] 25 1]) (by simp[qw,z6]) ?_;rintro E U ⟨g1,rfl⟩;refine qC (fun E U=>E.get 1=some (.ptr 0 0 0 1)∧E.get 3=some (.bool false)∧U=[.arr [(Pa.de d).v] 25 1]) (by simp[g1]) ?_;rintro E U ⟨g1,g3,rfl⟩;refine qC (fun E U=>E.get 1=some (.ptr 0 0 0 1)∧E.get 3=some (.bool ((Pa.de d).vOwn qb))∧U=[.arr [(Pa.de d).v] 25 1]) ?_ ?_
   ·simp only[Pa.v,Pa.kind,Pa.toS,Pa.toD,Pa.toE,Pa.toX];simp[g1,ldS];refine qj (qj5 d hp _) ?_;simp[g1,hown']
   rintro E U ⟨g1,g3,rfl⟩;exact rest E _ g3 g1 rfl
  | el e=>
   have hown':(Pa.el e).vOwn qb=e.vOwn:=rfl;simp only[c160,C'.k] at rest ⊢;refine qC (fun E U=>E.get 1=some (.ptr 0 0 0 1)∧U=[.arr [(Pa.el e).v] 25 1]) (by simp[qw,z6]) ?_;rintro E U ⟨g1,rfl⟩;refine qC (fun E U=>E.get 1=some (.ptr 0 0 0 1)∧E.get 3=some (.bool false)∧U=[.arr [(Pa.el e).v] 25 1]) (by simp[g1]) ?_;rintro E U ⟨g1,g3,rfl⟩;refine qC (fun E U=>E.get 1=some (.ptr 0 0 0 1)∧E.get 3=some (.bool ((Pa.el e).vOwn qb))∧U=[.arr [(Pa.el e).v] 25 1]) ?_ ?_
   ·simp only[Pa.v,Pa.kind,Pa.toS,Pa.toD,Pa.toE,Pa.toX];simp[g1,ldS];refine qj (qj3 e _) ?_;simp[g1,hown']
   rintro E U ⟨g1,g3,rfl⟩;exact rest E _ g3 g1 rfl
  | ex x=>
   have hown':(Pa.ex x).vOwn qb=x.vOwn qb:=rfl;simp only[c160,C'.k] at rest ⊢;refine qC (fun E U=>E.get 1=some (.ptr 0 0 0 1)∧U=[.arr [(Pa.ex x).v] 25 1]) (by simp[qw,z6]) ?_;rintro E U ⟨g1,rfl⟩;refine qC (fun E U=>E.get 1=some (.ptr 0 0 0 1)∧E.get 3=some (.bool false)∧U=[.arr [(Pa.ex x).v] 25 1]) (by simp[g1]) ?_;rintro E U ⟨g1,g3,rfl⟩;refine qC (fun E U=>E.get 1=some (.ptr 0 0 0 1)∧E.get 3=some (.bool ((Pa.ex x).vOwn qb))∧U=[.arr [(Pa.ex x).v] 25 1]) ?_ ?_
   ·simp only[Pa.v,Pa.kind,Pa.toS,Pa.toD,Pa.toE,Pa.toX];simp[g1,ldS];refine qj (qlR x hp _) ?_;simp[g1,hown']
   rintro E U ⟨g1,g3,rfl⟩;exact rest E _ g3 g1 rfl
theorem qkZ(p:Pa)(hp:p.ok):∀S,Fn prog 112 [p.v] S (.int .i64 (p.err qb)):=by
 refine Pu.ib func112 ok112 (by simp[c112]) (by simp) rfl ?_;simp[c112,qw,ldS];refine qj (qbu p hp _) ?_;unfold Pa.err;by_cases hf:p.fits
 ·simp[hf,ldS];refine qj (qjA _ p (qp0 _) hp hf.1 _) ?_
  cases hv:p.valid qb with
  | true=>
   simp;exact qa rfl rfl rfl
  | false=>
   simp;exact qa rfl rfl rfl
 ·simp[hf,ldS];exact qa rfl rfl rfl
theorem qnt(s:Sm)(hs:s.ok):∀S,Fn prog 63 [s.v] S (.int .i64 ((Pa.st s).err qb)):=by
 refine Pu.ib func63 ok63 (by simp[c63]) (by simp[V.under]) rfl ?_;simp[c63,qw,ldS];refine qj (JJ s _) ?_;simp;refine qj (qkZ (.st s) hs _) ?_;simp;exact qa rfl rfl rfl
theorem qiZ(s:Sm)(hs:s.ok):∀S,Fn prog 20 [s.v] S (.int .i64 ((Pa.st s).err qb)):=by
 refine Pu.ib func20 ok20 (by simp[c20]) (by simp[V.under]) rfl ?_;simp[c20,qw,ldS];refine qj (qnt s hs _) ?_;simp;exact qa rfl rfl rfl
def Pa.eqOwn(a b:Pa):Prop:=EqP a.kind b.kind a.toS b.toS a.toD b.toD a.toE b.toE a.toX b.toX
theorem Pa.eqOwn_refl(a:Pa):a.eqOwn a:=⟨⟨rfl,rfl⟩,⟨⟨rfl,rfl,rfl,rfl,rfl⟩,rfl,rfl,rfl,rfl⟩,⟨rfl,rfl,rfl⟩,⟨rfl,rfl,rfl,rfl⟩,rfl,rfl,rfl,rfl,⟨rfl,rfl⟩,rfl⟩
theorem Pa.eqOwn_kids{a b:Pa}(h:a.eqOwn b):a.kids.length=b.kids.length:=by
 obtain ⟨⟨hk,_⟩,⟨⟨h1,h2,h3,h4,h5⟩,h6,h7,h8,h9⟩,_⟩:=h;rw[ZA,ZA];cases a <;> cases b <;> simp only[Pa.kind,Pa.toS,Pa.toD,Pa.toE,Pa.toX] at * <;> omega
theorem yI{α β:Type}{f:α→β}(hf:∀x y,f x=f y→x=y):∀{l m:List α},l.map f=m.map f→l=m
 | [],[],_=>rfl
 | [],_::_,h=>by simp at h
 | _::_,[],h=>by simp at h
 | x::l,y::m,h=>by
  simp only[qqd,List.cons.injEq] at h;rw[hf x y h.1,yI hf h.2]
theorem Pa.eq_of{a b:Pa}(h:a.eqOwn b)(hk:a.kids=b.kids):a=b:=by
 obtain ⟨⟨hk0,hf⟩,⟨⟨h1,h2,h3,h4,h5⟩,h6,h7,h8,h9⟩,⟨s1,s2,s3⟩,⟨d1,d2,d3,d4⟩,e1,x1,x2,x3,⟨x4,x5⟩,x6⟩:=h;have iX:∀x y,Pa.ex x=Pa.ex y→x=y:=fun x y h=>by cases h;rfl
 have iS:∀x y,Pa.st x=Pa.st y→x=y:=fun x y h=>by cases h;rfl
 have iE:∀x y,Pa.el x=Pa.el y→x=y:=fun x y h=>by cases h;rfl
 have iD:∀x y,Pa.de x=Pa.de y→x=y:=fun x y h=>by cases h;rfl
 cases a with
 | st s=>
  cases b with
  | st t=>
   simp only[Pa.kids,Pa.toS] at *;obtain ⟨k1,hk⟩:=List.append_inj hk (by simp[h1]);obtain ⟨k2,hk⟩:=List.append_inj hk (by simp[h2]);obtain ⟨k3,hk⟩:=List.append_inj hk (by simp[h3]);obtain ⟨k4,k5⟩:=List.append_inj hk (by simp[h4]);have k1:=yI iX k1;have k2:=yI iX k2;have k3:=yI iE k3;have k4:=yI iD k4;have k5:=yI iS k5;cases s;cases t;simp only[Sm.labels,Sm.kind,Sm.text,Sm.targets,Sm.exps,Sm.elems,Sm.decls,Sm.body] at *;subst k1 k2 k3 k4 k5 s1 s2 s3;rfl
  | _=>simp[Pa.kind] at hk0
 | de s=>
  cases b with
  | de t=>
   simp only[Pa.kids,Pa.toD] at *;obtain ⟨k1,k2⟩:=List.append_inj hk (by simp[h6]);have k1:=yI iX k1;have k2:=yI iS k2;cases s;cases t;simp only[De.names,De.kind,De.own,De.type,De.exps,De.formals,De.body] at *;subst k1 k2 d1 d2 d3 d4 hf;rfl
  | _=>simp[Pa.kind] at hk0
 | el s=>
  cases b with
  | el t=>
   simp only[Pa.kids,Pa.toE] at *;have k1:=yI iX hk;cases s;cases t;simp only at *;subst k1 e1;rfl
  | _=>simp[Pa.kind] at hk0
 | ex s=>
  cases b with
  | ex t=>
   simp only[Pa.kids,Pa.toX] at *;have k1:=yI iX hk;cases s;cases t;simp only[Ex.kind,Ex.op,Ex.n,Ex.man,Ex.exp,Ex.text,Ex.args] at *;subst k1 x1 x2 x3 x4 x5 x6;rfl
  | _=>simp[Pa.kind] at hk0
theorem Pa.toS_ok{p:Pa}(h:p.ok):p.toS.ok:=by cases p <;> first|exact h|exact Ex.z_ok
theorem Pa.toD_ok{p:Pa}(h:p.ok):p.toD.ok:=by cases p <;> first|exact h|exact De.z_ok
theorem qhM{l m:List Pa}(hl:l.length=m.length)(h:∀j,j<l.length→l[j]?=m[j]?):l=m:=by
 apply qq9;intro i;by_cases hi:i<l.length
 ·exact h i hi
 ·rw[qqT (by omega),qqT (by omega)]
def qmA(l m:List Pa)(i:Nat):Prop:=∀j,j<i→l[j]?=m[j]?
open Classical in
theorem qjC:∀(k:Nat) (a b:Pa),a.wt≤k→a.ok→b.ok→a.size≤2000→b.size≤2000→∀S,Fn prog 164 [a.v,b.v] S (.bool (decide (a=b))):=by
 intro k
 induction k with
 | zero=>intro p q h;exfalso;cases p with
  | st s=>cases s;simp[Pa.wt] at h
  | de s=>cases s;simp[Pa.wt] at h
  | el s=>cases s;simp[Pa.wt] at h
  | ex s=>cases s;simp[Pa.wt] at h
 | succ k ih=>
  intro a b hw ha hb hsa hsb;refine Pu.ib func164 ok164 (by simp[c164]) (by simp) rfl ?_;have la:=a.size_eq;have lb:=b.size_eq;have la':=qT a.kids;have lb':=qT b.kids;have oa:=a.own_pos;have ob:=b.own_pos;generalize hr:decide (a=b)=r;simp[c164,qw,ldS];refine qj (kG a.kind b.kind a.toS b.toS a.toD b.toD a.toE b.toE a.toX b.toX (Pa.toS_ok ha) (Pa.toD_ok ha) _) ?_;change qdN prog _ _ _ _ (.bool (decide (a.eqOwn b))) _;by_cases he:a.eqOwn b
  case neg=>
   rw[decide_eq_false he];simp;refine qa rfl ?_ rfl;rw[←hr,decide_eq_false (fun h=>he (by rw[h];exact Pa.eqOwn_refl b))];rfl
  rw[decide_eq_true he];have hkl:=Pa.eqOwn_kids he;simp[ldS];refine qj (jk a ha (by omega) _) ?_;simp[ldS];refine qj (jk b hb (by omega) _) ?_;simp;refine qq (fun j e S'=>∃i:Nat,j=a.kids.length - i∧i≤a.kids.length∧qmA a.kids b.kids i∧
   e=[(7,.int .i64 i),(5,.sl false (a.kids.map Pa.v)),(6,.sl false (b.kids.map Pa.v))]) a.kids.length _ ?_ ⟨0,by simp,by omega,fun j hj=>by omega,rfl⟩ ?_
  ·exact Env.so (by simp)
  rintro j e S' ⟨i,rfl,hi,hq,rfl⟩;by_cases h:i<a.kids.length
  ·have h':i<b.kids.length:=by omega
   have hk:=Pa.kid_lt (qp5 h);have q1:=zb (l:=a.kids) (i:=i) (q:=a.kids[i]) (by simp[h]);have q2:=zb (l:=b.kids) (i:=i) (q:=b.kids[i]) (by simp[h']);simp[h,h',qoa];refine zt (ih a.kids[i] b.kids[i] (by omega) (Pa.kid_ok ha (qp5 h)) (Pa.kid_ok hb (qp5 h')) (by omega) (by omega) _) ?_;by_cases hx:a.kids[i]=b.kids[i]
   ·rw[decide_eq_true hx];simp[Qd,zA,zK,qO (n:=(i:Int)+1)];refine ⟨_,?_,_,?_,i+1,rfl,by omega,?_,rfl⟩
    ·omega
    ·exact Env.so (by simp)
    ·intro j hj;by_cases hji:j=i
     ·subst hji;simp[h,h',hx]
     ·exact hq j (by omega)
   ·rw[decide_eq_false hx];simp[Qd,zA,zK];refine qa rfl ?_ rfl;rw[←hr,decide_eq_false (fun hh=>hx (by subst hh;rfl))];rfl
  ·have:i=a.kids.length:=by omega
   subst this;simp;refine qa rfl ?_ rfl;rw[←hr,decide_eq_true (Pa.eq_of he (qhM hkl hq))];rfl
open Classical in
theorem qjs(a b:Pa)(ha:a.ok)(hb:b.ok)(fa:a.fits)(fb:b.fits):∀S,Fn prog 118 [a.v,b.v] S (.bool (decide (a=b))):=by
 refine Pu.ib func118 ok118 (by simp[c118]) (by simp) rfl ?_;simp[c118,qw,ldS];refine qj (qbu a ha _) ?_;simp[fa,ldS];refine qj (qbu b hb _) ?_;simp[fb,ldS];refine qj (qjC _ a b (qp0 _) ha hb fa.1 fb.1 _) ?_;simp;exact qa rfl rfl rfl
open Classical in
theorem qnV(a b:Sm)(ha:a.ok)(hb:b.ok)(fa:(Pa.st a).fits)(fb:(Pa.st b).fits):∀S,Fn prog 68 [a.v,b.v] S (.bool (decide (a=b))):=by
 refine Pu.ib func68 ok68 (by simp[c68]) (by simp[V.under]) rfl ?_;simp[c68,qw,ldS];refine zt (JJ a _) ?_;simp[ldS];refine zt (JJ b _) ?_;simp;refine zt (qjs (.st a) (.st b) ha hb fa fb _) ?_;simp[Qd,zA,zK,ldS];exact qa rfl (by simp[qo]) rfl
open Classical in
theorem qm0(a b:Sm)(ha:a.ok)(hb:b.ok)(fa:(Pa.st a).fits)(fb:(Pa.st b).fits):∀S,Fn prog 23 [a.v,b.v] S (.bool (decide (a=b))):=by
 refine Pu.ib func23 ok23 (by simp[c23]) (by simp[V.under]) rfl ?_;simp[c23,qw,ldS];refine qj (qnV a b ha hb fa fb _) ?_;simp;exact qa rfl rfl rfl
set_option maxRecDepth 20000
noncomputable def c256:F':=⟨47,[.cell 6 (some 7)],.k [.B 4 1,.o 6 (.new zD)] (.k [.m 10 0,.m 11 2,.j 12 7 4,.c 13 272 12,.x 14 157 10 11 13,.m 7 14] (.k [.f 15 5 4,.l 16 15,.c 17 273 16,.m 8 17] (.seq (.k [.m 18 8,.L 19 18,.G 20 0] (.block 0 (.loop (.k [.b 21 .lss 20 19] (.seq (.d 21 .skip (.exit 0)) (.seq (.block 1 (.k [.m 22 20,.m 9 22] (.reg [.m 23 8,.m 24 9,.m 25 7,.m 26 8,.m 27 9,.i 28 4 26 27,.f 29 0 28,.l 30 29,.w 31 60 25 30,.h 32 31,.f 33 2 32,.l 34 33,.i 35 4 23 24,.f 36 0 35,.s 1 36 34]))) (.reg [.u 37 .add 20 1,.m 20 37]))))))) (.k [.m 38 8,.f 39 5 4,.s 1 39 38] (.k [.m 40 0,.f 41 6 4,.l 42 41,.m 43 7,.x 44 111 40 42 43,.f 45 6 4,.s 1 45 44] (.k [.j 46 7 4,.s 7 6 46] .ret))))))⟩
theorem ok256:okF f256 c256:=okI
noncomputable def c272:F':=⟨4,[.t 2],.k [.B 1 0,.a 2 .nilfn] (.k [.o 3 (.mkf 277 [] [(.t 1)]),.m 2 3] .ret)⟩
theorem ok272:okF f272 c272:=okI
noncomputable def c273:F':=⟨8,[.t 2],.k [.a 2 (.sl true [])] (.seq (.k [.m 3 0,.o 4 (.ex (.eqn false (.t 3)))] (.d 4 (.k [.a 2 (.sl true [])] .ret) .skip)) (.k [.o 5 (.bsl 4 []),.m 6 0,.o 7 (.app 4 40 (.t 5) (.t 6)),.m 2 7] .ret))⟩
theorem ok273:okF f273 c273:=okI
noncomputable def c277:F':=⟨18,[],.k [.f 5 5 1,.l 6 5,.L 7 6,.G 8 0] (.block 0 (.loop (.k [.b 9 .lss 8 7] (.seq (.d 9 .skip (.exit 0)) (.seq (.block 1 (.k [.i 10 4 6 8,.j 11 4 10,.o 4 (.new zF),.s 4 4 11] (.k [.m 12 0,.f 13 0 4,.l 14 13,.o 15 (.call (.t 12) [(.t 14)]),.o 16 (.un .not (.t 15))] (.d 16 .ret .skip)))) (.reg [.u 17 .add 8 1,.m 8 17]))))))⟩
theorem ok277:okF f277 c277:=okI
end Go.Proofs.YtbifpocccfkhhaaGreatDoor

namespace Go.Proofs.YtbifpocccfkhhaaGreatDoor
open Go
structure Pw where
 H:Type
 f:Nat→Bz→Bz
 nm:Option (Ex→Scs→Bool→Ex)
 cl:Option (Bz→Scs→Bz)
 ent:H→Nat→Bz→H
 nmH:H→Ex→Scs→Bool→H
 clH:H→Bz→Scs→H
def Je(p:Pw)(sc:Scs)(x:Bz):Bz:=match sc.at x with
 | some k=>p.f k x
 | none=>x
def enters(p:Pw)(h:p.H)(s:Sco):p.H:=s.foldl (fun h e=>p.ent h e.2 e.1) h
def Pw.nmE(p:Pw)(sc:Scs)(tg:Bool)(x:Ex):Ex:=if Ex.named x.kind then match p.nm with
  | none=>.mk x.kind x.op x.n x.man x.exp (Je p sc x.text) x.args
  | some g=>g x sc tg
 else x
def Pw.nmS(p:Pw)(sc:Scs)(tg:Bool)(h:p.H)(x:Ex):p.H:=if Ex.named x.kind then match p.nm with
  | none=>h
  | some _=>p.nmH h x sc tg
 else h
mutual
def Ex.wr(p:Pw)(sc:Scs)(tg:Bool):Ex→Ex
 | .mk k o n m e t a=>p.nmE sc tg (.mk k o n m e t (Ex.wrl p sc false a))
def Ex.wrl(p:Pw)(sc:Scs)(tg:Bool):List Ex→List Ex
 | []=>[]
 | x::l=>Ex.wr p sc tg x::Ex.wrl p sc tg l
end
theorem Ex.wrl_map(p:Pw)(sc:Scs)(tg:Bool):∀l,Ex.wrl p sc tg l=l.map (Ex.wr p sc tg)
 | []=>rfl
 | x::l=>by rw[Ex.wrl,Ex.wrl_map p sc tg l];rfl
mutual
def Ex.hs(p:Pw)(sc:Scs)(tg:Bool)(h:p.H):Ex→p.H
 | .mk k o n m e t a=>p.nmS sc tg (Ex.hsl p sc false h a) (.mk k o n m e t (Ex.wrl p sc false a))
def Ex.hsl(p:Pw)(sc:Scs)(tg:Bool)(h:p.H):List Ex→p.H
 | []=>h
 | x::l=>Ex.hsl p sc tg (Ex.hs p sc tg h x) l
end
theorem Ex.hsl_append(p:Pw)(sc:Scs)(tg:Bool):∀(l m:List Ex) (h:p.H),Ex.hsl p sc tg h (l++m)=Ex.hsl p sc tg (Ex.hsl p sc tg h l) m
 | [],m,h=>rfl
 | x::l,m,h=>by simp only[qp7,Ex.hsl];exact Ex.hsl_append p sc tg l m _
def El.wr(p:Pw)(sc:Scs)(e:El):El:=⟨e.kind,Ex.wrl p sc false e.exps⟩
def El.hsl(p:Pw)(sc:Scs)(h:p.H)(l:List El):p.H:=l.foldl (fun h e=>Ex.hsl p sc false h e.exps) h
def Fo.wr(p:Pw)(sc:Scs)(x:Fo):Fo:=⟨Je p sc x.name,x.value,x.spec,x.type⟩
def Pw.clE(p:Pw)(sc:Scs)(k:Int)(t:Bz):Bz:=if k=6 then match p.cl with
  | none=>Je p sc t
  | some c=>c t sc
 else t
def Pw.clS(p:Pw)(sc:Scs)(k:Int)(h:p.H)(t:Bz):p.H:=if k=6 then match p.cl with
  | none=>h
  | some _=>p.clH h t sc
 else h
mutual
def Sm.wr(p:Pw)(sc:Scs)(n:Nat):Sm→Sm
 | .mk l k t g e h d b=>
  if k=7 then
   .mk (l.map (Je p sc)) k t (Ex.wrl p sc true g) e h (De.wrl p (qd (qg d b) n::sc) sc (n+(qd (qg d b) n).length) d) (Sm.wrl p (qd (qg d b) n::sc) (n+(qd (qg d b) n).length+De.nbl d) b)
  else if k=8 then
   .mk (l.map (Je p sc)) k t (Ex.wrl p sc true g) e h d (Sm.wrl p (qd (qk b) n::sc) (n+(qd (qk b) n).length) b)
  else .mk (l.map (Je p sc)) k (p.clE sc k t) (Ex.wrl p sc true g) (Ex.wrl p sc false e) (h.map (El.wr p sc)) d (Sm.wr1 p sc n b)
def De.wr(p:Pw)(own sc:Scs)(n:Nat):De→De
 | .mk k o t nm e fo b=>
  if k=4 then .mk k o t (nm.map (Je p own)) (Ex.wrl p own false e) (fo.map (Fo.wr p (qd (fo.map Fo.name) n::own))) (Sm.wr1 p (qd (fo.map Fo.name) n::own) (n+(qd (fo.map Fo.name) n).length) b)
  else .mk k o t (nm.map (Je p own)) (Ex.wrl p (if k=2 then sc else own) false e) fo b
def De.wrl(p:Pw)(own sc:Scs)(n:Nat):List De→List De
 | []=>[]
 | x::l=>De.wr p own sc n x::De.wrl p own sc (n+De.nb x) l
def Sm.wrl(p:Pw)(sc:Scs)(n:Nat):List Sm→List Sm
 | []=>[]
 | x::l=>Sm.wr p sc n x::Sm.wrl p sc (n+Sm.nb x) l
def Sm.wr1(p:Pw)(sc:Scs)(n:Nat):List Sm→List Sm
 | []=>[]
 | x::l=>Sm.wr p (qd x.labels n::sc) (n+(qd x.labels n).length) x::Sm.wr1 p sc (n+(qd x.labels n).length+Sm.nb x) l
end
mutual
def Sm.hs(p:Pw)(sc:Scs)(n:Nat)(h:p.H):Sm→p.H
 | .mk _ k t g e el d b=>
  if k=7 then
   Sm.hsl p (qd (qg d b) n::sc) (n+(qd (qg d b) n).length+De.nbl d) (De.hsl p (qd (qg d b) n::sc) sc (n+(qd (qg d b) n).length) (enters p (Ex.hsl p sc true h g) (qd (qg d b) n)) d) b
  else if k=8 then
   Sm.hsl p (qd (qk b) n::sc) (n+(qd (qk b) n).length) (enters p (Ex.hsl p sc true h g) (qd (qk b) n)) b
  else p.clS sc k (Sm.hs1 p sc n (El.hsl p sc (Ex.hsl p sc false (Ex.hsl p sc true h g) e) el) b) t
def De.hs(p:Pw)(own sc:Scs)(n:Nat)(h:p.H):De→p.H
 | .mk k _ _ _ e fo b=>
  if k=4 then Sm.hs1 p (qd (fo.map Fo.name) n::own) (n+(qd (fo.map Fo.name) n).length) (enters p (Ex.hsl p own false h e) (qd (fo.map Fo.name) n)) b
  else Ex.hsl p (if k=2 then sc else own) false h e
def De.hsl(p:Pw)(own sc:Scs)(n:Nat)(h:p.H):List De→p.H
 | []=>h
 | x::l=>De.hsl p own sc (n+De.nb x) (De.hs p own sc n h x) l
def Sm.hsl(p:Pw)(sc:Scs)(n:Nat)(h:p.H):List Sm→p.H
 | []=>h
 | x::l=>Sm.hsl p sc (n+Sm.nb x) (Sm.hs p sc n h x) l
def Sm.hs1(p:Pw)(sc:Scs)(n:Nat)(h:p.H):List Sm→p.H
 | []=>h
 | x::l=>Sm.hs1 p sc (n+(qd x.labels n).length+Sm.nb x) (Sm.hs p (qd x.labels n::sc) (n+(qd x.labels n).length) (enters p h (qd x.labels n)) x) l
end
def Sm.wholeR(p:Pw)(s:Sm):Sm:=s.wr p [qd s.labels 0] (qd s.labels 0).length
def Sm.wholeH(p:Pw)(h:p.H)(s:Sm):p.H:=s.hs p [qd s.labels 0] (qd s.labels 0).length (enters p h (qd s.labels 0))
theorem Sm.nbl_append:∀(l m:List Sm),Sm.nbl (l++m)=Sm.nbl l+Sm.nbl m
 | [],m=>by simp[Sm.nbl]
 | x::l,m=>by simp only[qp7,Sm.nbl,Sm.nbl_append l m];omega
theorem De.nbl_append:∀(l m:List De),De.nbl (l++m)=De.nbl l+De.nbl m
 | [],m=>by simp[De.nbl]
 | x::l,m=>by simp only[qp7,De.nbl,De.nbl_append l m];omega
theorem Sm.nb1_append:∀(l m:List Sm),Sm.nb1 (l++m)=Sm.nb1 l+Sm.nb1 m
 | [],m=>by simp[Sm.nb1]
 | x::l,m=>by simp only[qp7,Sm.nb1,Sm.nb1_append l m];omega
theorem Sm.wrl_append(p:Pw)(sc:Scs):∀(l m:List Sm) (n:Nat),Sm.wrl p sc n (l++m)=Sm.wrl p sc n l++Sm.wrl p sc (n+Sm.nbl l) m
 | [],m,n=>by simp[Sm.wrl,Sm.nbl]
 | x::l,m,n=>by simp only[qp7,Sm.wrl,Sm.nbl,Sm.wrl_append p sc l m,qqK]
theorem De.wrl_append(p:Pw)(own sc:Scs):∀(l m:List De) (n:Nat),De.wrl p own sc n (l++m)=De.wrl p own sc n l++De.wrl p own sc (n+De.nbl l) m
 | [],m,n=>by simp[De.wrl,De.nbl]
 | x::l,m,n=>by simp only[qp7,De.wrl,De.nbl,De.wrl_append p own sc l m,qqK]
theorem Sm.hsl_append(p:Pw)(sc:Scs):∀(l m:List Sm) (n:Nat) (h:p.H),Sm.hsl p sc n h (l++m)=Sm.hsl p sc (n+Sm.nbl l) (Sm.hsl p sc n h l) m
 | [],m,n,h=>by simp[Sm.hsl,Sm.nbl]
 | x::l,m,n,h=>by simp only[qp7,Sm.hsl,Sm.nbl,Sm.hsl_append p sc l m,qqK]
theorem De.hsl_append(p:Pw)(own sc:Scs):∀(l m:List De) (n:Nat) (h:p.H),De.hsl p own sc n h (l++m)=De.hsl p own sc (n+De.nbl l) (De.hsl p own sc n h l) m
 | [],m,n,h=>by simp[De.hsl,De.nbl]
 | x::l,m,n,h=>by simp only[qp7,De.hsl,De.nbl,De.hsl_append p own sc l m,qqK]
theorem QN(m:Nat):∀(l:List Bz) (s s':Sco) (n n':Nat),s.map (·.1)=s'.map (·.1)→(binds l s n).map (·.1)=(binds l s' n').map (·.1)
 | [],s,s',n,n',h=>h
 | x::l,s,s',n,n',h=>by
  have at_eq:∀(s s':Sco),s.map (·.1)=s'.map (·.1)→(s.at x).isSome=(s'.at x).isSome:=by
   intro s
   induction s with
   | nil=>intro s' h;cases s' with
    | nil=>rfl
    | cons e s'=>simp at h
   | cons e s ih=>
    intro s' h
    cases s' with
    | nil=>simp at h
    | cons e' s'=>
     simp only[qqd,List.cons.injEq] at h;have:=ih s' h.2;simp only[Sco.at,List.find?_cons,h.1] at this ⊢;by_cases hx:e'.1=x
     ·simp[hx]
     ·simp only[decide_eq_false hx];exact this
  simp only[binds];rw[at_eq s s' h];split
  ·exact QN m l s s' n n' h
  ·exact QN m l _ _ _ _ (by simp[h])
theorem zd(l:List Bz)(n n':Nat):(qd l n).length=(qd l n').length:=by
 have:=congrArg List.length (QN 0 l [] [] n n' rfl);rw[qp2,qp2] at this;exact this
structure Kg(F:Np)(S:St)(F':Np)(U:St):Prop where
 k:Kp F S U
 g:∀l,F' l→F l∨S.length≤l
theorem Kg.refl(F:Np)(S:St):Kg F S F S:=⟨Kp.refl _ _,fun _ h=>.inl h⟩
theorem Kg.trans{F G H:Np}{S T U:St}(h:Kg F S G T)(g:Kg G T H U):Kg F S H U:=
 ⟨⟨qqS h.k.len g.k.len,fun l hl hn=>by
  rw[g.k.get l (qqC hl h.k.len) fun hh=>(h.g l hh).elim hn (by omega)];exact h.k.get l hl hn⟩,fun l hh=>(g.g l hh).elim (h.g l) fun hl=>.inr (qqS h.k.len hl)⟩
theorem Kg.push{F G:Np}{S U:St}(h:Kg F S G U)(os:List Ob):Kg F S G (U++os):=⟨h.k.push os,h.g⟩
theorem Kg.set{F G:Np}{S U:St}(h:Kg F S G U){l:Nat}(o:Ob)(hl:F l∨S.length≤l):Kg F S G (U.set l o):=⟨h.k.set o hl,h.g⟩
theorem Kg.off{F G:Np}{S U:St}(h:Kg F S G U){l:Nat}(hl:l<S.length)(hf:¬ F l):¬ G l:=fun hg=>(h.g l hg).elim hf (by omega)
theorem Kg.with{F G:Np}{S U:St}(h:Kg F S G U)(L:Nat)(hl:L<S.length):Kg (fun x=>F x∨x=L) S (fun x=>G x∨x=L) U:=⟨h.k.mono fun _ _ h=>.inl h,fun l hh=>hh.elim (fun a=>(h.g l a).imp .inl id) fun e=>.inl (.inr e)⟩
def RG(F0:Np)(U0:St)(L:Nat)(i0:LI)(J1 Dr:Np→St→Prop)(De:Nat→Np→St→Prop):V→St→Prop:=fun v U=>∃F,Kg (fun x=>F0 x∨x=L) U0 (fun x=>F x∨x=L) U∧
 ((v=.bool true∧J1 F U∧U[L]?=some (.loop i0))∨(v=.bool false∧Dr F U∧U[L]?=some (.loop { i0 with st:=.done,pend:=some .ret }))∨
  ∃id,v=.bool false∧De id F U∧U[L]?=some (.loop { i0 with st:=.done,pend:=some (.exit id) }))
theorem qaf{F0 F:Np}{U0:St}{L:Nat}{i0:LI}{J1 Dr:Np→St→Prop}{De:Nat→Np→St→Prop}{e:Env}{U:St}(hi:i0.st=.ready∧i0.pend=none)(h:U[L]?=some (.loop { i0 with st:=.busy }))(k:Kg (fun x=>F0 x∨x=L) U0 (fun x=>F x∨x=L) U)(g:J1 F (U.set L (.loop i0))):Jd L (RG F0 U0 L i0 J1 Dr De) .normal e U:=by
 have hlt:=(qpU.1 h).1;have:({ i0 with st:=.ready,pend:=none }:LI)=i0:=by cases i0;simp only at hi;simp[hi.1,hi.2]
 refine ⟨_,h,F,k.set _ (.inl (.inr rfl)),.inl ⟨rfl,?_,?_⟩⟩
 ·simp only[this];exact g
 ·simp only[this];rw[qpW hlt]
theorem qmC{F0 F:Np}{U0:St}{L:Nat}{i0:LI}{J1 Dr:Np→St→Prop}{De:Nat→Np→St→Prop}{e:Env}{U:St}(h:U[L]?=some (.loop { i0 with st:=.busy }))(k:Kg (fun x=>F0 x∨x=L) U0 (fun x=>F x∨x=L) U)(g:Dr F (U.set L (.loop { i0 with st:=.done,pend:=some .ret }))):Jd L (RG F0 U0 L i0 J1 Dr De) .ret e U:=by
 have hlt:=(qpU.1 h).1;exact ⟨_,h,F,k.set _ (.inl (.inr rfl)),.inr (.inl ⟨rfl,g,by rw[qpW hlt]⟩)⟩
def qaB(P:Program)(k:Nat)(fs cs:List V)(xs:List (List V))(cap:St→Prop):Prop:=
 ∀(S:St) (l:Nat) (J:Nat→Np→St→Prop) (D:Np→St→Prop) (F0:Np),(∀i F U,J i F U→∀x,F x→x<U.length)→(∀i F U,J i F U→cap U)→(∀i F U o,J i F U→J i F (U++[o]))→(∀F U o,D F U→D F (U++[o]))→
  (∀i F U L o o',S.length≤L→J i F U→U[L]?=some (.loop o)→J i F (U.set L (.loop o')))→(∀F U L o o',S.length≤L→D F U→U[L]?=some (.loop o)→D F (U.set L (.loop o')))→
  (∀(i:Nat) (a:List V),xs[i]?=some a→∀F U,J i F U→Kg F0 S F U→yh P l a U (fun v U'=>∃F',Kg F U F' U'∧((v=.bool true∧J (i+1) F' U')∨(v=.bool false∧D F' U'))))→J 0 F0 S→
  qB P k (fs++[.yld l]++cs) S (fun _ U=>∃F,Kg F0 S F U∧(J xs.length F U∨D F U))
theorem Kg.unloop{F G:Np}{S U:St}{o o':Ob}(h:Kg (fun x=>F x∨x=S.length) (S++[o]) (fun x=>G x∨x=S.length) U):Kg F S G (U.set S.length o'):=
 ⟨h.k.unloop,fun l hl=>(h.g l (.inl hl)).elim (fun a=>a.imp id (by omega)) fun a=>.inr (by simp at a;omega)⟩
theorem qba{P:Program}{g:Opd}{ps:List Nat}{asg body:Code}{ca cb:C'}{N:Nat}{ts:List Nat}{Q:yG}{e:Env}{S:St}{k:Nat}{fs cs:List V}{xs:List (List V)}{cap:St→Prop}
  (hg:g.ev e=some (.fn (.func k) fs cs)) (hy:qaB P k fs cs xs cap) (na:ca.noRf=true) (nb:cb.noRf=true) (hps:ps.all (fun p=>decide (p<N))=true) (hlen:∀a,a∈xs→a.length=ps.length)
  (F0:Np) (J:Nat→Np→St→Prop) (Dr:Np→St→Prop) (De:Nat→Np→St→Prop) (hB:∀i F U,J i F U→∀x,F x→x<U.length) (hcap:∀i F U,J i F U→cap U)
  (hJ:∀i F U,J i F U→∀o,J i F (U++[o])) (hDr:∀F U,Dr F U→∀o,Dr F (U++[o])) (hDe:∀id F U,De id F U→∀o,De id F (U++[o]))
  (hJl:∀i F U L o o',S.length≤L→J i F U→U[L]?=some (.loop o)→J i F (U.set L (.loop o'))) (hDl:∀F U L o o',S.length≤L→Dr F U→U[L]?=some (.loop o)→Dr F (U.set L (.loop o'))) (hDel:∀id F U L o o',S.length≤L→De id F U→U[L]?=some (.loop o)→De id F (U.set L (.loop o')))
  (h0:J 0 F0 (S++[.loop ⟨.ready,none,ps,asg,body,e.keep ts,N⟩]))
  (hr:∀(i:Nat) (a:List V),xs[i]?=some a→∀F U,J i F U→Kg (fun x=>F0 x∨x=S.length) (S++[.loop ⟨.ready,none,ps,asg,body,e.keep ts,N⟩]) (fun x=>F x∨x=S.length) U→U[S.length]?=some (.loop ⟨.ready,none,ps,asg,body,e.keep ts,N⟩)→
   WP P ca (qaO P S.length cb (RG F U S.length ⟨.ready,none,ps,asg,body,e.keep ts,N⟩ (J (i+1)) Dr De)) (QD ps a (e.keep ts)) U)
  (hn:∀F U,J xs.length F U→Kg F0 S F U→Q .normal e U) (hret:∀F U,Dr F U→Kg F0 S F U→Q .ret e U) (hexit:∀id F U,De id F U→Kg F0 S F U→Q (.exit id) e U):
  WP P (.rf g ps asg body ca cb N ts) Q e S:=by
 intro hca hcb;rw[hg];refine ⟨_,hy (S++[.loop ⟨.ready,none,ps,asg,body,e.keep ts,N⟩]) S.length (fun i G U=>∃F,G=(fun x=>F x∨x=S.length)∧J i F U∧U[S.length]?=some (.loop ⟨.ready,none,ps,asg,body,e.keep ts,N⟩))
  (fun G U=>∃F,G=(fun x=>F x∨x=S.length)∧((Dr F U∧U[S.length]?=some (.loop ⟨.done,some .ret,ps,asg,body,e.keep ts,N⟩))∨∃id,De id F U∧U[S.length]?=some (.loop ⟨.done,some (.exit id),ps,asg,body,e.keep ts,N⟩)))
  (fun x=>F0 x∨x=S.length) ?_ (fun i G U ⟨F,_,h,_⟩=>hcap i F U h) (fun i G U o ⟨F,h1,h2,h3⟩=>⟨F,h1,hJ i F U h2 o,?_⟩) ?_ ?_ ?_ ?_ ⟨F0,rfl,h0,by simp⟩,?_⟩
 ·rintro i G U ⟨F,rfl,h,h3⟩ x (hx|rfl)
  ·exact hB i F U h x hx
  ·exact (qpU.1 h3).1
 ·rw[qpY (qpU.1 h3).1];exact h3
 ·rintro G U o ⟨F,rfl,⟨h1,h2⟩|⟨id,h1,h2⟩⟩
  ·exact ⟨F,rfl,.inl ⟨hDr F U h1 o,by rw[qpY (qpU.1 h2).1];exact h2⟩⟩
  ·exact ⟨F,rfl,.inr ⟨id,hDe id F U h1 o,by rw[qpY (qpU.1 h2).1];exact h2⟩⟩
 ·rintro i G U L o o' hL ⟨F,rfl,h1,h2⟩ h3;simp at hL;exact ⟨F,rfl,hJl i F U L o o' (by omega) h1 h3,by rw[qpX (by omega)];exact h2⟩
 ·rintro G U L o o' hL ⟨F,rfl,⟨h1,h2⟩|⟨id,h1,h2⟩⟩ h3
  ·simp at hL;exact ⟨F,rfl,.inl ⟨hDl F U L o o' (by omega) h1 h3,by rw[qpX (by omega)];exact h2⟩⟩
  ·simp at hL;exact ⟨F,rfl,.inr ⟨id,hDel id F U L o o' (by omega) h1 h3,by rw[qpX (by omega)];exact h2⟩⟩
 ·rintro i a ha G U ⟨F,rfl,hj,hl⟩ hk;refine yh.mono' (yh.intro hl hca hcb rfl na nb ?_ hps (hr i a ha F U hj hk hl)) ?_
  ·exact hlen _ (qp6 ha)
  ·rintro v U' ⟨F',hk',⟨rfl,h1,h2⟩|⟨rfl,h1,h2⟩|⟨id,rfl,h1,h2⟩⟩
   ·exact ⟨_,hk',.inl ⟨rfl,F',rfl,h1,h2⟩⟩
   ·exact ⟨_,hk',.inr ⟨rfl,F',rfl,.inl ⟨h1,h2⟩⟩⟩
   ·exact ⟨_,hk',.inr ⟨rfl,F',rfl,.inr ⟨id,h1,h2⟩⟩⟩
 ·rintro r U ⟨G,hk,⟨F,rfl,h1,h2⟩|⟨F,rfl,⟨h1,h2⟩|⟨id,h1,h2⟩⟩⟩
  ·exact ⟨_,h2,by simp,hn F _ (hJl _ F U _ _ _ (qp0 _) h1 h2) hk.unloop⟩
  ·exact ⟨_,h2,by simp,hret F _ (hDl F U _ _ _ (qp0 _) h1 h2) hk.unloop⟩
  ·exact ⟨_,h2,by simp,hexit id F _ (hDel id F U _ _ _ (qp0 _) h1 h2) hk.unloop⟩
open Go.Proofs.Tryz
abbrev Sct:=List (Bz×Nat×Nat)
def Sct.sco(t:Sct):Sco:=t.map fun e=>(e.1,e.2.1)
def qey(e:Bz×Nat×Nat):V×V:=(.str e.1,.ptr e.2.2 0 0 1)
def plc(x:Bz)(k:Nat)(y:Bz):Ob:=.arr [.agg [.int .i64 k,.str x,.str y]] 3 1
def ScR(p:Pw)(X:Np)(S:St):V→List Sct→Prop
 | v,[]=>v=.nilp
 | v,t::r=>∃l lo lm v' bs ck,v=.ptr l 0 0 1∧(¬ X l∧¬ X lo∧¬ X lm)∧S[l]?=some (.arr [.agg [.ptr lo 0 0 1,.map lm]] 2 1)∧S[lo]?=some (.arr [.agg [v']] 1 1)∧S[lm]?=some (.map (t.map qey) bs ck)∧
  (∀e,e∈t→¬ X e.2.2∧S[e.2.2]?=some (plc e.1 e.2.1 (p.f e.2.1 e.1)))∧ScR p X S v' r
def Scx(ts:List Sct):Scs:=ts.map Sct.sco
def ZW:Sct→Bz→Option (Nat×Nat)
 | [],_=>none
 | e::t,x=>if e.1=x then some e.2 else ZW t x
def fnd:List Sct→Bz→Option (Nat×Nat)
 | [],_=>none
 | t::r,x=>match ZW t x with
  | some p=>some p
  | none=>fnd r x
def kP(ts:List Sct)(x:Bz):V:=match fnd ts x with
 | some p=>.ptr p.2 0 0 1
 | none=>.nilp
theorem qac:∀(t:Sct) (x:Bz),Sco.at t.sco x=(ZW t x).map (·.1)
 | [],_=>rfl
 | e::t,x=>by
  have ih:=qac t x;simp only[Sco.at,Sct.sco,qqd,List.find?_cons,ZW] at *;by_cases h:e.1=x
  ·simp[h]
  ·simp only[decide_eq_false h,if_neg h];exact ih
theorem jR:∀(ts:List Sct) (x:Bz),(Scx ts).at x=(fnd ts x).map (·.1)
 | [],_=>rfl
 | t::r,x=>by
  have ih:=jR r x;simp only[Scx,qqd,Scs.at,fnd] at *;rw[qac]
  cases ZW t x with
  | none=>exact ih
  | some p=>rfl
theorem qaL:∀{t:Sct} {x:Bz} {p:Nat×Nat},ZW t x=some p→(x,p.1,p.2)∈t
 | e::t,x,p,h=>by
  simp only[ZW] at h;split at h
  ·rename_i hx;cases h;subst hx;simp
  ·exact qra _ (qaL h)
theorem ScR.fnd_get{p:Pw}{X:Np}{S:St}:∀{ts:List Sct} {v:V} {x:Bz} {q:Nat×Nat},ScR p X S v ts→fnd ts x=some q→S[q.2]?=some (plc x q.1 (p.f q.1 x))
 | t::r,v,x,q,⟨l,lo,lm,v',bs,ck,_,_,_,_,_,h5,h6⟩,hf=>by
  simp only[fnd] at hf;split at hf
  ·rename_i q hq;cases hf;exact (h5 _ (qaL hq)).2
  ·exact ScR.fnd_get h6 hf
theorem ZU(x:Bz):∀(t:Sct) (i:Nat),∃j,zT .str (.str x) (t.map qey) i=some ((ZW t x).map fun p=>(j,.ptr p.2 0 0 1))
 | [],i=>⟨0,rfl⟩
 | e::t,i=>by
  simp only[qqd,qey,zT,Jm,ZW];by_cases h:x=e.1
  ·rw[show (x.data.toList==e.1.data.toList)=true by rw[h];simp,if_pos h.symm];exact ⟨i,rfl⟩
  ·rw[show (x.data.toList==e.1.data.toList)=false by
    rw[beq_eq_false_iff_ne];intro hh;exact h (qry (Array.ext' hh)),if_neg (Ne.symm h)]
   exact ZU x t (i+1)
theorem qgv{S:St}{lm:Nat}{t:Sct}{bs:List Nat}{ck:Nat}(x:Bz)(h:S[lm]?=some (.map (t.map qey) bs ck)):
  qdA S .str .nilp true (.map lm) (.str x)=some (.tup [(match ZW t x with|some p=>.ptr p.2 0 0 1|none=>.nilp),.bool (ZW t x).isSome]):=by
 obtain ⟨j,hj⟩:=ZU x t 0;unfold qdA;rw[if_pos (by rfl)];simp only[qb5,h,hj];cases ZW t x <;> rfl
theorem qaV{p:Pw}{X:Np}{S:St}{ts:List Sct}{v:V}(h:ScR p X S v ts)(x:Bz):Fn prog 60 [v,.str x] S (kP ts x):=by
 refine qB.ib func60 ok60 ?_;generalize hr:kP ts x=r;simp only[c60,C'.k];simp only[qcP,qcO,qgL,Jf,qcx];refine qq (fun j e S'=>∃(ts':List Sct) (v':V),j=ts'.length∧ScR p X S v' ts'∧kP ts' x=r∧S'=S∧e=[(0,v'),(1,.str x)]) ts.length _ ?_ ⟨ts,v,rfl,h,hr,rfl,rfl⟩ ?_
 ·exact Env.so (by simp)
 rintro j e S' ⟨ts',v',rfl,h',hr',rfl,rfl⟩
 cases ts' with
 | nil=>
  have h':v'=.nilp:=h';subst h';have:r=.nilp:=by rw[←hr'];rfl
  subst this;simp[Z6,eqV,jf];exact qi rfl ⟨rfl,rfl⟩
 | cons t r'=>
  obtain ⟨l,lo,lm,v'',bs,ck,rfl,_,h2,h3,h4,h5,h6⟩:=h';have hl:=qgv x h4;simp[Z6,eqV,zk,ldS,h2,evX,hl]
  cases hk:ZW t x with
  | some p=>
   have:r=.ptr p.2 0 0 1:=by rw[←hr'];simp[kP,fnd,hk]
   subst this;simp[jf];exact qi rfl ⟨rfl,rfl⟩
  | none=>
   simp[Z6,eqV,zk,ldS,h2,h3];refine ⟨_,?_,_,?_,r',rfl,v'',h6,?_,rfl⟩
   ·simp
   ·exact Env.so (by simp)
   ·rw[←hr'];simp[kP,fnd,hk]
theorem ScR.mono{p:Pw}{X X':Np}{S U:St}(hk:Kp X S U)(hX:∀l,X' l→X l∨S.length≤l):∀{ts:List Sct} {v:V},ScR p X S v ts→ScR p X' U v ts
 | [],_,h=>h
 | t::r,v,⟨l,lo,lm,v',bs,ck,h1,⟨x1,x2,x3⟩,h2,h3,h4,h5,h6⟩=>by
  have no:∀{l:Nat} {o:Ob},S[l]?=some o→¬ X l→¬ X' l:=fun ho hn hx=>(hX _ hx).elim hn fun hh=>by have:=(qpU.1 ho).1;omega
  exact ⟨l,lo,lm,v',bs,ck,h1,⟨no h2 x1,no h3 x2,no h4 x3⟩,hk.at h2 x1,hk.at h3 x2,hk.at h4 x3,fun e he=>⟨no (h5 e he).2 (h5 e he).1,hk.at (h5 e he).2 (h5 e he).1⟩,ScR.mono hk hX h6⟩
theorem ScR.sub{p:Pw}{X X':Np}{S:St}{v:V}{ts:List Sct}(h:ScR p X S v ts)(hX:∀l,X' l→X l):ScR p X' S v ts:=h.mono (Kp.refl _ _) fun l hl=>.inl (hX l hl)
theorem ScR.more{p:Pw}{X X':Np}{S:St}{v:V}{ts:List Sct}(h:ScR p X S v ts)(hX:∀l,X' l→X l∨S.length≤l):ScR p X' S v ts:=h.mono (Kp.refl _ _) hX
structure Cb extends Pw where
 fe:V
 fn:V
 fc:V
 I:H→Np→Np→St→Prop
 cn:H→Np
 lim:Nat
def wkr(c:Cb)(n:Nat):Ob:=.arr [.agg [.int .i64 n,c.fe,c.fn,c.fc]] 4 1
def grow(S:St)(F F':Np):Prop:=∀l,F' l→F l∨S.length≤l
theorem grow.refl(S:St)(F:Np):grow S F F:=fun _ h=>.inl h
theorem grow.trans{S T:St}{F G K:Np}(h:grow S F G)(g:grow T G K)(hl:S.length≤T.length):grow S F K:=fun l hk=>(g l hk).elim (h l) fun hh=>.inr (by omega)
structure Wk(c:Cb)(w n:Nat)(h:c.H)(F D:Np)(S:St):Prop where
 tw:S[w]?=some (wkr c n)
 st:c.I h F D S
 nF:¬ F w
 nD:¬ D w
 cn:c.cn h n
structure Stp(w:Nat)(F D:Np)(S:St)(F' D':Np)(U:St):Prop where
 k:Kp (fun l=>l=w∨F l) S U
 gF:grow S F F'
 gD:grow S D D'
theorem Stp.refl(w:Nat)(F D:Np)(S:St):Stp w F D S F D S:=⟨Kp.refl _ _,grow.refl _ _,grow.refl _ _⟩
theorem Stp.trans{w:Nat}{F D F1 D1 F2 D2:Np}{S T U:St}(h:Stp w F D S F1 D1 T)(g:Stp w F1 D1 T F2 D2 U):Stp w F D S F2 D2 U:=
 ⟨⟨qqS h.k.len g.k.len,fun l hl hn=>by
  rw[g.k.get l (qqC hl h.k.len) fun hh=>hn (hh.elim .inl fun hh=>(h.gF l hh).elim .inr fun hh=>by omega)];exact h.k.get l hl hn⟩,h.gF.trans g.gF h.k.len,h.gD.trans g.gD h.k.len⟩
structure Cb.Ok(c:Cb):Prop where
 lim:c.lim≤100001
 lt:∀{h F D S},c.I h F D S→∀l,F l∨D l→l<S.length
 fr:∀{h F D S U M},c.I h F D S→Kp M S U→(∀l,M l→l<S.length→¬ F l∧¬ D l)→c.I h F D U
 lp:∀{h F D S},c.I h F D S→∀l o,S[l]?=some (.loop o)→¬ F l∧¬ D l
 ce:∀{h n} x,c.cn h n→c.cn (c.ent h n x) (n+1)
 cm:∀{h n} x sc tg,c.cn h n→c.cn (c.nmH h x sc tg) n
 cc:∀{h n} x sc,c.cn h n→c.cn (c.clH h x sc) n
 real:∀{h F D S},c.I h F D S→∀h',∃F' D' U,c.I h' F' D' U∧Kp F S U∧grow S F F'∧grow S D D'
 en:(c.fe=.nilfn∧(∀k x,c.f k x=x)∧∀h k x,c.ent h k x=h)∨∃g cs,c.fe=.fn (.func g) [] cs∧∀(U:St) (p k:Nat) (x:Bz) (h:c.H) (F D:Np),U[p]?=some (plc x k x)→¬ F p→¬ D p→k<c.lim→c.cn h k→c.I h F D U→
  qB prog g ([.ptr p 0 0 1]++cs) U (fun _ U'=>∃F' D',c.I (c.ent h k x) F' D' U'∧U'[p]?=some (plc x k (c.f k x))∧Kp (fun l=>l=p∨F l) U U'∧grow U F F'∧∀l,D' l→D l∨l=p∨U.length≤l)
 nm:match c.nm with
  | none=>c.fn=.nilfn
  | some g=>∃k cs,c.fn=.fn (.func k) [] cs∧∀(U:St) (x:Ex) (v:V) (ts:List Sct) (tg:Bool) (w:Nat) (h:c.H) (F D:Np),ScR c.toPw (fun l=>l=w∨F l) U v ts→c.I h F D U→
   qB prog k ([x.v,v,.bool tg]++cs) U (fun r U'=>r=(g x (Scx ts) tg).v∧∃F' D',c.I (c.nmH h x (Scx ts) tg) F' D' U'∧Kp F U U'∧grow U F F'∧grow U D D')
 cl:match c.cl with
  | none=>c.fc=.nilfn
  | some g=>∃k cs,c.fc=.fn (.func k) [] cs∧∀(U:St) (x:Bz) (v:V) (ts:List Sct) (w:Nat) (h:c.H) (F D:Np),ScR c.toPw (fun l=>l=w∨F l) U v ts→c.I h F D U→
   qB prog k ([.str x,v]++cs) U (fun r U'=>r=.str (g x (Scx ts))∧∃F' D',c.I (c.clH h x (Scx ts)) F' D' U'∧Kp F U U'∧grow U F F'∧grow U D D')
theorem Wk.push{c:Cb}(ok:c.Ok){w n:Nat}{h:c.H}{F D:Np}{S:St}(k:Wk c w n h F D S)(os:List Ob):Wk c w n h F D (S++os):=
 ⟨by rw[qpY (qpU.1 k.tw).1];exact k.tw,ok.fr (M:=fun _=>False) k.st ((Kp.refl _ _).push _) (fun _ h=>h.elim),k.nF,k.nD,k.cn⟩
theorem Wk.set{c:Cb}(ok:c.Ok){w n:Nat}{h:c.H}{F D:Np}{S:St}(k:Wk c w n h F D S){l:Nat}(o:Ob)(hw:l≠w)(hF:¬ F l)(hD:¬ D l):Wk c w n h F D (S.set l o):=
 ⟨by rw[qpX hw];exact k.tw,ok.fr (M:=fun x=>x=l) k.st ((Kp.refl _ _).set _ (.inl rfl)) (fun x hx _=>by rw[hx];exact ⟨hF,hD⟩),k.nF,k.nD,k.cn⟩
theorem Wk.out{c:Cb}(ok:c.Ok){w n:Nat}{h:c.H}{F D:Np}{S:St}(k:Wk c w n h F D S){l:Nat}(hl:S.length≤l):l≠w∧¬ F l∧¬ D l:=
 ⟨by rintro rfl;have:=(qpU.1 k.tw).1;omega,fun hf=>by have:=ok.lt k.st l (.inl hf);omega,fun hf=>by have:=ok.lt k.st l (.inr hf);omega⟩
def Off(w:Nat)(F D:Np)(l:Nat):Prop:=l≠w∧¬ F l∧¬ D l
theorem Off.next{w:Nat}{F D F' D':Np}{S U:St}{l:Nat}(h:Off w F D l)(hl:l<S.length)(s:Stp w F D S F' D' U):Off w F' D' l:=
 ⟨h.1,fun hf=>(s.gF l hf).elim h.2.1 (by omega),fun hf=>(s.gD l hf).elim h.2.2 (by omega)⟩
theorem Stp.at{w:Nat}{F D F' D':Np}{S U:St}{l:Nat}{o:Ob}(s:Stp w F D S F' D' U)(h:Off w F D l)(ho:S[l]?=some o):U[l]?=some o:=s.k.at ho fun hh=>hh.elim h.1 h.2.1
theorem Stp.push{w:Nat}{F D F' D':Np}{S U:St}(s:Stp w F D S F' D' U)(os:List Ob):Stp w F D S F' D' (U++os):=⟨s.k.push os,s.gF,s.gD⟩
theorem Stp.set{w:Nat}{F D F' D':Np}{S U:St}(s:Stp w F D S F' D' U){l:Nat}(o:Ob)(hl:S.length≤l):Stp w F D S F' D' (U.set l o):=⟨s.k.set o (.inr hl),s.gF,s.gD⟩
theorem Stp.ofPush{w:Nat}{F D F' D':Np}{S U:St}{os:List Ob}(s:Stp w F D (S++os) F' D' U):Stp w F D S F' D' U:=
 ⟨s.k.ofPush,fun l h=>(s.gF l h).imp id fun hh=>by simp at hh;omega,fun l h=>(s.gD l h).imp id fun hh=>by simp at hh;omega⟩
theorem ScR.step{p:Pw}{w:Nat}{F D F' D':Np}{S U:St}{v:V}{ts:List Sct}(h:ScR p (fun l=>l=w∨F l) S v ts)(s:Stp w F D S F' D' U):ScR p (fun l=>l=w∨F' l) U v ts:=
 h.mono s.k fun l hh=>hh.elim (fun e=>.inl (.inl e)) fun e=>(s.gF l e).imp .inr id
theorem ScR.push{p:Pw}{X:Np}{S:St}{v:V}{ts:List Sct}(h:ScR p X S v ts)(os:List Ob):ScR p X (S++os) v ts:=h.mono ((Kp.refl _ _).push _) fun _ hh=>.inl hh
end Go.Proofs.YtbifpocccfkhhaaGreatDoor
end
