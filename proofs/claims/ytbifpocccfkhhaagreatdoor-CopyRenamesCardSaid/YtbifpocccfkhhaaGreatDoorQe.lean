/- A part. -/
import Derived.Test.YtbifpocccfkhhaaGreatDoorQd
import Derived.Lib.ItoaMem
import Derived.Test.YtbifpocccfkhhaaGreatDoorProg
set_option linter.all false
noncomputable section
namespace Go.Proofs.YtbifpocccfkhhaaGreatDoor
open Go
def Kept(S S':St):Prop:=∀(l:Nat) (i:LI),S[l]?=some (Ob.loop i)→∃st pend,S'[l]?=some (Ob.loop { i with st:=st,pend:=pend })
theorem Kept.refl(S:St):Kept S S:=fun l i h=>⟨i.st,i.pend,h⟩
theorem Kept.trans{S S1 S2:St}(h:Kept S S1)(g:Kept S1 S2):Kept S S2:=fun l i hl=>by
 obtain ⟨st,p,h1⟩:=h l i hl;obtain ⟨st',p',h2⟩:=g l _ h1;exact ⟨st',p',h2⟩
theorem Kept.app(S T:St):Kept S (S++T):=fun l i h=>⟨i.st,i.pend,by rw[qt0 (qtV.1 h).1];exact h⟩
theorem Kept.set{S:St}{l:Nat}{o o':Ob}(h:S[l]?=some o)(hn:∀i:LI,o≠Ob.loop i):Kept S (S.set l o'):=fun j i hj=>by
 by_cases hk:l=j
 ·subst hk;rw[h] at hj;cases hj;exact absurd rfl (hn i)
 ·exact ⟨i.st,i.pend,by rw[qtY hk];exact hj⟩
theorem qot{e:Env}{S S':St}{k:X}{r:V}(h:evX e S k=some (r,S')):Kept S S':=by
 by_cases hw:k.writes=true
 ·cases k <;> simp only[X.writes,quw] at hw <;> simp only[evX] at h
  case mup kd x y z=>
   split at h <;> try cases h
   rename_i m key val _ _ _;simp only[qt4,Prod.mk.injEq] at h;obtain ⟨S1,h1,_,rfl⟩:=h;unfold mupS at h1;split at h1 <;> try cases h1
   split at h1 <;> try cases h1
   split at h1 <;> try cases h1
   rename_i hl;split at h1 <;> cases h1 <;> exact Kept.set hl (fun i=>by simp)
  case mkm=>cases h;exact Kept.app _ _
  case mks sz b z l c=>
   split at h <;> try cases h
   unfold mksS at h;split at h <;> cases h;exact Kept.app _ _
  case rng x=>
   simp only[quM] at h;obtain ⟨v,_,h⟩:=h;unfold rngS at h;split at h <;> try cases h
   split at h <;> cases h;exact Kept.app _ _
  case nxt x=>cases h
  case del kd x y=>
   split at h <;> try cases h
   simp only[qt4,Prod.mk.injEq] at h;obtain ⟨S1,h1,_,rfl⟩:=h;unfold delS at h1;split at h1 <;> try cases h1
   split at h1 <;> try cases h1
   split at h1 <;> try cases h1
   rename_i hl;split at h1 <;> cases h1 <;> exact Kept.set hl (fun i=>by simp)
 ·have:=qjB (by simpa using hw) h;subst this;exact Kept.refl _
theorem qe2{e:Env}{S S':St}{k:K}{r:V}(h:evK e S k=some (r,S')):Kept S S':=by
 by_cases hw:k.writes=true
 ·cases k <;> simp only[K.writes,quw] at hw <;> simp only[evK] at h
  case new z=>
   unfold boxS at h;split at h <;> cases h;exact Kept.app _ _
  case box x=>
   simp only[quM] at h;obtain ⟨v,_,h⟩:=h;unfold boxS at h;split at h <;> cases h;exact Kept.app _ _
  case sto n a x=>
   split at h <;> try cases h
   simp only[qt4,Prod.mk.injEq] at h;obtain ⟨S1,h1,_,rfl⟩:=h;unfold stS at h1;split at h1 <;> try cases h1
   split at h1 <;> try cases h1
   rename_i hl;split at h1 <;> try cases h1
   simp only[quM,qt4] at h1;obtain ⟨_,_,_,_,rfl⟩:=h1;exact Kept.set hl (fun i=>by simp)
  case app sz b d x=>
   split at h <;> try cases h
   unfold appS at h;split at h
   ·cases h
   ·split at h
    ·split at h
     ·cases h;exact Kept.refl _
     ·split at h <;> cases h;exact Kept.app _ _
    ·split at h <;> try cases h
     rename_i hl;split at h <;> cases h;exact Kept.set hl (fun i=>by simp)
    ·cases h
  case call=>cases h
  case ex k=>exact qot h
 ·have:=qec (by simpa using hw) h;subst this;exact Kept.refl _
theorem qlz{S:St}{p:V}{q:V×St}(h:q∈nxtS S p):Kept S q.2:=by
 unfold nxtS at h;split at h <;> try cases h
 split at h <;> try cases h
 rename_i hl;split at h <;> try cases h
 split at h <;> try cases h
 split at h
 ·rw[quY] at h;subst h;exact Kept.refl _
 ·obtain ⟨q',_,rfl⟩:=qul.1 h;exact Kept.set hl (fun i=>by simp)
def qrv(ts:List Nat)(tr:TE):(Env→Bool)→Bool:=List.rec (motive:=fun _=>(Env→Bool)→Bool) (fun c=>c []) (fun t _ ih c=>optR (Tx.get (path t) tr) fun v=>ih fun e=>c ((t,v)::e)) ts
theorem qgq{tr:TE}{e:Env}(ht:tr.sub e):∀{ts:List Nat} {c:Env→Bool},qrv ts tr c=true→∃e0,qdR ts e0 e∧c e0=true
 | [],c,h=>⟨[],fun t h=>(by cases h),h⟩
 | t::ts,c,h=>by
  obtain ⟨v,h1,h2⟩:=qay (show (optR (Tx.get (path t) tr) fun v=>qrv ts tr fun e=>c ((t,v)::e))=true from h);obtain ⟨e0,h3,h4⟩:=qgq ht h2;refine ⟨_,fun s hs=>?_,h4⟩;simp only[Env.get];by_cases hst:t=s
  ·subst hst;rw[if_pos rfl];exact ht t v h1
  ·rw[if_neg hst];rcases qum.1 hs with rfl|hs
   ·exact absurd rfl hst
   ·exact h3 s hs
def qlC(x:X)(tr:TE)(ts:TS)(c:V→TS→Bool):Bool:=iteR x.reads false (qrv x.tmps tr fun e=>optR (evX e [] x) fun p=>c p.1 ts)
theorem qij{x:X}{tr:TE}{e:Env}{ts:TS}{S:St}{c:V→TS→Bool}(ht:tr.sub e)(hs:ts.Abs S)(h:qlC x tr ts c=true):Done e S (.ex x) c:=by
 unfold qlC at h;rw[qaZ] at h;split at h
 ·cases h
 ·rename_i hr;simp only[qvw] at hr;obtain ⟨e0,h1,h2⟩:=qgq ht h;obtain ⟨p,h3,h4⟩:=qay h2;refine ⟨p.1,S,ts,?_,hs,h4⟩;simp only[evK];rw[qhk h1,qi1 (S:=[]) hr,h3];rfl
def opX(x:X):TE→TS→(V→TS→Bool)→Bool:=
 match x with
 | .lkp kd z ok x k=>fun tr ts c=>opd x tr fun m=>opd k tr fun key=>qrQ kd z ok m key ts fun r=>c r ts
 | .mup kd x k v=>fun tr ts c=>opd x tr fun m=>opd k tr fun key=>opd v tr fun val=>qrD kd m key val ts fun ts'=>c (.tup []) ts'
 | .mkm=>fun _ ts c=>qb3 ts.len fun n=>c (.map n) (TS.push ⟨n,ts.tr⟩ (.map [] [] 0))
 | .mks sz bytes z l cp=>fun tr ts c=>opd l tr fun lv=>opd cp tr fun cv=>intR lv fun li=>intR cv fun ci=>
  iteR (mksS [] sz bytes z li ci).isSome (qb3 ts.len fun n=>natR li fun m=>c (.arr n 0 m m) (TS.push ⟨n,ts.tr⟩ (.arr (List.replicate m z) sz m))) false
 | .cts x=>fun tr ts c=>opd x tr fun p=>qiW p ts fun xs=>optR (bytesOf xs) fun bs=>c (.str ⟨⟨bs⟩⟩) ts
 | .rng x=>fun tr ts c=>opd x tr fun v=>qpA v ts c
 | .ent x=>fun tr ts c=>opd x tr fun v=>qpo v ts fun r=>c r ts
 | .del kd x k=>fun tr ts c=>opd x tr fun m=>opd k tr fun key=>qqA kd m key ts fun ts'=>c (.tup []) ts'
 | .wrap n x=>fun tr ts c=>opd x tr fun v=>iteR (andR (Nat.beq (qdD v) n) (qgl v.cells)) (c (.agg v.cells) ts) false
 | .ixa n sz kd x i=>fun tr ts c=>opd x tr fun v=>opd i tr fun iv=>intR iv fun ix=>natR ix fun m=>iteR (andR v.isAgg (Nat.ble (Nat.succ m) n)) (optR (qkM v (Nat.mul m sz) kd) fun r=>c r ts) false
 | x=>qlC x
theorem qoo{x:X}{tr:TE}{e:Env}{ts:TS}{S:St}{c:V→TS→Bool}(ht:tr.sub e)(hs:ts.Abs S)(h:opX x tr ts c=true):Done e S (.ex x) c:=by
 unfold opX at h;split at h
 ·obtain ⟨m,h1,h2⟩:=qat ht h;obtain ⟨key,h3,h4⟩:=qat ht h2;obtain ⟨r,h5,h6⟩:=qkT hs h4;exact ⟨r,S,ts,by simp only[evK,evX,h1,h3,h5,que],hs,h6⟩
 ·obtain ⟨m,h1,h2⟩:=qat ht h;obtain ⟨key,h3,h4⟩:=qat ht h2;obtain ⟨val,h5,h6⟩:=qat ht h4;obtain ⟨S',ts',h7,h8,h9⟩:=qjQ hs h6;exact ⟨_,S',ts',by simp only[evK,evX,h1,h3,h5,h7,que],h8,h9⟩
 ·rw[qby] at h;exact ⟨_,_,_,by simp only[evK,evX];rw[hs.1],TS.push_abs hs,h⟩
 ·obtain ⟨lv,h1,h2⟩:=qat ht h;obtain ⟨cv,h3,h4⟩:=qat ht h2;obtain ⟨kl,li,rfl,h5⟩:=qcs h4;obtain ⟨kc,ci,rfl,h6⟩:=qcs h5;obtain ⟨h7,h8⟩:=qao h6;rw[qby] at h8;obtain ⟨m,rfl,h9⟩:=qcM h8;refine ⟨_,_,_,?_,TS.push_abs hs,h9⟩;simp only[evK,evX,h1,h3];unfold mksS at h7 ⊢;split at h7
  ·rename_i hc;rw[if_pos hc,hs.1,qvC]
  ·cases h7
 ·obtain ⟨p,h1,h2⟩:=qat ht h;obtain ⟨xs,h3,h4⟩:=qfx hs h2;obtain ⟨bs,h5,h6⟩:=qay h4;exact ⟨_,S,ts,by simp only[evK,evX,h1,qug,ctsV,h3,h5,que],hs,h6⟩
 ·obtain ⟨v,h1,h2⟩:=qat ht h;obtain ⟨r,S',ts',h3,h4,h5⟩:=qkQ hs h2;exact ⟨r,S',ts',by simp only[evK,evX,h1,qug,h3],h4,h5⟩
 ·obtain ⟨v,h1,h2⟩:=qat ht h;obtain ⟨r,h3,h4⟩:=qkA hs h2;exact ⟨r,S,ts,by simp only[evK,evX,h1,qug,h3,que],hs,h4⟩
 ·obtain ⟨m,h1,h2⟩:=qat ht h;obtain ⟨key,h3,h4⟩:=qat ht h2;obtain ⟨S',ts',h5,h6,h7⟩:=qkd hs h4;exact ⟨_,S',ts',by simp only[evK,evX,h1,h3,h5,que],h6,h7⟩
 ·obtain ⟨v,h1,h2⟩:=qat ht h;obtain ⟨h3,h4⟩:=qao h2;obtain ⟨h5,h6⟩:=qaw h3;rw[qb0] at h5;rw[qdk] at h6;exact ⟨_,S,ts,by simp only[evK,evX,h1,qug];exact if_pos ⟨qaM h5,h6⟩,hs,h4⟩
 ·obtain ⟨v,h1,h2⟩:=qat ht h;obtain ⟨iv,h3,h4⟩:=qat ht h2;obtain ⟨kk,ix,rfl,h5⟩:=qcs h4;obtain ⟨m,rfl,h6⟩:=qcM h5;obtain ⟨h7,h8⟩:=qao h6;obtain ⟨h9,h10⟩:=qaw h7;obtain ⟨r,h11,h12⟩:=qay h8;rw[qdZ] at h11;have h10:=qaO h10;refine ⟨r,S,ts,?_,hs,h12⟩;simp only[evK,evX,h1,h3];rw[if_pos ⟨h9,by omega,by omega⟩,qvC,show m * _=Nat.mul m _ from rfl,h11];rfl
 ·exact qij ht hs h
abbrev qg0:=Nat→List V→TS→(V→TS→Bool)→Bool
def opK(k:K):TE→TS→(V→TS→Bool)→Bool:=
 match k with
 | .mv x=>fun tr ts c=>opd x tr fun v=>c v ts
 | .pick x a b=>fun tr ts c=>opd x tr fun v=>qir v fun t=>iteR t (opd a tr fun v=>c v ts) (opd b tr fun v=>c v ts)
 | .new z=>fun _ ts c=>boxR z ts c
 | .box x=>fun tr ts c=>opd x tr fun v=>boxR v ts c
 | .build z ps=>fun tr ts c=>qlb ps tr z fun v=>c v ts
 | .bsl sz xs=>fun tr ts c=>evsR xs tr fun l=>iteR (andR (qmx sz l) (Nat.ble (Nat.mul (lenR l) sz) 16777216)) (c (.sl true l) ts) false
 | .ld k a=>fun tr ts c=>opd a tr fun p=>ldR p k ts fun v=>c v ts
 | .sto n a x=>fun tr ts c=>opd a tr fun p=>opd x tr fun v=>stR p n v ts fun ts'=>c (.tup []) ts'
 | .nck x=>fun tr ts c=>opd x tr fun v=>iteR (qbb v) (c v ts) false
 | .bin op x y=>fun tr ts c=>opd x tr fun u=>opd y tr fun v=>qp0 op u v fun r=>c r ts
 | .eq kd neg x y=>fun tr ts c=>opd x tr fun u=>opd y tr fun v=>iteR (eqOk kd u v) (optR (eqV u v) fun b=>c (.bool (iteR neg (notR b) b)) ts) false
 | .un op x=>fun tr ts c=>opd x tr fun v=>optR (unV op v) fun r=>c r ts
 | .fa off x=>fun tr ts c=>opd x tr fun v=>optR (faV v off) fun r=>c r ts
 | .ia sz x i=>fun tr ts c=>opd x tr fun p=>opd i tr fun iv=>intR iv fun ix=>iaR sz p ix ts fun r=>c r ts
 | .idx x i=>fun tr ts c=>opd x tr fun p=>opd i tr fun iv=>intR iv fun ix=>idxR p ix fun r=>c r ts
 | .fld off k x=>fun tr ts c=>opd x tr fun v=>iteR v.isAgg (optR (qkM v off k) fun r=>c r ts) false
 | .slc s sz x lo hi=>fun tr ts c=>opd x tr fun d=>qiD lo tr fun l=>qiD hi tr fun h=>slcR s sz d l h ts fun r=>c r ts
 | .ext i x=>fun tr ts c=>opd x tr fun v=>match v with
  | .tup vs=>optR (nthR vs i) fun r=>c r ts
  | _=>false
 | .len s x=>fun tr ts c=>opd x tr fun v=>qs0 s v fun r=>c r ts
 | .app sz bytes d x=>fun tr ts c=>opd d tr fun u=>opd x tr fun v=>qrE sz bytes u v ts c
 | .mkf k fs cs=>fun tr ts c=>evsR fs tr fun us=>evsR cs tr fun vs=>c (.fn (.func k) us vs) ts
 | .conv k x=>fun tr ts c=>opd x tr fun v=>intR v fun n=>c (.int k (qjS k n)) ts
 | .call _ _=>fun _ _ _=>false
 | .ex x=>opX x
theorem qd7{k:K}{tr:TE}{e:Env}{ts:TS}{S:St}{c:V→TS→Bool}(ht:tr.sub e)(hs:ts.Abs S)(h:opK k tr ts c=true):Done e S k c:=by
 cases k <;> simp only[opK] at h
 case mv x=>
  obtain ⟨v,h1,h2⟩:=qat ht h;exact ⟨v,S,ts,by simp only[evK,h1,que],hs,h2⟩
 case pick x a b=>
  obtain ⟨v,h1,h2⟩:=qat ht h;obtain ⟨t,rfl,h3⟩:=qeE h2;rw[qaZ] at h3;cases t
  ·obtain ⟨r,h4,h5⟩:=qat ht (by simpa using h3);exact ⟨r,S,ts,by simp only[evK,h1];simp[h4],hs,h5⟩
  ·obtain ⟨r,h4,h5⟩:=qat ht (by simpa using h3);exact ⟨r,S,ts,by simp only[evK,h1];simp[h4],hs,h5⟩
 case new z=>exact qhN hs h
 case box x=>
  obtain ⟨v,h1,h2⟩:=qat ht h;obtain ⟨r,S',ts',h3,h4,h5⟩:=qhN hs h2;exact ⟨r,S',ts',by simp only[evK,h1,qug,h3],h4,h5⟩
 case build z ps=>
  obtain ⟨l,r,h1,h2,h3⟩:=qfq ht h;exact ⟨r,S,ts,by simp only[evK,h1,qug,h2,que],hs,h3⟩
 case bsl sz xs=>
  obtain ⟨l,h1,h2⟩:=qbO ht h;obtain ⟨h3,h4⟩:=qao h2;obtain ⟨h5,h6⟩:=qaw h3;rw[qgQ] at h5;rw[qbC] at h6;exact ⟨_,S,ts,by simp only[evK,h1,qug];exact if_pos ⟨h5,qaO h6⟩,hs,h4⟩
 case ld k a=>
  obtain ⟨p,h1,h2⟩:=qat ht h;obtain ⟨v,h3,h4⟩:=qjL hs h2;exact ⟨v,S,ts,by simp only[evK,h1,qug,h3,que],hs,h4⟩
 case sto n a x=>
  obtain ⟨p,h1,h2⟩:=qat ht h;obtain ⟨v,h3,h4⟩:=qat ht h2;obtain ⟨S',ts',h5,h6,h7⟩:=qow hs h4;exact ⟨_,S',ts',by simp only[evK,h1,h3,h5,que],h6,h7⟩
 case nck x=>
  obtain ⟨v,h1,h2⟩:=qat ht h;obtain ⟨h3,h4⟩:=qao h2;exact ⟨v,S,ts,by simp only[evK,h1,qug];exact if_pos h3,hs,h4⟩
 case bin op x y=>
  obtain ⟨u,h1,h2⟩:=qat ht h;obtain ⟨v,h3,h4⟩:=qat ht h2;obtain ⟨r,h5,h6⟩:=qkg h4;exact ⟨r,S,ts,by simp only[evK,h1,h3,h5,que],hs,h6⟩
 case eq kd neg x y=>
  obtain ⟨u,h1,h2⟩:=qat ht h;obtain ⟨v,h3,h4⟩:=qat ht h2;obtain ⟨h5,h6⟩:=qao h4;obtain ⟨b,h7,h8⟩:=qay h6;rw[qaZ,qee] at h8;exact ⟨_,S,ts,by simp only[evK,h1,h3];rw[if_pos h5,h7];rfl,hs,h8⟩
 case un op x=>
  obtain ⟨v,h1,h2⟩:=qat ht h;obtain ⟨r,h3,h4⟩:=qay h2;exact ⟨r,S,ts,by simp only[evK,h1,qug,h3,que],hs,h4⟩
 case fa off x=>
  obtain ⟨v,h1,h2⟩:=qat ht h;obtain ⟨r,h3,h4⟩:=qay h2;exact ⟨r,S,ts,by simp only[evK,h1,qug,h3,que],hs,h4⟩
 case ia sz x i=>
  obtain ⟨p,h1,h2⟩:=qat ht h;obtain ⟨v,h3,h4⟩:=qat ht h2;obtain ⟨k,n,rfl,h5⟩:=qcs h4;obtain ⟨r,h6,h7⟩:=qoC hs h5;exact ⟨r,S,ts,by simp only[evK,h1,h3,h6,que],hs,h7⟩
 case idx x i=>
  obtain ⟨p,h1,h2⟩:=qat ht h;obtain ⟨v,h3,h4⟩:=qat ht h2;obtain ⟨k,n,rfl,h5⟩:=qcs h4;obtain ⟨s,r,rfl,h6,h7⟩:=qlA h5;exact ⟨r,S,ts,by simp only[evK,h1,h3,h6,que],hs,h7⟩
 case fld off k x=>
  obtain ⟨v,h1,h2⟩:=qat ht h;obtain ⟨h3,h4⟩:=qao h2;obtain ⟨r,h5,h6⟩:=qay h4;rw[qdZ] at h5;exact ⟨r,S,ts,by simp only[evK,h1,qug];rw[if_pos h3,h5];rfl,hs,h6⟩
 case slc s sz x lo hi=>
  obtain ⟨d,h1,h2⟩:=qat ht h;obtain ⟨l,h3,h4⟩:=qeO ht h2;obtain ⟨r,h5,h6⟩:=qeO ht h4;obtain ⟨w,h7,h8⟩:=qnD hs h6;exact ⟨w,S,ts,by simp only[evK,h1,h3,h5];exact h7,hs,h8⟩
 case ext i x=>
  obtain ⟨v,h1,h2⟩:=qat ht h;split at h2 <;> try cases h2
  obtain ⟨r,h3,h4⟩:=qay h2;rw[qdK] at h3;exact ⟨r,S,ts,by simp only[evK,h1,h3,que],hs,h4⟩
 case len s x=>
  obtain ⟨v,h1,h2⟩:=qat ht h;unfold qs0 at h2;split at h2
  ·obtain ⟨rfl,h3⟩:=qao h2;rw[qg8] at h3;exact ⟨_,S,ts,by simp only[evK,h1,qug];rfl,hs,h3⟩
  ·rw[qaZ] at h2;split at h2
   ·cases h2
   ·rename_i hb;simp only[qvw] at hb;subst hb;rw[qbC] at h2;exact ⟨_,S,ts,by simp only[evK,h1,qug];rfl,hs,h2⟩
  ·rw[qaZ] at h2;split at h2
   ·cases h2
   ·rename_i hb;simp only[qvw] at hb;subst hb;exact ⟨_,S,ts,by simp only[evK,h1,qug];rfl,hs,h2⟩
  ·cases h2
 case app sz bytes d x=>
  obtain ⟨u,h1,h2⟩:=qat ht h;obtain ⟨v,h3,h4⟩:=qat ht h2;obtain ⟨r,S',ts',h5,h6,h7⟩:=qkG hs h4;exact ⟨r,S',ts',by simp only[evK,h1,h3,h5],h6,h7⟩
 case mkf k fs cs=>
  obtain ⟨us,h1,h2⟩:=qbO ht h;obtain ⟨vs,h3,h4⟩:=qbO ht h2;exact ⟨_,S,ts,by simp only[evK,h1,h3],hs,h4⟩
 case conv k x=>
  obtain ⟨v,h1,h2⟩:=qat ht h;obtain ⟨k',n,rfl,h3⟩:=qcs h2;rw[qi8] at h3;exact ⟨_,S,ts,by simp only[evK,h1],hs,h3⟩
 case call=>cases h
 case ex x=>exact qoo ht hs h
def qjw(P:Program)(call:qg0):Prop:=∀(k:Nat) (args:List V) (ts:TS) (S:St) (c:V→TS→Bool),ts.Abs S→call k args ts c=true→
 ∃r S' ts',Spec P k args S (fun v U=>v=r∧U=S')∧Kept S S'∧ts'.Abs S'∧c r ts'=true
def qoG(call:qg0)(f:Opd)(args:List Opd)(tr:TE)(ts:TS)(c:V→TS→Bool):Bool:=
 opd f tr fun fv=>match fv with
  | .fn (.func k) fs cs=>evsR args tr fun vs=>call k (appR (appR fs vs) cs) ts c
  | _=>false
def opR(call:qg0)(k:K):TE→TS→(V→TS→Bool)→Bool:=
 match k with
 | .call f args=>qoG call f args
 | k=>opK k
theorem qkP{P:Program}{call:qg0}(ok:qjw P call){f:Opd}{args:List Opd}{tr:TE}{e:Env}{ts:TS}{S:St}{c:V→TS→Bool}(ht:tr.sub e)(hs:ts.Abs S)(h:qoG call f args tr ts c=true):
  ∃k fs cs vs,f.ev e=some (.fn (.func k) fs cs)∧evs e args=some vs∧∃r S' ts',Spec P k (fs++vs++cs) S (fun v U=>v=r∧U=S')∧Kept S S'∧ts'.Abs S'∧c r ts'=true:=by
 unfold qoG at h;obtain ⟨fv,h1,h2⟩:=qat ht h;split at h2 <;> try cases h2
 obtain ⟨vs,h3,h4⟩:=qbO ht h2;rw[qbg,qbg] at h4;exact ⟨_,_,_,vs,h1,h3,ok _ _ _ _ _ hs h4⟩
def qgL(g:Option (Nat×Bool))(tr:TE)(no yes:Bool):Bool:=
 Option.rec yes (fun p=>optR (Tx.get (path p.1) tr) fun v=>match v with
  | .bool b=>iteR (iteR b p.2 (notR p.2)) yes no
  | .tup vs=>iteR (qfP vs) no false
  | _=>false) g
theorem qds{g:Option (Nat×Bool)}{tr:TE}{e:Env}{no yes:Bool}(ht:tr.sub e)(h:qgL g tr no yes=true):(qaV e g=some true∧yes=true)∨(qaV e g=some false∧no=true):=by
  cases g with
  | none=>exact .inl ⟨rfl,h⟩
  | some p=>
    obtain ⟨t,want⟩:=p
    obtain ⟨v,h1,h2⟩:=qay (show (optR (Tx.get (path t) tr) fun v=>match v with
      | .bool b=>iteR (iteR b want (notR want)) yes no
      | .tup vs=>iteR (qfP vs) no false
      | _=>false)=true from h)
    have hg:=ht t v h1;split at h2
    · rename_i b;simp only[qaV,hg];cases b <;> cases want <;> first|exact .inl ⟨rfl,h2⟩|exact .inr ⟨rfl,h2⟩
    · rename_i vs;obtain ⟨h3,h4⟩:=qao (show iteR (qfP vs) no false=true from h2);rw[qfD,List.isEmpty_iff] at h3;subst h3;exact .inr ⟨by simp only[qaV,hg],h4⟩
    · cases h2
def rdR(base:Nat)(tr:TE)(d:D)(T:TS):Bool:=
 match d.slot with
 | some s=>match d.o.k with
  | .new z=>T.get (base+s) fun o=>match o with
   | .arr [y] sz 1=>andR (V.same y z) (andR (Nat.beq sz (qdD z)) (andR (Nat.ble 1 (qdD z)) (qgl z.cells)))
   | _=>false
  | _=>false
 | none=>iteR d.o.k.writes false (opK d.o.k tr T fun v _=>Option.rec true (fun t=>optR (Tx.get (path t) tr) fun u=>V.same u v) d.o.dst)
theorem qok{base:Nat}{tr:TE}{ef:Env}{d:D}{T:TS}{U:St}(ht:tr.sub ef)(hs:T.Abs U)(h:rdR base tr d T=true):match d.slot with
  | some s=>match d.o.k with
   | .new z=>U[base+s]?=some (.arr [z] z.size 1)∧0<z.size∧(z.cells.all V.flat)=true
   | _=>False
  | none=>∃v,evK ef U d.o.k=some (v,U)∧∀t,d.o.dst=some t→ef.get t=some v:=by
 unfold rdR at h;split at h
 ·rename_i s hsl;split at h <;> try cases h
  rename_i z hz;obtain ⟨o,h1,h2⟩:=TS.get_spec hs h;split at h2 <;> try cases h2
  have h1:=qeI h1;obtain ⟨q1,h3⟩:=qaw h2;obtain ⟨q2,h4⟩:=qaw h3;obtain ⟨q3,q4⟩:=qaw h4;rw[qb0] at q2 q3;rw[qdk] at q4;rw[qdb _ _ q1,qaM q2] at h1;exact ⟨h1,qaO q3,q4⟩
 ·rename_i hsl;rw[qaZ] at h;split at h
  ·cases h
  rename_i hw;simp only[qvw] at hw;obtain ⟨r,S',ts',g1,g2,g3⟩:=qd7 ht hs h;have:=qec hw g1;subst this;refine ⟨r,g1,fun t hd=>?_⟩;rw[hd] at g3;obtain ⟨u,k1,k2⟩:=qay (show (optR (Tx.get (path t) tr) fun u=>V.same u r)=true from g3);rw[ht t u k1,qdb _ _ k2]
def rdsR(base:Nat)(tr:TE)(H:List TS)(ds:List D):Bool:=List.rec true (fun d _ ih=>iteR (andR d.chk (notR d.w)) (andR (qgL d.o.g tr true (allR (rdR base tr d) (qgO (qgT H d.lo) (Nat.sub (Nat.succ d.hi) d.lo)))) ih) ih) ds
inductive HAbs:List TS→List St→Prop
 | nil:HAbs [] []
 | cons {T:TS} {U:St} {Ts:List TS} {Us:List St} (h:T.Abs U) (t:HAbs Ts Us):HAbs (T::Ts) (U::Us)
theorem HAbs.app{Ts:List TS}{Us:List St}{T:TS}{U:St}(h:HAbs Ts Us)(g:T.Abs U):HAbs (Ts++[T]) (Us++[U]):=by
 induction h with
 | nil=>exact .cons g .nil
 | cons h _ ih=>exact .cons h ih
theorem HAbs.drop{Ts:List TS}{Us:List St}(h:HAbs Ts Us):∀n,HAbs (Ts.drop n) (Us.drop n):=by
 induction h with
 | nil=>intro n;simp;exact .nil
 | cons h t ih=>intro n;cases n with
  | zero=>exact .cons h t
  | succ n=>simpa using ih n
theorem HAbs.take{Ts:List TS}{Us:List St}(h:HAbs Ts Us):∀n,HAbs (Ts.take n) (Us.take n):=by
 induction h with
 | nil=>intro n;simp;exact .nil
 | cons h t ih=>intro n;cases n with
  | zero=>exact .nil
  | succ n=>simpa using .cons h (ih n)
theorem qp8{base:Nat}{tr:TE}{ef:Env}{d:D}(ht:tr.sub ef){Ts:List TS}{Us:List St}(h:HAbs Ts Us):Ts.all (rdR base tr d)=true→qbw base ef d Us:=by
 induction h with
 | nil=>intro _;trivial
 | cons h t ih=>
  intro ha;rw[List.all_cons,qt3] at ha;exact ⟨qok ht h ha.1,ih ha.2⟩
theorem qfg{base:Nat}{tr:TE}{ef:Env}(ht:tr.sub ef){Ts:List TS}{Us:List St}(hh:HAbs Ts Us):∀{ds:List D},rdsR base tr Ts ds=true→qbj base ef Us ds
 | [],_=>trivial
 | d::ds,h=>by
  have h0:iteR (andR d.chk (notR d.w)) (andR (qgL d.o.g tr true (allR (rdR base tr d) (qgO (qgT Ts d.lo) (Nat.sub (Nat.succ d.hi) d.lo)))) (rdsR base tr Ts ds)) (rdsR base tr Ts ds)=true:=h;rw[qaZ,qek,qee] at h0;unfold qbj;split at h0
  ·rename_i hc;obtain ⟨h1,h2⟩:=qaw h0;refine ⟨?_,qfg ht hh h2⟩;rw[if_pos hc];rcases qds ht h1 with ⟨hw,h3⟩|⟨hw,_⟩
   ·rw[hw];rw[qdc,qcO,qc0] at h3;exact qp8 ht ((hh.drop _).take _) h3
   ·rw[hw];trivial
  ·rename_i hc;exact ⟨by rw[if_neg hc];trivial,qfg ht hh h0⟩
def qrC(H:List TS)(d:TS→Bool):Bool:=List.rec (motive:=fun _=>(Bool→Bool)) (fun b=>b) (fun t _ ih _=>ih (d t)) H false
theorem qjf(d:TS→Bool):∀(H:List TS) (b:Bool),(List.rec (motive:=fun _=>(Bool→Bool)) (fun b=>b) (fun t _ ih _=>ih (d t)) H b:Bool)=match H.getLast? with|some t=>d t|none=>b
 | [],b=>rfl
 | [t],b=>rfl
 | t::u::H,b=>by
  show (List.rec (motive:=fun _=>(Bool→Bool)) (fun b=>b) (fun t _ ih _=>ih (d t)) (u::H) (d t):Bool)=_;rw[qjf d (u::H),qvM]
theorem HAbs.last{Ts:List TS}{Us:List St}(h:HAbs Ts Us):∀{t:TS},Ts.getLast?=some t→∃U,Us.getLast?=some U∧t.Abs U:=by
 induction h with
 | nil=>intro t ht;cases ht
 | cons h t ih=>
  rename_i T U Ts Us;intro t' ht
  cases t with
  | nil=>simp at ht;subst ht;exact ⟨U,rfl,h⟩
  | cons h' t''=>
   rw[qvM] at ht;obtain ⟨W,g1,g2⟩:=ih ht;exact ⟨W,by rw[qvM];exact g1,g2⟩
def fD(call:qg0)(base:Nat)(all:List D)(ds:List D):TE→TS→List TS→(TE→TS→Bool)→Bool:=List.rec (motive:=fun _=>TE→TS→List TS→(TE→TS→Bool)→Bool)
 (fun tr _ H k=>iteR (rdsR base tr H all) (qrC H fun ts=>k tr ts) false)
 (fun d _ ih tr ts H k=>qgL d.o.g tr (ih (TE.put tr d.o.dst (.tup [])) ts (iteR d.w (appR H [ts]) H) k)
  (Option.rec (opR call d.o.k tr ts fun v ts'=>ih (TE.put tr d.o.dst v) ts' (iteR d.w (appR H [ts']) H) k) (fun s=>ih (TE.put tr d.o.dst (.ptr (Nat.add base s) 0 0 1)) ts (iteR d.w (appR H [ts]) H) k) d.slot)) ds
theorem HAbs.wapp{Ts:List TS}{Us:List St}{T:TS}{U:St}(h:HAbs Ts Us)(g:T.Abs U)(w:Bool):HAbs (iteR w (appR Ts [T]) Ts) (if w then Us++[U] else Us):=by
 cases w
 ·exact h
 ·show HAbs (appR Ts [T]) _;rw[qbg];exact h.app g
theorem qdm{P:Program}{call:qg0}(ok:qjw P call){base:Nat}{all:List D}:∀{ds:List D} {tr:TE} {e:Env} {ts:TS} {S S0:St} {Ts:List TS} {Us:List St} {k:TE→TS→Bool},tr.sub e→ts.Abs S→HAbs Ts Us→(Kept S0 S∧∀U,U∈Us→Kept S0 U)→fD call base all ds tr ts Ts k=true→
    ∃tr' ts' S' e',(Kept S0 S'∧ts'.Abs S')∧tr'.sub e'∧k tr' ts'=true∧∀Q:Env→St→Prop,Q e' S'→dwp P base ds (dend base all Q) e S Us
  | [],tr,e,ts,S,S0,Ts,Us,k,ht,hs,hh,hK,h=>by
    obtain ⟨h1,h2⟩:=qao (show iteR (rdsR base tr Ts all) (qrC Ts fun ts=>k tr ts) false=true from h);unfold qrC at h2;rw[qjf] at h2
    cases hl:Ts.getLast? with
    | none=>rw[hl] at h2;cases h2
    | some t=>
      rw[hl] at h2;obtain ⟨U,g1,g2⟩:=hh.last hl;refine ⟨tr,t,U,e,⟨hK.2 U (List.mem_of_getLast? g1),g2⟩,ht,h2,fun Q hQ=>?_⟩;simp only[dwp,dend];exact ⟨qfg ht hh h1,by rw[g1];exact hQ⟩
  | d::ds,tr,e,ts,S,S0,Ts,Us,k,ht,hs,hh,hK,h=>by
    have up:∀{S1:St} (w:Bool),Kept S0 S1→(Kept S0 S1∧∀U,U∈(if w then Us++[S1] else Us)→Kept S0 U):=fun {S1} w h1=>⟨h1,fun U hU=>by
      cases w
      · exact hK.2 U (by simpa using hU)
      · have hU:U∈Us++[S1]:=by simpa using hU
        rcases qup.1 hU with hU|hU
        · exact hK.2 U hU
        · rw[quY] at hU;subst hU;exact h1⟩
    rcases qds ht (show qgL d.o.g tr (fD call base all ds (TE.put tr d.o.dst (.tup [])) ts (iteR d.w (appR Ts [ts]) Ts) k)
      (Option.rec (opR call d.o.k tr ts fun v ts'=>fD call base all ds (TE.put tr d.o.dst v) ts' (iteR d.w (appR Ts [ts']) Ts) k) (fun s=>fD call base all ds (TE.put tr d.o.dst (.ptr (Nat.add base s) 0 0 1)) ts (iteR d.w (appR Ts [ts]) Ts) k) d.slot)=true from h) with ⟨hw,h1⟩|⟨hw,h1⟩
    · cases hsl:d.slot with
      | some s=>
        rw[hsl] at h1;obtain ⟨tr',ts',S',e',k1,k4,k2,k3⟩:=qdm ok (TE.sub_put ht d.o.dst (.ptr (base+s) 0 0 1)) hs (hh.wapp hs d.w) (up d.w hK.1) (show fD call base all ds (TE.put tr d.o.dst (.ptr (base+s) 0 0 1)) ts (iteR d.w (appR Ts [ts]) Ts) k=true from h1);exact ⟨tr',ts',S',e',k1,k4,k2,fun Q hQ=>by simp only[dwp,hw,hsl];exact k3 Q hQ⟩
      | none=>
        rw[hsl] at h1;have h1:opR call d.o.k tr ts (fun v ts'=>fD call base all ds (TE.put tr d.o.dst v) ts' (iteR d.w (appR Ts [ts']) Ts) k)=true:=h1;by_cases hc:∃f args,d.o.k=.call f args
        · obtain ⟨f,args,hk⟩:=hc;rw[hk] at h1;obtain ⟨kf,fs,cs,vs,g1,g2,r,S1,ts1,g3,g6,g4,g5⟩:=qkP ok ht hs (show qoG call f args tr ts _=true from h1);obtain ⟨tr',ts',S',e',k1,k4,k2,k3⟩:=qdm ok (TE.sub_put ht d.o.dst r) g4 (hh.wapp g4 d.w) (up d.w (hK.1.trans g6)) g5;refine ⟨tr',ts',S',e',k1,k4,k2,fun Q hQ=>?_⟩;simp only[dwp,hw,hsl,hk,g1,g2];exact qd0 g3 (k3 Q hQ)
        · have h2:opK d.o.k tr ts (fun v ts'=>fD call base all ds (TE.put tr d.o.dst v) ts' (iteR d.w (appR Ts [ts']) Ts) k)=true:=by
            revert h1 hc;generalize d.o.k=kk;intro h1 hc;cases kk <;> first|exact h1|exact absurd ⟨_,_,rfl⟩ hc
          obtain ⟨r,S1,ts1,g1,g2,g3⟩:=qd7 ht hs h2;obtain ⟨tr',ts',S',e',k1,k4,k2,k3⟩:=qdm ok (TE.sub_put ht d.o.dst r) g2 (hh.wapp g2 d.w) (up d.w (hK.1.trans (qe2 g1))) g3;refine ⟨tr',ts',S',e',k1,k4,k2,fun Q hQ=>?_⟩;simp only[dwp,hw,hsl];revert g1 hc;generalize d.o.k=kk;intro hc g1;cases kk <;> first
            | (exfalso;exact hc ⟨_,_,rfl⟩)
            | (simp only[g1];exact k3 Q hQ)
    · obtain ⟨tr',ts',S',e',k1,k4,k2,k3⟩:=qdm ok (TE.sub_put ht d.o.dst (.tup [])) hs (hh.wapp hs d.w) (up d.w hK.1) h1;exact ⟨tr',ts',S',e',k1,k4,k2,fun Q hQ=>by simp only[dwp,hw];exact k3 Q hQ⟩
abbrev KC:=Exit→TE→TS→Bool
def seqK(k:KC)(next:TE→TS→Bool):KC:=fun x tr ts=>match x with
 | .normal=>next tr ts
 | x=>k x tr ts
def qgi(id:Nat)(k:KC):KC:=fun x tr ts=>match x with
 | .exit i=>iteR (Nat.beq i id) (k .normal tr ts) (k (.exit i) tr ts)
 | x=>k x tr ts
def qjt(k:KC):KC:=fun x tr ts=>match x with
 | .goto _=>false
 | x=>k x tr ts
def qfU(zs:List V):TS→(TS→Bool)→Bool:=List.rec (motive:=fun _=>TS→(TS→Bool)→Bool) (fun ts c=>c ts) (fun z _ ih ts c=>qb3 ts.len fun n=>ih (TS.push ⟨n,ts.tr⟩ (.arr [z] (qdD z) 1)) c) zs
theorem qcJ:∀{zs:List V} {ts:TS} {S:St} {c:TS→Bool},ts.Abs S→qfU zs ts c=true→∃ts',ts'.Abs (S++phs zs)∧c ts'=true
 | [],ts,S,c,hs,h=>⟨ts,by simpa[phs] using hs,h⟩
 | z::zs,ts,S,c,hs,h=>by
  have h1:(qb3 ts.len fun n=>qfU zs (TS.push ⟨n,ts.tr⟩ (.arr [z] (qdD z) 1)) c)=true:=h;rw[qby,qb0] at h1;obtain ⟨ts',h2,h3⟩:=qcJ (TS.push_abs hs) h1;exact ⟨ts',by simpa[phs] using h2,h3⟩
def qgM(f:TE→TS→KC→Bool)(k:KC)(n:Nat):TE→TS→Bool:=Nat.rec (motive:=fun _=>TE→TS→Bool) (fun _ _=>false) (fun _ again tr ts=>f tr ts (seqK k again)) n
def qeD:Nat:=1000000
def qnm(P:Program)(c:C')(Q:Post):Nat→Env→St→Prop
 | 0,_,_=>False
 | n+1,e,S=>∀R:Env→St→Prop,(∀e S,qnm P c Q n e S→R e S)→WP P c (qdI R Q) e S
theorem qjG{P:Program}{c:C'}{Q:Post}{n:Nat}{e:Env}{S:St}(h:qnm P c Q n e S):WP P (.loop c) Q e S:=by
 simp only[WP];refine ⟨qnm P c Q,n,⟨e,fun _ _ h=>h,h⟩,fun m e S hm=>?_⟩
 cases m with
 | zero=>exact hm.elim
 | succ m=>exact hm _ fun e' S' hl=>⟨m,Nat.lt_succ_self m,e',fun _ _ h=>h,hl⟩
def qtE(P:Program)(c:C')(tr:TE)(e:Env)(ts:TS)(S:St)(k:KC):Prop:=
 ∃x tr' ts' S' e',(Kept S S'∧ts'.Abs S')∧tr'.sub e'∧k x tr' ts'=true∧∀Q:Post,Q x e' S'→WP P c Q e S
structure Tb where
 fn:Nat→Option F'
 pr:Nat→List V→Option V
structure Tb.Ok(P:Program)(T:Tb):Prop where
 fn:∀k f',T.fn k=some f'→∃f,P.funcs[k]?=some f∧qeT P f=some f'
 pr:∀k args r,T.pr k args=some r→∀S,Spec P k args S (fun v U=>v=r∧U=S)
def qgH(args:List V):Nat→TE→TE:=List.rec (motive:=fun _=>Nat→TE→TE) (fun _ t=>t) (fun v _ ih k t=>ih (Nat.succ k) (Tx.put v (path k) t)) args
theorem qfN:∀(args:List V) (k:Nat) (t:TE) (e:Env),t.sub e→(∀j v,e.get j=some v→j<k)→(qgH args k t).sub (qbr k args++e)
 | [],k,t,e,h,_=>h
 | v::vs,k,t,e,h,hk=>by
  have h1:=qfN vs (k+1) (Tx.put v (path k) t) ((k,v)::e) (TE.sub_put h (some k) v) (fun j w hj=>by
   simp only[Env.get] at hj;split at hj
   ·omega
   ·have:=hk j w hj;omega)
  intro j w hj;have h2:=h1 j w hj;show Env.get ((k,v)::(qbr (k+1) vs++e)) j=some w
  have app:∀(a b:Env) (j:Nat),Env.get (a++b) j=match Env.get a j with|some x=>some x|none=>Env.get b j:=by
   intro a b j
   induction a with
   | nil=>rfl
   | cons p a ih=>
    obtain ⟨q,u⟩:=p;simp only[qt8,Env.get];split
    ·rfl
    ·exact ih
  simp only[Env.get];rw[app] at h2 ⊢
  cases ha:Env.get (qbr (k+1) vs) j with
  | some x=>
   rw[ha] at h2;have:=(qej vs (k+1) j x ha).1;rw[if_neg (by omega)];exact h2
  | none=>
   rw[ha] at h2;simp only[Env.get] at h2;exact h2
def rvsR(rs:List RV)(tr:TE)(ts:TS):(List V→Bool)→Bool:=List.rec (motive:=fun _=>(List V→Bool)→Bool) (fun c=>c []) (fun r _ ih c=>RV.rec (fun t=>optR (Tx.get (path t) tr) fun v=>ih fun vs=>c (v::vs)) (fun t k=>optR (Tx.get (path t) tr) fun p=>ldR p k ts fun v=>ih fun vs=>c (v::vs)) r) rs
theorem qd3{tr:TE}{e:Env}{ts:TS}{S:St}(ht:tr.sub e)(hs:ts.Abs S):∀{rs:List RV} {c:List V→Bool},rvsR rs tr ts c=true→∃vs,rvs e S rs=some vs∧c vs=true
 | [],c,h=>⟨[],rfl,h⟩
 | .t t::rs,c,h=>by
  obtain ⟨v,h1,h2⟩:=qay (show (optR (Tx.get (path t) tr) fun v=>rvsR rs tr ts fun vs=>c (v::vs))=true from h);obtain ⟨vs,h3,h4⟩:=qd3 ht hs h2;exact ⟨v::vs,by simp only[rvs,ht t v h1,h3],h4⟩
 | .cell t k::rs,c,h=>by
  obtain ⟨p,h1,h2⟩:=qay (show (optR (Tx.get (path t) tr) fun p=>ldR p k ts fun v=>rvsR rs tr ts fun vs=>c (v::vs))=true from h);obtain ⟨v,h3,h4⟩:=qjL hs h2;obtain ⟨vs,h5,h6⟩:=qd3 ht hs h4;exact ⟨v::vs,by simp only[rvs,ht t p h1,h5,h3,que],h6⟩
def retR(vs:List V)(c:V→Bool):Bool:=List.rec (c (.tup [])) (fun v t _=>iteR (qfP t) (c v) (c (.tup (v::t)))) vs
theorem qnk(vs:List V)(c:V→Bool):retR vs c=c (retV vs):=by
 cases vs with
 | nil=>rfl
 | cons v t=>cases t <;> rfl
def endK(rs:List RV)(c:V→TS→Bool):KC:=fun x tr ts=>match x with
 | .normal=>rvsR rs tr ts fun vs=>retR vs fun v=>c v ts
 | .ret=>rvsR rs tr ts fun vs=>retR vs fun v=>c v ts
 | _=>false
theorem qb7{P:Program}:∀{os:List O'} {Q Q':Env→St→Prop} {e:Env} {S:St},(∀e S,Q e S→Q' e S)→wops P os Q e S→wops P os Q' e S
 | [],_,_,_,_,hq,h=>hq _ _ h
 | o::os,Q,Q',e,S,hq,h=>by
  simp only[wops] at h ⊢;split at h
  ·exact h.elim
  ·exact qb7 hq h
  ·generalize o.k=k at h ⊢;cases k
   case call f args=>
    simp only at h ⊢;split at h
    ·obtain ⟨R,h1,h2⟩:=h;exact ⟨R,h1,fun r S' hr=>qb7 hq (h2 r S' hr)⟩
    ·obtain ⟨R,h1,h2⟩:=h;exact ⟨R,h1,fun r S' hr=>qb7 hq (h2 r S' hr)⟩
    ·exact h.elim
   all_goals
    simp only at h ⊢
    split at h
    ·exact qb7 hq h
    ·rcases h with ⟨h1,h2⟩|⟨h1,h2⟩
     ·exact .inl ⟨h1,fun v hv=>qb7 hq (h2 v hv)⟩
     ·exact .inr ⟨h1,fun q hv=>qb7 hq (h2 q hv)⟩
theorem qdt{P:Program}{base:Nat}:∀{ds:List D} {K K':Env→List St→Prop} {e:Env} {S:St} {H:List St},(∀e H,K e H→K' e H)→dwp P base ds K e S H→dwp P base ds K' e S H
 | [],_,_,_,_,_,hq,h=>hq _ _ h
 | d::ds,K,K',e,S,H,hq,h=>by
  simp only[dwp] at h ⊢;split at h
  ·exact h.elim
  ·exact qdt hq h
  ·split at h
   ·exact qdt hq h
   ·generalize d.o.k=k at h ⊢;cases k
    case call f args=>
     simp only at h ⊢;split at h
     ·obtain ⟨R,h1,h2,h3⟩:=h;exact ⟨R,h1,h2,fun v S' hR=>qdt hq (h3 v S' hR)⟩
     ·exact h.elim
    all_goals
     simp only at h ⊢
     split at h
     ·exact qdt hq h
     ·exact h.elim
theorem qc2{P:Program}:∀{c:C'} {Q Q':Post} {e:Env} {S:St},(∀x e S,Q x e S→Q' x e S)→WP P c Q e S→WP P c Q' e S:=by
 intro c
 induction c with
 | skip=>intro Q Q' e S hq h;exact hq _ _ _ h
 | reg ops=>intro Q Q' e S hq h;exact qb7 (hq .normal) h
 | draw ds zs=>
  intro Q Q' e S hq h;refine qdt (fun e H hd=>?_) h;simp only[dend] at hd ⊢;refine ⟨hd.1,?_⟩;have h2:=hd.2;split at h2
  ·exact hq _ _ _ h2
  ·exact h2.elim
 | drawl ds zs o=>
  intro Q Q' e S hq h;refine qdt (fun e H hd=>?_) h;simp only[dend] at hd ⊢;refine ⟨hd.1,?_⟩;have h2:=hd.2;split at h2
  ·exact qb7 (hq .normal) h2
  ·exact h2.elim
 | seq a b iha ihb=>
  intro Q Q' e S hq h;refine iha (fun x e S hx=>?_) h;cases x <;> first|exact hq _ _ _ hx|exact ihb hq hx
 | cond c a b iha ihb=>
  intro Q Q' e S hq h;simp only[WP] at h ⊢;split at h
  ·exact ⟨fun ht=>iha hq (h.1 ht),fun ht=>ihb hq (h.2 ht)⟩
  ·exact h.elim
 | block id c ih=>
  intro Q Q' e S hq h;refine ih (fun x e S hx=>?_) h;cases x <;> simp only[qc7] at hx ⊢<;> try exact hq _ _ _ hx
  split at hx
  ·rename_i hi;rw[if_pos hi];exact hq _ _ _ hx
  ·rename_i hi;rw[if_neg hi];exact hq _ _ _ hx
 | scope c ih=>
  intro Q Q' e S hq h;refine ih (fun x e S hx=>?_) h;cases x <;> simp only[qfu] at hx ⊢<;> exact hq _ _ _ hx
 | loop c ih=>
  intro Q Q' e S hq h;obtain ⟨I,n,h0,h1⟩:=h;refine ⟨I,n,h0,fun n e S hi=>ih (fun x e S hx=>?_) (h1 n e S hi)⟩;cases x <;> first|exact hq _ _ _ hx|exact hx
 | exit id=>intro Q Q' e S hq h;exact hq _ _ _ h
 | ret=>intro Q Q' e S hq h;exact hq _ _ _ h
 | bad=>intro Q Q' e S hq h;exact h
 | rf g ps asg body ca cb N ts iha ihb=>
  intro Q Q' e S hq h;simp only[WP] at h ⊢;intro h1 h2;have h:=h h1 h2;split at h
  ·obtain ⟨R,g1,g2⟩:=h;refine ⟨R,g1,fun r S' hr=>?_⟩;obtain ⟨i,k1,k2,k3⟩:=g2 r S' hr;refine ⟨i,k1,k2,?_⟩;split at k3 <;> first|exact hq _ _ _ k3|exact k3.elim
  ·exact h.elim
abbrev qhv:=List V→TS→(V→TS→Bool)→Bool
abbrev Ctx:=List (Nat×qhv)
abbrev qcC:=Ctx→Nat→List V→TS→(V→TS→Bool)→Bool
def Out(S:St)(c:V→TS→Bool)(r:V)(S':St):Prop:=Kept S S'∧∃ts',ts'.Abs S'∧c r ts'=true
def HasL(i0:LI)(l:Nat)(S:St):Prop:=∃st pend,S[l]?=some (Ob.loop { i0 with st:=st,pend:=pend })
theorem HasL.kept{i0:LI}{l:Nat}{S S':St}(h:HasL i0 l S)(g:Kept S S'):HasL i0 l S':=by
 obtain ⟨st,p,h⟩:=h;obtain ⟨st',p',h'⟩:=g l _ h;exact ⟨st',p',h'⟩
def qef(P:Program):Ctx→St→Prop
 | [],_=>True
 | (l,rnd)::ctx,S=>qef P ctx S∧∃i0:LI,HasL i0 l S∧∀(args:List V) (ts:TS) (U:St) (c:V→TS→Bool),qef P ctx U→HasL i0 l U→ts.Abs U→rnd args ts c=true→qbJ P l args U (Out U c)
theorem qef.kept{P:Program}:∀{ctx:Ctx} {S S':St},qef P ctx S→Kept S S'→qef P ctx S'
 | [],_,_,_,_=>trivial
 | (l,rnd)::ctx,S,S',⟨h1,i0,h2,h3⟩,hk=>⟨qef.kept h1 hk,i0,h2.kept hk,h3⟩
def ctxR(l:Nat)(ctx:Ctx):Option qhv:=List.rec none (fun p _ ih=>iteR (Nat.beq p.1 l) (some p.2) ih) ctx
theorem qha{P:Program}{l:Nat}{rnd:qhv}{args:List V}{ts:TS}{S:St}{c:V→TS→Bool}:∀{ctx:Ctx},qef P ctx S→ctxR l ctx=some rnd→ts.Abs S→rnd args ts c=true→qbJ P l args S (Out S c)
 | [],_,h,_,_=>by cases h
 | (l',r')::ctx,⟨h1,i0,h2,h3⟩,h,hs,hr=>by
  have h':iteR (Nat.beq l' l) (some r') (ctxR l ctx)=some rnd:=h;rw[qaZ] at h';split at h'
  ·rename_i hb;have:=qaM hb;subst this;cases h';exact h3 args ts S c h1 h2 hs hr
  ·exact qha h1 h' hs hr
def GOk(P:Program)(call:qcC):Prop:=∀(ctx:Ctx) (k:Nat) (args:List V) (ts:TS) (S:St) (c:V→TS→Bool),qef P ctx S→ts.Abs S→call ctx k args ts c=true→Spec P k args S (Out S c)
def qnJ(call:qcC)(ctx:Ctx)(f:Opd)(args:List Opd)(tr:TE)(ts:TS)(c:V→TS→Bool):Bool:=
 opd f tr fun fv=>match fv with
  | .fn (.func k) fs cs=>evsR args tr fun vs=>call ctx k (appR (appR fs vs) cs) ts c
  | .yld l=>evsR args tr fun vs=>optR (ctxR l ctx) fun rnd=>rnd vs ts c
  | _=>false
def qr2(neg:Bool)(v:V)(ts:TS)(c:V→TS→Bool):Bool:=
 match v with
 | .sl _ xs=>iteR (qfP xs) (andR (c (.bool true) ts) (c (.bool false) ts)) (c (.bool neg) ts)
 | .arr _ _ _ _=>c (.bool neg) ts
 | _=>false
def opGx(x:X):TE→TS→(V→TS→Bool)→Bool:=
 match x with
 | .nxt x=>fun tr ts c=>opd x tr fun p=>qoT p ts c
 | .eqn neg x=>fun tr ts c=>opd x tr fun v=>qr2 neg v ts c
 | x=>opX x
def opG(call:qcC)(ctx:Ctx)(k:K):TE→TS→(V→TS→Bool)→Bool:=
 match k with
 | .call f args=>qnJ call ctx f args
 | .ex x=>opGx x
 | k=>opK k
theorem qoB{P:Program}{call:qcC}{ctx:Ctx}{o:O'}{os:List O'}{tr:TE}{e:Env}{ts:TS}{S:St}{c:V→TS→Bool}{Q:Env→St→Prop}(hw:qaV e o.g=some true)(hc:∀f args,o.k≠.call f args)(ht:tr.sub e)(hs:ts.Abs S)
  (h:opG call ctx o.k tr ts c=true) (hn:∀r S' ts',Kept S S'→ts'.Abs S'→c r ts'=true→wops P os Q (e.put o.dst r) S'):wops P (o::os) Q e S:=by
 have main:∀{kk:K},o.k=kk→Done e S kk c→wops P (o::os) Q e S:=by
  intro kk hk ⟨r,S1,ts1,g1,g2,g3⟩;have h3:=hn r S1 ts1 (qe2 g1) g2 g3;simp only[wops,hw];rw[hk] at hc ⊢;cases kk <;> first
   | (exfalso;exact hc _ _ rfl)
   | (simp only[g1];exact h3)
 generalize hk:o.k=kk at h;cases kk <;> try exact main hk (qd7 ht hs h)
 case call f args=>exact absurd hk (hc f args)
 case ex x=>
  cases x <;> try exact main hk (qd7 (k:=.ex _) ht hs h)
  case nxt x=>
   obtain ⟨p,h1,h2⟩:=qat (x:=x) (c:=fun p=>qoT p ts c) ht h;obtain ⟨h3,h4⟩:=qjZ hs h2;simp only[wops,hw,hk,evK,evX];refine .inr ⟨?_,fun q hq=>?_⟩
   ·simp only[ndS,h1];exact h3
   ·simp only[ndS,h1] at hq;obtain ⟨ts',g1,g2⟩:=h4 q hq;exact hn q.1 q.2 ts' (qlz hq) g1 g2
  case eqn neg x=>
   obtain ⟨v,h1,h2⟩:=qat (x:=x) (c:=fun v=>qr2 neg v ts c) ht h;unfold qr2 at h2;split at h2
   ·rename_i b xs;rw[qaZ,qfD] at h2
    cases xs with
    | nil=>
     obtain ⟨h3,h4⟩:=qaw (show andR (c (.bool true) ts) (c (.bool false) ts)=true from h2);simp only[wops,hw,hk,evK,evX,h1];refine .inl ⟨by simp[ndK,ndX,h1],fun v hv=>?_⟩;simp only[ndK,ndX,h1,qum,qva,or_false] at hv;rcases hv with rfl|rfl
     ·exact hn _ _ ts (Kept.refl _) hs h3
     ·exact hn _ _ ts (Kept.refl _) hs h4
    | cons y ys=>
     simp only[wops,hw,hk,evK,evX,h1];exact hn _ _ ts (Kept.refl _) hs (by simpa using h2)
   ·simp only[wops,hw,hk,evK,evX,h1];exact hn _ _ ts (Kept.refl _) hs h2
   ·cases h2
def gO(call:qcC)(ctx:Ctx)(os:List O'):TE→TS→(TE→TS→Bool)→Bool:=List.rec (motive:=fun _=>TE→TS→(TE→TS→Bool)→Bool) (fun tr ts k=>k tr ts)
 (fun o _ ih tr ts k=>qgL o.g tr (ih (TE.put tr o.dst (.tup [])) ts k) (opG call ctx o.k tr ts fun v ts'=>ih (TE.put tr o.dst v) ts' k)) os
theorem qeH{P:Program}{call:qcC}(ok:GOk P call){ctx:Ctx}{S0:St}(hctx:qef P ctx S0):∀{os:List O'} {tr:TE} {e:Env} {ts:TS} {S:St} {k:TE→TS→Bool},Kept S0 S→tr.sub e→ts.Abs S→gO call ctx os tr ts k=true→
  wops P os (fun e' S'=>Kept S0 S'∧∃tr' ts',tr'.sub e'∧ts'.Abs S'∧k tr' ts'=true) e S
 | [],tr,e,ts,S,k,hK,ht,hs,h=>⟨hK,tr,ts,ht,hs,h⟩
 | o::os,tr,e,ts,S,k,hK,ht,hs,h=>by
  rcases qds ht (show qgL o.g tr (gO call ctx os (TE.put tr o.dst (.tup [])) ts k) (opG call ctx o.k tr ts fun v ts'=>gO call ctx os (TE.put tr o.dst v) ts' k)=true from h) with ⟨hw,h1⟩|⟨hw,h1⟩
  ·by_cases hc:∃f args,o.k=.call f args
   ·obtain ⟨f,args,hk⟩:=hc;rw[hk] at h1;obtain ⟨fv,h2,h3⟩:=qat (x:=f) ht (show qnJ call ctx f args tr ts _=true from h1);simp only[wops,hw,hk,h2];split at h3
    ·obtain ⟨vs,h4,h5⟩:=qbO ht h3;rw[qbg,qbg] at h5;simp only[h4];refine ⟨_,ok ctx _ _ ts S _ (hctx.kept hK) hs h5,fun r S' hr=>?_⟩;obtain ⟨hk',ts',h6,h7⟩:=hr;exact qeH ok hctx (hK.trans hk') (TE.sub_put ht o.dst r) h6 h7
    ·obtain ⟨vs,h4,h5⟩:=qbO ht h3;obtain ⟨rnd,h6,h7⟩:=qay h5;simp only[h4];refine ⟨_,qha (hctx.kept hK) h6 hs h7,fun r S' hr=>?_⟩;obtain ⟨hk',ts',h8,h9⟩:=hr;exact qeH ok hctx (hK.trans hk') (TE.sub_put ht o.dst r) h8 h9
    ·cases h3
   ·refine qoB hw (fun f args hk=>hc ⟨f,args,hk⟩) ht hs h1 fun r S' ts' hk' ha hcc=>?_
    exact qeH ok hctx (hK.trans hk') (TE.sub_put ht o.dst r) ha hcc
  ·simp only[wops,hw];exact qeH ok hctx hK (TE.sub_put ht o.dst (.tup [])) hs h1
def qfB(s:LoopState):Bool:=match s with|.ready=>true|_=>false
def qk7(s:LoopState):Bool:=match s with|.busy=>false|_=>true
def qgG(ps:List Nat):List V→TE→TE:=List.rec (motive:=fun _=>List V→TE→TE) (fun _ t=>t) (fun p _ ih vs t=>List.rec t (fun v vs _=>ih vs (Tx.put v (path p) t)) vs) ps
theorem qdS:∀(ps:List Nat) (vs:List V) {t:TE} {e:Env},t.sub e→(qgG ps vs t).sub (qcE ps vs e)
 | [],vs,t,e,h=>by cases vs <;> exact h
 | p::ps,[],t,e,h=>h
 | p::ps,v::vs,t,e,h=>by
  simp only[qcE];exact qdS ps vs (TE.sub_put h (some p) v)
def qdp(ts:List Nat)(tr:TE):TE:=List.rec .nil (fun t _ ih=>Option.rec ih (fun v=>Tx.put v (path t) ih) (Tx.get (path t) tr)) ts
theorem qfi{tr:TE}{e:Env}(h:tr.sub e):∀(ts:List Nat),(qdp ts tr).sub (e.keep ts)∧∀k v,Tx.get (path k) (qdp ts tr)=some v→Tx.get (path k) tr=some v
 | []=>⟨fun k v hk=>(by rw[show qdp [] tr=.nil from rfl,Tx.get_nil] at hk;cases hk),fun k v hk=>(by rw[show qdp [] tr=.nil from rfl,Tx.get_nil] at hk;cases hk)⟩
 | t::ts=>by
  obtain ⟨ih1,ih2⟩:=qfi h ts
  cases hg:Tx.get (path t) tr with
  | none=>
   have he:qdp (t::ts) tr=qdp ts tr:=by
    show (Option.rec (qdp ts tr) (fun v=>Tx.put v (path t) (qdp ts tr)) (Tx.get (path t) tr):TE)=_;rw[hg]
   rw[he];refine ⟨fun k v hk=>?_,ih2⟩;have h1:=ih1 k v hk;simp only[Env.keep];split
   ·simp only[Env.get];split
    ·rename_i hkt;subst hkt;have:=ih2 _ v hk;rw[hg] at this;cases this
    ·exact h1
   ·exact h1
  | some w=>
   have he:qdp (t::ts) tr=Tx.put w (path t) (qdp ts tr):=by
    show (Option.rec (qdp ts tr) (fun v=>Tx.put v (path t) (qdp ts tr)) (Tx.get (path t) tr):TE)=_;rw[hg]
   rw[he];have hew:=h t w hg;refine ⟨fun k v hk=>?_,fun k v hk=>?_⟩
   ·simp only[Env.keep,hew,Env.get];by_cases hkt:t=k
    ·subst hkt;rw[Tx.get_put_same] at hk;cases hk;rw[if_pos rfl]
    ·rw[Tx.get_put_ne _ _ _ _ (fun hp=>hkt (qd9 hp))] at hk;rw[if_neg hkt];exact ih1 k v hk
   ·by_cases hkt:t=k
    ·subst hkt;rw[Tx.get_put_same] at hk;cases hk;exact hg
    ·rw[Tx.get_put_ne _ _ _ _ (fun hp=>hkt (qd9 hp))] at hk;exact ih2 k v hk
def skL(st:LoopState)(p:Option Code):Ob:=.loop ⟨st,p,[],.skip,.skip,[],0⟩
def qpM(l:Nat)(c:V→TS→Bool):KC:=fun x _ ts=>match x with
 | .normal=>ts.get l fun o=>match o with
  | .loop _=>c (.bool true) (ts.set l (skL .ready none))
  | _=>false
 | .ret=>ts.get l fun o=>match o with
  | .loop _=>c (.bool false) (ts.set l (skL .done (some .ret)))
  | _=>false
 | .exit id=>ts.get l fun o=>match o with
  | .loop _=>c (.bool false) (ts.set l (skL .done (some (.exit id))))
  | _=>false
 | _=>false
def qhW(fb:TE→TS→KC→Bool)(l:Nat)(c:V→TS→Bool):KC:=fun x tr ts=>match x with
 | .normal=>ts.get l fun o=>match o with
  | .loop i=>iteR (qfB i.st) (fb tr (ts.set l (skL .busy i.pend)) (qpM l c)) false
  | _=>false
 | _=>false
def qfr(fa fb:TE→TS→KC→Bool)(ps:List Nat)(trk:TE)(l:Nat):qhv:=fun args ts c=>
 iteR (Nat.beq (lenR args) (lenR ps)) (ts.get l fun o=>match o with
  | .loop i=>iteR (qfB i.st) (fa (qgG ps args trk) ts (qhW fb l c)) false
  | _=>false) false
def qn5(S0:St)(k:KC):Post:=fun x e' S'=>Kept S0 S'∧∃tr' ts',tr'.sub e'∧ts'.Abs S'∧k x tr' ts'=true
def qoi(P:Program)(ctx:Ctx)(c:C')(f:TE→TS→KC→Bool):Prop:=∀{S0:St} {tr:TE} {e:Env} {ts:TS} {S:St} {k:KC},qef P ctx S0→Kept S0 S→tr.sub e→ts.Abs S→f tr ts k=true→WP P c (qn5 S0 k) e S
theorem qcz{s:LoopState}(h:qfB s=true):s=.ready:=by cases s <;> first|rfl|cases h
theorem qeQ{s:LoopState}(h:qk7 s=true):s≠.busy:=by cases s <;> first|(cases h;done)|(intro hh;cases hh)
theorem Kept.setLoop{S:St}{l:Nat}{i:LI}(h:S[l]?=some (Ob.loop i))(st:LoopState)(p:Option Code):Kept S (S.set l (Ob.loop { i with st:=st,pend:=p })):=fun j i' hj=>by
 by_cases hk:l=j
 ·subst hk;rw[h] at hj;cases hj;exact ⟨st,p,by rw[qtZ (qtV.1 h).1]⟩
 ·exact ⟨i'.st,i'.pend,by rw[qtY hk];exact hj⟩
theorem qiF{P:Program}{ctx:Ctx}{ca cb:C'}{fa fb:TE→TS→KC→Bool}(ha:qoi P ctx ca fa)(hb:qoi P ctx cb fb){i0:LI}{l:Nat}{trk:TE}(htk:trk.sub i0.e)(hca:comp P i0.N i0.asg=some ca)(hcb:comp P i0.N i0.body=some cb)
    (na:ca.noRf=true) (nb:cb.noRf=true) (hps:i0.ps.all (fun p=>decide (p<i0.N))=true) {args:List V} {ts:TS} {U:St} {c:V→TS→Bool} (hctx:qef P ctx U) (hl:HasL i0 l U) (hs:ts.Abs U) (h:qfr fa fb i0.ps trk l args ts c=true):qbJ P l args U (Out U c):=by
  obtain ⟨h1,h2⟩:=qao (show iteR (Nat.beq (lenR args) (lenR i0.ps)) (ts.get l fun o=>match o with
    | .loop i=>iteR (qfB i.st) (fa (qgG i0.ps args trk) ts (qhW fb l c)) false
    | _=>false) false=true from h)
  rw[qbC,qbC] at h1;have h1:=qaM h1;obtain ⟨st,pd,hl⟩:=hl;obtain ⟨o,k1,k2⟩:=TS.get_spec hs h2;split at k2 <;> try cases k2
  obtain ⟨j,j1,j2,j3⟩:=qdi k1;rw[hl] at j1;cases j1;obtain ⟨k3,k4⟩:=qao k2;have k3:=qcz k3;refine qbJ.intro (ca:=ca) (cb:=cb) hl hca hcb (j2.trans k3) na nb h1 hps ?_;refine qc2 (fun x e1 S1 hx=>?_) (ha hctx (Kept.refl U) (qdS i0.ps args htk) hs k4);obtain ⟨hK1,tr1,ts1,m1,m2,m3⟩:=hx;cases x <;> try (cases m3)
  simp only[qhW] at m3;obtain ⟨o1,n1,n2⟩:=TS.get_spec m2 m3;split at n2 <;> try cases n2
  obtain ⟨i1,q1,q2,q3⟩:=qdi n1;obtain ⟨n3,n4⟩:=qao n2;have n3:=qcz n3;refine ⟨i1,q1,q2.trans n3,?_⟩;have hK2:Kept S1 (S1.set l (Ob.loop { i1 with st:=.busy })):=Kept.setLoop q1 .busy i1.pend;have hs2:=TS.set_abs' (o:=skL .busy _) (o1:=.loop { i1 with st:=.busy }) m2 q1 (by rw[show Ob.sk (.loop { i1 with st:=.busy })=skL .busy i1.pend from rfl,q3]);refine qc2 (fun x e2 S2 hx=>?_) (hb hctx (hK1.trans hK2) m1 hs2 n4);obtain ⟨hK3,tr2,ts2,p1,p2,p3⟩:=hx;cases x <;> try (cases p3)
  all_goals
    simp only[qpM] at p3
    obtain ⟨o2,r1,r2⟩:=TS.get_spec p2 p3
    split at r2 <;> try cases r2
    obtain ⟨i2,s1,s2,s3⟩:=qdi r1
    exact ⟨i2,s1,hK3.trans (Kept.setLoop s1 _ _),_,TS.set_abs' p2 s1 rfl,r2⟩
def qcL(P:Program):Ctx→St→Prop
 | [],_=>True
 | (l,rnd)::ctx,S=>qcL P ctx S∧∃i0:LI,HasL i0 l S∧∀(args:List V) (ts:TS) (U:St) (c:V→TS→Bool),qcL P ctx U→HasL i0 l U→ts.Abs U→rnd args ts c=true→
  ∃r S' ts',qbJ P l args U (fun v W=>v=r∧W=S')∧Kept U S'∧ts'.Abs S'∧c r ts'=true
theorem qcL.kept{P:Program}:∀{ctx:Ctx} {S S':St},qcL P ctx S→Kept S S'→qcL P ctx S'
 | [],_,_,_,_=>trivial
 | (l,rnd)::ctx,S,S',⟨h1,i0,h2,h3⟩,hk=>⟨qcL.kept h1 hk,i0,h2.kept hk,h3⟩
theorem qgk{P:Program}{l:Nat}{rnd:qhv}{args:List V}{ts:TS}{S:St}{c:V→TS→Bool}:∀{ctx:Ctx},qcL P ctx S→ctxR l ctx=some rnd→ts.Abs S→rnd args ts c=true→
  ∃r S' ts',qbJ P l args S (fun v W=>v=r∧W=S')∧Kept S S'∧ts'.Abs S'∧c r ts'=true
 | [],_,h,_,_=>by cases h
 | (l',r')::ctx,⟨h1,i0,h2,h3⟩,h,hs,hr=>by
  have h':iteR (Nat.beq l' l) (some r') (ctxR l ctx)=some rnd:=h;rw[qaZ] at h';split at h'
  ·rename_i hb;have:=qaM hb;subst this;cases h';exact h3 args ts S c h1 h2 hs hr
  ·exact qgk h1 h' hs hr
def DOk(P:Program)(call:qcC):Prop:=∀(ctx:Ctx) (k:Nat) (args:List V) (ts:TS) (S:St) (c:V→TS→Bool),qcL P ctx S→ts.Abs S→call ctx k args ts c=true→
 ∃r S' ts',Spec P k args S (fun v U=>v=r∧U=S')∧Kept S S'∧ts'.Abs S'∧c r ts'=true
def qhs(call:qcC):qg0:=fun k args ts c=>call [] k args ts c
theorem qgu{P:Program}{call:qcC}(ok:DOk P call):qjw P (qhs call):=fun k args ts S c hs h=>ok [] k args ts S c trivial hs h
def opDk(call:qcC)(ctx:Ctx)(k:K):TE→TS→(V→TS→Bool)→Bool:=
 match k with
 | .call f args=>qnJ call ctx f args
 | k=>opK k
def dO(call:qcC)(ctx:Ctx)(os:List O'):TE→TS→(TE→TS→Bool)→Bool:=List.rec (motive:=fun _=>TE→TS→(TE→TS→Bool)→Bool) (fun tr ts k=>k tr ts)
 (fun o _ ih tr ts k=>qgL o.g tr (ih (TE.put tr o.dst (.tup [])) ts k) (opDk call ctx o.k tr ts fun v ts'=>ih (TE.put tr o.dst v) ts' k)) os
theorem qew{P:Program}{call:qcC}(ok:DOk P call){ctx:Ctx}:∀{os:List O'} {tr:TE} {e:Env} {ts:TS} {S:St} {k:TE→TS→Bool},qcL P ctx S→tr.sub e→ts.Abs S→dO call ctx os tr ts k=true→
  ∃tr' ts' S' e',(Kept S S'∧ts'.Abs S')∧tr'.sub e'∧k tr' ts'=true∧∀Q:Env→St→Prop,Q e' S'→wops P os Q e S
 | [],tr,e,ts,S,k,_,ht,hs,h=>⟨tr,ts,S,e,⟨Kept.refl _,hs⟩,ht,h,fun Q hQ=>hQ⟩
 | o::os,tr,e,ts,S,k,hctx,ht,hs,h=>by
  rcases qds ht (show qgL o.g tr (dO call ctx os (TE.put tr o.dst (.tup [])) ts k) (opDk call ctx o.k tr ts fun v ts'=>dO call ctx os (TE.put tr o.dst v) ts' k)=true from h) with ⟨hw,h1⟩|⟨hw,h1⟩
  ·by_cases hc:∃f args,o.k=.call f args
   ·obtain ⟨f,args,hk⟩:=hc;rw[hk] at h1;obtain ⟨fv,h2,h3⟩:=qat (x:=f) ht (show qnJ call ctx f args tr ts _=true from h1);split at h3
    ·obtain ⟨vs,h4,h5⟩:=qbO ht h3;rw[qbg,qbg] at h5;obtain ⟨r,S1,ts1,g3,g6,g4,g5⟩:=ok ctx _ _ ts S _ hctx hs h5;obtain ⟨tr',ts',S',e',k1,k4,k2,k3⟩:=qew ok (hctx.kept g6) (TE.sub_put ht o.dst r) g4 g5;refine ⟨tr',ts',S',e',⟨g6.trans k1.1,k1.2⟩,k4,k2,fun Q hQ=>?_⟩;simp only[wops,hw,hk,h2,h4];exact ⟨_,g3,fun r' U hr=>by obtain ⟨rfl,rfl⟩:=hr;exact k3 Q hQ⟩
    ·obtain ⟨vs,h4,h5⟩:=qbO ht h3;obtain ⟨rnd,h6,h7⟩:=qay h5;obtain ⟨r,S1,ts1,g3,g6,g4,g5⟩:=qgk hctx h6 hs h7;obtain ⟨tr',ts',S',e',k1,k4,k2,k3⟩:=qew ok (hctx.kept g6) (TE.sub_put ht o.dst r) g4 g5;refine ⟨tr',ts',S',e',⟨g6.trans k1.1,k1.2⟩,k4,k2,fun Q hQ=>?_⟩;simp only[wops,hw,hk,h2,h4];exact ⟨_,g3,fun r' U hr=>by obtain ⟨rfl,rfl⟩:=hr;exact k3 Q hQ⟩
    ·cases h3
   ·have h2:opK o.k tr ts (fun v ts'=>dO call ctx os (TE.put tr o.dst v) ts' k)=true:=by
     revert h1 hc;generalize o.k=kk;intro h1 hc;cases kk <;> first|exact h1|exact absurd ⟨_,_,rfl⟩ hc
    obtain ⟨r,S1,ts1,g1,g2,g3⟩:=qd7 ht hs h2;obtain ⟨tr',ts',S',e',k1,k4,k2,k3⟩:=qew ok (hctx.kept (qe2 g1)) (TE.sub_put ht o.dst r) g2 g3;refine ⟨tr',ts',S',e',⟨(qe2 g1).trans k1.1,k1.2⟩,k4,k2,fun Q hQ=>?_⟩;simp only[wops,hw];revert g1 hc;generalize o.k=kk;intro hc g1;cases kk <;> first
     | (exfalso;exact hc ⟨_,_,rfl⟩)
     | (simp only[g1];exact k3 Q hQ)
  ·obtain ⟨tr',ts',S',e',k1,k4,k2,k3⟩:=qew ok hctx (TE.sub_put ht o.dst (.tup [])) hs h1;exact ⟨tr',ts',S',e',k1,k4,k2,fun Q hQ=>by simp only[wops,hw];exact k3 Q hQ⟩
def qog(P:Program)(ctx:Ctx)(c:C')(f:TE→TS→KC→Bool):Prop:=∀{tr:TE} {e:Env} {ts:TS} {S:St} {k:KC},qcL P ctx S→tr.sub e→ts.Abs S→f tr ts k=true→qtE P c tr e ts S k
theorem qib{P:Program}{ctx:Ctx}{ca cb:C'}{fa fb:TE→TS→KC→Bool}(ha:qog P ctx ca fa)(hb:qog P ctx cb fb){i0:LI}{l:Nat}{trk:TE}(htk:trk.sub i0.e)(hca:comp P i0.N i0.asg=some ca)(hcb:comp P i0.N i0.body=some cb)
    (na:ca.noRf=true) (nb:cb.noRf=true) (hps:i0.ps.all (fun p=>decide (p<i0.N))=true) {args:List V} {ts:TS} {U:St} {c:V→TS→Bool} (hctx:qcL P ctx U) (hl:HasL i0 l U) (hs:ts.Abs U) (h:qfr fa fb i0.ps trk l args ts c=true):
    ∃r S' ts',qbJ P l args U (fun v W=>v=r∧W=S')∧Kept U S'∧ts'.Abs S'∧c r ts'=true:=by
  obtain ⟨h1,h2⟩:=qao (show iteR (Nat.beq (lenR args) (lenR i0.ps)) (ts.get l fun o=>match o with
    | .loop i=>iteR (qfB i.st) (fa (qgG i0.ps args trk) ts (qhW fb l c)) false
    | _=>false) false=true from h)
  rw[qbC,qbC] at h1;have h1:=qaM h1;obtain ⟨st,pd,hl⟩:=hl;obtain ⟨o,k1,k2⟩:=TS.get_spec hs h2;split at k2 <;> try cases k2
  obtain ⟨j,j1,j2,j3⟩:=qdi k1;rw[hl] at j1;cases j1;obtain ⟨k3,k4⟩:=qao k2;have k3:=qcz k3;obtain ⟨x1,tr1,ts1,S1,e1,⟨hK1,m2⟩,m1,m3,w1⟩:=ha hctx (qdS i0.ps args htk) hs k4;cases x1 <;> try (cases m3)
  simp only[qhW] at m3;obtain ⟨o1,n1,n2⟩:=TS.get_spec m2 m3;split at n2 <;> try cases n2
  obtain ⟨i1,q1,q2,q3⟩:=qdi n1;obtain ⟨n3,n4⟩:=qao n2;have n3:=qcz n3;have hK2:Kept S1 (S1.set l (Ob.loop { i1 with st:=.busy })):=Kept.setLoop q1 .busy i1.pend;have hs2:=TS.set_abs' (o:=skL .busy _) (o1:=.loop { i1 with st:=.busy }) m2 q1 (by rw[show Ob.sk (.loop { i1 with st:=.busy })=skL .busy i1.pend from rfl,q3]);obtain ⟨x2,tr2,ts2,S2,e2,⟨hK3,p2⟩,p1,p3,w2⟩:=hb (hctx.kept (hK1.trans hK2)) m1 hs2 n4;have intro:∀r S',qeR l (fun v W=>v=r∧W=S') x2 e2 S2→qbJ P l args U (fun v W=>v=r∧W=S'):=fun r S' hr=>
    qbJ.intro (ca:=ca) (cb:=cb) hl hca hcb (j2.trans k3) na nb h1 hps (w1 _ ⟨i1,q1,q2.trans n3,w2 _ hr⟩)
  cases x2 <;> try (cases p3)
  all_goals
    simp only[qpM] at p3
    obtain ⟨o2,r1,r2⟩:=TS.get_spec p2 p3
    split at r2 <;> try cases r2
    obtain ⟨i2,s1,s2,s3⟩:=qdi r1
    exact ⟨_,_,_,intro _ _ ⟨i2,s1,rfl,rfl⟩,(hK1.trans hK2).trans (hK3.trans (Kept.setLoop s1 _ _)),TS.set_abs' p2 s1 rfl,r2⟩
def C'.wf(P:Program):C'→Prop
 | .seq a b|.cond _ a b=>a.wf P∧b.wf P
 | .block _ c|.scope c|.loop c=>c.wf P
 | .rf _ _ asg body ca cb N _=>comp P N asg=some ca∧comp P N body=some cb∧ca.wf P∧cb.wf P
 | _=>True
theorem qpI{P:Program}{N:Nat}:∀(c:Code) {c':C'},comp P N c=some c'→c'.wf P:=by
 intro c
 induction c with
 | region id ops draw=>
  intro c' h;simp only[comp] at h;split at h
  ·split at h
   ·cases h;trivial
   ·split at h <;> cases h <;> trivial
  ·split at h <;> cases h <;> trivial
 | seq x y ihx ihy=>
  intro c' h;simp only[comp] at h;split at h <;> cases h;rename_i hx hy;exact ⟨ihx hx,ihy hy⟩
 | cond o x y ihx ihy=>
  intro c' h;simp only[comp] at h;split at h <;> cases h;rename_i hx hy;exact ⟨ihx hx,ihy hy⟩
 | block id x ih=>
  intro c' h;simp only[comp] at h
  cases hx:comp P N x with
  | none=>rw[hx] at h;cases h
  | some x'=>rw[hx] at h;cases h;exact (show x'.wf P from ih hx)
 | scope x ih=>
  intro c' h;simp only[comp] at h
  cases hx:comp P N x with
  | none=>rw[hx] at h;cases h
  | some x'=>rw[hx] at h;cases h;exact (show x'.wf P from ih hx)
 | loop x ih=>
  intro c' h;simp only[comp] at h
  cases hx:comp P N x with
  | none=>rw[hx] at h;cases h
  | some x'=>rw[hx] at h;cases h;exact (show x'.wf P from ih hx)
 | rangeFunc f ps asg body iha ihb=>
  intro c' h;simp only[comp] at h;split at h
  ·rename_i hca hcb;split at h
   ·cases h;exact ⟨hca,hcb,iha hca,ihb hcb⟩
   ·cases h;trivial
  ·cases h;trivial
 | _=>intro c' h;simp only[comp,Option.some.injEq] at h;subst h;trivial
theorem qoc{P:Program}{fn:Func}{f:F'}(h:qeT P fn=some f):f.body.wf P:=by
 unfold qeT at h;split at h
 ·split at h
  ·cases h
  ·rename_i c rs hb hrs hn
   cases hx:comp P fn.ntmps c with
   | none=>rw[hx] at h;cases h
   | some c'=>rw[hx] at h;cases h;exact qpI c hx
 ·cases h
def qhX(l:Nat)(tr:TE)(k:KC):V→TS→Bool:=fun _ ts=>ts.get l fun o=>match o with
 | .loop i=>iteR (qk7 i.st) (match i.pend with
  | none=>k .normal tr (ts.set l (skL .exhausted none))
  | some .ret=>k .ret tr (ts.set l (skL .exhausted (some .ret)))
  | some (.exit id)=>k (.exit id) tr (ts.set l (skL .exhausted (some (.exit id))))
  | _=>false) false
 | _=>false
def rfG(call:qcC)(ctx:Ctx)(g:Opd)(ps:List Nat)(na nb:Bool)(N:Nat)(tsl:List Nat)(fa fb:TE→TS→KC→Bool)(tr:TE)(ts:TS)(k:KC):Bool:=
 iteR (andR na (andR nb (ps.all fun p=>decide (p<N)))) (opd g tr fun gv=>match gv with
  | .fn (.func kf) fs cs=>qb3 ts.len fun l=>call ((l,qfr fa fb ps (qdp tsl tr) l)::ctx) kf (appR (appR fs [.yld l]) cs) (TS.push ⟨l,ts.tr⟩ (skL .ready none)) (qhX l tr k)
  | _=>false) false
def dC(call:qcC)(ctx:Ctx)(c:C'):TE→TS→KC→Bool:=C'.rec (motive:=fun _=>TE→TS→KC→Bool)
 (fun tr ts k=>k .normal tr ts)
 (fun ops tr ts k=>dO call ctx ops tr ts fun tr' ts'=>k .normal tr' ts')
 (fun ds zs tr ts k=>qfU zs ts fun ts1=>fD (qhs call) ts.len ds ds tr ts1 [ts1] fun tr' ts'=>k .normal tr' ts')
 (fun ds zs o tr ts k=>qfU zs ts fun ts1=>fD (qhs call) ts.len ds ds tr ts1 [ts1] fun tr' ts'=>dO call ctx [o] tr' ts' fun tr' ts'=>k .normal tr' ts')
 (fun _ _ iha ihb tr ts k=>iha tr ts (seqK k fun tr' ts'=>ihb tr' ts' k))
 (fun c _ _ iha ihb tr ts k=>opd c tr fun v=>qir v fun b=>iteR b (iha tr ts k) (ihb tr ts k))
 (fun id _ ih tr ts k=>ih tr ts (qgi id k))
 (fun _ ih tr ts k=>ih tr ts (qjt k))
 (fun _ ih tr ts k=>qgM ih k qeD tr ts)
 (fun id tr ts k=>k (.exit id) tr ts)
 (fun tr ts k=>k .ret tr ts)
 (fun _ _ _=>false)
 (fun g ps _ _ ca cb N tsl iha ihb tr ts k=>rfG call ctx g ps ca.noRf cb.noRf N tsl iha ihb tr ts k) c
theorem qgd{P:Program}{ctx:Ctx}{c:C'}{f:TE→TS→KC→Bool}(ih:qog P ctx c f):
  ∀(n:Nat) {tr:TE} {e:Env} {ts:TS} {S:St} {k:KC},qcL P ctx S→tr.sub e→ts.Abs S→qgM f k n tr ts=true→
  ∃x tr' ts' S' e',(Kept S S'∧ts'.Abs S')∧tr'.sub e'∧k x tr' ts'=true∧∀Q:Post,Q x e' S'→qnm P c Q n e S
 | 0,tr,e,ts,S,k,_,ht,hs,h=>by cases h
 | n+1,tr,e,ts,S,k,hctx,ht,hs,h=>by
  obtain ⟨x1,tr1,ts1,S1,e1,a1,a2,a3,a4⟩:=ih hctx ht hs (show f tr ts (seqK k (qgM f k n))=true from h);by_cases hx:x1=.normal
  ·subst hx;obtain ⟨x,tr',ts',S',e',b1,b2,b3,b4⟩:=qgd ih n (hctx.kept a1.1) a2 a1.2 (show qgM f k n tr1 ts1=true from a3);exact ⟨x,tr',ts',S',e',⟨a1.1.trans b1.1,b1.2⟩,b2,b3,fun Q hQ R hR=>a4 _ (hR _ _ (b4 Q hQ))⟩
  ·have a5:k x1 tr1 ts1=true:=by
    cases x1 <;> first|exact absurd rfl hx|exact a3
   refine ⟨x1,tr1,ts1,S1,e1,a1,a2,a5,fun Q hQ R hR=>a4 _ ?_⟩;cases x1 <;> first|exact absurd rfl hx|exact hQ
theorem qqI{P:Program}{call:qcC}(ok:DOk P call){ctx:Ctx}:∀(c:C'),c.wf P→qog P ctx c (dC call ctx c):=by
  intro c
  induction c with
  | skip=>intro hwf tr e ts S k hctx ht hs h;exact ⟨_,tr,ts,S,e,⟨Kept.refl _,hs⟩,ht,h,fun Q hQ=>hQ⟩
  | reg ops=>
    intro hwf tr e ts S k hctx ht hs h;obtain ⟨tr',ts',S',e',h1,h2,h3,h4⟩:=qew ok hctx ht hs (show dO call ctx ops tr ts (fun tr' ts'=>k .normal tr' ts')=true from h);exact ⟨_,tr',ts',S',e',h1,h2,h3,fun Q hQ=>h4 (Q .normal) hQ⟩
  | draw ds zs=>
    intro hwf tr e ts S k hctx ht hs h;obtain ⟨ts1,g1,g2⟩:=qcJ hs (show (qfU zs ts fun ts1=>fD (qhs call) ts.len ds ds tr ts1 [ts1] fun tr' ts'=>k .normal tr' ts')=true from h);obtain ⟨tr',ts',S',e',h1,h2,h3,h4⟩:=qdm (S0:=S) (qgu ok) ht g1 (.cons g1 .nil) ⟨Kept.app _ _,fun U hU=>by rw[quY] at hU;subst hU;exact Kept.app _ _⟩ g2
    exact ⟨_,tr',ts',S',e',h1,h2,h3,fun Q hQ=>by
      simp only[WP];rw[hs.1];exact h4 (Q .normal) hQ⟩
  | drawl ds zs o=>
    intro hwf tr e ts S k hctx ht hs h;obtain ⟨ts1,g1,g2⟩:=qcJ hs (show (qfU zs ts fun ts1=>fD (qhs call) ts.len ds ds tr ts1 [ts1] fun tr' ts'=>dO call ctx [o] tr' ts' fun tr' ts'=>k .normal tr' ts')=true from h);obtain ⟨tr1,ts1',S1,e1,h1,h2,h3,h4⟩:=qdm (S0:=S) (qgu ok) ht g1 (.cons g1 .nil) ⟨Kept.app _ _,fun U hU=>by rw[quY] at hU;subst hU;exact Kept.app _ _⟩ g2;obtain ⟨tr',ts',S',e',k1,k2,k3,k4⟩:=qew ok (hctx.kept h1.1) h2 h1.2 h3
    exact ⟨_,tr',ts',S',e',⟨h1.1.trans k1.1,k1.2⟩,k2,k3,fun Q hQ=>by
      simp only[WP];rw[hs.1];exact h4 (qcT P o Q .normal) (k4 (Q .normal) hQ)⟩
  | seq a b iha ihb=>
    intro hwf tr e ts S k hctx ht hs h;obtain ⟨x1,tr1,ts1,S1,e1,a1,a2,a3,a4⟩:=iha hwf.1 hctx ht hs (show dC call ctx a tr ts (seqK k fun tr' ts'=>dC call ctx b tr' ts' k)=true from h);by_cases hx:x1=.normal
    · subst hx;obtain ⟨x,tr',ts',S',e',b1,b2,b3,b4⟩:=ihb hwf.2 (hctx.kept a1.1) a2 a1.2 (show dC call ctx b tr1 ts1 k=true from a3);exact ⟨x,tr',ts',S',e',⟨a1.1.trans b1.1,b1.2⟩,b2,b3,fun Q hQ=>a4 _ (b4 Q hQ)⟩
    · have a5:k x1 tr1 ts1=true:=by
        cases x1 <;> first|exact absurd rfl hx|exact a3
      refine ⟨x1,tr1,ts1,S1,e1,a1,a2,a5,fun Q hQ=>a4 _ ?_⟩;cases x1 <;> first|exact absurd rfl hx|exact hQ
  | cond c a b iha ihb=>
    intro hwf tr e ts S k hctx ht hs h;obtain ⟨v,h1,h2⟩:=qat (x:=c) (c:=fun v=>qir v fun t=>iteR t (dC call ctx a tr ts k) (dC call ctx b tr ts k)) ht h;obtain ⟨t,rfl,h3⟩:=qeE h2;cases t
    · obtain ⟨x,tr',ts',S',e',b1,b2,b3,b4⟩:=ihb hwf.2 hctx ht hs (show dC call ctx b tr ts k=true from h3);exact ⟨x,tr',ts',S',e',b1,b2,b3,fun Q hQ=>by simp only[WP,h1];exact ⟨fun h=>(by cases h),fun _=>b4 Q hQ⟩⟩
    · obtain ⟨x,tr',ts',S',e',b1,b2,b3,b4⟩:=iha hwf.1 hctx ht hs (show dC call ctx a tr ts k=true from h3);exact ⟨x,tr',ts',S',e',b1,b2,b3,fun Q hQ=>by simp only[WP,h1];exact ⟨fun _=>b4 Q hQ,fun h=>(by cases h)⟩⟩
  | block id c ih=>
    intro hwf tr e ts S k hctx ht hs h;obtain ⟨x1,tr1,ts1,S1,e1,a1,a2,a3,a4⟩:=ih hwf hctx ht hs (show dC call ctx c tr ts (qgi id k)=true from h);by_cases hx:∃i,x1=.exit i
    · obtain ⟨i,rfl⟩:=hx;simp only[qgi,qaZ] at a3;split at a3
      · rename_i hi;have hi:=qaM hi;exact ⟨_,tr1,ts1,S1,e1,a1,a2,a3,fun Q hQ=>a4 _ (by simp only[qc7];rw[if_pos hi];exact hQ)⟩
      · rename_i hi;have hi:¬ i=id:=fun hh=>hi (qdw.2 hh)
        exact ⟨_,tr1,ts1,S1,e1,a1,a2,a3,fun Q hQ=>a4 _ (by simp only[qc7];rw[if_neg hi];exact hQ)⟩
    · have a5:k x1 tr1 ts1=true:=by
        cases x1 <;> first|exact absurd ⟨_,rfl⟩ hx|exact a3
      refine ⟨x1,tr1,ts1,S1,e1,a1,a2,a5,fun Q hQ=>a4 _ ?_⟩;cases x1 <;> first|exact absurd ⟨_,rfl⟩ hx|exact hQ
  | scope c ih=>
    intro hwf tr e ts S k hctx ht hs h;obtain ⟨x1,tr1,ts1,S1,e1,a1,a2,a3,a4⟩:=ih hwf hctx ht hs (show dC call ctx c tr ts (qjt k)=true from h);cases x1 <;> first
      | (exact (by cases a3))
      | exact ⟨_,tr1,ts1,S1,e1,a1,a2,a3,fun Q hQ=>a4 _ hQ⟩
  | loop c ih=>
    intro hwf tr e ts S k hctx ht hs h;obtain ⟨x,tr',ts',S',e',b1,b2,b3,b4⟩:=qgd (ih hwf) qeD hctx ht hs (show qgM (dC call ctx c) k qeD tr ts=true from h);exact ⟨x,tr',ts',S',e',b1,b2,b3,fun Q hQ=>qjG (b4 Q hQ)⟩
  | exit id=>intro hwf tr e ts S k hctx ht hs h;exact ⟨_,tr,ts,S,e,⟨Kept.refl _,hs⟩,ht,h,fun Q hQ=>hQ⟩
  | ret=>intro hwf tr e ts S k hctx ht hs h;exact ⟨_,tr,ts,S,e,⟨Kept.refl _,hs⟩,ht,h,fun Q hQ=>hQ⟩
  | bad=>intro hwf tr e ts S k hctx ht hs h;cases h
  | rf g ps asg body ca cb N tsl iha ihb=>
    intro hwf tr e ts S k hctx ht hs h
    obtain ⟨h1,h2⟩:=qao (show iteR (andR ca.noRf (andR cb.noRf (ps.all fun p=>decide (p<N)))) (opd g tr fun gv=>match gv with
      | .fn (.func kf) fs cs=>qb3 ts.len fun l=>call ((l,qfr (dC call ctx ca) (dC call ctx cb) ps (qdp tsl tr) l)::ctx) kf (appR (appR fs [.yld l]) cs) (TS.push ⟨l,ts.tr⟩ (skL .ready none)) (qhX l tr k)
      | _=>false) false=true from h)
    obtain ⟨na,h3⟩:=qaw h1;obtain ⟨nb,hps⟩:=qaw h3;obtain ⟨gv,h4,h5⟩:=qat ht h2;split at h5 <;> try cases h5
    rename_i kf fs cs;rw[qby,qbg,qbg] at h5;have hlen:=hs.1;obtain ⟨hca,hcb,wa,wb⟩:=hwf
    let i0:LI:=⟨.ready,none,ps,asg,body,e.keep tsl,N⟩
    have hs1:(TS.push ⟨ts.len,ts.tr⟩ (skL .ready none)).Abs (S++[Ob.loop i0]):=TS.push_abs' hs rfl;have hl0:(S++[Ob.loop i0])[S.length]?=some (Ob.loop i0):=by simp
    have hctx1:qcL P ((ts.len,qfr (dC call ctx ca) (dC call ctx cb) ps (qdp tsl tr) ts.len)::ctx) (S++[Ob.loop i0]):=by
      refine ⟨hctx.kept (Kept.app _ _),i0,⟨.ready,none,by rw[←hlen];exact hl0⟩,fun args ts2 U c hU hl hs2 hr=>?_⟩;exact qib (i0:=i0) (iha wa) (ihb wb) (qfi ht tsl).1 hca hcb na nb hps hU hl hs2 hr
    obtain ⟨r,S1,ts1,hspec,hK1,g1,g2⟩:=ok _ _ _ _ _ _ hctx1 hs1 h5;rw[←hlen] at hspec;unfold qhX at g2;obtain ⟨o,k1,k2⟩:=TS.get_spec g1 g2;split at k2 <;> try cases k2
    rename_i i;rw[←hlen] at k1;obtain ⟨j,j1,j2,j3⟩:=qdi k1;obtain ⟨k3,k4⟩:=qao k2;have hKK:∀st p,Kept S (S1.set S.length (Ob.loop { j with st:=st,pend:=p })):=fun st p=>(Kept.app S _).trans (hK1.trans (Kept.setLoop j1 st p))
    have fin:∀x,(∀Q:Post,Q x e (S1.set S.length (Ob.loop { j with st:=.exhausted }))→match j.pend with
        | none=>Q .normal e (S1.set S.length (Ob.loop { j with st:=.exhausted }))
        | some .ret=>Q .ret e (S1.set S.length (Ob.loop { j with st:=.exhausted }))
        | some (.exit id)=>Q (.exit id) e (S1.set S.length (Ob.loop { j with st:=.exhausted }))
        | some _=>False)→∀Q:Post,Q x e (S1.set S.length (Ob.loop { j with st:=.exhausted }))→WP P (.rf g ps asg body ca cb N tsl) Q e S:=by
      intro x hx Q hQ;simp only[WP];intro _ _;rw[h4];refine ⟨_,hspec,fun r' U hr=>?_⟩;obtain ⟨rfl,rfl⟩:=hr;exact ⟨j,j1,by rw[j2];exact qeQ k3,hx Q hQ⟩
    split at k4
    · rename_i hp;rw[hp] at j3;refine ⟨_,tr,ts1.set S.length (skL .exhausted none),_,e,⟨hKK .exhausted j.pend,TS.set_abs' g1 j1 (by cases j;simp only at j3;subst j3;rfl)⟩,ht,by rw[←hlen] at k4;exact k4,fin .normal fun Q hQ=>by cases j;simp only at j3;subst j3;exact hQ⟩
    · rename_i hp;rw[hp] at j3;refine ⟨_,tr,ts1.set S.length (skL .exhausted (some .ret)),_,e,⟨hKK .exhausted j.pend,TS.set_abs' g1 j1 (by cases j;simp only at j3;subst j3;rfl)⟩,ht,by rw[←hlen] at k4;exact k4,fin .ret fun Q hQ=>by cases j;simp only at j3;subst j3;exact hQ⟩
    · rename_i id hp;rw[hp] at j3;refine ⟨_,tr,ts1.set S.length (skL .exhausted (some (.exit id))),_,e,⟨hKK .exhausted j.pend,TS.set_abs' g1 j1 (by cases j;simp only at j3;subst j3;rfl)⟩,ht,by rw[←hlen] at k4;exact k4,fin (.exit id) fun Q hQ=>by cases j;simp only at j3;subst j3;exact hQ⟩
    · cases k4
def dF(T:Tb)(n:Nat):qcC:=Nat.rec (motive:=fun _=>qcC) (fun _ _ _ _ _=>false)
 (fun _ ih ctx k args ts c=>Option.rec (Option.rec false (fun f=>iteR (Nat.ble (lenR args) f.N) (dC ih ctx f.body (qgH args 0 .nil) ts (endK f.rs c)) false) (T.fn k)) (fun r=>c r ts) (T.pr k args)) n
theorem qsR{P:Program}{T:Tb}(ok:T.Ok P):∀n,DOk P (dF T n)
 | 0=>fun ctx k args ts S c _ hs h=>by cases h
 | n+1=>fun ctx k args ts S c hctx hs h=>by
  have h0:(Option.rec (Option.rec false (fun f=>iteR (Nat.ble (lenR args) f.N) (dC (dF T n) ctx f.body (qgH args 0 .nil) ts (endK f.rs c)) false) (T.fn k)) (fun r=>c r ts) (T.pr k args):Bool)=true:=h
  cases hp:T.pr k args with
  | some r=>
   rw[hp] at h0;exact ⟨r,S,ts,ok.pr _ _ _ hp S,Kept.refl _,hs,h0⟩
  | none=>
   rw[hp] at h0
   cases hf:T.fn k with
   | none=>rw[hf] at h0;cases h0
   | some f=>
    rw[hf] at h0;obtain ⟨h1,h2⟩:=qao (show iteR (Nat.ble (lenR args) f.N) (dC (dF T n) ctx f.body (qgH args 0 .nil) ts (endK f.rs c)) false=true from h0);rw[qbC] at h1;obtain ⟨fn,g1,g2⟩:=ok.fn _ _ hf
    have hsub:(qgH args 0 .nil).sub (qbr 0 args):=by
     have:=qfN args 0 .nil [] (fun j v hj=>by rw[Tx.get_nil] at hj;cases hj) (fun j v hj=>by cases hj);simpa using this
    obtain ⟨x,tr',ts',S',e',a1,a2,a3,a4⟩:=qqI (qsR ok n) f.body (qoc g2) hctx hsub hs h2
    have fin:(x=.normal∨x=.ret)→(rvsR f.rs tr' ts' fun vs=>retR vs fun v=>c v ts')=true→∃r S' ts',Spec P k args S (fun v U=>v=r∧U=S')∧Kept S S'∧ts'.Abs S'∧c r ts'=true:=by
     intro hx hr;obtain ⟨vs,b1,b2⟩:=qd3 a2 a1.2 hr;rw[qnk] at b2;refine ⟨retV vs,S',ts',Spec.intro g1 g2 (qaO h1) (a4 _ ?_),a1.1,a1.2,b2⟩;rcases hx with rfl|rfl <;> exact ⟨vs,b1,retV vs,S',qaX.refl _ _ _,rfl,rfl⟩
    cases x <;> first
     | exact fin (.inl rfl) a3
     | exact fin (.inr rfl) a3
     | (cases a3)
def gC(det:qg0)(call:qcC)(ctx:Ctx)(c:C'):TE→TS→KC→Bool:=C'.rec (motive:=fun _=>TE→TS→KC→Bool)
 (fun tr ts k=>k .normal tr ts)
 (fun ops tr ts k=>gO call ctx ops tr ts fun tr' ts'=>k .normal tr' ts')
 (fun ds zs tr ts k=>qfU zs ts fun ts1=>fD det ts.len ds ds tr ts1 [ts1] fun tr' ts'=>k .normal tr' ts')
 (fun ds zs o tr ts k=>qfU zs ts fun ts1=>fD det ts.len ds ds tr ts1 [ts1] fun tr' ts'=>gO call ctx [o] tr' ts' fun tr' ts'=>k .normal tr' ts')
 (fun _ _ iha ihb tr ts k=>iha tr ts (seqK k fun tr' ts'=>ihb tr' ts' k))
 (fun c _ _ iha ihb tr ts k=>opd c tr fun v=>qir v fun b=>iteR b (iha tr ts k) (ihb tr ts k))
 (fun id _ ih tr ts k=>ih tr ts (qgi id k))
 (fun _ ih tr ts k=>ih tr ts (qjt k))
 (fun _ ih tr ts k=>qgM ih k qeD tr ts)
 (fun id tr ts k=>k (.exit id) tr ts)
 (fun tr ts k=>k .ret tr ts)
 (fun _ _ _=>false)
 (fun g ps _ _ ca cb N tsl iha ihb tr ts k=>rfG call ctx g ps ca.noRf cb.noRf N tsl iha ihb tr ts k) c
theorem qf5{P:Program}{ctx:Ctx}{c:C'}{f:TE→TS→KC→Bool}(ih:qoi P ctx c f){S0:St}(hctx:qef P ctx S0):
  ∀(n:Nat) {tr:TE} {e:Env} {ts:TS} {S:St} {k:KC},Kept S0 S→tr.sub e→ts.Abs S→qgM f k n tr ts=true→qnm P c (qn5 S0 k) n e S
 | 0,tr,e,ts,S,k,_,_,_,h=>by cases h
 | n+1,tr,e,ts,S,k,hK,ht,hs,h=>by
  intro R hR;refine qc2 (fun x e' S' hx=>?_) (ih hctx hK ht hs (show f tr ts (seqK k (qgM f k n))=true from h));obtain ⟨hK',tr',ts',h1,h2,h3⟩:=hx;cases x <;> first
   | exact hR _ _ (qf5 ih hctx n hK' h1 h2 h3)
   | exact ⟨hK',tr',ts',h1,h2,h3⟩
theorem qrq{P:Program}{det:qg0}(dok:qjw P det){call:qcC}(ok:GOk P call){ctx:Ctx}:∀(c:C'),qoi P ctx c (gC det call ctx c):=by
  intro c
  induction c with
  | skip=>intro S0 tr e ts S k hctx hK ht hs h;exact ⟨hK,tr,ts,ht,hs,h⟩
  | reg ops=>
    intro S0 tr e ts S k hctx hK ht hs h;exact qeH ok hctx hK ht hs (show gO call ctx ops tr ts (fun tr' ts'=>k .normal tr' ts')=true from h)
  | draw ds zs=>
    intro S0 tr e ts S k hctx hK ht hs h;obtain ⟨ts1,g1,g2⟩:=qcJ hs (show (qfU zs ts fun ts1=>fD det ts.len ds ds tr ts1 [ts1] fun tr' ts'=>k .normal tr' ts')=true from h);obtain ⟨tr',ts',S',e',h1,h2,h3,h4⟩:=qdm (S0:=S) dok ht g1 (.cons g1 .nil) ⟨Kept.app _ _,fun U hU=>by rw[quY] at hU;subst hU;exact Kept.app _ _⟩ g2;simp only[WP];rw[hs.1];exact h4 (qn5 S0 k .normal) ⟨hK.trans h1.1,tr',ts',h2,h1.2,h3⟩
  | drawl ds zs o=>
    intro S0 tr e ts S k hctx hK ht hs h;obtain ⟨ts1,g1,g2⟩:=qcJ hs (show (qfU zs ts fun ts1=>fD det ts.len ds ds tr ts1 [ts1] fun tr' ts'=>gO call ctx [o] tr' ts' fun tr' ts'=>k .normal tr' ts')=true from h);obtain ⟨tr1,ts1',S1,e1,h1,h2,h3,h4⟩:=qdm (S0:=S) dok ht g1 (.cons g1 .nil) ⟨Kept.app _ _,fun U hU=>by rw[quY] at hU;subst hU;exact Kept.app _ _⟩ g2;simp only[WP];rw[hs.1];exact h4 (qcT P o (qn5 S0 k) .normal) (qeH ok hctx (hK.trans h1.1) h2 h1.2 h3)
  | seq a b iha ihb=>
    intro S0 tr e ts S k hctx hK ht hs h;simp only[WP];refine qc2 (fun x e1 S1 hx=>?_) (iha hctx hK ht hs (show gC det call ctx a tr ts (seqK k fun tr' ts'=>gC det call ctx b tr' ts' k)=true from h));obtain ⟨hK',tr',ts',h1,h2,h3⟩:=hx;cases x <;> first
      | exact ihb hctx hK' h1 h2 h3
      | exact ⟨hK',tr',ts',h1,h2,h3⟩
  | cond c a b iha ihb=>
    intro S0 tr e ts S k hctx hK ht hs h;obtain ⟨v,h1,h2⟩:=qat (x:=c) (c:=fun v=>qir v fun t=>iteR t (gC det call ctx a tr ts k) (gC det call ctx b tr ts k)) ht h;obtain ⟨t,rfl,h3⟩:=qeE h2;simp only[WP,h1];cases t
    · exact ⟨fun h=>(by cases h),fun _=>ihb hctx hK ht hs h3⟩
    · exact ⟨fun _=>iha hctx hK ht hs h3,fun h=>(by cases h)⟩
  | block id c ih=>
    intro S0 tr e ts S k hctx hK ht hs h;simp only[WP];refine qc2 (fun x e1 S1 hx=>?_) (ih hctx hK ht hs (show gC det call ctx c tr ts (qgi id k)=true from h));obtain ⟨hK',tr',ts',h1,h2,h3⟩:=hx;cases x <;> simp only[qc7] <;> try exact ⟨hK',tr',ts',h1,h2,h3⟩
    rename_i i;simp only[qgi,qaZ] at h3;split at h3
    · rename_i hi;rw[if_pos (qaM hi)];exact ⟨hK',tr',ts',h1,h2,h3⟩
    · rename_i hi;rw[if_neg (fun hh=>hi (qdw.2 hh))];exact ⟨hK',tr',ts',h1,h2,h3⟩
  | scope c ih=>
    intro S0 tr e ts S k hctx hK ht hs h;simp only[WP];refine qc2 (fun x e1 S1 hx=>?_) (ih hctx hK ht hs (show gC det call ctx c tr ts (qjt k)=true from h));obtain ⟨hK',tr',ts',h1,h2,h3⟩:=hx;cases x <;> first
      | (exact (by cases h3))
      | exact ⟨hK',tr',ts',h1,h2,h3⟩
  | loop c ih=>
    intro S0 tr e ts S k hctx hK ht hs h;exact qjG (qf5 ih hctx qeD hK ht hs (show qgM (gC det call ctx c) k qeD tr ts=true from h))
  | exit id=>intro S0 tr e ts S k hctx hK ht hs h;exact ⟨hK,tr,ts,ht,hs,h⟩
  | ret=>intro S0 tr e ts S k hctx hK ht hs h;exact ⟨hK,tr,ts,ht,hs,h⟩
  | bad=>intro S0 tr e ts S k hctx hK ht hs h;cases h
  | rf g ps asg body ca cb N tsl iha ihb=>
    intro S0 tr e ts S k hctx hK ht hs h
    obtain ⟨h1,h2⟩:=qao (show iteR (andR ca.noRf (andR cb.noRf (ps.all fun p=>decide (p<N)))) (opd g tr fun gv=>match gv with
      | .fn (.func kf) fs cs=>qb3 ts.len fun l=>call ((l,qfr (gC det call ctx ca) (gC det call ctx cb) ps (qdp tsl tr) l)::ctx) kf (appR (appR fs [.yld l]) cs) (TS.push ⟨l,ts.tr⟩ (skL .ready none)) (qhX l tr k)
      | _=>false) false=true from h)
    obtain ⟨na,h3⟩:=qaw h1;obtain ⟨nb,hps⟩:=qaw h3;obtain ⟨gv,h4,h5⟩:=qat ht h2;simp only[WP];intro hca hcb;rw[h4];split at h5 <;> try cases h5
    rename_i kf fs cs;rw[qby,qbg,qbg] at h5;have hlen:=hs.1
    let i0:LI:=⟨.ready,none,ps,asg,body,e.keep tsl,N⟩
    have hs1:(TS.push ⟨ts.len,ts.tr⟩ (skL .ready none)).Abs (S++[Ob.loop i0]):=TS.push_abs' hs rfl;have hl0:(S++[Ob.loop i0])[S.length]?=some (Ob.loop i0):=by simp
    have hctx1:qef P ((ts.len,qfr (gC det call ctx ca) (gC det call ctx cb) ps (qdp tsl tr) ts.len)::ctx) (S++[Ob.loop i0]):=by
      refine ⟨hctx.kept (hK.trans (Kept.app _ _)),i0,⟨.ready,none,by rw[←hlen];exact hl0⟩,fun args ts2 U c hU hl hs2 hr=>?_⟩;exact qiF (i0:=i0) iha ihb (qfi ht tsl).1 hca hcb na nb hps hU hl hs2 hr
    have hspec:=ok _ _ _ _ _ _ hctx1 hs1 h5;rw[←hlen] at hspec;refine ⟨_,hspec,fun r S' hr=>?_⟩;obtain ⟨hK',ts',g1,g2⟩:=hr;unfold qhX at g2;obtain ⟨o,k1,k2⟩:=TS.get_spec g1 g2;split at k2 <;> try cases k2
    rename_i i;obtain ⟨j,j1,j2,j3⟩:=qdi k1;obtain ⟨k3,k4⟩:=qao k2;have hKK:∀st p,Kept S0 (S'.set S.length (Ob.loop { j with st:=st,pend:=p })):=fun st p=>hK.trans ((Kept.app S _).trans (hK'.trans (Kept.setLoop j1 st p)))
    refine ⟨j,j1,by rw[j2];exact qeQ k3,?_⟩;rw[j3];split at k4
    · rename_i hp;rw[hp] at j3 ⊢;exact ⟨hKK _ _,tr,_,ht,TS.set_abs' g1 j1 rfl,k4⟩
    · rename_i hp;rw[hp] at j3 ⊢;exact ⟨hKK _ _,tr,_,ht,TS.set_abs' g1 j1 rfl,k4⟩
    · rename_i id hp;rw[hp] at j3 ⊢;exact ⟨hKK _ _,tr,_,ht,TS.set_abs' g1 j1 rfl,k4⟩
    · cases k4
def gF(T:Tb)(n:Nat):qcC:=Nat.rec (motive:=fun _=>qcC) (fun _ _ _ _ _=>false)
 (fun n ih ctx k args ts c=>Option.rec (Option.rec false (fun f=>iteR (Nat.ble (lenR args) f.N) (gC (qhs (dF T n)) ih ctx f.body (qgH args 0 .nil) ts (endK f.rs c)) false) (T.fn k)) (fun r=>c r ts) (T.pr k args)) n
theorem qtl{P:Program}{T:Tb}(ok:T.Ok P):∀n,GOk P (gF T n)
  | 0=>fun ctx k args ts S c _ hs h=>by cases h
  | n+1=>fun ctx k args ts S c hctx hs h=>by
    have h0:(Option.rec (Option.rec false (fun f=>iteR (Nat.ble (lenR args) f.N) (gC (qhs (dF T n)) (gF T n) ctx f.body (qgH args 0 .nil) ts (endK f.rs c)) false) (T.fn k)) (fun r=>c r ts) (T.pr k args):Bool)=true:=h
    cases hp:T.pr k args with
    | some r=>
      rw[hp] at h0
      exact (ok.pr _ _ _ hp S).mono fun r' S' hr=>by
        obtain ⟨rfl,rfl⟩:=hr;exact ⟨Kept.refl _,ts,hs,h0⟩
    | none=>
      rw[hp] at h0
      cases hf:T.fn k with
      | none=>rw[hf] at h0;cases h0
      | some f=>
        rw[hf] at h0;obtain ⟨h1,h2⟩:=qao (show iteR (Nat.ble (lenR args) f.N) (gC (qhs (dF T n)) (gF T n) ctx f.body (qgH args 0 .nil) ts (endK f.rs c)) false=true from h0);rw[qbC] at h1;obtain ⟨fn,g1,g2⟩:=ok.fn _ _ hf
        have hsub:(qgH args 0 .nil).sub (qbr 0 args):=by
          have:=qfN args 0 .nil [] (fun j v hj=>by rw[Tx.get_nil] at hj;cases hj) (fun j v hj=>by cases hj);simpa using this
        refine Spec.intro g1 g2 (qaO h1) (qc2 (fun x e' S' hx=>?_) (qrq (qgu (qsR ok n)) (qtl ok n) f.body hctx (Kept.refl S) hsub hs h2));obtain ⟨hK,tr',ts',a1,a2,a3⟩:=hx;cases x <;> first
          | (cases a3;done)
          | (obtain ⟨vs,b1,b2⟩:=qd3 a1 a2 (show (rvsR f.rs tr' ts' fun vs=>retR vs fun v=>c v ts')=true from a3)
             rw[qnk] at b2
             exact ⟨vs,b1,retV vs,S',qaX.refl _ _ _,hK,ts',a2,b2⟩)
theorem qrm{P:Program}{T:Tb}(ok:T.Ok P){n k:Nat}{args:List V}{ts:TS}{S:St}{c:V→TS→Bool}(hs:ts.Abs S)(h:gF T n [] k args ts c=true):Spec P k args S (Out S c):=qtl ok n [] k args ts S c trivial hs h
theorem Spec.ghost{P:Program}{f:FuncId}{args:List V}{R:V→St→Prop}{r:V}(h:Spec P f args [] R)(hg:∀v U,R v U→qaX 0 v U r []):Spec P f args [] (fun v U=>v=r∧U=[]):=
 ⟨h.1,fun E w us n hs hv=>(h.2 E w us n hs hv).mono fun e w' ⟨u,r0,E1,S1,h1,h2,h3,h4,h5,h6⟩=>by
  obtain ⟨E2,g1,g2,g3,g4⟩:=hg r0 S1 h2 E1 w' u h4 h3 (quX _);exact ⟨u,r,E2,[],h1,⟨rfl,rfl⟩,g1,g2,h5.trans g3,quX _⟩⟩
theorem Spec.frame{P:Program}{f:FuncId}{args:List V}{r:V}(h:Spec P f args [] (fun v U=>v=r∧U=[]))(ha:∀v,v∈args→v.under 0=true)(hr:r.under 0=true)(S:St):Spec P f args S (fun v U=>v=r∧U=S):=by
 refine ⟨h.1,fun E w us n hs hv=>?_⟩;obtain ⟨c1,c2⟩:=hs.cut (m:=0) (fun o ho=>by simp at ho) (quX _);have c1:SR (E.cut 0) [] w:=by simpa using c1
 have hv0:VRs (E.cut 0) args us:=⟨hv.1,fun i v u h1 h2=>(hv.2 i v u h1 h2).cut (ha v (qt6 h1))⟩;refine (h.2 (E.cut 0) w us n c1 hv0).mono ?_;rintro e w' ⟨u,r0,E1,S1,h1,⟨rfl,rfl⟩,h3,h4,h5,h6⟩
 have hno:∀{E:En} {b:Nat},¬ own E [] b:=by
  rintro E b ⟨l,st,x,⟨o,ho,_⟩,_⟩;simp at ho
 let E':En:={ I:=E1.I,ρ:=E.ρ }
 have hle:E.le E':=⟨fun b o c hc=>h5.I b o c hc,fun _ _ _ hx=>hx⟩;have hle1:En.le (E1.cut 0) E':=⟨fun b o c hc=>hc,fun l st x hx=>by simp[En.cut] at hx⟩;have hown:∀b,own E' S b→own E S b:=fun b ⟨l,st,x,hl,hx,he⟩=>⟨l,st,x,hl,hx,he⟩
 have hI:∀b o c,E1.I b o=some c→E.I b o=some c∨w.heap.size≤b:=fun b o c hc=>by
  rcases h5.newI b o c hc with hc|hc|hc
  ·exact .inl hc
  ·exact absurd hc hno
  ·exact .inr hc
 refine ⟨u,r0,E',S,h1,⟨rfl,rfl⟩,(h3.cut hr).mono hle1,⟨⟨h4.gl.1,h4.gl.2⟩,h4.I,fun l o hl=>?_,hs.dom,fun b o hb=>?_,fun b hb=>?_,fun l l' st st' x x' hl hl' hx hx' he=>hs.inj l l' st st' x x' hl hl' hx hx' he⟩,
  ⟨h5.size,hle.1,fun _ _ _ _ hx=>hx,fun _ _ hx=>hx,fun b hb=>.inl (hown b hb),fun b o c hc=>(hI b o c hc).imp id .inr,fun b hb _=>h5.frame b hb hno,h5.out⟩,qt1 _⟩
 ·by_cases hd:o=.dead
  ·subst hd;trivial
  ·exact (hs.obs l o hl).mono hle (fun _ _ hx=>hx) fun st x hx=>h5.frame _ (hs.lt _ ⟨l,st,x,⟨o,hl,hd⟩,hx,rfl⟩) hno
 ·cases hc:E'.I b o with
  | none=>rfl
  | some c=>
   exfalso;rcases hI b o c hc with h| h
   ·rw[hs.apart b o (hown b hb)] at h;cases h
   ·have:=hs.lt b (hown b hb);omega
 ·exact quD (hs.lt b (hown b hb)) h5.size
def finG(r:V)(n:Nat):V→TS→Bool:=Nat.rec (motive:=fun _=>V→TS→Bool) (fun _ _=>false)
 (fun _ ih v ts=>match V.arrs 100 v with
  | []=>andR (V.same v r) (r.under 0)
  | l::_=>ts.get l fun o=>match o with
   | .arr xs _ wr=>ih (v.frz l xs wr) (ts.set l .dead)
   | _=>false) n
theorem qhm{r:V}:∀(n:Nat) {v:V} {ts:TS} {S:St},ts.Abs S→finG r n v ts=true→qaX 0 v S r []∧r.under 0=true
 | 0,v,ts,S,_,h=>by cases h
 | n+1,v,ts,S,hs,h=>by
  have h:(match V.arrs 100 v with
   | []=>andR (V.same v r) (r.under 0)
   | l::_=>ts.get l fun o=>match o with
    | .arr xs _ wr=>finG r n (v.frz l xs wr) (ts.set l .dead)
    | _=>false)=true:=h
  split at h
  ·obtain ⟨h1,h2⟩:=qaw h;have:=qdb _ _ h1;subst this;exact ⟨by simpa using qaX.cut (n:=0) (m:=0) (S:=S) h2 (fun o ho=>by simp at ho) (qt1 _) (quX _),h2⟩
  ·obtain ⟨o,h1,h2⟩:=TS.get_spec hs h;split at h2 <;> try cases h2
   have h1:=qeI h1;obtain ⟨g1,g2⟩:=qhm n (TS.set_abs hs h1) h2;exact ⟨(qaX.freezeV h1).trans g1,g2⟩
def qmo:TS:=⟨0,.nil⟩
theorem qiE:qmo.Abs []:=⟨rfl,fun l hl=>(Nat.not_lt_zero _ hl).elim⟩
structure Pr where
 k:Nat
 args:List V
 r:V
def Pr.ok(P:Program)(p:Pr):Prop:=∀S,Spec P p.k p.args S (fun v U=>v=p.r∧U=S)
def Pr.find(k:Nat)(args:List V)(l:List Pr):Option V:=List.rec none (fun p _ ih=>iteR (Nat.beq p.k k) (iteR (V.sames p.args args) (some p.r) ih) ih) l
theorem Pr.find_spec{P:Program}{k:Nat}{args:List V}{r:V}:∀{l:List Pr},(∀p,p∈l→p.ok P)→Pr.find k args l=some r→∀S,Spec P k args S (fun v U=>v=r∧U=S)
 | [],_,h=>by cases h
 | p::l,ok,h=>by
  have h:iteR (Nat.beq p.k k) (iteR (V.sames p.args args) (some p.r) (Pr.find k args l)) (Pr.find k args l)=some r:=h;rw[qaZ] at h;split at h
  ·rename_i hk;rw[qaZ] at h;split at h
   ·rename_i ha;cases h;have h1:=qaM hk;have h2:=qcI _ _ ha;subst h1;subst h2;exact ok p (by simp)
   ·exact Pr.find_spec (fun q hq=>ok q (by simp[hq])) h
  ·exact Pr.find_spec (fun q hq=>ok q (by simp[hq])) h
theorem Pr.run{P:Program}{T:Tb}(ok:T.Ok P)(n:Nat){p:Pr}(h:andR (andR (p.args.all fun v=>v.under 0) (p.r.under 0)) (gF T n [] p.k p.args qmo (finG p.r 1000))=true):p.ok P:=by
 obtain ⟨h1,h2⟩:=qaw h;obtain ⟨h1,hr⟩:=qaw h1;have hs:=qrm (P:=P) ok (S:=[]) qiE h2;simp only[quj] at h1;exact (hs.ghost fun v U ⟨_,ts',g1,g2⟩=>(qhm 1000 g1 g2).1).frame h1 hr
@[simp] def O'.o(d:Nat)(k:K):O':=⟨some d,none,k⟩
@[simp] def O'.n(k:K):O':=⟨none,none,k⟩
@[simp] def O'.v(d m:Nat)(b:Bool)(k:K):O':=⟨some d,some (m,b),k⟩
@[simp] def O'.m(d a:Nat):O':=⟨some d,none,.mv (.t a)⟩
@[simp] def O'.l(d a:Nat):O':=⟨some d,none,.ld none (.t a)⟩
@[simp] def O'.j(d k a:Nat):O':=⟨some d,none,.ld (some k) (.t a)⟩
@[simp] def O'.f(d k a:Nat):O':=⟨some d,none,.fa k (.t a)⟩
@[simp] def O'.i(d k a b:Nat):O':=⟨some d,none,.ia k (.t a) (.t b)⟩
@[simp] def O'.e(d k a:Nat):O':=⟨some d,none,.ext k (.t a)⟩
@[simp] def O'.h(d a:Nat):O':=⟨some d,none,.nck (.t a)⟩
@[simp] def O'.b(d:Nat)(o:BinOp)(a b:Nat):O':=⟨some d,none,.bin o (.t a) (.t b)⟩
@[simp] def O'.u(d:Nat)(o:BinOp)(a:Nat)(n:Int):O':=⟨some d,none,.bin o (.t a) (.c (.int .i64 n))⟩
@[simp] def O'.s(k a b:Nat):O':=⟨none,none,.sto k (.t a) (.t b)⟩
@[simp] def O'.y(d a m:Nat):O':=⟨some d,none,.pick (.t a) (.t m) (.c (.bool false))⟩
@[simp] def O'.z(d a m:Nat):O':=⟨some d,none,.pick (.t a) (.c (.bool true)) (.t m)⟩
@[simp] def O'.a(d:Nat)(v:V):O':=⟨some d,none,.mv (.c v)⟩
@[simp] def O'.c(d k a:Nat):O':=⟨some d,none,.call (.f k) [.t a]⟩
@[simp] def O'.w(d k a b:Nat):O':=⟨some d,none,.call (.f k) [.t a,.t b]⟩
@[simp] def O'.x(d k a b c:Nat):O':=⟨some d,none,.call (.f k) [.t a,.t b,.t c]⟩
@[simp] def D.p(o:O')(a:List Nat):D:=⟨o,false,none,false,a,0,0⟩
@[simp] def D.q(o:O')(w c:Bool)(a:List Nat)(l h:Nat):D:=⟨o,w,none,c,a,l,h⟩
@[simp] def C'.k(l:List O')(c:C'):C':=.seq (.reg l) c
@[simp] def zS:V:=(.agg [(.sl true []),(.int .i64 0),(.str ⟨⟨[]⟩⟩),(.sl true []),(.sl true []),(.sl true []),(.sl true []),(.sl true [])])
@[simp] def zD:V:=(.agg [(.int .i64 0),(.bool false),(.int .i64 0),(.sl true []),(.sl true []),(.sl true []),(.sl true [])])
@[simp] def zX:V:=(.agg [(.int .i64 0),(.int .i64 0),(.int .i64 0),(.int .i64 0),(.int .i64 0),(.str ⟨⟨[]⟩⟩),(.sl true [])])
@[simp] def zE:V:=(.agg [(.int .i64 0),(.sl true [])])
@[simp] def zF:V:=(.agg [(.str ⟨⟨[]⟩⟩),(.bool false),(.int .i64 0),(.int .i64 0)])
@[simp] def zP:V:=(.agg [(.int .i64 0),(.sl true []),(.int .i64 0),(.str ⟨⟨[]⟩⟩),(.sl true []),(.sl true []),(.sl true []),(.sl true []),(.sl true []),(.int .i64 0),(.bool false),(.int .i64 0),(.sl true []),(.sl true []),(.sl true []),(.sl true []),(.int .i64 0),(.sl true []),(.int .i64 0),(.int .i64 0),(.int .i64 0),(.int .i64 0),(.int .i64 0),(.str ⟨⟨[]⟩⟩),(.sl true [])])
def dig(n:Nat):List UInt8:=Lib.decDigits n
end Go.Proofs.YtbifpocccfkhhaaGreatDoor

end
