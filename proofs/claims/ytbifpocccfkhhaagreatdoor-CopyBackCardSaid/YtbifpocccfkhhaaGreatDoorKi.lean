/- A part. -/
import Derived.Test.YtbifpocccfkhhaaGreatDoorKh
set_option linter.all false
noncomputable section
namespace Go.Proofs.YtbifpocccfkhhaaGreatDoor
open Go Go.Proofs.Tryz
theorem yI(cs:List V)(off n:Nat):V.part (.agg cs) off (some n)=if off=0∧n=cs.length then some (.agg cs) else if off+n≤cs.length then some (.agg ((cs.drop off).take n)) else none:=by
 by_cases h:off=0∧n=cs.length
 ·simp[V.part,h]
 ·have:¬ (off=0∧n=(V.agg cs).size∧(V.agg cs).isAgg=true):=fun hh=>h ⟨hh.1,by simpa using hh.2.1⟩
  simp only[V.part,if_neg this,if_neg h]
@[simp] theorem part_Ex2(x:Ex):V.part x.v 3 (some 2)=some (.agg [.int .i64 x.man,.int .i64 x.exp]):=by rw[Ex.v_eq];rfl
theorem qh(cs:List V)(off n:Nat)(y:V):V.upd (.agg cs) off n y=if y.size=n∧y.cells.all V.flat=true then (if off=0∧n=cs.length then some y else if off+n≤cs.length then some (.agg (cs.take off++y.cells++cs.drop (off+n))) else none) else none:=rfl
theorem qbx(x:Ex)(off n:Nat)(y:V):V.upd x.v off n y=V.upd (.agg [.int .i64 x.kind,.int .i64 x.op,.int .i64 x.n,.int .i64 x.man,.int .i64 x.exp,.str x.text,.sl false (x.args.map Ex.v)]) off n y:=by rw[Ex.v_eq]
theorem qba(d:De)(off n:Nat)(y:V):V.upd d.v off n y=V.upd (.agg [.int .i64 d.kind,.bool d.own,.int .i64 d.type,.sl false (d.names.map .str),.sl false (d.exps.map Ex.v),.sl false (d.formals.map Fo.v),.sl false (d.body.map Sm.v)]) off n y:=by rw[De.v_eq]
theorem Zt(s:Sm)(off n:Nat)(y:V):V.upd s.v off n y=V.upd (.agg [.sl false (s.labels.map .str),.int .i64 s.kind,.str s.text,.sl false (s.targets.map Ex.v),.sl false (s.exps.map Ex.v),.sl false (s.elems.map El.v),.sl false (s.decls.map De.v),.sl false (s.body.map Sm.v)]) off n y:=by rw[Sm.v_eq]
theorem qoY(f:Fo)(off n:Nat)(y:V):V.upd f.v off n y=V.upd (.agg [.str f.name,.bool f.value,.int .i64 f.spec,.int .i64 f.type]) off n y:=rfl
theorem qfd(k:IntKind)(m:Int)(y:V):V.upd (.int k m) 0 1 y=if y.size=1∧y.cells.all V.flat=true then some y else none:=rfl
theorem zj(b:Bool)(y:V):V.upd (.bool b) 0 1 y=if y.size=1∧y.cells.all V.flat=true then some y else none:=rfl
theorem Zq(y:V):V.upd .nilfn 0 1 y=if y.size=1∧y.cells.all V.flat=true then some y else none:=rfl
theorem qV{a lo hi:Int}(h:¬ (lo≤a∧a≤hi)):(decide (lo≤a) && decide (a≤hi))=false:=by
 by_cases h1:lo≤a
 ·have h2:¬ a≤hi:=fun hh=>h ⟨h1,hh⟩
  simp[h1,h2]
 ·simp[h1]
theorem qZ{a lo hi:Int}(h:lo≤a∧a≤hi):(decide (lo≤a) && decide (a≤hi))=true:=by simp[h.1,h.2]
theorem qD(n lo hi:Int):∀S,Fn prog 209 [.int .i64 n,.int .i64 lo,.int .i64 hi] S (.bool (decide (lo≤n) && decide (n≤hi))):=by
 refine Pu.ib func209 ok209 (by simp[c209]) (by simp[V.under]) rfl ?_;by_cases h:lo≤n
 ·simp[c209,h];exact qa rfl rfl rfl
 ·simp[c209,h];exact qa rfl rfl rfl
def arL(k:Int):Int:=if k=7 then 1 else if k=8 then 1 else if k=9 then 1 else if k=10 then 2 else if k=11 then 3 else 0
def arH(k:Int):Int:=if k=7 then 4 else if k=8 then 8 else if k=9 then 1 else if k=10 then 2 else if k=11 then 3 else 0
theorem yZ(k:Int):∀S,Fn prog 208 [.int .i64 k] S (.tup [.int .i64 (arL k),.int .i64 (arH k)]):=by
 refine Pu.ib func208 ok208 (by simp[c208]) (by simp[V.under]) rfl ?_;by_cases h7:k=7
 ·simp[c208,h7];exact qa rfl rfl rfl
 by_cases h8:k=8
 ·simp[c208,h8];exact qa rfl rfl rfl
 by_cases h9:k=9
 ·simp[c208,h9];exact qa rfl rfl rfl
 by_cases h10:k=10
 ·simp[c208,h10];exact qa rfl rfl rfl
 by_cases h11:k=11
 ·simp[c208,h11];exact qa rfl rfl rfl
 simp[c208,h7,h8,h9,h10,h11];exact qa rfl (by simp[qo,arL,arH,h7,h8,h9,h10,h11]) rfl
def qO(lo hi n:Int):Bool:=decide (lo≤n) && (decide (hi<0) || decide (n≤hi))
theorem qv(lo hi n:Int):∀S,Fn prog 212 [.agg [.int .i64 lo,.int .i64 hi],.int .i64 n] S (.bool (qO lo hi n)):=by
 refine Pu.intro (R:=fun v=>v=.bool (qO lo hi n)) func212 ok212 (by simp[c212]) (by simp[V.under,V.underL]) (by rintro v rfl;rfl) ?_;by_cases h:lo≤n
 ·by_cases h2:hi<0
  ·simp[c212,qG,ldS,h,h2];exact qa rfl (by simp[qo,qO,h,h2]) rfl
  ·simp[c212,qG,ldS,h,h2];exact qa rfl (by simp[qo,qO,h,h2]) rfl
 ·simp[c212,qG,ldS,h];exact qa rfl (by simp[qo,qO,h]) rfl
theorem qmD(m:Int)(h:0≤m):IntKind.i64.wrap (-m)≤m∨9223372036854775808≤m:=by
 rw[IntKind.wrap_i64];omega
theorem qoh(m:Int):IntKind.i64.wrap m≤9223372036854775807∧-9223372036854775808≤IntKind.i64.wrap m:=by
 rw[IntKind.wrap_i64];omega
theorem qlY(m:Int):(if m<IntKind.i64.wrap (-m) then IntKind.i64.wrap (-m) else m)=mag m:=by
 unfold mag;have h1:=qoh (-m);by_cases h:m<0
 ·rw[if_pos h];split
  ·rfl
  ·rename_i h2;rw[IntKind.wrap_i64] at *;omega
 ·rw[if_neg h];rcases qmD m (by omega) with h2|h2
  ·rw[if_neg (by omega)]
  ·rw[if_neg (by omega)]
theorem ze(m e m' e':Int):zn [.int .i64 m,.int .i64 e] [.int .i64 m',.int .i64 e'] [(0,.i),(1,.i)]=some (decide (m=m'∧e=e')):=by
 by_cases h1:m=m'
 ·by_cases h2:e=e'
  ·have h3:(m==m')=true:=by simpa using h1
   have h4:(e==e')=true:=by simpa using h2
   simp[zn,QH,h1,h2]
  ·have h4:(e==e')=false:=by simpa using h2
   simp[zn,QH,h1,h4,h2]
 ·have h3:(m==m')=false:=by simpa using h1
  simp[zn,QH,h3,h1]
theorem qmt(m e:Int):∀S,Fn prog 210 [.agg [.int .i64 m,.int .i64 e]] S (.bool (qkH m e)):=by
 refine Pu.intro (R:=fun v=>v=.bool (qkH m e)) func210 ok210 (by simp[c210]) (by simp[V.under,V.underL]) (by rintro v rfl;rfl) ?_;have hm:=qlY m;by_cases h0:m=0∧e=0
 ·obtain ⟨rfl,rfl⟩:=h0;simp[c210,qG,ldS,V.part,qF,qB,evX,ze];exact qa rfl rfl rfl
 have hr:qkH m e=(decide (1≤mag m∧mag m<16777216) && (decide (e=-150) || (decide (8388608≤mag m) && decide (-150<e∧e≤150)))):=by
  unfold qkH;rw[decide_eq_false h0];rfl
 rw[hr];simp[c210,qG,ldS,V.part,qF,qB,evX,ze,h0,mmV,hm];clear hr hm;generalize mag m=a at *;by_cases g1:a<1
 ·simp[g1,show ¬ 1≤a by omega];exact qa rfl rfl rfl
 by_cases g2:16777216≤a
 ·simp[g1,g2,show ¬ a<16777216 by omega];exact qa rfl rfl rfl
 by_cases g3:e=-150
 ·simp[ldS,g1,g2,g3,show 1≤a by omega,show a<16777216 by omega];exact qa rfl rfl rfl
 by_cases g4:8388608≤a
 ·by_cases g5:-150<e
  ·simp[ldS,g1,g2,g3,g4,g5,show 1≤a by omega,show a<16777216 by omega];exact qa rfl rfl rfl
  ·simp[ldS,g1,g2,g3,g4,g5,show 1≤a by omega,show a<16777216 by omega];exact qa rfl rfl rfl
 ·simp[ldS,g1,g2,g3,g4,show 1≤a by omega,show a<16777216 by omega];exact qa rfl rfl rfl
def no(_:Nat):Prop:=False
def JH{α:Type}(l:List α)(q:α→Bool):Bool:=l.any q
theorem qmM(s:Bz):∀S,Fn prog 249 [.str s] S (.bool (!qb s)):=by
 refine Pu.ib func249 ok249 (by simp[c249]) (by simp[V.under]) rfl ?_;simp[c249];refine qg (Yw s _) ?_;simp;exact qa rfl rfl rfl
theorem qkX(x:Ex):∀S,Fn prog 253 [x.v] S (.bool (!x.tgt)):=by
 refine Pu.ib func253 ok253 (by simp[c253]) (by simp[V.under]) rfl ?_;by_cases h6:x.kind=6
 ·simp[c253,qG,ldS,h6];exact qa rfl (by simp[qo,Ex.tgt,h6]) rfl
 ·simp[c253,qG,ldS,h6];exact qa rfl (by simp[qo,Ex.tgt,h6]) rfl
theorem ql5(b:Bool)(l:List Bz)(hl:l.length≤B50)(g:Nat)(cs:List V)(q:Bz→Bool)(S:St)(h:∀x,x∈l→∀U,Kp no S U→qt prog g (.str x::cs) U (fun v U'=>v=.bool (q x)∧Kp no U U')):
  qt prog 173 [.sl b (l.map V.str),.fn (.func g) [] cs] S (fun v U=>(∃n:Int,v=.int .i64 n∧(0≤n↔JH l q=true))∧Kp no S U):=by
 unfold B50 at hl;refine qt.ib func173 ok173 ?_;simp only[c173,C'.k];simp;refine qw (fun j e S'=>∃i:Nat,j=l.length - i∧i≤l.length∧JH (l.take i) q=false∧Kp no S S'∧
  e=[(8,.int .i64 i),(7,.int .i64 l.length),(6,.sl b (l.map V.str)),(0,.sl b (l.map V.str)),(1,.fn (.func g) [] cs)]) l.length _ ?_ ⟨0,by simp,by omega,rfl,Kp.refl _ _,rfl⟩ ?_
 ·exact Env.so (by simp)
 rintro j e S' ⟨i,rfl,hi,hq,hk,rfl⟩;by_cases h1:i<l.length
 ·have h2:=h l[i] (qra h1) S' hk;simp[h1,ZO];refine qi h2 ?_;rintro v U' ⟨rfl,hk'⟩
  cases h3:q l[i] with
  | true=>
   simp;refine qf rfl ⟨⟨i,rfl,?_⟩,hk.trans hk'⟩;exact ⟨fun _=>List.any_eq_true.2 ⟨l[i],qra h1,h3⟩,fun _=>by omega⟩
  | false=>
   simp[zk (n:=(i:Int)+1)];refine ⟨_,?_,_,?_,i+1,rfl,by omega,?_,hk.trans hk',rfl⟩
   ·omega
   ·exact Env.so (by simp)
   ·unfold JH at *;rw[qrj,qqZ h1,List.any_append,hq];simp[h3]
 ·simp[h1];refine qf rfl ⟨⟨-1,rfl,?_⟩,hk⟩;rw[qru (by omega)] at hq;rw[hq];exact ⟨fun h=>absurd h (by decide),fun h=>by cases h⟩
theorem qgu(b:Bool)(l:List Bz)(hl:l.length≤B50)(g:Nat)(cs:List V)(q:Bz→Bool)(S:St)(h:∀x,x∈l→∀U,Kp no S U→qt prog g (.str x::cs) U (fun v U'=>v=.bool (q x)∧Kp no U U')):
  qt prog 138 [.sl b (l.map V.str),.fn (.func g) [] cs] S (fun v U=>v=.bool (JH l q)∧Kp no S U):=by
 refine qt.ib func138 ok138 ?_;simp only[c138,C'.k];simp;refine qi (ql5 b l hl g cs q S h) ?_;rintro v U ⟨⟨n,rfl,hn⟩,hk⟩;simp;refine qf rfl ⟨?_,hk⟩
 cases ha:JH l q with
 | true=>simp[qo,hn.2 ha]
 | false=>
  have:¬ 0≤n:=fun hh=>by rw[hn.1 hh] at ha;cases ha
  simp[qo,this]
theorem qlG(b:Bool)(l:List Fo)(hl:l.length≤B50)(g:Nat)(cs:List V)(q:Fo→Bool)(S:St)(h:∀x,x∈l→∀U,Kp no S U→qt prog g (Fo.v x::cs) U (fun v U'=>v=.bool (q x)∧Kp no U U')):
  qt prog 169 [.sl b (l.map Fo.v),.fn (.func g) [] cs] S (fun v U=>(∃n:Int,v=.int .i64 n∧(0≤n↔JH l q=true))∧Kp no S U):=by
 unfold B50 at hl;refine qt.ib func169 ok169 ?_;simp only[c169,C'.k];simp;refine qw (fun j e S'=>∃i:Nat,j=l.length - i∧i≤l.length∧JH (l.take i) q=false∧Kp no S S'∧
  e=[(8,.int .i64 i),(7,.int .i64 l.length),(6,.sl b (l.map Fo.v)),(0,.sl b (l.map Fo.v)),(1,.fn (.func g) [] cs)]) l.length _ ?_ ⟨0,by simp,by omega,rfl,Kp.refl _ _,rfl⟩ ?_
 ·exact Env.so (by simp)
 rintro j e S' ⟨i,rfl,hi,hq,hk,rfl⟩;by_cases h1:i<l.length
 ·have h2:=h l[i] (qra h1) S' hk;simp[h1,qlp];refine qi h2 ?_;rintro v U' ⟨rfl,hk'⟩
  cases h3:q l[i] with
  | true=>
   simp;refine qf rfl ⟨⟨i,rfl,?_⟩,hk.trans hk'⟩;exact ⟨fun _=>List.any_eq_true.2 ⟨l[i],qra h1,h3⟩,fun _=>by omega⟩
  | false=>
   simp[zk (n:=(i:Int)+1)];refine ⟨_,?_,_,?_,i+1,rfl,by omega,?_,hk.trans hk',rfl⟩
   ·omega
   ·exact Env.so (by simp)
   ·unfold JH at *;rw[qrj,qqZ h1,List.any_append,hq];simp[h3]
 ·simp[h1];refine qf rfl ⟨⟨-1,rfl,?_⟩,hk⟩;rw[qru (by omega)] at hq;rw[hq];exact ⟨fun h=>absurd h (by decide),fun h=>by cases h⟩
theorem qlA(b:Bool)(l:List Fo)(hl:l.length≤B50)(g:Nat)(cs:List V)(q:Fo→Bool)(S:St)(h:∀x,x∈l→∀U,Kp no S U→qt prog g (Fo.v x::cs) U (fun v U'=>v=.bool (q x)∧Kp no U U')):
  qt prog 131 [.sl b (l.map Fo.v),.fn (.func g) [] cs] S (fun v U=>v=.bool (JH l q)∧Kp no S U):=by
 refine qt.ib func131 ok131 ?_;simp only[c131,C'.k];simp;refine qi (qlG b l hl g cs q S h) ?_;rintro v U ⟨⟨n,rfl,hn⟩,hk⟩;simp;refine qf rfl ⟨?_,hk⟩
 cases ha:JH l q with
 | true=>simp[qo,hn.2 ha]
 | false=>
  have:¬ 0≤n:=fun hh=>by rw[hn.1 hh] at ha;cases ha
  simp[qo,this]
theorem qkK(b:Bool)(l:List Ex)(hl:l.length≤B50)(g:Nat)(cs:List V)(q:Ex→Bool)(S:St)(h:∀x,x∈l→∀U,Kp no S U→qt prog g (Ex.v x::cs) U (fun v U'=>v=.bool (q x)∧Kp no U U')):
  qt prog 269 [.sl b (l.map Ex.v),.fn (.func g) [] cs] S (fun v U=>(∃n:Int,v=.int .i64 n∧(0≤n↔JH l q=true))∧Kp no S U):=by
 unfold B50 at hl;refine qt.ib func269 ok269 ?_;simp only[c269,C'.k];simp;refine qw (fun j e S'=>∃i:Nat,j=l.length - i∧i≤l.length∧JH (l.take i) q=false∧Kp no S S'∧
  e=[(8,.int .i64 i),(7,.int .i64 l.length),(6,.sl b (l.map Ex.v)),(0,.sl b (l.map Ex.v)),(1,.fn (.func g) [] cs)]) l.length _ ?_ ⟨0,by simp,by omega,rfl,Kp.refl _ _,rfl⟩ ?_
 ·exact Env.so (by simp)
 rintro j e S' ⟨i,rfl,hi,hq,hk,rfl⟩;by_cases h1:i<l.length
 ·have h2:=h l[i] (qra h1) S' hk;simp[h1,qjB];refine qi h2 ?_;rintro v U' ⟨rfl,hk'⟩
  cases h3:q l[i] with
  | true=>
   simp;refine qf rfl ⟨⟨i,rfl,?_⟩,hk.trans hk'⟩;exact ⟨fun _=>List.any_eq_true.2 ⟨l[i],qra h1,h3⟩,fun _=>by omega⟩
  | false=>
   simp[zk (n:=(i:Int)+1)];refine ⟨_,?_,_,?_,i+1,rfl,by omega,?_,hk.trans hk',rfl⟩
   ·omega
   ·exact Env.so (by simp)
   ·unfold JH at *;rw[qrj,qqZ h1,List.any_append,hq];simp[h3]
 ·simp[h1];refine qf rfl ⟨⟨-1,rfl,?_⟩,hk⟩;rw[qru (by omega)] at hq;rw[hq];exact ⟨fun h=>absurd h (by decide),fun h=>by cases h⟩
theorem qj2(b:Bool)(l:List Ex)(hl:l.length≤B50)(g:Nat)(cs:List V)(q:Ex→Bool)(S:St)(h:∀x,x∈l→∀U,Kp no S U→qt prog g (Ex.v x::cs) U (fun v U'=>v=.bool (q x)∧Kp no U U')):
  qt prog 252 [.sl b (l.map Ex.v),.fn (.func g) [] cs] S (fun v U=>v=.bool (JH l q)∧Kp no S U):=by
 refine qt.ib func252 ok252 ?_;simp only[c252,C'.k];simp;refine qi (qkK b l hl g cs q S h) ?_;rintro v U ⟨⟨n,rfl,hn⟩,hk⟩;simp;refine qf rfl ⟨?_,hk⟩
 cases ha:JH l q with
 | true=>simp[qo,hn.2 ha]
 | false=>
  have:¬ 0≤n:=fun hh=>by rw[hn.1 hh] at ha;cases ha
  simp[qo,this]
theorem qgJ{α:Type}(l:List α)(q:α→Bool):(!JH l fun x=>!q x)=l.all q:=by
 unfold JH
 induction l with
 | nil=>rfl
 | cons x l ih=>simp only[List.any_cons,qsY,Bool.not_or,Bool.not_not,ih]
theorem yX(l:List Bz)(hl:l.length≤B50):∀S,Fn prog 213 [.sl false (l.map .str)] S (.bool (l.all qb)):=by
 refine Pu.ib func213 ok213 (by simp[c213]) (by simp[V.under]) rfl ?_;simp only[c213,C'.k];simp;refine qi (qgu false l hl 249 [] (fun x=>!qb x) _ fun x _ U _=>(qmM x U).mono fun v U' h=>⟨h.1,by rw[h.2];exact Kp.refl _ _⟩) ?_;rintro v U ⟨rfl,_⟩;simp;refine qa rfl ?_ rfl;simp only[qo,qgJ]
theorem Ze(l:List Ex)(hl:l.length≤B50):∀S,Fn prog 215 [.sl false (l.map Ex.v)] S (.bool (l.all Ex.tgt)):=by
 refine Pu.ib func215 ok215 (by simp[c215]) (by simp[V.under]) rfl ?_;simp only[c215,C'.k];simp;refine qi (qj2 false l hl 253 [] (fun x=>!x.tgt) _ fun x _ U _=>(qkX x U).mono fun v U' h=>⟨h.1,by rw[h.2];exact Kp.refl _ _⟩) ?_;rintro v U ⟨rfl,_⟩;simp;refine qa rfl ?_ rfl;simp only[qo,qgJ]
theorem qlg(f:Fo):∀S,Fn prog 250 [f.v] S (.bool (f.vOwn qb)):=by
 refine Pu.ib func250 ok250 (by simp[c250]) (by simp[V.under]) rfl ?_;simp[c250,qG,ldS];refine qg (Yw f.name _) ?_
 cases hn:qb f.name with
 | false=>
  simp;exact qa rfl (by simp[qo,Fo.vOwn,hn]) rfl
 | true=>
  have hv:f.vOwn qb=(if f.spec=0∨f.spec=3∨f.spec=4∨f.spec=5 then decide (f.type=0) && !f.value
   else if f.spec=1 then decide (1≤f.type∧f.type≤3)
   else if f.spec=2 then decide (0≤f.type∧f.type≤3) && (!f.value || decide (f.type≠0))
   else if f.spec=6 then decide (0≤f.type∧f.type≤3) && !f.value
   else false):=by unfold Fo.vOwn;rw[hn];rfl
  rw[hv];by_cases h0:f.spec=0
  ·by_cases ht:f.type=0
   ·simp[ldS,h0,ht];exact qa rfl rfl rfl
   ·simp[ldS,h0,ht];exact qa rfl rfl rfl
  by_cases h3:f.spec=3
  ·by_cases ht:f.type=0
   ·simp[ldS,h3,ht];exact qa rfl rfl rfl
   ·simp[ldS,h3,ht];exact qa rfl rfl rfl
  by_cases h4:f.spec=4
  ·by_cases ht:f.type=0
   ·simp[ldS,h4,ht];exact qa rfl rfl rfl
   ·simp[ldS,h4,ht];exact qa rfl rfl rfl
  by_cases h5:f.spec=5
  ·by_cases ht:f.type=0
   ·simp[ldS,h5,ht];exact qa rfl rfl rfl
   ·simp[ldS,h5,ht];exact qa rfl rfl rfl
  by_cases h1:f.spec=1
  ·simp[ldS,h1];refine qg (qD _ _ _ _) ?_;simp;exact qa rfl rfl rfl
  by_cases h2:f.spec=2
  ·simp[ldS,h2];refine qg (qD _ _ _ _) ?_
   cases hr:decide (0≤f.type) && decide (f.type≤3) with
   | false=>
    simp;exact qa rfl rfl rfl
   | true=>
    cases hval:f.value with
    | false=>
     simp[ldS,hval];exact qa rfl rfl rfl
    | true=>
     simp[ldS,hval];exact qa rfl rfl rfl
  by_cases h6:f.spec=6
  ·simp[ldS,h6];refine qg (qD _ _ _ _) ?_
   cases hr:decide (0≤f.type) && decide (f.type≤3) with
   | false=>
    simp;exact qa rfl rfl rfl
   | true=>
    simp[ldS];exact qa rfl rfl rfl
  simp[ldS,h0,h1,h2,h3,h4,h5,h6];exact qa rfl rfl rfl
theorem qjW(f g:Fo)(L:Nat)(S:St)(h:S[L]?=some (.arr [f.v] 4 1)):qt prog 251 [g.v,.ptr L 0 0 1] S (fun v U=>v=.bool (decide (g.name=f.name))∧Kp no S U):=by
 refine qt.ib func251 ok251 ?_;simp[c251,qG,ldS,gp h];exact qf rfl ⟨rfl,(Kp.refl _ _).push _⟩
theorem Zu(nm:Bz→Bool):∀(l m:List Fo) (had:List Bz),yx nm (l++m) had=(yx nm l had && yx nm m (had++l.map Fo.name))
 | [],m,had=>by simp[yx]
 | f::l,m,had=>by
  simp only[qrp,yx,Zu nm l m,qq8,qrc,List.singleton_append,qr9,qrp,Bool.and_assoc]
theorem qpF{l:List V}{k:Nat}(hk:k≤l.length){sz:Nat}(hs:∀x,x∈l→x.size=sz)(S:St):zU S sz (.sl false l) none (some (k:Int))=some (.sl false (l.take k)):=by
 simp[zU,hk];exact hs
def prB(l:List UInt8):Bool:=l.all j7
theorem YP(l:List Fo)(hl:l.length≤B50):∀S,Fn prog 214 [.sl false (l.map Fo.v)] S (.bool (yx qb l [])):=by
 refine Pu.ib func214 ok214 (by simp[c214]) (by simp[V.under]) rfl ?_;unfold B50 at hl;simp only[c214,C'.k];simp;refine qw (fun j e S'=>∃i:Nat,j=l.length - i∧i≤l.length∧yx qb (l.take i) []=true∧
  e=[(7,.int .i64 i),(6,.int .i64 l.length),(5,.sl false (l.map Fo.v)),(0,.sl false (l.map Fo.v))]) l.length _ ?_ ⟨0,by simp,by omega,rfl,rfl⟩ ?_
 ·exact Env.so (by simp)
 rintro j e S' ⟨i,rfl,hi,hq,rfl⟩;by_cases h:i<l.length
 ·have hnext:yx qb (l.take (i+1)) []=(l[i].vOwn qb && !((l.take i).map Fo.name).any fun x=>decide (x=l[i].name)):=by
   rw[qrj,qqZ h,qrH,Zu,hq];simp[yx]
  have hall:yx qb l []=true→yx qb (l.take (i+1)) []=true:=fun hh=>by
   rw[←qsd (i+1) l,Zu,qq5] at hh;exact hh.1
  simp[h,qlp,qG,stS,zR,ldS];refine qg (qlg l[i] _) ?_
  cases hv:l[i].vOwn qb with
  | false=>
   simp;refine qa rfl ?_ rfl;simp only[qo,V.bool.injEq]
   cases hh:yx qb l [] with
   | false=>rfl
   | true=>rw[hall hh,hv] at hnext;simp at hnext
  | true=>
   rw[hv] at hnext;have hs:=qpF (l:=l.map Fo.v) (k:=i) (by simp;omega) (sz:=4) (fun x hx=>by obtain ⟨y,_,rfl⟩:=qrf.1 hx;rfl) (S'++[Ob.arr [l[i].v] 4 1]);simp[JC,hs];rw[←List.map_take];refine qi (qlA false (l.take i) (by rw[qsf];unfold B50;omega) 251 [.ptr S'.length 0 0 1] (fun g=>decide (g.name=l[i].name)) _ fun x _ U hk=>qjW l[i] x S'.length U (hk.at (by simp) (fun h=>h))) ?_;rintro v U ⟨rfl,hk⟩
   have he:JH (l.take i) (fun g=>decide (g.name=l[i].name))=((l.take i).map Fo.name).any fun x=>decide (x=l[i].name):=by
    unfold JH;rw[List.any_map];rfl
   rw[he]
   cases hc:((l.take i).map Fo.name).any fun x=>decide (x=l[i].name) with
   | true=>
    rw[hc] at hnext;simp;refine qa rfl ?_ rfl;simp only[qo,V.bool.injEq]
    cases hh:yx qb l [] with
    | false=>rfl
    | true=>rw[hall hh] at hnext;simp at hnext
   | false=>
    rw[hc] at hnext;simp[zk (n:=(i:Int)+1)];refine ⟨_,?_,_,?_,i+1,rfl,by omega,by rw[hnext];rfl,rfl⟩
    ·omega
    ·exact Env.so (by simp)
 ·simp[h];refine qa rfl ?_ rfl;rw[qru (by omega)] at hq;simp only[qo,hq]
theorem qlk(s:Bz)(hs:s.size≤B50):∀S,Fn prog 211 [.str s] S (.bool (Ji s)):=by
 refine Pu.ib func211 ok211 (by simp[c211]) (by simp[V.under]) rfl ?_;unfold B50 at hs;have hp:Ji s=(prB s.data.toList && decide (s.size≤80)):=rfl;generalize hpr:Ji s=pr at hp ⊢;simp only[c211,C'.k];simp;refine qw (fun j e S'=>∃i:Nat,j=s.size - i∧i≤s.size∧prB (s.data.toList.take i)=true∧
  e=[(3,.int .i64 i),(0,.str s)]) s.size _ ?_ ⟨0,by simp,by omega,rfl,rfl⟩ ?_
 ·exact Env.so (by simp)
 rintro j e S' ⟨i,rfl,hi,hq,rfl⟩;by_cases h:i<s.size
 ·have hb:s.data.toList[i]?=some (s.data[i]'h):=by simp[h]
  generalize hx:s.data[i]'h=x at hb;have hi':qhw s i=some (.int .u8 x.toNat):=by rw[←hx];exact qqx h
  have hlt:=x.toNat_lt
  have hno:j7 x=false→pr=false:=fun hh=>by
   rw[hp,Bool.and_eq_false_iff];left
   cases ha:prB s.data.toList with
   | false=>rfl
   | true=>
    unfold prB at ha;rw[qri] at ha;rw[ha x (qq1 hb)] at hh;cases hh
  simp[h,hi',qu (n:=(x.toNat:Int)) (by omega) (by omega)];refine qg (qD _ _ _ _) ?_;by_cases h1:(32:Int)≤x.toNat∧(x.toNat:Int)≤126
  ·rw[show (decide ((32:Int)≤x.toNat) && decide ((x.toNat:Int)≤126))=true by simp[h1]];by_cases h2:(x.toNat:Int)=34
   ·simp[hi',h2];refine qa rfl ?_ rfl;rw[hno (by unfold j7;simp;omega)];rfl
   ·simp[hi',h2,zk (n:=(i:Int)+1)];refine ⟨_,?_,_,?_,i+1,rfl,by omega,?_,rfl⟩
    ·omega
    ·exact Env.so (by simp)
    ·unfold prB at *;rw[qrj,List.all_append,hq,hb];simp[j7];omega
  ·rw[show (decide ((32:Int)≤x.toNat) && decide ((x.toNat:Int)≤126))=false by simp;omega];simp;refine qa rfl ?_ rfl;rw[hno (by unfold j7;simp;omega)];rfl
 ·simp[h];have hsz:s.data.toList.length=s.size:=rfl;rw[qru (by omega)] at hq;refine qa rfl ?_ rfl;rw[hp,hq];simp only[qo,V.bool.injEq,qsc,decide_eq_decide];omega
theorem qmf(e:El):∀S,Fn prog 181 [e.v] S (.bool e.vOwn):=by
 refine Pu.ib func181 ok181 (by simp[c181]) (by simp[V.under]) rfl ?_;unfold El.vOwn;by_cases h1:e.kind=1
 ·simp[c181,qG,ldS,h1];exact qa rfl (by simp[qo];omega) rfl
 by_cases h2:e.kind=2
 ·simp[c181,qG,ldS,h2];exact qa rfl (by simp[qo];omega) rfl
 by_cases h3:e.kind=3
 ·simp[c181,qG,ldS,h3];exact qa rfl (by simp[qo];omega) rfl
 simp[c181,qG,ldS,h1,h2,h3];exact qa rfl rfl rfl
section
attribute [local simp] qG ldS stS qh qbx qfd zj yI qF qB evX ze
theorem Ex.vOwn_eq(nm:Bz→Bool)(x:Ex):x.vOwn nm=(
 if x.kind=1 then decide (0≤x.n∧x.n≤2147483647) && decide (x.args.length=0) && decide (x.op=0) && (decide (x.man=0) && decide (x.exp=0)) && zu x.text
 else if x.kind=2 then qkH x.man x.exp && decide (0≤x.man) && decide (x.args.length=0) && decide (x.op=0) && decide (x.n=0) && zu x.text
 else if x.kind=3∨x.kind=4 then decide (x.args.length=0) && decide (x.op=0) && decide (x.n=0) && (decide (x.man=0) && decide (x.exp=0)) && zu x.text
 else if x.kind=5 then Ji x.text && decide (x.args.length=0) && decide (x.op=0) && decide (x.n=0) && (decide (x.man=0) && decide (x.exp=0))
 else if x.kind=6 then nm x.text && decide (x.args.length=0) && decide (x.op=0) && decide (x.n=0) && (decide (x.man=0) && decide (x.exp=0))
 else if x.kind=7 then nm x.text && decide (1≤x.args.length∧x.args.length≤4) && decide (x.op=0) && decide (x.n=0) && (decide (x.man=0) && decide (x.exp=0))
 else if x.kind=8 then nm x.text && decide (1≤x.args.length∧x.args.length≤8) && decide (x.op=0) && decide (x.n=0) && (decide (x.man=0) && decide (x.exp=0))
 else if x.kind=9 then decide (x.op=1∨x.op=2) && decide (x.args.length=1) && decide (x.n=0) && (decide (x.man=0) && decide (x.exp=0)) && zu x.text
 else if x.kind=10 then decide (3≤x.op∧x.op≤18) && decide (x.args.length=2) && decide (x.n=0) && (decide (x.man=0) && decide (x.exp=0)) && zu x.text
 else if x.kind=11 then decide (x.args.length=3) && decide (x.op=0) && decide (x.n=0) && (decide (x.man=0) && decide (x.exp=0)) && zu x.text
 else false):=by cases x;rfl
theorem qR{t:Bz}(h:t=⟨⟨[]⟩⟩):zu t=true:=by subst h;rfl
theorem qJ{t:Bz}(h:¬ t=⟨⟨[]⟩⟩):zu t=false:=decide_eq_false fun hh=>h (jF.2 hh)
theorem qfQ(x:Ex)(hx:x.ok)(h1:x.kind=1):∀S,Fn prog 180 [x.v] S (.bool (x.vOwn qb)):=by
 refine Pu.ib func180 ok180 (by simp[c180]) (by simp[V.under]) rfl ?_;have hv:=Ex.vOwn_eq qb x;generalize x.vOwn qb=r at hv ⊢
 ·simp only[h1] at hv;simp at hv;simp[c180,qG,ldS,h1];refine qg (yZ _ _) ?_;simp[arL,arH,ldS,h1];refine qg (qD _ _ _ _) ?_;simp[ldS];refine qg (qD _ _ _ _) ?_;by_cases hl:0≤x.args.length∧x.args.length≤0
  case neg=>
   rw[qV (a:=(x.args.length:Int)) (lo:=0) (hi:=0) (by omega)];simp;refine qa rfl ?_ rfl;rw[hv];simp only[qo,V.bool.injEq,qsu];have:¬ x.args=[]:=fun hh=>hl (by rw[hh];simp)
   simp[this]
  rw[qZ (a:=(x.args.length:Int)) (lo:=0) (hi:=0) (by omega)];have hl':x.args=[]:=qrq (by omega);simp[h1];refine qg (qD _ _ _ _) ?_;by_cases hb:0≤x.n∧x.n≤2147483647
  case neg=>
   rw[qV (by omega)];simp;exact qa rfl (by rw[hv];simp[qo,hl',hb]) rfl
  rw[qZ (by omega)];simp;by_cases ho:x.op=0
  case neg=>
   simp[ho];exact qa rfl (by rw[hv];simp[qo,hl',hb,ho]) rfl
  simp[ho];by_cases hr:x.man=0∧x.exp=0
  case neg=>
   rcases qrw.1 hr with hr1|hr1
   ·simp[hr1];exact qa rfl (by rw[hv];simp[qo,hl',hr1,hb,ho,true_and]) rfl
   ·simp[hr1];exact qa rfl (by rw[hv];simp[qo,hl',hr1,hb,ho,true_and]) rfl
  simp[hr];by_cases ht:x.text=⟨⟨[]⟩⟩
  case neg=>
   simp[ht];exact qa rfl (by rw[hv];simp[qo,hl',hb,ho,hr,qJ ht]) rfl
  simp[ht];rw[ht] at hv;exact qa rfl (by rw[hv];simp[qo,hl',hb,ho,hr,qR rfl]) rfl
theorem qfl(x:Ex)(hx:x.ok)(h2:x.kind=2):∀S,Fn prog 180 [x.v] S (.bool (x.vOwn qb)):=by
 refine Pu.ib func180 ok180 (by simp[c180]) (by simp[V.under]) rfl ?_;have hv:=Ex.vOwn_eq qb x;generalize x.vOwn qb=r at hv ⊢
 ·simp only[h2] at hv;simp at hv;simp[c180,qG,ldS,h2];refine qg (yZ _ _) ?_;simp[arL,arH,ldS,h2];refine qg (qD _ _ _ _) ?_;simp[ldS];refine qg (qD _ _ _ _) ?_;by_cases hl:0≤x.args.length∧x.args.length≤0
  case neg=>
   rw[qV (a:=(x.args.length:Int)) (lo:=0) (hi:=0) (by omega)];simp;refine qa rfl ?_ rfl;rw[hv];simp only[qo,V.bool.injEq,qsu];have:¬ x.args=[]:=fun hh=>hl (by rw[hh];simp)
   simp[this]
  rw[qZ (a:=(x.args.length:Int)) (lo:=0) (hi:=0) (by omega)];have hl':x.args=[]:=qrq (by omega);simp[h2];refine qg (qmt _ _ _) ?_;cases hb:qkH x.man x.exp
  case false=>
   simp;exact qa rfl (by rw[hv];simp[qo,hl',hb]) rfl
  simp;by_cases hm:0≤x.man
  case neg=>
   simp[hm];exact qa rfl (by rw[hv];simp[qo,hl',hb,hm]) rfl
  simp[hm];by_cases ho:x.op=0
  case neg=>
   simp[ho];exact qa rfl (by rw[hv];simp[qo,hl',hb,hm,ho]) rfl
  simp[ho];by_cases hn:x.n=0
  case neg=>
   simp[hn];exact qa rfl (by rw[hv];simp[qo,hl',hb,hm,ho,hn]) rfl
  simp[hn];by_cases ht:x.text=⟨⟨[]⟩⟩
  case neg=>
   simp[ht];exact qa rfl (by rw[hv];simp[qo,hl',hb,hm,ho,hn,qJ ht]) rfl
  simp[ht];rw[ht] at hv;exact qa rfl (by rw[hv];simp[qo,hl',hb,hm,ho,hn,qR rfl]) rfl
theorem qgv(x:Ex)(hx:x.ok)(h3:x.kind=3):∀S,Fn prog 180 [x.v] S (.bool (x.vOwn qb)):=by
 refine Pu.ib func180 ok180 (by simp[c180]) (by simp[V.under]) rfl ?_;have hv:=Ex.vOwn_eq qb x;generalize x.vOwn qb=r at hv ⊢
 ·simp only[h3] at hv;simp at hv;simp[c180,qG,ldS,h3];refine qg (yZ _ _) ?_;simp[arL,arH,ldS,h3];refine qg (qD _ _ _ _) ?_;simp[ldS];refine qg (qD _ _ _ _) ?_;by_cases hl:0≤x.args.length∧x.args.length≤0
  case neg=>
   rw[qV (a:=(x.args.length:Int)) (lo:=0) (hi:=0) (by omega)];simp;refine qa rfl ?_ rfl;rw[hv];simp only[qo,V.bool.injEq,qsu];have:¬ x.args=[]:=fun hh=>hl (by rw[hh];simp)
   simp[this]
  rw[qZ (a:=(x.args.length:Int)) (lo:=0) (hi:=0) (by omega)];have hl':x.args=[]:=qrq (by omega);simp[h3];by_cases ho:x.op=0
  case neg=>
   simp[ho];exact qa rfl (by rw[hv];simp[qo,hl',ho]) rfl
  simp[ho];by_cases hn:x.n=0
  case neg=>
   simp[hn];exact qa rfl (by rw[hv];simp[qo,hl',ho,hn]) rfl
  simp[hn];by_cases hr:x.man=0∧x.exp=0
  case neg=>
   rcases qrw.1 hr with hr1|hr1
   ·simp[hr1];exact qa rfl (by rw[hv];simp[qo,hl',hr1,ho,hn,true_and]) rfl
   ·simp[hr1];exact qa rfl (by rw[hv];simp[qo,hl',hr1,ho,hn,true_and]) rfl
  simp[hr];by_cases ht:x.text=⟨⟨[]⟩⟩
  case neg=>
   simp[ht];exact qa rfl (by rw[hv];simp[qo,hl',ho,hn,hr,qJ ht]) rfl
  simp[ht];rw[ht] at hv;exact qa rfl (by rw[hv];simp[qo,hl',ho,hn,hr,qR rfl]) rfl
theorem qg0(x:Ex)(hx:x.ok)(h4:x.kind=4):∀S,Fn prog 180 [x.v] S (.bool (x.vOwn qb)):=by
 refine Pu.ib func180 ok180 (by simp[c180]) (by simp[V.under]) rfl ?_;have hv:=Ex.vOwn_eq qb x;generalize x.vOwn qb=r at hv ⊢
 ·simp only[h4] at hv;simp at hv;simp[c180,qG,ldS,h4];refine qg (yZ _ _) ?_;simp[arL,arH,ldS,h4];refine qg (qD _ _ _ _) ?_;simp[ldS];refine qg (qD _ _ _ _) ?_;by_cases hl:0≤x.args.length∧x.args.length≤0
  case neg=>
   rw[qV (a:=(x.args.length:Int)) (lo:=0) (hi:=0) (by omega)];simp;refine qa rfl ?_ rfl;rw[hv];simp only[qo,V.bool.injEq,qsu];have:¬ x.args=[]:=fun hh=>hl (by rw[hh];simp)
   simp[this]
  rw[qZ (a:=(x.args.length:Int)) (lo:=0) (hi:=0) (by omega)];have hl':x.args=[]:=qrq (by omega);simp[h4];by_cases ho:x.op=0
  case neg=>
   simp[ho];exact qa rfl (by rw[hv];simp[qo,hl',ho]) rfl
  simp[ho];by_cases hn:x.n=0
  case neg=>
   simp[hn];exact qa rfl (by rw[hv];simp[qo,hl',ho,hn]) rfl
  simp[hn];by_cases hr:x.man=0∧x.exp=0
  case neg=>
   rcases qrw.1 hr with hr1|hr1
   ·simp[hr1];exact qa rfl (by rw[hv];simp[qo,hl',hr1,ho,hn,true_and]) rfl
   ·simp[hr1];exact qa rfl (by rw[hv];simp[qo,hl',hr1,ho,hn,true_and]) rfl
  simp[hr];by_cases ht:x.text=⟨⟨[]⟩⟩
  case neg=>
   simp[ht];exact qa rfl (by rw[hv];simp[qo,hl',ho,hn,hr,qJ ht]) rfl
  simp[ht];rw[ht] at hv;exact qa rfl (by rw[hv];simp[qo,hl',ho,hn,hr,qR rfl]) rfl
theorem qgp(x:Ex)(hx:x.ok)(h5:x.kind=5):∀S,Fn prog 180 [x.v] S (.bool (x.vOwn qb)):=by
 refine Pu.ib func180 ok180 (by simp[c180]) (by simp[V.under]) rfl ?_;have hv:=Ex.vOwn_eq qb x;generalize x.vOwn qb=r at hv ⊢
 ·simp only[h5] at hv;simp at hv;simp[c180,qG,ldS,h5];refine qg (yZ _ _) ?_;simp[arL,arH,ldS,h5];refine qg (qD _ _ _ _) ?_;simp[ldS];refine qg (qD _ _ _ _) ?_;by_cases hl:0≤x.args.length∧x.args.length≤0
  case neg=>
   rw[qV (a:=(x.args.length:Int)) (lo:=0) (hi:=0) (by omega)];simp;refine qa rfl ?_ rfl;rw[hv];simp only[qo,V.bool.injEq,qsu];have:¬ x.args=[]:=fun hh=>hl (by rw[hh];simp)
   simp[this]
  rw[qZ (a:=(x.args.length:Int)) (lo:=0) (hi:=0) (by omega)];have hl':x.args=[]:=qrq (by omega);simp[h5];refine qg (qlk _ (Ex.ok_text hx) _) ?_;cases hb:Ji x.text
  case false=>
   simp;exact qa rfl (by rw[hv];simp[qo,hl',hb]) rfl
  simp;by_cases ho:x.op=0
  case neg=>
   simp[ho];exact qa rfl (by rw[hv];simp[qo,hl',hb,ho]) rfl
  simp[ho];by_cases hn:x.n=0
  case neg=>
   simp[hn];exact qa rfl (by rw[hv];simp[qo,hl',hb,ho,hn]) rfl
  simp[hn];by_cases hr:x.man=0∧x.exp=0
  case neg=>
   rcases qrw.1 hr with hr1|hr1
   ·simp[hr1];exact qa rfl (by rw[hv];simp[qo,hl',hr1,hb,ho,hn,true_and]) rfl
   ·simp[hr1];exact qa rfl (by rw[hv];simp[qo,hl',hr1,hb,ho,hn,true_and]) rfl
  simp[hr];exact qa rfl (by rw[hv];simp[qo,hl',hb,ho,hn,hr]) rfl
theorem qeY(x:Ex)(hx:x.ok)(h6:x.kind=6):∀S,Fn prog 180 [x.v] S (.bool (x.vOwn qb)):=by
 refine Pu.ib func180 ok180 (by simp[c180]) (by simp[V.under]) rfl ?_;have hv:=Ex.vOwn_eq qb x;generalize x.vOwn qb=r at hv ⊢
 ·simp only[h6] at hv;simp at hv;simp[c180,qG,ldS,h6];refine qg (yZ _ _) ?_;simp[arL,arH,ldS,h6];refine qg (qD _ _ _ _) ?_;simp[ldS];refine qg (qD _ _ _ _) ?_;by_cases hl:0≤x.args.length∧x.args.length≤0
  case neg=>
   rw[qV (a:=(x.args.length:Int)) (lo:=0) (hi:=0) (by omega)];simp;refine qa rfl ?_ rfl;rw[hv];simp only[qo,V.bool.injEq,qsu];have:¬ x.args=[]:=fun hh=>hl (by rw[hh];simp)
   simp[this]
  rw[qZ (a:=(x.args.length:Int)) (lo:=0) (hi:=0) (by omega)];have hl':x.args=[]:=qrq (by omega);simp[h6];refine qg (Yw _ _) ?_;cases hb:qb x.text
  case false=>
   simp;exact qa rfl (by rw[hv];simp[qo,hl',hb]) rfl
  simp;by_cases ho:x.op=0
  case neg=>
   simp[ho];exact qa rfl (by rw[hv];simp[qo,hl',hb,ho]) rfl
  simp[ho];by_cases hn:x.n=0
  case neg=>
   simp[hn];exact qa rfl (by rw[hv];simp[qo,hl',hb,ho,hn]) rfl
  simp[hn];by_cases hr:x.man=0∧x.exp=0
  case neg=>
   rcases qrw.1 hr with hr1|hr1
   ·simp[hr1];exact qa rfl (by rw[hv];simp[qo,hl',hr1,hb,ho,hn,true_and]) rfl
   ·simp[hr1];exact qa rfl (by rw[hv];simp[qo,hl',hr1,hb,ho,hn,true_and]) rfl
  simp[hr];exact qa rfl (by rw[hv];simp[qo,hl',hb,ho,hn,hr]) rfl
theorem qe2(x:Ex)(hx:x.ok)(h7:x.kind=7):∀S,Fn prog 180 [x.v] S (.bool (x.vOwn qb)):=by
 refine Pu.ib func180 ok180 (by simp[c180]) (by simp[V.under]) rfl ?_;have hv:=Ex.vOwn_eq qb x;generalize x.vOwn qb=r at hv ⊢
 ·simp only[h7] at hv;simp at hv;simp[c180,qG,ldS,h7];refine qg (yZ _ _) ?_;simp[arL,arH,ldS,h7];refine qg (qD _ _ _ _) ?_;simp[ldS];refine qg (qD _ _ _ _) ?_;by_cases hl:1≤x.args.length∧x.args.length≤4
  case neg=>
   rw[qV (a:=(x.args.length:Int)) (lo:=1) (hi:=4) (by omega)];simp;refine qa rfl ?_ rfl;rw[hv];simp only[qo,V.bool.injEq,qsu];have:¬ (1≤x.args.length∧x.args.length≤4):=by omega
   simp[this]
  rw[qZ (a:=(x.args.length:Int)) (lo:=1) (hi:=4) (by omega)];have hl':1≤x.args.length∧x.args.length≤4:=by omega
  simp[h7];refine qg (Yw _ _) ?_;cases hb:qb x.text
  case false=>
   simp;exact qa rfl (by rw[hv];simp[qo,hl',hb]) rfl
  simp;by_cases ho:x.op=0
  case neg=>
   simp[ho];exact qa rfl (by rw[hv];simp[qo,hl',hb,ho]) rfl
  simp[ho];by_cases hn:x.n=0
  case neg=>
   simp[hn];exact qa rfl (by rw[hv];simp[qo,hl',hb,ho,hn]) rfl
  simp[hn];by_cases hr:x.man=0∧x.exp=0
  case neg=>
   rcases qrw.1 hr with hr1|hr1
   ·simp[hr1];exact qa rfl (by rw[hv];simp[qo,hl',hr1,hb,ho,hn,true_and]) rfl
   ·simp[hr1];exact qa rfl (by rw[hv];simp[qo,hl',hr1,hb,ho,hn,true_and]) rfl
  simp[hr];exact qa rfl (by rw[hv];simp[qo,hl',hb,ho,hn,hr]) rfl
theorem qfm(x:Ex)(hx:x.ok)(h8:x.kind=8):∀S,Fn prog 180 [x.v] S (.bool (x.vOwn qb)):=by
 refine Pu.ib func180 ok180 (by simp[c180]) (by simp[V.under]) rfl ?_;have hv:=Ex.vOwn_eq qb x;generalize x.vOwn qb=r at hv ⊢
 ·simp only[h8] at hv;simp at hv;simp[c180,qG,ldS,h8];refine qg (yZ _ _) ?_;simp[arL,arH,ldS,h8];refine qg (qD _ _ _ _) ?_;simp[ldS];refine qg (qD _ _ _ _) ?_;by_cases hl:1≤x.args.length∧x.args.length≤8
  case neg=>
   rw[qV (a:=(x.args.length:Int)) (lo:=1) (hi:=8) (by omega)];simp;refine qa rfl ?_ rfl;rw[hv];simp only[qo,V.bool.injEq,qsu];have:¬ (1≤x.args.length∧x.args.length≤8):=by omega
   simp[this]
  rw[qZ (a:=(x.args.length:Int)) (lo:=1) (hi:=8) (by omega)];have hl':1≤x.args.length∧x.args.length≤8:=by omega
  simp[h8];refine qg (Yw _ _) ?_;cases hb:qb x.text
  case false=>
   simp;exact qa rfl (by rw[hv];simp[qo,hl',hb]) rfl
  simp;by_cases ho:x.op=0
  case neg=>
   simp[ho];exact qa rfl (by rw[hv];simp[qo,hl',hb,ho]) rfl
  simp[ho];by_cases hn:x.n=0
  case neg=>
   simp[hn];exact qa rfl (by rw[hv];simp[qo,hl',hb,ho,hn]) rfl
  simp[hn];by_cases hr:x.man=0∧x.exp=0
  case neg=>
   rcases qrw.1 hr with hr1|hr1
   ·simp[hr1];exact qa rfl (by rw[hv];simp[qo,hl',hr1,hb,ho,hn,true_and]) rfl
   ·simp[hr1];exact qa rfl (by rw[hv];simp[qo,hl',hr1,hb,ho,hn,true_and]) rfl
  simp[hr];exact qa rfl (by rw[hv];simp[qo,hl',hb,ho,hn,hr]) rfl
theorem qgV(x:Ex)(hx:x.ok)(h9:x.kind=9):∀S,Fn prog 180 [x.v] S (.bool (x.vOwn qb)):=by
 refine Pu.ib func180 ok180 (by simp[c180]) (by simp[V.under]) rfl ?_;have hv:=Ex.vOwn_eq qb x;generalize x.vOwn qb=r at hv ⊢
 ·simp only[h9] at hv;simp at hv;simp[c180,qG,ldS,h9];refine qg (yZ _ _) ?_;simp[arL,arH,ldS,h9];refine qg (qD _ _ _ _) ?_;simp[ldS];refine qg (qD _ _ _ _) ?_;by_cases hl:1≤x.args.length∧x.args.length≤1
  case neg=>
   rw[qV (a:=(x.args.length:Int)) (lo:=1) (hi:=1) (by omega)];simp;refine qa rfl ?_ rfl;rw[hv];simp only[qo,V.bool.injEq,qsu];have:¬ x.args.length=1:=by omega
   simp[this]
  rw[qZ (a:=(x.args.length:Int)) (lo:=1) (hi:=1) (by omega)];have hl':x.args.length=1:=by omega
  simp[h9];by_cases hb1:x.op=1
  case neg=>
   by_cases hb2:x.op=2
   case neg=>
    simp[hb1,hb2];exact qa rfl (by rw[hv];simp[qo,hl',hb1,hb2]) rfl
   simp[hb2];by_cases hn:x.n=0
   case neg=>
    simp[hn];exact qa rfl (by rw[hv];simp[qo,hl',hb2,hn]) rfl
   simp[hn];by_cases hr:x.man=0∧x.exp=0
   case neg=>
    rcases qrw.1 hr with hr1|hr1
    ·simp[hr1];exact qa rfl (by rw[hv];simp[qo,hl',hr1,hb2,hn,true_and]) rfl
    ·simp[hr1];exact qa rfl (by rw[hv];simp[qo,hl',hr1,hb2,hn,true_and]) rfl
   simp[hr];by_cases ht:x.text=⟨⟨[]⟩⟩
   case neg=>
    simp[ht];exact qa rfl (by rw[hv];simp[qo,hl',hb2,hn,hr,qJ ht]) rfl
   simp[ht];rw[ht] at hv;exact qa rfl (by rw[hv];simp[qo,hl',hb2,hn,hr,qR rfl]) rfl
  simp[hb1];by_cases hn:x.n=0
  case neg=>
   simp[hn];exact qa rfl (by rw[hv];simp[qo,hl',hb1,hn]) rfl
  simp[hn];by_cases hr:x.man=0∧x.exp=0
  case neg=>
   rcases qrw.1 hr with hr1|hr1
   ·simp[hr1];exact qa rfl (by rw[hv];simp[qo,hl',hr1,hb1,hn,true_and]) rfl
   ·simp[hr1];exact qa rfl (by rw[hv];simp[qo,hl',hr1,hb1,hn,true_and]) rfl
  simp[hr];by_cases ht:x.text=⟨⟨[]⟩⟩
  case neg=>
   simp[ht];exact qa rfl (by rw[hv];simp[qo,hl',hb1,hn,hr,qJ ht]) rfl
  simp[ht];rw[ht] at hv;exact qa rfl (by rw[hv];simp[qo,hl',hb1,hn,hr,qR rfl]) rfl
theorem qdP(x:Ex)(hx:x.ok)(h10:x.kind=10):∀S,Fn prog 180 [x.v] S (.bool (x.vOwn qb)):=by
 refine Pu.ib func180 ok180 (by simp[c180]) (by simp[V.under]) rfl ?_;have hv:=Ex.vOwn_eq qb x;generalize x.vOwn qb=r at hv ⊢
 ·simp only[h10] at hv;simp at hv;simp[c180,qG,ldS,h10];refine qg (yZ _ _) ?_;simp[arL,arH,ldS,h10];refine qg (qD _ _ _ _) ?_;simp[ldS];refine qg (qD _ _ _ _) ?_;by_cases hl:2≤x.args.length∧x.args.length≤2
  case neg=>
   rw[qV (a:=(x.args.length:Int)) (lo:=2) (hi:=2) (by omega)];simp;refine qa rfl ?_ rfl;rw[hv];simp only[qo,V.bool.injEq,qsu];have:¬ x.args.length=2:=by omega
   simp[this]
  rw[qZ (a:=(x.args.length:Int)) (lo:=2) (hi:=2) (by omega)];have hl':x.args.length=2:=by omega
  simp[h10];refine qg (qD _ _ _ _) ?_;by_cases hb:3≤x.op∧x.op≤18
  case neg=>
   rw[qV (by omega)];simp;exact qa rfl (by rw[hv];simp[qo,hl',hb]) rfl
  rw[qZ (by omega)];simp;by_cases hn:x.n=0
  case neg=>
   simp[hn];exact qa rfl (by rw[hv];simp[qo,hl',hb,hn]) rfl
  simp[hn];by_cases hr:x.man=0∧x.exp=0
  case neg=>
   rcases qrw.1 hr with hr1|hr1
   ·simp[hr1];exact qa rfl (by rw[hv];simp[qo,hl',hr1,hb,hn,true_and]) rfl
   ·simp[hr1];exact qa rfl (by rw[hv];simp[qo,hl',hr1,hb,hn,true_and]) rfl
  simp[hr];by_cases ht:x.text=⟨⟨[]⟩⟩
  case neg=>
   simp[ht];exact qa rfl (by rw[hv];simp[qo,hl',hb,hn,hr,qJ ht]) rfl
  simp[ht];rw[ht] at hv;exact qa rfl (by rw[hv];simp[qo,hl',hb,hn,hr,qR rfl]) rfl
theorem qeD(x:Ex)(hx:x.ok)(h11:x.kind=11):∀S,Fn prog 180 [x.v] S (.bool (x.vOwn qb)):=by
 refine Pu.ib func180 ok180 (by simp[c180]) (by simp[V.under]) rfl ?_;have hv:=Ex.vOwn_eq qb x;generalize x.vOwn qb=r at hv ⊢
 ·simp only[h11] at hv;simp at hv;simp[c180,qG,ldS,h11];refine qg (yZ _ _) ?_;simp[arL,arH,ldS,h11];refine qg (qD _ _ _ _) ?_;simp[ldS];refine qg (qD _ _ _ _) ?_;by_cases hl:3≤x.args.length∧x.args.length≤3
  case neg=>
   rw[qV (a:=(x.args.length:Int)) (lo:=3) (hi:=3) (by omega)];simp;refine qa rfl ?_ rfl;rw[hv];simp only[qo,V.bool.injEq,qsu];have:¬ x.args.length=3:=by omega
   simp[this]
  rw[qZ (a:=(x.args.length:Int)) (lo:=3) (hi:=3) (by omega)];have hl':x.args.length=3:=by omega
  simp[h11];by_cases ho:x.op=0
  case neg=>
   simp[ho];exact qa rfl (by rw[hv];simp[qo,hl',ho]) rfl
  simp[ho];by_cases hn:x.n=0
  case neg=>
   simp[hn];exact qa rfl (by rw[hv];simp[qo,hl',ho,hn]) rfl
  simp[hn];by_cases hr:x.man=0∧x.exp=0
  case neg=>
   rcases qrw.1 hr with hr1|hr1
   ·simp[hr1];exact qa rfl (by rw[hv];simp[qo,hl',hr1,ho,hn,true_and]) rfl
   ·simp[hr1];exact qa rfl (by rw[hv];simp[qo,hl',hr1,ho,hn,true_and]) rfl
  simp[hr];by_cases ht:x.text=⟨⟨[]⟩⟩
  case neg=>
   simp[ht];exact qa rfl (by rw[hv];simp[qo,hl',ho,hn,hr,qJ ht]) rfl
  simp[ht];rw[ht] at hv;exact qa rfl (by rw[hv];simp[qo,hl',ho,hn,hr,qR rfl]) rfl
theorem qet(x:Ex)(hx:x.ok)(h1:¬ x.kind=1)(h2:¬ x.kind=2)(h3:¬ x.kind=3)(h4:¬ x.kind=4)(h5:¬ x.kind=5)(h6:¬ x.kind=6)(h7:¬ x.kind=7)(h8:¬ x.kind=8)(h9:¬ x.kind=9)(h10:¬ x.kind=10)(h11:¬ x.kind=11):∀S,Fn prog 180 [x.v] S (.bool (x.vOwn qb)):=by
 refine Pu.ib func180 ok180 (by simp[c180]) (by simp[V.under]) rfl ?_;have hv:=Ex.vOwn_eq qb x;generalize x.vOwn qb=r at hv ⊢;have hv':r=false:=by rw[hv];simp[h1,h2,h3,h4,h5,h6,h7,h8,h9,h10,h11]
 simp[c180,qG,ldS];refine qg (yZ _ _) ?_;simp[ldS];refine qg (qD _ _ _ _) ?_;rw[qV (by omega)];simp;exact qa rfl (by rw[hv'];rfl) rfl
theorem qkj(x:Ex)(hx:x.ok):∀S,Fn prog 180 [x.v] S (.bool (x.vOwn qb)):=by
 by_cases h1:x.kind=1
 ·exact qfQ x hx h1
 by_cases h2:x.kind=2
 ·exact qfl x hx h2
 by_cases h3:x.kind=3
 ·exact qgv x hx h3
 by_cases h4:x.kind=4
 ·exact qg0 x hx h4
 by_cases h5:x.kind=5
 ·exact qgp x hx h5
 by_cases h6:x.kind=6
 ·exact qeY x hx h6
 by_cases h7:x.kind=7
 ·exact qe2 x hx h7
 by_cases h8:x.kind=8
 ·exact qfm x hx h8
 by_cases h9:x.kind=9
 ·exact qgV x hx h9
 by_cases h10:x.kind=10
 ·exact qdP x hx h10
 by_cases h11:x.kind=11
 ·exact qeD x hx h11
 exact qet x hx h1 h2 h3 h4 h5 h6 h7 h8 h9 h10 h11
end
section
attribute [local simp] zT eqV qG ldS stS qh Zt qba qfd zj yI qF qB evX
theorem zN(n:Nat):qO 0 0 n=decide (n=0):=by unfold qO;rw[qrz];simp
theorem y8(n:Nat):qO 1 1 n=decide (n=1):=by unfold qO;rw[qrz];simp;omega
theorem yS(n:Nat):qO 1 (-1) n=decide (1≤n):=by unfold qO;rw[qrz];simp;omega
theorem yA(n:Nat):qO 1 2 n=decide (1≤n∧n≤2):=by unfold qO;rw[qrz];simp;omega
theorem yT(n:Nat):qO 0 8 n=decide (n≤8):=by unfold qO;rw[qrz];simp;omega
theorem yY(n:Nat):qO 2 8 n=decide (2≤n∧n≤8):=by unfold qO;rw[qrz];simp;omega
theorem qlm{l:List Sm}(h:0<l.length):Sm.noIf l=decide (l[0].kind≠4∧l[0].kind≠5):=by
 cases l with
 | nil=>simp at h
 | cons x l=>rfl
theorem qeu:qb ⟨⟨[]⟩⟩=false:=rfl
theorem qkR{l:List Sm}(h:0<l.length)(b:Bool)(S:St):iaS S 8 (.sl b (l.map Sm.v)) 0=some (.iptr (Sm.v l[0]) 0):=qi4 (i:=0) h b S
theorem Sm.vOwn_1(nm:Bz→Bool)(s:Sm)(h:s.kind=1):s.vOwn nm=(qO 0 0 s.targets.length && qO 0 0 s.exps.length && qO 0 0 s.elems.length && qO 0 0 s.decls.length && qO 0 0 s.body.length && zu s.text && s.labels.all nm && s.targets.all Ex.tgt):=by
 cases s;simp only[Sm.kind] at h;subst h;simp only[Sm.vOwn,Sm.targets,Sm.exps,Sm.elems,Sm.decls,Sm.body,Sm.text,Sm.labels,zN,y8,yS,yA,yT,yY];simp only[reduceIte,Int.reduceEq];ac_rfl
theorem Sm.vOwn_2(nm:Bz→Bool)(s:Sm)(h:s.kind=2):s.vOwn nm=(qO 1 (-1) s.targets.length && qO 1 1 s.exps.length && qO 0 0 s.elems.length && qO 0 0 s.decls.length && qO 0 0 s.body.length && zu s.text && s.labels.all nm && s.targets.all Ex.tgt):=by
 cases s;simp only[Sm.kind] at h;subst h;simp only[Sm.vOwn,Sm.targets,Sm.exps,Sm.elems,Sm.decls,Sm.body,Sm.text,Sm.labels,zN,y8,yS,yA,yT,yY];simp only[reduceIte,Int.reduceEq];ac_rfl
theorem Sm.vOwn_3(nm:Bz→Bool)(s:Sm)(h:s.kind=3):s.vOwn nm=(qO 0 0 s.targets.length && qO 1 1 s.exps.length && qO 0 0 s.elems.length && qO 0 0 s.decls.length && qO 0 0 s.body.length && zu s.text && s.labels.all nm && s.targets.all Ex.tgt):=by
 cases s;simp only[Sm.kind] at h;subst h;simp only[Sm.vOwn,Sm.targets,Sm.exps,Sm.elems,Sm.decls,Sm.body,Sm.text,Sm.labels,zN,y8,yS,yA,yT,yY];simp only[reduceIte,Int.reduceEq];ac_rfl
theorem Sm.vOwn_4(nm:Bz→Bool)(s:Sm)(h:s.kind=4):s.vOwn nm=(qO 0 0 s.targets.length && qO 1 1 s.exps.length && qO 0 0 s.elems.length && qO 0 0 s.decls.length && qO 1 2 s.body.length && zu s.text && s.labels.all nm && s.targets.all Ex.tgt && Sm.noIf s.body):=by
 cases s;simp only[Sm.kind] at h;subst h;simp only[Sm.vOwn,Sm.targets,Sm.exps,Sm.elems,Sm.decls,Sm.body,Sm.text,Sm.labels,zN,y8,yS,yA,yT,yY];simp only[reduceIte,Int.reduceEq];ac_rfl
theorem Sm.vOwn_5(nm:Bz→Bool)(s:Sm)(h:s.kind=5):s.vOwn nm=(qO 1 1 s.targets.length && qO 0 0 s.exps.length && qO 1 (-1) s.elems.length && qO 0 0 s.decls.length && qO 1 1 s.body.length && zu s.text && s.labels.all nm && s.targets.all Ex.tgt):=by
 cases s;simp only[Sm.kind] at h;subst h;simp only[Sm.vOwn,Sm.targets,Sm.exps,Sm.elems,Sm.decls,Sm.body,Sm.text,Sm.labels,zN,y8,yS,yA,yT,yY];simp only[reduceIte,Int.reduceEq];ac_rfl
theorem Sm.vOwn_6(nm:Bz→Bool)(s:Sm)(h:s.kind=6):s.vOwn nm=(qO 0 0 s.targets.length && qO 0 8 s.exps.length && qO 0 0 s.elems.length && qO 0 0 s.decls.length && qO 0 0 s.body.length && nm s.text && s.labels.all nm && s.targets.all Ex.tgt):=by
 cases s;simp only[Sm.kind] at h;subst h;simp only[Sm.vOwn,Sm.targets,Sm.exps,Sm.elems,Sm.decls,Sm.body,Sm.text,Sm.labels,zN,y8,yS,yA,yT,yY];simp only[reduceIte,Int.reduceEq];ac_rfl
theorem Sm.vOwn_7(nm:Bz→Bool)(s:Sm)(h:s.kind=7):s.vOwn nm=(qO 0 0 s.targets.length && qO 0 0 s.exps.length && qO 0 0 s.elems.length && qO 1 (-1) s.decls.length && qO 1 (-1) s.body.length && zu s.text && s.labels.all nm && s.targets.all Ex.tgt):=by
 cases s;simp only[Sm.kind] at h;subst h;simp only[Sm.vOwn,Sm.targets,Sm.exps,Sm.elems,Sm.decls,Sm.body,Sm.text,Sm.labels,zN,y8,yS,yA,yT,yY];simp only[reduceIte,Int.reduceEq];ac_rfl
theorem Sm.vOwn_8(nm:Bz→Bool)(s:Sm)(h:s.kind=8):s.vOwn nm=(qO 0 0 s.targets.length && qO 0 0 s.exps.length && qO 0 0 s.elems.length && qO 0 0 s.decls.length && qO 1 (-1) s.body.length && zu s.text && s.labels.all nm && s.targets.all Ex.tgt):=by
 cases s;simp only[Sm.kind] at h;subst h;simp only[Sm.vOwn,Sm.targets,Sm.exps,Sm.elems,Sm.decls,Sm.body,Sm.text,Sm.labels,zN,y8,yS,yA,yT,yY];simp only[reduceIte,Int.reduceEq];ac_rfl
theorem Sm.vOwn_no(nm:Bz→Bool)(s:Sm)(h:¬ (1≤s.kind∧s.kind≤8)):s.vOwn nm=false:=by
 cases s with
 | mk l k t g e f d b=>
  simp only[Sm.kind] at h;simp only[Sm.vOwn,if_neg (show ¬ k=1 by omega),if_neg (show ¬ k=2 by omega),if_neg (show ¬ k=3 by omega),if_neg (show ¬ k=4 by omega),if_neg (show ¬ k=5 by omega),if_neg (show ¬ k=6 by omega),if_neg (show ¬ k=7 by omega),if_neg (show ¬ k=8 by omega),Bool.and_false]
theorem qe9(s:Sm)(hs:s.ok)(hk:s.kind=1):∀S,Fn prog 183 [s.v] S (.bool (s.vOwn qb)):=by
 refine Pu.ib func183 ok183 (by simp[c183]) (by simp[V.under]) rfl ?_;have hO:=(Sm.ok_iff s).1 hs;rw[Sm.vOwn_1 qb s hk];simp[c183,hk];refine qg (qv _ _ _ _) ?_;cases f0:qO 0 0 s.targets.length
 case false=>
  simp;exact qa rfl (by simp[qo,f0]) rfl
 simp;refine qg (qv _ _ _ _) ?_;cases f1:qO 0 0 s.exps.length
 case false=>
  simp;exact qa rfl (by simp[qo,f0,f1]) rfl
 simp;refine qg (qv _ _ _ _) ?_;cases f2:qO 0 0 s.elems.length
 case false=>
  simp;exact qa rfl (by simp[qo,f0,f1,f2]) rfl
 simp;refine qg (qv _ _ _ _) ?_;cases f3:qO 0 0 s.decls.length
 case false=>
  simp;exact qa rfl (by simp[qo,f0,f1,f2,f3]) rfl
 simp;refine qg (qv _ _ _ _) ?_;cases f4:qO 0 0 s.body.length
 case false=>
  simp;exact qa rfl (by simp[qo,f0,f1,f2,f3,f4]) rfl
 simp;by_cases ht:s.text=⟨⟨[]⟩⟩
 case neg=>
  simp[ht];exact qa rfl (by simp[qo,f0,f1,f2,f3,f4,qJ ht]) rfl
 simp[ht];refine qg (yX _ hO.labels.1 _) ?_;cases hl:s.labels.all qb
 case false=>
  simp;exact qa rfl (by simp[qo]) rfl
 simp;refine qg (Ze _ hO.targets.1 _) ?_;cases hg:s.targets.all Ex.tgt
 case false=>
  simp;exact qa rfl (by simp[qo]) rfl
 simp[hk];exact qa rfl (by simp[qo,f0,f1,f2,f3,f4,qR rfl]) rfl
theorem qft(s:Sm)(hs:s.ok)(hk:s.kind=2):∀S,Fn prog 183 [s.v] S (.bool (s.vOwn qb)):=by
 refine Pu.ib func183 ok183 (by simp[c183]) (by simp[V.under]) rfl ?_;have hO:=(Sm.ok_iff s).1 hs;rw[Sm.vOwn_2 qb s hk];simp[c183,hk];refine qg (qv _ _ _ _) ?_;cases f0:qO 1 (-1) s.targets.length
 case false=>
  simp;exact qa rfl (by simp[qo,f0]) rfl
 simp;refine qg (qv _ _ _ _) ?_;cases f1:qO 1 1 s.exps.length
 case false=>
  simp;exact qa rfl (by simp[qo,f0,f1]) rfl
 simp;refine qg (qv _ _ _ _) ?_;cases f2:qO 0 0 s.elems.length
 case false=>
  simp;exact qa rfl (by simp[qo,f0,f1,f2]) rfl
 simp;refine qg (qv _ _ _ _) ?_;cases f3:qO 0 0 s.decls.length
 case false=>
  simp;exact qa rfl (by simp[qo,f0,f1,f2,f3]) rfl
 simp;refine qg (qv _ _ _ _) ?_;cases f4:qO 0 0 s.body.length
 case false=>
  simp;exact qa rfl (by simp[qo,f0,f1,f2,f3,f4]) rfl
 simp;by_cases ht:s.text=⟨⟨[]⟩⟩
 case neg=>
  simp[ht];exact qa rfl (by simp[qo,f0,f1,f2,f3,f4,qJ ht]) rfl
 simp[ht];refine qg (yX _ hO.labels.1 _) ?_;cases hl:s.labels.all qb
 case false=>
  simp;exact qa rfl (by simp[qo]) rfl
 simp;refine qg (Ze _ hO.targets.1 _) ?_;cases hg:s.targets.all Ex.tgt
 case false=>
  simp;exact qa rfl (by simp[qo]) rfl
 simp[hk];exact qa rfl (by simp[qo,f0,f1,f2,f3,f4,qR rfl]) rfl
theorem qfB(s:Sm)(hs:s.ok)(hk:s.kind=3):∀S,Fn prog 183 [s.v] S (.bool (s.vOwn qb)):=by
 refine Pu.ib func183 ok183 (by simp[c183]) (by simp[V.under]) rfl ?_;have hO:=(Sm.ok_iff s).1 hs;rw[Sm.vOwn_3 qb s hk];simp[c183,hk];refine qg (qv _ _ _ _) ?_;cases f0:qO 0 0 s.targets.length
 case false=>
  simp;exact qa rfl (by simp[qo,f0]) rfl
 simp;refine qg (qv _ _ _ _) ?_;cases f1:qO 1 1 s.exps.length
 case false=>
  simp;exact qa rfl (by simp[qo,f0,f1]) rfl
 simp;refine qg (qv _ _ _ _) ?_;cases f2:qO 0 0 s.elems.length
 case false=>
  simp;exact qa rfl (by simp[qo,f0,f1,f2]) rfl
 simp;refine qg (qv _ _ _ _) ?_;cases f3:qO 0 0 s.decls.length
 case false=>
  simp;exact qa rfl (by simp[qo,f0,f1,f2,f3]) rfl
 simp;refine qg (qv _ _ _ _) ?_;cases f4:qO 0 0 s.body.length
 case false=>
  simp;exact qa rfl (by simp[qo,f0,f1,f2,f3,f4]) rfl
 simp;by_cases ht:s.text=⟨⟨[]⟩⟩
 case neg=>
  simp[ht];exact qa rfl (by simp[qo,f0,f1,f2,f3,f4,qJ ht]) rfl
 simp[ht];refine qg (yX _ hO.labels.1 _) ?_;cases hl:s.labels.all qb
 case false=>
  simp;exact qa rfl (by simp[qo]) rfl
 simp;refine qg (Ze _ hO.targets.1 _) ?_;cases hg:s.targets.all Ex.tgt
 case false=>
  simp;exact qa rfl (by simp[qo]) rfl
 simp[hk];exact qa rfl (by simp[qo,f0,f1,f2,f3,f4,qR rfl]) rfl
theorem qeU(s:Sm)(hs:s.ok)(hk:s.kind=4):∀S,Fn prog 183 [s.v] S (.bool (s.vOwn qb)):=by
 refine Pu.ib func183 ok183 (by simp[c183]) (by simp[V.under]) rfl ?_;have hO:=(Sm.ok_iff s).1 hs;rw[Sm.vOwn_4 qb s hk];simp[c183,hk];refine qg (qv _ _ _ _) ?_;cases f0:qO 0 0 s.targets.length
 case false=>
  simp;exact qa rfl (by simp[qo,f0]) rfl
 simp;refine qg (qv _ _ _ _) ?_;cases f1:qO 1 1 s.exps.length
 case false=>
  simp;exact qa rfl (by simp[qo,f0,f1]) rfl
 simp;refine qg (qv _ _ _ _) ?_;cases f2:qO 0 0 s.elems.length
 case false=>
  simp;exact qa rfl (by simp[qo,f0,f1,f2]) rfl
 simp;refine qg (qv _ _ _ _) ?_;cases f3:qO 0 0 s.decls.length
 case false=>
  simp;exact qa rfl (by simp[qo,f0,f1,f2,f3]) rfl
 simp;refine qg (qv _ _ _ _) ?_;cases f4:qO 1 2 s.body.length
 case false=>
  simp;exact qa rfl (by simp[qo,f0,f1,f2,f3,f4]) rfl
 simp;by_cases ht:s.text=⟨⟨[]⟩⟩
 case neg=>
  simp[ht];exact qa rfl (by simp[qo,f0,f1,f2,f3,f4,qJ ht]) rfl
 simp[ht];refine qg (yX _ hO.labels.1 _) ?_;cases hl:s.labels.all qb
 case false=>
  simp;exact qa rfl (by simp[qo]) rfl
 simp;refine qg (Ze _ hO.targets.1 _) ?_;cases hg:s.targets.all Ex.tgt
 case false=>
  simp;exact qa rfl (by simp[qo]) rfl
 have hb:0<s.body.length:=by rw[yA] at f4;simp at f4;omega
 have hno:=qlm hb;rw[hno];by_cases g4:s.body[0].kind=4
 case pos=>
  simp[qkR hb,hk,g4];exact qa rfl (by simp[qo]) rfl
 by_cases g5:s.body[0].kind=5
 case pos=>
  simp[qkR hb,hk,g4,g5];exact qa rfl (by simp[qo]) rfl
 simp[qkR hb,hk,g4,g5];exact qa rfl (by simp[qo,f0,f1,f2,f3,f4,qR rfl]) rfl
theorem qe3(s:Sm)(hs:s.ok)(hk:s.kind=5):∀S,Fn prog 183 [s.v] S (.bool (s.vOwn qb)):=by
 refine Pu.ib func183 ok183 (by simp[c183]) (by simp[V.under]) rfl ?_;have hO:=(Sm.ok_iff s).1 hs;rw[Sm.vOwn_5 qb s hk];simp[c183,hk];refine qg (qv _ _ _ _) ?_;cases f0:qO 1 1 s.targets.length
 case false=>
  simp;exact qa rfl (by simp[qo,f0]) rfl
 simp;refine qg (qv _ _ _ _) ?_;cases f1:qO 0 0 s.exps.length
 case false=>
  simp;exact qa rfl (by simp[qo,f0,f1]) rfl
 simp;refine qg (qv _ _ _ _) ?_;cases f2:qO 1 (-1) s.elems.length
 case false=>
  simp;exact qa rfl (by simp[qo,f0,f1,f2]) rfl
 simp;refine qg (qv _ _ _ _) ?_;cases f3:qO 0 0 s.decls.length
 case false=>
  simp;exact qa rfl (by simp[qo,f0,f1,f2,f3]) rfl
 simp;refine qg (qv _ _ _ _) ?_;cases f4:qO 1 1 s.body.length
 case false=>
  simp;exact qa rfl (by simp[qo,f0,f1,f2,f3,f4]) rfl
 simp;by_cases ht:s.text=⟨⟨[]⟩⟩
 case neg=>
  simp[ht];exact qa rfl (by simp[qo,f0,f1,f2,f3,f4,qJ ht]) rfl
 simp[ht];refine qg (yX _ hO.labels.1 _) ?_;cases hl:s.labels.all qb
 case false=>
  simp;exact qa rfl (by simp[qo]) rfl
 simp;refine qg (Ze _ hO.targets.1 _) ?_;cases hg:s.targets.all Ex.tgt
 case false=>
  simp;exact qa rfl (by simp[qo]) rfl
 simp[hk];exact qa rfl (by simp[qo,f0,f1,f2,f3,f4,qR rfl]) rfl
theorem qhl(s:Sm)(hs:s.ok)(hk:s.kind=6):∀S,Fn prog 183 [s.v] S (.bool (s.vOwn qb)):=by
 refine Pu.ib func183 ok183 (by simp[c183]) (by simp[V.under]) rfl ?_;have hO:=(Sm.ok_iff s).1 hs;rw[Sm.vOwn_6 qb s hk];simp[c183,hk];refine qg (qv _ _ _ _) ?_;cases f0:qO 0 0 s.targets.length
 case false=>
  simp;exact qa rfl (by simp[qo,f0]) rfl
 simp;refine qg (qv _ _ _ _) ?_;cases f1:qO 0 8 s.exps.length
 case false=>
  simp;exact qa rfl (by simp[qo,f0,f1]) rfl
 simp;refine qg (qv _ _ _ _) ?_;cases f2:qO 0 0 s.elems.length
 case false=>
  simp;exact qa rfl (by simp[qo,f0,f1,f2]) rfl
 simp;refine qg (qv _ _ _ _) ?_;cases f3:qO 0 0 s.decls.length
 case false=>
  simp;exact qa rfl (by simp[qo,f0,f1,f2,f3]) rfl
 simp;refine qg (qv _ _ _ _) ?_;cases f4:qO 0 0 s.body.length
 case false=>
  simp;exact qa rfl (by simp[qo,f0,f1,f2,f3,f4]) rfl
 simp;by_cases ht:s.text=⟨⟨[]⟩⟩
 case pos=>
  simp[ht];exact qa rfl (by simp[qo,f0,f1,f2,f3,f4,qeu]) rfl
 simp[ht];refine qg (Yw _ _) ?_;cases hn:qb s.text
 case false=>
  simp;exact qa rfl (by simp[qo,f0,f1,f2,f3,f4,hn]) rfl
 simp;refine qg (yX _ hO.labels.1 _) ?_;cases hl:s.labels.all qb
 case false=>
  simp;exact qa rfl (by simp[qo]) rfl
 simp;refine qg (Ze _ hO.targets.1 _) ?_;cases hg:s.targets.all Ex.tgt
 case false=>
  simp;exact qa rfl (by simp[qo]) rfl
 simp[hk];exact qa rfl (by simp[qo,f0,f1,f2,f3,f4,hn]) rfl
theorem qhq(s:Sm)(hs:s.ok)(hk:s.kind=7):∀S,Fn prog 183 [s.v] S (.bool (s.vOwn qb)):=by
 refine Pu.ib func183 ok183 (by simp[c183]) (by simp[V.under]) rfl ?_;have hO:=(Sm.ok_iff s).1 hs;rw[Sm.vOwn_7 qb s hk];simp[c183,hk];refine qg (qv _ _ _ _) ?_;cases f0:qO 0 0 s.targets.length
 case false=>
  simp;exact qa rfl (by simp[qo,f0]) rfl
 simp;refine qg (qv _ _ _ _) ?_;cases f1:qO 0 0 s.exps.length
 case false=>
  simp;exact qa rfl (by simp[qo,f0,f1]) rfl
 simp;refine qg (qv _ _ _ _) ?_;cases f2:qO 0 0 s.elems.length
 case false=>
  simp;exact qa rfl (by simp[qo,f0,f1,f2]) rfl
 simp;refine qg (qv _ _ _ _) ?_;cases f3:qO 1 (-1) s.decls.length
 case false=>
  simp;exact qa rfl (by simp[qo,f0,f1,f2,f3]) rfl
 simp;refine qg (qv _ _ _ _) ?_;cases f4:qO 1 (-1) s.body.length
 case false=>
  simp;exact qa rfl (by simp[qo,f0,f1,f2,f3,f4]) rfl
 simp;by_cases ht:s.text=⟨⟨[]⟩⟩
 case neg=>
  simp[ht];exact qa rfl (by simp[qo,f0,f1,f2,f3,f4,qJ ht]) rfl
 simp[ht];refine qg (yX _ hO.labels.1 _) ?_;cases hl:s.labels.all qb
 case false=>
  simp;exact qa rfl (by simp[qo]) rfl
 simp;refine qg (Ze _ hO.targets.1 _) ?_;cases hg:s.targets.all Ex.tgt
 case false=>
  simp;exact qa rfl (by simp[qo]) rfl
 simp[hk];exact qa rfl (by simp[qo,f0,f1,f2,f3,f4,qR rfl]) rfl
theorem qf5(s:Sm)(hs:s.ok)(hk:s.kind=8):∀S,Fn prog 183 [s.v] S (.bool (s.vOwn qb)):=by
 refine Pu.ib func183 ok183 (by simp[c183]) (by simp[V.under]) rfl ?_;have hO:=(Sm.ok_iff s).1 hs;rw[Sm.vOwn_8 qb s hk];simp[c183,hk];refine qg (qv _ _ _ _) ?_;cases f0:qO 0 0 s.targets.length
 case false=>
  simp;exact qa rfl (by simp[qo,f0]) rfl
 simp;refine qg (qv _ _ _ _) ?_;cases f1:qO 0 0 s.exps.length
 case false=>
  simp;exact qa rfl (by simp[qo,f0,f1]) rfl
 simp;refine qg (qv _ _ _ _) ?_;cases f2:qO 0 0 s.elems.length
 case false=>
  simp;exact qa rfl (by simp[qo,f0,f1,f2]) rfl
 simp;refine qg (qv _ _ _ _) ?_;cases f3:qO 0 0 s.decls.length
 case false=>
  simp;exact qa rfl (by simp[qo,f0,f1,f2,f3]) rfl
 simp;refine qg (qv _ _ _ _) ?_;cases f4:qO 1 (-1) s.body.length
 case false=>
  simp;exact qa rfl (by simp[qo,f0,f1,f2,f3,f4]) rfl
 simp;by_cases ht:s.text=⟨⟨[]⟩⟩
 case neg=>
  simp[ht];exact qa rfl (by simp[qo,f0,f1,f2,f3,f4,qJ ht]) rfl
 simp[ht];refine qg (yX _ hO.labels.1 _) ?_;cases hl:s.labels.all qb
 case false=>
  simp;exact qa rfl (by simp[qo]) rfl
 simp;refine qg (Ze _ hO.targets.1 _) ?_;cases hg:s.targets.all Ex.tgt
 case false=>
  simp;exact qa rfl (by simp[qo]) rfl
 simp[hk];exact qa rfl (by simp[qo,f0,f1,f2,f3,f4,qR rfl]) rfl
theorem qd9(s:Sm)(hs:s.ok)(h:¬ (1≤s.kind∧s.kind≤8)):∀S,Fn prog 183 [s.v] S (.bool (s.vOwn qb)):=by
 refine Pu.ib func183 ok183 (by simp[c183]) (by simp[V.under]) rfl ?_;have hO:=(Sm.ok_iff s).1 hs;rw[Sm.vOwn_no qb s h];simp[c183,show ¬ s.kind=1 by omega,show ¬ s.kind=2 by omega,show ¬ s.kind=3 by omega,show ¬ s.kind=4 by omega,show ¬ s.kind=5 by omega,show ¬ s.kind=6 by omega,show ¬ s.kind=7 by omega,show ¬ s.kind=8 by omega];exact qa rfl rfl rfl
theorem qm1(s:Sm)(hs:s.ok):∀S,Fn prog 183 [s.v] S (.bool (s.vOwn qb)):=by
 by_cases h1:s.kind=1
 ·exact qe9 s hs h1
 by_cases h2:s.kind=2
 ·exact qft s hs h2
 by_cases h3:s.kind=3
 ·exact qfB s hs h3
 by_cases h4:s.kind=4
 ·exact qeU s hs h4
 by_cases h5:s.kind=5
 ·exact qe3 s hs h5
 by_cases h6:s.kind=6
 ·exact qhl s hs h6
 by_cases h7:s.kind=7
 ·exact qhq s hs h7
 by_cases h8:s.kind=8
 ·exact qf5 s hs h8
 exact qd9 s hs (by omega)
theorem De.vOwn_1(nm:Bz→Bool)(d:De)(h:d.kind=1):d.vOwn nm=(qO 1 (-1) d.names.length && qO 0 0 d.exps.length && qO 0 0 d.body.length && qO 0 0 d.formals.length && d.names.all nm && (decide (1≤d.type∧d.type≤3))):=by
 cases d;simp only[De.kind] at h;subst h;simp only[De.vOwn,De.names,De.exps,De.formals,De.body,De.own,De.type,zN,y8,yS,yA,yT,yY];simp only[reduceIte,Int.reduceEq];ac_rfl
theorem De.vOwn_2(nm:Bz→Bool)(d:De)(h:d.kind=2):d.vOwn nm=(qO 1 (-1) d.names.length && qO 2 8 d.exps.length && qO 0 0 d.body.length && qO 0 0 d.formals.length && d.names.all nm && (decide (1≤d.type∧d.type≤3) && decide (d.exps.length % 2=0))):=by
 cases d;simp only[De.kind] at h;subst h;simp only[De.vOwn,De.names,De.exps,De.formals,De.body,De.own,De.type,zN,y8,yS,yA,yT,yY];simp only[reduceIte,Int.reduceEq];ac_rfl
theorem De.vOwn_3(nm:Bz→Bool)(d:De)(h:d.kind=3):d.vOwn nm=(qO 1 1 d.names.length && qO 1 (-1) d.exps.length && qO 0 0 d.body.length && qO 0 0 d.formals.length && d.names.all nm && (!d.own && decide (d.type=0))):=by
 cases d;simp only[De.kind] at h;subst h;simp only[De.vOwn,De.names,De.exps,De.formals,De.body,De.own,De.type,zN,y8,yS,yA,yT,yY];simp only[reduceIte,Int.reduceEq];ac_rfl
theorem De.vOwn_4(nm:Bz→Bool)(d:De)(h:d.kind=4):d.vOwn nm=(qO 1 1 d.names.length && qO 0 0 d.exps.length && qO 1 1 d.body.length && qO 0 8 d.formals.length && d.names.all nm && (!d.own && decide (0≤d.type∧d.type≤3) && yx nm d.formals [])):=by
 cases d;simp only[De.kind] at h;subst h;simp only[De.vOwn,De.names,De.exps,De.formals,De.body,De.own,De.type,zN,y8,yS,yA,yT,yY];simp only[reduceIte,Int.reduceEq];ac_rfl
theorem De.vOwn_no(nm:Bz→Bool)(s:De)(h:¬ (1≤s.kind∧s.kind≤4)):s.vOwn nm=false:=by
 cases s with
 | mk k o t n e f b=>
  simp only[De.kind] at h;simp only[De.vOwn,if_neg (show ¬ k=1 by omega),if_neg (show ¬ k=2 by omega),if_neg (show ¬ k=3 by omega),if_neg (show ¬ k=4 by omega),Bool.and_false]
theorem qp1(n:Nat):Int.tmod (n:Int) 2=((n % 2:Nat):Int):=rfl
theorem qf8(d:De)(hs:d.ok)(hk:d.kind=1):∀S,Fn prog 182 [d.v] S (.bool (d.vOwn qb)):=by
 refine Pu.ib func182 ok182 (by simp[c182]) (by simp[V.under]) rfl ?_;have hO:=(De.ok_iff d).1 hs;rw[De.vOwn_1 qb d hk];simp[c182,hk];refine qg (qv _ _ _ _) ?_;cases f0:qO 1 (-1) d.names.length
 case false=>
  simp;exact qa rfl (by simp[qo,f0]) rfl
 simp;refine qg (qv _ _ _ _) ?_;cases f1:qO 0 0 d.exps.length
 case false=>
  simp;exact qa rfl (by simp[qo,f0,f1]) rfl
 simp;refine qg (qv _ _ _ _) ?_;cases f2:qO 0 0 d.body.length
 case false=>
  simp;exact qa rfl (by simp[qo,f0,f1,f2]) rfl
 simp;refine qg (qv _ _ _ _) ?_;cases f3:qO 0 0 d.formals.length
 case false=>
  simp;exact qa rfl (by simp[qo,f0,f1,f2,f3]) rfl
 simp;refine qg (yX _ hO.names.1 _) ?_;cases hl:d.names.all qb
 case false=>
  simp;exact qa rfl (by simp[qo,f0]) rfl
 simp;have hgo:∀o:Bool,o=d.own→True:=fun _ _=>trivial
 cases ho:d.own
 case false=>
  simp[ho];refine qg (qD _ _ _ _) ?_;by_cases ht:1≤d.type∧d.type≤3
  case neg=>
   rw[qV ht];simp;exact qa rfl (by simp[qo,f0,f1,f2,f3,ht]) rfl
  rw[qZ ht];simp[hk];refine qg (qD _ _ _ _) ?_;rw[qZ (show 0≤d.type∧d.type≤3 by omega)];simp[hk];refine qg (YP _ hO.formals.1 _) ?_;have hf:d.formals=[]:=qrq (by rw[zN] at f3;simpa using f3);simp[hf,yx];exact qa rfl (by simp[qo,f0,f1,f2,f3,hf,ht]) rfl
 case true=>
  simp[ho];refine qg (qD _ _ _ _) ?_;by_cases ht:1≤d.type∧d.type≤3
  case neg=>
   rw[qV ht];simp;exact qa rfl (by simp[qo,f0,f1,f2,f3,ht]) rfl
  rw[qZ ht];simp[hk];refine qg (qD _ _ _ _) ?_;rw[qZ (show 0≤d.type∧d.type≤3 by omega)];simp[hk];refine qg (YP _ hO.formals.1 _) ?_;have hf:d.formals=[]:=qrq (by rw[zN] at f3;simpa using f3);simp[hf,yx];exact qa rfl (by simp[qo,f0,f1,f2,f3,hf,ht]) rfl
theorem qgy(d:De)(hs:d.ok)(hk:d.kind=2):∀S,Fn prog 182 [d.v] S (.bool (d.vOwn qb)):=by
 refine Pu.ib func182 ok182 (by simp[c182]) (by simp[V.under]) rfl ?_;have hO:=(De.ok_iff d).1 hs;rw[De.vOwn_2 qb d hk];simp[c182,hk];refine qg (qv _ _ _ _) ?_;cases f0:qO 1 (-1) d.names.length
 case false=>
  simp;exact qa rfl (by simp[qo,f0]) rfl
 simp;refine qg (qv _ _ _ _) ?_;cases f1:qO 2 8 d.exps.length
 case false=>
  simp;exact qa rfl (by simp[qo,f0,f1]) rfl
 simp;refine qg (qv _ _ _ _) ?_;cases f2:qO 0 0 d.body.length
 case false=>
  simp;exact qa rfl (by simp[qo,f0,f1,f2]) rfl
 simp;refine qg (qv _ _ _ _) ?_;cases f3:qO 0 0 d.formals.length
 case false=>
  simp;exact qa rfl (by simp[qo,f0,f1,f2,f3]) rfl
 simp;refine qg (yX _ hO.names.1 _) ?_;cases hl:d.names.all qb
 case false=>
  simp;exact qa rfl (by simp[qo,f0]) rfl
 simp;have hgo:∀o:Bool,o=d.own→True:=fun _ _=>trivial
 cases ho:d.own
 case false=>
  simp[ho];refine qg (qD _ _ _ _) ?_;by_cases ht:1≤d.type∧d.type≤3
  case neg=>
   rw[qV ht];simp;exact qa rfl (by simp[qo,f0,f1,f2,f3,ht]) rfl
  rw[qZ ht];simp[hk];refine qg (qD _ _ _ _) ?_;rw[qZ (show 0≤d.type∧d.type≤3 by omega)];simp[hk];have hmod:=qp1 d.exps.length;by_cases hm:d.exps.length % 2=0
  case neg=>
   simp[hmod,hm,show ¬ ((d.exps.length:Int) % 2=0) by omega];exact qa rfl (by simp[qo,f0,f1,f2,f3,ht,hm]) rfl
  simp[hmod,hm,show ((d.exps.length:Int) % 2=0) by omega];refine qg (YP _ hO.formals.1 _) ?_;have hf:d.formals=[]:=qrq (by rw[zN] at f3;simpa using f3);simp[hf,yx];exact qa rfl (by simp[qo,f0,f1,f2,f3,hf,ht,hm]) rfl
 case true=>
  simp[ho];refine qg (qD _ _ _ _) ?_;by_cases ht:1≤d.type∧d.type≤3
  case neg=>
   rw[qV ht];simp;exact qa rfl (by simp[qo,f0,f1,f2,f3,ht]) rfl
  rw[qZ ht];simp[hk];refine qg (qD _ _ _ _) ?_;rw[qZ (show 0≤d.type∧d.type≤3 by omega)];simp[hk];have hmod:=qp1 d.exps.length;by_cases hm:d.exps.length % 2=0
  case neg=>
   simp[hmod,hm,show ¬ ((d.exps.length:Int) % 2=0) by omega];exact qa rfl (by simp[qo,f0,f1,f2,f3,ht,hm]) rfl
  simp[hmod,hm,show ((d.exps.length:Int) % 2=0) by omega];refine qg (YP _ hO.formals.1 _) ?_;have hf:d.formals=[]:=qrq (by rw[zN] at f3;simpa using f3);simp[hf,yx];exact qa rfl (by simp[qo,f0,f1,f2,f3,hf,ht,hm]) rfl
theorem qfV(d:De)(hs:d.ok)(hk:d.kind=3):∀S,Fn prog 182 [d.v] S (.bool (d.vOwn qb)):=by
 refine Pu.ib func182 ok182 (by simp[c182]) (by simp[V.under]) rfl ?_;have hO:=(De.ok_iff d).1 hs;rw[De.vOwn_3 qb d hk];simp[c182,hk];refine qg (qv _ _ _ _) ?_;cases f0:qO 1 1 d.names.length
 case false=>
  simp;exact qa rfl (by simp[qo,f0]) rfl
 simp;refine qg (qv _ _ _ _) ?_;cases f1:qO 1 (-1) d.exps.length
 case false=>
  simp;exact qa rfl (by simp[qo,f0,f1]) rfl
 simp;refine qg (qv _ _ _ _) ?_;cases f2:qO 0 0 d.body.length
 case false=>
  simp;exact qa rfl (by simp[qo,f0,f1,f2]) rfl
 simp;refine qg (qv _ _ _ _) ?_;cases f3:qO 0 0 d.formals.length
 case false=>
  simp;exact qa rfl (by simp[qo,f0,f1,f2,f3]) rfl
 simp;refine qg (yX _ hO.names.1 _) ?_;cases hl:d.names.all qb
 case false=>
  simp;exact qa rfl (by simp[qo,f0]) rfl
 simp;cases ho:d.own
 case true=>
  simp[ho];exact qa rfl (by simp[qo,f0,f1,f2,f3,ho]) rfl
 by_cases ht:d.type=0
 case neg=>
  simp[ho,hk,ht];exact qa rfl (by simp[qo,f0,f1,f2,f3,ho,ht]) rfl
 simp[ho,hk,ht];refine qg (qD _ _ _ _) ?_;simp[ho,hk,ht];refine qg (YP _ hO.formals.1 _) ?_;have hf:d.formals=[]:=qrq (by rw[zN] at f3;simpa using f3);simp[hf,yx];exact qa rfl (by simp[qo,f0,f1,f2,f3,hf,ho,ht]) rfl
theorem qfn(d:De)(hs:d.ok)(hk:d.kind=4):∀S,Fn prog 182 [d.v] S (.bool (d.vOwn qb)):=by
 refine Pu.ib func182 ok182 (by simp[c182]) (by simp[V.under]) rfl ?_;have hO:=(De.ok_iff d).1 hs;rw[De.vOwn_4 qb d hk];simp[c182,hk];refine qg (qv _ _ _ _) ?_;cases f0:qO 1 1 d.names.length
 case false=>
  simp;exact qa rfl (by simp[qo,f0]) rfl
 simp;refine qg (qv _ _ _ _) ?_;cases f1:qO 0 0 d.exps.length
 case false=>
  simp;exact qa rfl (by simp[qo,f0,f1]) rfl
 simp;refine qg (qv _ _ _ _) ?_;cases f2:qO 1 1 d.body.length
 case false=>
  simp;exact qa rfl (by simp[qo,f0,f1,f2]) rfl
 simp;refine qg (qv _ _ _ _) ?_;cases f3:qO 0 8 d.formals.length
 case false=>
  simp;exact qa rfl (by simp[qo,f0,f1,f2,f3]) rfl
 simp;refine qg (yX _ hO.names.1 _) ?_;cases hl:d.names.all qb
 case false=>
  simp;exact qa rfl (by simp[qo,f0]) rfl
 simp;cases ho:d.own
 case true=>
  simp[ho];exact qa rfl (by simp[qo,f0,f1,f2,f3,ho]) rfl
 simp[ho,hk];refine qg (qD _ _ _ _) ?_;by_cases ht:0≤d.type∧d.type≤3
 case neg=>
  rw[qV ht];simp;exact qa rfl (by simp[qo,f0,f1,f2,f3,ho,ht]) rfl
 rw[qZ ht];simp[hk];refine qg (YP _ hO.formals.1 _) ?_;simp;exact qa rfl (by simp[qo,f0,f1,f2,f3,ho,ht]) rfl
theorem qes(d:De)(hs:d.ok)(h:¬ (1≤d.kind∧d.kind≤4)):∀S,Fn prog 182 [d.v] S (.bool (d.vOwn qb)):=by
 refine Pu.ib func182 ok182 (by simp[c182]) (by simp[V.under]) rfl ?_;have hO:=(De.ok_iff d).1 hs;rw[De.vOwn_no qb d h];simp[c182,show ¬ d.kind=1 by omega,show ¬ d.kind=2 by omega,show ¬ d.kind=3 by omega,show ¬ d.kind=4 by omega];exact qa rfl rfl rfl
theorem qmI(d:De)(hs:d.ok):∀S,Fn prog 182 [d.v] S (.bool (d.vOwn qb)):=by
 by_cases h1:d.kind=1
 ·exact qf8 d hs h1
 by_cases h2:d.kind=2
 ·exact qgy d hs h2
 by_cases h3:d.kind=3
 ·exact qfV d hs h3
 by_cases h4:d.kind=4
 ·exact qfn d hs h4
 exact qes d hs (by omega)
end
structure VJ(p:Pa)(U:St):Prop where
 t2:U[1]?=some (.arr [.bool false] 1 1)
 k:U[2]?=some (.arr [p.v] 25 1)
theorem VJ.push{p:Pa}{U:St}(h:VJ p U)(o:Ob):VJ p (U++[o]):=⟨gp h.t2,gp h.k⟩
theorem VJ.set{p:Pa}{U:St}(h:VJ p U){L:Nat}(o:Ob)(hL:3≤L):VJ p (U.set L o):=⟨gs h.t2 (by omega),gs h.k (by omega)⟩
def VV(p:Pa)(i:Nat):Prop:=∀q,q∈p.kids.take i→q.valid qb=true
def VD(p:Pa)(U:St):Prop:=U[1]?=some (.arr [.bool false] 1 1)∧p.valid qb=false
theorem VD.push{p:Pa}{U:St}(h:VD p U)(o:Ob):VD p (U++[o]):=⟨gp h.1,h.2⟩
theorem Env.keep_get{e:Env}{t:Nat}{v:V}:∀{ts:List Nat},t∈ts→e.get t=some v→(e.keep ts).get t=some v
 | [],h,_=>by simp at h
 | s::ts,h,hv=>by
  simp only[Env.keep];by_cases hs:s=t
  ·subst hs;rw[hv];simp[Env.get]
  ·have h':t∈ts:=by
    rcases qrl.1 h with h| h
    ·exact absurd h.symm hs
    ·exact h
   split
   ·simp only[Env.get,if_neg hs];exact Env.keep_get h' hv
   ·exact Env.keep_get h' hv
noncomputable def qcb:C':=(.seq (.k [.j 29 25 1,.c 30 179 29]
 (.block 1 (.rf (.t 30) [31] (QB Tryz.f151 0).1 (QB Tryz.f151 0).2
  (.reg [.o 4 (.new zP),
   .s 25 4 31])
  (.block 2 (.k [.j 32 25 4,.c 33 151 32,.o 34 (.un .not (.t 33))]
   (.d 34 (.k [.n (.sto 1 (.t 2) (.c (.bool false)))] (.ret)) (.skip))))
  35 [31,4,32,33,34,2])))
 (.k [.n (.sto 1 (.t 2) (.c (.bool true)))] (.ret)))
theorem ZH:qcb=(.seq (.k [.j 29 25 1,.c 30 179 29]
 (.block 1 (.rf (.t 30) [31] (QB Tryz.f151 0).1 (QB Tryz.f151 0).2
  (.reg [.o 4 (.new zP),
   .s 25 4 31])
  (.block 2 (.k [.j 32 25 4,.c 33 151 32,.o 34 (.un .not (.t 33))]
   (.d 34 (.k [.n (.sto 1 (.t 2) (.c (.bool false)))] (.ret)) (.skip))))
  35 [31,4,32,33,34,2])))
 (.k [.n (.sto 1 (.t 2) (.c (.bool true)))] (.ret))):=rfl
theorem qkw:∀(k:Nat) (p:Pa),p.wt≤k→p.ok→∀S,Fn prog 151 [p.v] S (.bool (p.valid qb)):=by
 intro k
 induction k with
 | zero=>intro p h;exfalso;cases p with
  | st s=>cases s;simp[Pa.wt] at h
  | de s=>cases s;simp[Pa.wt] at h
  | el s=>cases s;simp[Pa.wt] at h
  | ex s=>cases s;simp[Pa.wt] at h
 | succ k ih=>
  intro p hw hp;refine Pu.ib func151 ok151 (by simp[c151]) (by simp) rfl ?_;have hve:=Pa.valid_eq qb p;have range:∀e:Env,p.vOwn qb=true→e.get 1=some (.ptr 0 0 0 1)→e.get 2=some (.ptr 1 0 0 1)→
    WP prog qcb
     (JQ [.cell 2 none] 0 fun v U=>v=.bool (p.valid qb)∧U=[]) e [.arr [p.v] 25 1,.arr [.bool false] 1 1]:=by
   intro e hown g1 g2;simp only[qcb];simp[g1,ldS];refine qi (qgz p _) ?_;rintro v U ⟨rfl,rfl⟩;simp;have hkl:(p.kids.map fun q=>[q.v]).length=p.kids.length:=by simp
   refine qdu (k:=202) (fs:=[]) (cs:=[.ptr 2 0 0 1]) (by simp) (qbE p hp 2) rfl rfl rfl (by simp) (fun x=>x=1) (by rintro x rfl;simp)
    (fun i U=>VJ p U∧VV p i) (VD p) (fun _ _=>False) ?_ ?_ ?_ ?_ (fun i U L o o' _ h hl=>⟨⟨gl h.1.t2 (by simp) hl,gl h.1.k (by simp) hl⟩,h.2⟩) (fun U L o o' _ h hl=>⟨gl h.1 (by simp) hl,h.2⟩) (fun id U L o o' _ h hl=>h.elim) ?_ ?_ ?_ ?_ ?_
   ·rintro i U ⟨h,_⟩;exact h.k
   ·rintro i U ⟨h,h1⟩;exact fun o=>⟨h.push o,h1⟩
   ·rintro U h;exact fun o=>h.push o
   ·rintro id U h;exact h.elim
   ·exact ⟨⟨rfl,rfl⟩,fun q hq=>by simp at hq⟩
   ·rintro i av hav U ⟨hj,hv⟩ hk hl;rw[qq7] at hav;obtain ⟨q,hq,rfl⟩:=qq3.1 hav;have hqk:q∈p.kids:=qq1 hq;have hqw:=Pa.kid_lt hqk;generalize hke:Env.keep _ _=ke at hl ⊢;have g2':ke.get 2=some (.ptr 1 0 0 1):=by rw[←hke];exact Env.keep_get (by simp) (by simp[g2])
    clear hke;simp at hl;simp[QL,qG,stS,qh];refine Q4 (gp hl) rfl ?_;have lU:=glt hl;have nU:U.length≠3:=by omega
    have vq:((U++[Ob.arr [q.v] 25 1]).set 3 (.loop { st:=.busy,pend:=none,ps:=[31],asg:=(QB Tryz.f151 0).1,body:=(QB Tryz.f151 0).2,e:=ke,N:=35 }))[U.length]?=some (.arr [q.v] 25 1):=gs (by simp) nU;have vL:((U++[Ob.arr [q.v] 25 1]).set 3 (.loop { st:=.busy,pend:=none,ps:=[31],asg:=(QB Tryz.f151 0).1,body:=(QB Tryz.f151 0).2,e:=ke,N:=35 }))[3]?=some (.loop _):=qqV (by simp;omega);have vj:=(hj.push (Ob.arr [q.v] 25 1)).set (L:=3) (.loop { st:=.busy,pend:=none,ps:=[31],asg:=(QB Tryz.f151 0).1,body:=(QB Tryz.f151 0).2,e:=ke,N:=35 }) (by omega);have vk:Kp (fun x=>x=1∨x=3) U ((U++[Ob.arr [q.v] 25 1]).set 3 (.loop { st:=.busy,pend:=none,ps:=[31],asg:=(QB Tryz.f151 0).1,body:=(QB Tryz.f151 0).2,e:=ke,N:=35 })):=((Kp.refl _ _).push _).set _ (.inl (.inr rfl));generalize (U++[Ob.arr [q.v] 25 1]).set 3 _=W at vq vL vj vk ⊢;simp[ldS,vq];refine qg (ih q (by omega) (Pa.kid_ok hp hqk) W) ?_
    cases hqv:q.valid qb with
    | true=>
     simp;refine kI ⟨rfl,rfl⟩ (.inr rfl) vL vk ⟨vj.set _ (by omega),?_⟩;intro r hr;rw[qrj,hq] at hr;rcases qq0.1 hr with hr|hr
     ·exact hv r hr
     ·simp at hr;subst hr;exact hqv
    | false=>
     simp[stS,zj,vj.t2,g2'];refine qbK (.inr rfl) (gs vL (by omega)) (vk.set _ (.inl (.inl rfl))) ⟨gs (qqV (glt vj.t2)) (by omega),?_⟩
     cases hh:p.valid qb with
     | false=>rfl
     | true=>rw[(Pa.valid_iff.1 hh).2 q hqk] at hqv;cases hqv
   ·rintro U ⟨hj,hv⟩ hk;rw[hkl] at hv;unfold VV at hv;rw[qrP] at hv;simp[stS,zj,hj.t2,g2];refine qa (vs:=[.bool true]) (by simp[ldS,g2,glt hj.t2]) ?_ rfl;rw[Pa.valid_iff.2 ⟨hown,hv⟩];rfl
   ·rintro U ⟨h1,h2⟩ hk;simp;refine qa (vs:=[.bool false]) (by simp[ldS,g2,h1]) ?_ rfl;rw[h2];rfl
   ·rintro id U h;exact h.elim
  have stop:p.vOwn qb=false→p.valid qb=false:=fun h=>by rw[hve,h];rfl
  cases p with
  | st s=>
   have hown:(Pa.st s).vOwn qb=s.vOwn qb:=rfl;simp only[c151,←ZH];simp[qG,ldS];simp only[Pa.v,Pa.kind,Pa.toS,Pa.toD,Pa.toE,Pa.toX];simp[ldS];refine qg (qm1 s hp _) ?_
   cases ho:s.vOwn qb with
   | false=>
    simp[stS,zj];refine qa rfl ?_ rfl;rw[stop (by rw[hown,ho])];rfl
   | true=>
    simp[hown,ho];exact range _ (hown.trans ho) (by simp) (by simp)
  | de d=>
   have hown:(Pa.de d).vOwn qb=d.vOwn qb:=rfl;simp only[c151,←ZH];simp[qG,ldS];simp only[Pa.v,Pa.kind,Pa.toS,Pa.toD,Pa.toE,Pa.toX];simp[ldS];refine qg (qmI d hp _) ?_
   cases ho:d.vOwn qb with
   | false=>
    simp[stS,zj];refine qa rfl ?_ rfl;rw[stop (by rw[hown,ho])];rfl
   | true=>
    simp[hown,ho];exact range _ (hown.trans ho) (by simp) (by simp)
  | el e=>
   have hown:(Pa.el e).vOwn qb=e.vOwn:=rfl;simp only[c151,←ZH];simp[qG,ldS];simp only[Pa.v,Pa.kind,Pa.toS,Pa.toD,Pa.toE,Pa.toX];simp[ldS];refine qg (qmf e _) ?_
   cases ho:e.vOwn with
   | false=>
    simp[stS,zj];refine qa rfl ?_ rfl;rw[stop (by rw[hown,ho])];rfl
   | true=>
    simp[hown,ho];exact range _ (hown.trans ho) (by simp) (by simp)
  | ex x=>
   have hown:(Pa.ex x).vOwn qb=x.vOwn qb:=rfl;simp only[c151,←ZH];simp[qG,ldS];simp only[Pa.v,Pa.kind,Pa.toS,Pa.toD,Pa.toE,Pa.toX];simp[ldS];refine qg (qkj x hp _) ?_
   cases ho:x.vOwn qb with
   | false=>
    simp[stS,zj];refine qa rfl ?_ rfl;rw[stop (by rw[hown,ho])];rfl
   | true=>
    simp[hown,ho];exact range _ (hown.trans ho) (by simp) (by simp)
theorem qgh(p:Pa)(hp:p.ok):∀S,Fn prog 100 [p.v] S (.int .i64 (p.err qb)):=by
 refine Pu.ib func100 ok100 (by simp[c100]) (by simp) rfl ?_;simp[c100,qG,ldS];refine qi (qkg p hp _) ?_;rintro v U ⟨⟨z,d,rfl,_⟩,rfl⟩;unfold Pa.err;by_cases hf:p.fits
 ·simp[hf,ldS];refine qg (qkw _ p (qqY _) hp _) ?_
  cases hv:p.valid qb with
  | true=>
   simp;exact qa rfl rfl rfl
  | false=>
   simp;exact qa rfl rfl rfl
 ·simp[hf,ldS];exact qa rfl rfl rfl
theorem jU(s:Sm)(hs:s.ok):∀S,Fn prog 56 [s.v] S (.int .i64 ((Pa.st s).err qb)):=by
 refine Pu.ib func56 ok56 (by simp[c56]) (by simp[V.under]) rfl ?_;simp[c56,qG,ldS];refine qg (qgZ s _) ?_;simp;refine qg (qgh (.st s) hs _) ?_;simp;exact qa rfl rfl rfl
theorem qnc(s:Ex)(hs:s.ok):∀S,Fn prog 90 [s.v] S (.int .i64 ((Pa.ex s).err qb)):=by
 refine Pu.ib func90 ok90 (by simp[c90]) (by simp[V.under]) rfl ?_;simp[c90,qG,ldS];refine qg (qgE s _) ?_;simp;refine qg (qgh (.ex s) hs _) ?_;simp;exact qa rfl rfl rfl
def qbL(s:Sm):V:=.agg [.int .i64 1,.sl false (s.labels.map .str),.int .i64 s.kind,.str s.text,.sl false (s.targets.map Ex.v),.sl false (s.exps.map Ex.v),.sl false (s.elems.map El.v),.sl false (s.decls.map De.v),.sl false (s.body.map Sm.v),.int .i64 0,.bool false,.int .i64 0,.sl true [],.sl true [],.sl true [],.sl true [],.int .i64 0,.sl true [],.int .i64 0,.int .i64 0,.int .i64 0,.int .i64 0,.int .i64 0,.str ⟨⟨[]⟩⟩,.sl true []]
def qbc(d:De):V:=.agg [.int .i64 2,.sl true [],.int .i64 0,.str ⟨⟨[]⟩⟩,.sl true [],.sl true [],.sl true [],.sl true [],.sl true [],.int .i64 d.kind,.bool d.own,.int .i64 d.type,.sl false (d.names.map .str),.sl false (d.exps.map Ex.v),.sl false (d.formals.map Fo.v),.sl false (d.body.map Sm.v),.int .i64 0,.sl true [],.int .i64 0,.int .i64 0,.int .i64 0,.int .i64 0,.int .i64 0,.str ⟨⟨[]⟩⟩,.sl true []]
def qbM(e:El):V:=.agg [.int .i64 3,.sl true [],.int .i64 0,.str ⟨⟨[]⟩⟩,.sl true [],.sl true [],.sl true [],.sl true [],.sl true [],.int .i64 0,.bool false,.int .i64 0,.sl true [],.sl true [],.sl true [],.sl true [],.int .i64 e.kind,.sl false (e.exps.map Ex.v),.int .i64 0,.int .i64 0,.int .i64 0,.int .i64 0,.int .i64 0,.str ⟨⟨[]⟩⟩,.sl true []]
def jN(x:Ex):V:=.agg [.int .i64 4,.sl true [],.int .i64 0,.str ⟨⟨[]⟩⟩,.sl true [],.sl true [],.sl true [],.sl true [],.sl true [],.int .i64 0,.bool false,.int .i64 0,.sl true [],.sl true [],.sl true [],.sl true [],.int .i64 0,.sl true [],.int .i64 x.kind,.int .i64 x.op,.int .i64 x.n,.int .i64 x.man,.int .i64 x.exp,.str x.text,.sl false (x.args.map Ex.v)]
def Pa.raw:Pa→V
 | .st s=>qbL s
 | .de d=>qbc d
 | .el e=>qbM e
 | .ex x=>jN x
theorem Pa.raw_weak(p:Pa):p.raw.weak=p.v:=by
 cases p <;> simp only[Pa.raw,qbL,qbc,qbM,jN,V.weak,V.weakL,wEx,wEl,wFo,qeM,wDe,wSm] <;> rfl
theorem Qx(p:Pa):fits 25 [p.raw]=true:=by cases p <;> rfl
theorem qfo(s:Sm):∀S,Fn prog 113 [s.v] S (Pa.st s).v:=by
 refine Pu.intro (R:=fun v=>v=(Pa.st s).v) func113 ok113 (by simp[c113]) (by simp[V.under]) (by rintro v rfl;simp) ?_;simp[c113,qG,ldS,stS,zR,qB,qF];refine Zf rfl ?_ ?_
 ·simp only[qo,V.weak,V.weakL,wEx,wEl,wFo,qeM,wDe,wSm];rfl
 ·simp[qo,V.weak,V.weakL,V.under,V.underL]
theorem qgY(p:Pa)(hp:p.ok):∀S,Fn prog 200 [p.v] S (.int .i64 p.own):=by
 refine Pu.ib func200 ok200 (by simp[c200]) (by simp) rfl ?_;have h1:=Pa.own_le hp;unfold B50 at h1
 cases p with
 | st s=>
  simp only[Pa.own] at h1;simp[c200,qG,ldS,Pa.v,Pa.kind,Pa.toS,Pa.own,qu (n:=1+(s.labels.length:Int)) (by omega) (by omega)];exact qa rfl rfl rfl
 | de d=>
  simp only[Pa.own] at h1;simp[c200,qG,ldS,Pa.v,Pa.kind,Pa.toD,Pa.own,qu (n:=1+(d.names.length:Int)) (by omega) (by omega),qu (n:=1+(d.names.length:Int)+d.formals.length) (by omega) (by omega)];exact qa rfl rfl rfl
 | el e=>
  simp[c200,qG,ldS,Pa.v,Pa.kind,Pa.own];exact qa rfl rfl rfl
 | ex x=>
  simp[c200,qG,ldS,Pa.v,Pa.kind,Pa.own];exact qa rfl rfl rfl
theorem qmb(p:Pa)(hp:p.ok):∀S,Fn prog 201 [p.v] S (.int .i64 p.kids.length):=by
 refine Pu.ib func201 ok201 (by simp[c201]) (by simp) rfl ?_;rw[ZJ]
 cases p with
 | st s=>
  have o:=(Sm.ok_iff s).1 hp;have o1:=o.targets.1;have o2:=o.exps.1;have o3:=o.elems.1;have o4:=o.decls.1;have o5:=o.body.1;unfold B50 at o1 o2 o3 o4 o5;simp[c201,qG,ldS,stS,qh,Pa.v,Pa.kind,Pa.toS,qu (n:=(s.targets.length:Int)+s.exps.length) (by omega) (by omega),qu (n:=(s.targets.length:Int)+s.exps.length+s.elems.length) (by omega) (by omega),
   qu (n:=(s.targets.length:Int)+s.exps.length+s.elems.length+s.decls.length) (by omega) (by omega),qu (n:=(s.targets.length:Int)+s.exps.length+s.elems.length+s.decls.length+s.body.length) (by omega) (by omega)]
  exact qa rfl (by simp[qo];omega) rfl
 | de d=>
  have o:=(De.ok_iff d).1 hp;have o1:=o.exps.1;have o2:=o.body.1;unfold B50 at o1 o2;simp[c201,qG,ldS,Pa.v,Pa.kind,Pa.toD,qu (n:=(d.exps.length:Int)+d.body.length) (by omega) (by omega)];exact qa rfl rfl rfl
 | el e=>
  simp[c201,qG,ldS,Pa.v,Pa.kind,Pa.toE];exact qa rfl rfl rfl
 | ex x=>
  simp[c201,qG,ldS,Pa.v,Pa.kind,Pa.toX];exact qa rfl rfl rfl
def grV(n:Nat)(xs:List V):V:=match xs with
 | []=>.sl true []
 | _::_=>.arr n 0 xs.length xs.length
def grS(S:St)(xs:List V):St:=match xs with
 | []=>S
 | _::_=>S++[.arr xs 25 1]
theorem qjH{n:Nat}{xs:List V}(h:xs≠[]):grV n xs=.arr n 0 xs.length xs.length:=by
 cases xs with
 | nil=>exact absurd rfl h
 | cons=>rfl
theorem qjw{S:St}{xs:List V}(h:xs≠[]):grS S xs=S++[.arr xs 25 1]:=by
 cases xs with
 | nil=>exact absurd rfl h
 | cons=>rfl
theorem qh6{S:St}{xs:List V}{y:V}(hy:fits 25 [y]=true)(hl:xs.length≤1000000):Jz (grS S xs) 25 408 (grV S.length xs) (.sl true [y])=some (grV S.length (xs++[y]),grS S (xs++[y])):=by
 rw[qjH (xs:=xs++[y]) (by simp),qjw (xs:=xs++[y]) (by simp)]
 cases xs with
 | nil=>
  simp only[grS,grV,Jz,elems];rw[if_neg (by simp),if_pos ⟨trivial,hy,rfl,by simp⟩];simp
 | cons x xs=>
  rw[qjH (by simp),qjw (by simp)];simp only[Jz,elems];have hg:(S++[Ob.arr (x::xs) 25 1])[S.length]?=some (.arr (x::xs) 25 1):=by simp
  rw[hg];simp only;rw[if_pos ⟨trivial,trivial,trivial,trivial,hy,by simp at hl ⊢;omega⟩];simp
theorem qoz{S:St}{xs:List V}{l:Nat}{o:Ob}(h:S[l]?=some o):(grS S xs)[l]?=some o:=by
 cases xs with
 | nil=>exact h
 | cons=>exact gp h
theorem J3(S:St)(xs:List V)(l:List Ex)(hl:xs.length+l.length≤1000000):
  qt prog 228 [grV S.length xs,.sl false (l.map Ex.v)] (grS S xs) (fun r U=>r=grV S.length (xs++l.map jN)∧U=grS S (xs++l.map jN)):=by
 refine qt.ib func228 ok228 ?_;simp only[c228,C'.k];simp;refine qw (fun j e S'=>∃i:Nat,j=l.length - i∧i≤l.length∧S'=grS S (xs++(l.map jN).take i)∧
  e=[(5,.int .i64 i),(0,grV S.length (xs++(l.map jN).take i)),(1,.sl false (l.map Ex.v))]) l.length _ ?_ ⟨0,by simp,by omega,by simp,rfl⟩ ?_
 ·exact Env.so (by simp)
 rintro j e S' ⟨i,rfl,hi,rfl,rfl⟩;by_cases h:i<l.length
 ·have ha:=qh6 (S:=S) (xs:=xs++(l.map jN).take i) (y:=jN l[i]) (Qx (.ex l[i])) (by simp;omega)
  have hn:xs++(l.map jN).take i++[jN l[i]]=xs++(l.map jN).take (i+1):=by
   rw[qrj,qq7,qqZ h,qre,qrH,qrc]
  rw[hn] at ha;have hf:fits 25 [jN l[i]]=true:=Qx (.ex l[i]);generalize hr:jN l[i]=y at ha hf;have hb:qF (.agg [.int .i64 0,.sl true [],.int .i64 0,.str ⟨⟨[]⟩⟩,.sl true [],.sl true [],.sl true [],.sl true [],.sl true [],.int .i64 0,.bool false,.int .i64 0,.sl true [],.sl true [],.sl true [],.sl true [],.int .i64 0,.sl true [],.int .i64 0,.int .i64 0,.int .i64 0,.int .i64 0,.int .i64 0,.str ⟨⟨[]⟩⟩,.sl true []]) [(0,1,.int .i64 4),(18,7,l[i].v)]=some y:=by rw[←hr];simp[qF,qh,jN]
  simp[h,qjB,qB,hb,hf,ha,zk (n:=(i:Int)+1)];refine ⟨_,?_,_,?_,i+1,rfl,by omega,rfl,rfl⟩
  ·omega
  ·exact Env.so (by simp)
 ·have:i=l.length:=by omega
  subst this;simp[h];refine qf rfl ⟨?_,?_⟩
  ·simp only[qo];rw[qru (by simp)]
  ·rw[qru (by simp)]
theorem qfu(S:St)(xs:List V)(l:List Sm)(hl:xs.length+l.length≤1000000):
  qt prog 229 [grV S.length xs,.sl false (l.map Sm.v)] (grS S xs) (fun r U=>r=grV S.length (xs++l.map qbL)∧U=grS S (xs++l.map qbL)):=by
 refine qt.ib func229 ok229 ?_;simp only[c229,C'.k];simp;refine qw (fun j e S'=>∃i:Nat,j=l.length - i∧i≤l.length∧S'=grS S (xs++(l.map qbL).take i)∧
  e=[(5,.int .i64 i),(0,grV S.length (xs++(l.map qbL).take i)),(1,.sl false (l.map Sm.v))]) l.length _ ?_ ⟨0,by simp,by omega,by simp,rfl⟩ ?_
 ·exact Env.so (by simp)
 rintro j e S' ⟨i,rfl,hi,rfl,rfl⟩;by_cases h:i<l.length
 ·have ha:=qh6 (S:=S) (xs:=xs++(l.map qbL).take i) (y:=qbL l[i]) (Qx (.st l[i])) (by simp;omega)
  have hn:xs++(l.map qbL).take i++[qbL l[i]]=xs++(l.map qbL).take (i+1):=by
   rw[qrj,qq7,qqZ h,qre,qrH,qrc]
  rw[hn] at ha;have hf:fits 25 [qbL l[i]]=true:=Qx (.st l[i]);generalize hr:qbL l[i]=y at ha hf;have hb:qF (.agg [.int .i64 0,.sl true [],.int .i64 0,.str ⟨⟨[]⟩⟩,.sl true [],.sl true [],.sl true [],.sl true [],.sl true [],.int .i64 0,.bool false,.int .i64 0,.sl true [],.sl true [],.sl true [],.sl true [],.int .i64 0,.sl true [],.int .i64 0,.int .i64 0,.int .i64 0,.int .i64 0,.int .i64 0,.str ⟨⟨[]⟩⟩,.sl true []]) [(0,1,.int .i64 1),(1,8,l[i].v)]=some y:=by rw[←hr];simp[qF,qh,qbL]
  simp[h,qi4,qB,hb,hf,ha,zk (n:=(i:Int)+1)];refine ⟨_,?_,_,?_,i+1,rfl,by omega,rfl,rfl⟩
  ·omega
  ·exact Env.so (by simp)
 ·have:i=l.length:=by omega
  subst this;simp[h];refine qf rfl ⟨?_,?_⟩
  ·simp only[qo];rw[qru (by simp)]
  ·rw[qru (by simp)]
theorem qqC(S:St)(xs:List V):Gr 25 0 xs (grV S.length xs) (grS S xs):=by
 cases xs with
 | nil=>exact .inl ⟨rfl,rfl⟩
 | cons x xs=>exact .inr ⟨S.length,1,qrA _,rfl,by simp[grS],by simp⟩
theorem qfX(l:List Pa):(l.map Pa.raw).map V.weak=l.map Pa.v:=by
 rw[qr2];exact qrx fun p _=>Pa.raw_weak p
theorem Ym{rs:List RV}{e:Env}{S:St}{l:List Pa}(h:rvs e (grS S (l.map Pa.raw)) rs=some [grV S.length (l.map Pa.raw)]):
  JQ rs 0 (fun v U=>v=.sl false (l.map Pa.v)∧U=[]) .ret e (grS S (l.map Pa.raw)):=
 qkd (R:=fun v=>v=.sl false (l.map Pa.v)) h (qqC S _) (fun x hx=>by
  obtain ⟨p,_,rfl⟩:=qrf.1 hx;rw[Pa.raw_weak];simp) (by rw[qfX])
theorem qnf(l:List Ex):l.map jN=(l.map Pa.ex).map Pa.raw:=by rw[qr2];rfl
theorem qpS(l:List Sm):l.map qbL=(l.map Pa.st).map Pa.raw:=by rw[qr2];rfl
theorem qqQ(l:List El):l.map qbM=(l.map Pa.el).map Pa.raw:=by rw[qr2];rfl
theorem qqP(l:List De):l.map qbc=(l.map Pa.de).map Pa.raw:=by rw[qr2];rfl
@[simp] theorem uPa(l:List Pa):V.underL 0 (l.map Pa.v)=true:=qE fun x _=>Pa.v_under x
theorem qaJ(p:Pa)(hp:p.ok)(hl:p.kids.length≤2000):∀S,Fn prog 193 [p.v] S (.sl false (p.kids.map Pa.v)):=by
 refine Pu.intro (R:=fun v=>v=.sl false (p.kids.map Pa.v)) func193 ok193 (by simp[c193]) (by simp) (by rintro v rfl;simp[V.under]) ?_;rw[ZJ] at hl
 cases p with
 | el e=>
  simp only at hl;simp[c193,qG,ldS];simp only[Pa.v,Pa.kind,Pa.toS,Pa.toD,Pa.toE,Pa.toX];simp[ldS];refine qi (J3 [.arr [(Pa.el e).v] 25 1] [] e.exps (by simp;omega)) ?_;rintro v U ⟨rfl,rfl⟩;simp;rw[qnf];exact Ym rfl
 | ex x=>
  simp only at hl;simp[c193,qG,ldS];simp only[Pa.v,Pa.kind,Pa.toS,Pa.toD,Pa.toE,Pa.toX];simp[ldS];refine qi (J3 [.arr [(Pa.ex x).v] 25 1] [] x.args (by simp;omega)) ?_;rintro v U ⟨rfl,rfl⟩;simp;rw[qnf];exact Ym rfl
 | de d=>
  simp only at hl;simp[c193,qG,ldS];simp only[Pa.v,Pa.kind,Pa.toS,Pa.toD,Pa.toE,Pa.toX];simp[ldS];refine Yx (J3 [.arr [(Pa.de d).v] 25 1] [] d.exps (by simp;omega)) ?_;have h0:(grS [Ob.arr [(Pa.de d).v] 25 1] ([]++d.exps.map jN))[0]?=some (.arr [(Pa.de d).v] 25 1):=qoz rfl;simp only[qr9] at h0 ⊢;simp only[Pa.v,Pa.kind,Pa.toS,Pa.toD,Pa.toE,Pa.toX] at h0 ⊢;simp[ldS,h0];refine Yx (qfu _ (d.exps.map jN) d.body (by simp;omega)) ?_;simp[QZ,zW,yp,ldS,h0];rw[qnf,qpS,←qrg];exact Ym rfl
 | st s=>
  simp only at hl;simp[c193,qG,ldS,stS,qh];simp only[Pa.v,Pa.kind,Pa.toS,Pa.toD,Pa.toE,Pa.toX];simp[ldS,stS,qh,qG];obtain ⟨B,hB⟩:∃B:St,B=[.arr [paV 1 s De.z El.z Ex.z] 25 1,.arr [s.v] 8 1]:=⟨_,rfl⟩;have hBl:B.length=2:=by rw[hB];rfl
  have hB1:B[1]?=some (.arr [s.v] 8 1):=by rw[hB];rfl
  have c1:=J3 B [] s.targets (by simp;omega);have c2:=J3 B (s.targets.map jN) s.exps (by simp;omega);rw[hBl] at c1 c2;simp only[qr9] at c1;have hb1:∀xs,(grS B xs)[1]?=some (.arr [s.v] 8 1):=fun xs=>qoz hB1
  have c1':qt prog 228 [.sl true [],.sl false (s.targets.map Ex.v)] B (fun r U=>r=grV 2 (s.targets.map jN)∧U=grS B (s.targets.map jN)):=c1;simp only[hB] at c1';refine qi c1' ?_;rintro v U ⟨rfl,rfl⟩;simp only[←hB];simp[ldS,hb1];refine qi c2 ?_;rintro v U ⟨rfl,rfl⟩;generalize hxs:s.targets.map jN++s.exps.map jN=xs;have hxl:xs.length=s.targets.length+s.exps.length:=by rw[←hxs];simp
  simp;refine qQ (fun e U=>e.get 4=some (grV 2 (xs++s.elems.map qbM))∧e.get 3=some (.ptr 1 0 0 1)∧U=grS B (xs++s.elems.map qbM)) ?_ ?_
  ·refine qw (fun j e S'=>∃i:Nat,j=s.elems.length - i∧i≤s.elems.length∧S'=grS B (xs++(s.elems.map qbM).take i)∧
    e=[(5,.int .i64 i),(4,grV 2 (xs++(s.elems.map qbM).take i)),(3,.ptr 1 0 0 1)]) s.elems.length _ ?_ ⟨0,by simp,by omega,by simp,rfl⟩ ?_
   ·exact Env.so (by simp)
   rintro j e S' ⟨i,rfl,hi,rfl,rfl⟩;by_cases h:i<s.elems.length
   ·have ha:=qh6 (S:=B) (xs:=xs++(s.elems.map qbM).take i) (y:=qbM s.elems[i]) (Qx (.el s.elems[i])) (by simp;omega)
    have hn:xs++(s.elems.map qbM).take i++[qbM s.elems[i]]=xs++(s.elems.map qbM).take (i+1):=by
     rw[qrj,qq7,qqZ h,qre,qrH,qrc]
    rw[hn,hBl] at ha;have hf:fits 25 [qbM s.elems[i]]=true:=Qx (.el s.elems[i]);generalize hr:qbM s.elems[i]=y at ha hf;have hb:qF (.agg [.int .i64 0,.sl true [],.int .i64 0,.str ⟨⟨[]⟩⟩,.sl true [],.sl true [],.sl true [],.sl true [],.sl true [],.int .i64 0,.bool false,.int .i64 0,.sl true [],.sl true [],.sl true [],.sl true [],.int .i64 0,.sl true [],.int .i64 0,.int .i64 0,.int .i64 0,.int .i64 0,.int .i64 0,.str ⟨⟨[]⟩⟩,.sl true []]) [(0,1,.int .i64 3),(16,2,s.elems[i].v)]=some y:=by rw[←hr];simp[qF,qh,qbM]
    simp[h,ldS,hb1,qnX,qB,hb,hf,ha,zk (n:=(i:Int)+1)];refine ⟨_,?_,_,?_,i+1,rfl,by omega,rfl,rfl⟩
    ·omega
    ·exact Env.so (by simp)
   ·have:i=s.elems.length:=by omega
    subst this;simp[ldS,hb1];rw[qru (by simp)];exact ⟨rfl,rfl⟩
  rintro e U ⟨g4,g3,rfl⟩;generalize hxs2:xs++s.elems.map qbM=ys at *;have hyl:ys.length=s.targets.length+s.exps.length+s.elems.length:=by rw[←hxs2];simp;omega
  simp[g3,g4];refine qQ (fun e U=>e.get 4=some (grV 2 (ys++s.decls.map qbc))∧e.get 3=some (.ptr 1 0 0 1)∧U=grS B (ys++s.decls.map qbc)) ?_ ?_
  ·refine qw (fun j e S'=>∃i:Nat,j=s.decls.length - i∧i≤s.decls.length∧S'=grS B (ys++(s.decls.map qbc).take i)∧
    e=[(6,.int .i64 i),(4,grV 2 (ys++(s.decls.map qbc).take i)),(3,.ptr 1 0 0 1)]) s.decls.length _ ?_ ⟨0,by simp,by omega,by simp,rfl⟩ ?_
   ·repeat' first|exact Env.sub_nil _|refine Env.sub_cons (by simp[g3,g4]) ?_
   rintro j e S' ⟨i,rfl,hi,rfl,rfl⟩;by_cases h:i<s.decls.length
   ·have ha:=qh6 (S:=B) (xs:=ys++(s.decls.map qbc).take i) (y:=qbc s.decls[i]) (Qx (.de s.decls[i])) (by simp;omega)
    have hn:ys++(s.decls.map qbc).take i++[qbc s.decls[i]]=ys++(s.decls.map qbc).take (i+1):=by
     rw[qrj,qq7,qqZ h,qre,qrH,qrc]
    rw[hn,hBl] at ha;have hf:fits 25 [qbc s.decls[i]]=true:=Qx (.de s.decls[i]);generalize hr:qbc s.decls[i]=y at ha hf;have hb:qF (.agg [.int .i64 0,.sl true [],.int .i64 0,.str ⟨⟨[]⟩⟩,.sl true [],.sl true [],.sl true [],.sl true [],.sl true [],.int .i64 0,.bool false,.int .i64 0,.sl true [],.sl true [],.sl true [],.sl true [],.int .i64 0,.sl true [],.int .i64 0,.int .i64 0,.int .i64 0,.int .i64 0,.int .i64 0,.str ⟨⟨[]⟩⟩,.sl true []]) [(0,1,.int .i64 2),(9,7,s.decls[i].v)]=some y:=by rw[←hr];simp[qF,qh,qbc]
    simp[h,ldS,hb1,qm3,qB,hb,hf,ha,zk (n:=(i:Int)+1)];refine ⟨_,?_,_,?_,i+1,rfl,by omega,rfl,rfl⟩
    ·omega
    ·exact Env.so (by simp)
   ·have:i=s.decls.length:=by omega
    subst this;simp[ldS,hb1];rw[qru (by simp)];exact ⟨rfl,rfl⟩
  clear g3 g4;rintro e U ⟨g4,g3,rfl⟩;have c3:=qfu B (ys++s.decls.map qbc) s.body (by simp;omega);rw[hBl] at c3;simp[g3,g4,ldS,hb1];refine qi c3 ?_;rintro v U ⟨rfl,rfl⟩;simp
  have hz:ys++s.decls.map qbc++s.body.map qbL=(Pa.st s).kids.map Pa.raw:=by
   rw[←hxs2,←hxs,qnf,qnf,qqQ,qqP,qpS];simp only[Pa.kids,qrg,qrc]
  rw[←qrc,hz,←hBl];exact Ym (by simp)
theorem qpk{l:List Pa}{i:Nat}(h:i<l.length)(b:Bool)(S:St):iaS S 25 (.sl b (l.map Pa.v)) i=some (.iptr (Pa.v l[i]) 0):=qer (f:=Pa.v) (fun _=>rfl) h b S
theorem Zg:∀l:List Pa,(∀p,p∈l→p.depth≤p.size)→zr l≤qK l
 | [],_=>qqY _
 | p::l,h=>by
  have h1:=h p (by simp);have h2:=Zg l fun q hq=>h q (by simp[hq])
  rw[depths_cons,sizes_cons];omega
theorem qah:∀(k:Nat) (p:Pa),p.wt≤k→p.depth≤p.size:=by
 intro k
 induction k with
 | zero=>intro p h;exfalso;cases p with
  | st s=>cases s;simp[Pa.wt] at h
  | de s=>cases s;simp[Pa.wt] at h
  | el s=>cases s;simp[Pa.wt] at h
  | ex s=>cases s;simp[Pa.wt] at h
 | succ k ih=>
  intro p hw;rw[Pa.depth_eq,Pa.size_eq];have:=Zg p.kids fun q hq=>ih q (by have:=Pa.kid_lt hq;omega)
  have:=p.own_pos;omega
def Q3(z:Nat)(n:Int):Int:=if (z:Int)≤n then n - z else -1
theorem qkF:∀(k:Nat) (p:Pa),p.wt≤k→p.ok→∀n:Int,0≤n→n≤2000→∀S,Fn prog 174 [p.v,.int .i64 n] S (.int .i64 (Q3 p.size n)):=by
 intro k
 induction k with
 | zero=>intro p h;exfalso;cases p with
  | st s=>cases s;simp[Pa.wt] at h
  | de s=>cases s;simp[Pa.wt] at h
  | el s=>cases s;simp[Pa.wt] at h
  | ex s=>cases s;simp[Pa.wt] at h
 | succ k ih=>
  intro p hw hp n hn0 hn1;refine Pu.ib func174 ok174 (by simp[c174]) (by simp[V.under]) rfl ?_;have ho:=Pa.own_le hp;have hs:=p.size_eq;have hlen:=zQ p.kids;unfold B50 at ho
  have hkl:p.kids.length≤9007199254740992:=by
   rw[ZJ]
   cases p with
   | st s=>
    have o:=(Sm.ok_iff s).1 hp;have o1:=o.targets.1;have o2:=o.exps.1;have o3:=o.elems.1;have o4:=o.decls.1;have o5:=o.body.1;unfold B50 at o1 o2 o3 o4 o5;simp only;omega
   | de d=>
    have o:=(De.ok_iff d).1 hp;have o1:=o.exps.1;have o2:=o.body.1;unfold B50 at o1 o2;simp only;omega
   | el e=>have:=hp.1;unfold B50 at this;simp only;omega
   | ex x=>have:=(Ex.ok_args hp).1;unfold B50 at this;simp only;omega
  have w1:IntKind.i64.wrap ((p.own:Int)+p.kids.length)=(p.own:Int)+p.kids.length:=qu (by omega) (by omega);have w2:IntKind.i64.wrap (n - p.own)=n - p.own:=qu (by omega) (by omega);simp[c174,qG,ldS];refine Qs (qgY p hp _) ?_;simp[ldS];refine Qs (qmb p hp _) ?_;simp[QZ,zW,yp,ldS,w1];by_cases hbig:n<(p.own:Int)+p.kids.length
  ·simp[hbig];refine qa rfl ?_ rfl;unfold Q3;rw[if_neg (by omega)];rfl
  simp[hbig,ldS];refine qg (qgY p hp _) ?_;simp[ldS,w2];refine qg (qaJ p hp (by omega) _) ?_;simp;refine qQ (fun e U=>e.get 1=some (.int .i64 (Q3 p.size n))) ?_ ?_
  ·refine qw (fun j e S'=>∃i:Nat,j=p.kids.length - i∧i≤p.kids.length∧
    e=[(6,.int .i64 i),(5,.sl false (p.kids.map Pa.v)),(1,.int .i64 (Q3 (qK (p.kids.take i)) (n - p.own)))]) p.kids.length _ ?_ ⟨0,by simp,by omega,rfl⟩ ?_
   ·have hz:Q3 0 (n - p.own)=n - p.own:=by unfold Q3;rw[if_pos (by omega)];omega
    repeat' first|exact Env.sub_nil _|refine Env.sub_cons (by simp[hz]) ?_
   rintro j e S' ⟨i,rfl,hi,rfl⟩;by_cases h:i<p.kids.length
   ·have hq:p.kids[i]?=some p.kids[i]:=by simp[h]
    have q1:=Qq hq;have q2:=zK hq;by_cases h0:(qK (p.kids.take i):Int)≤n - p.own
    ·have hm:Q3 (qK (p.kids.take i)) (n - p.own)=n - p.own - qK (p.kids.take i):=by unfold Q3;rw[if_pos h0]
     have hk:=Pa.kid_lt (qra h);simp[h,hm,show (qK (p.kids.take i):Int)≤n - p.own by omega,qpk];refine qg (ih p.kids[i] (by omega) (Pa.kid_ok hp (qra h)) _ (by omega) (by omega) _) ?_;simp[zk (n:=(i:Int)+1)];refine ⟨_,?_,_,?_,i+1,rfl,by omega,rfl⟩
     ·omega
     ·exact Env.sub_cons (k:=6) (v:=.int .i64 (i+1:Nat)) (by simp) (Env.sub_cons (k:=5) (v:=.sl false (p.kids.map Pa.v)) (by simp) (Env.sub_cons (k:=1) (v:=.int .i64 (Q3 (qK (p.kids.take (i+1))) (n - p.own))) (by
      simp;rw[q1];unfold Q3;split <;> split <;> omega) (Env.sub_nil _)))
    ·have hm:Q3 (qK (p.kids.take i)) (n - p.own)=-1:=by unfold Q3;rw[if_neg h0]
     simp[h,hm];unfold Q3;rw[if_neg (by omega)]
   ·have:i=p.kids.length:=by omega
    subst this;simp;unfold Q3;split <;> split <;> omega
  ·rintro e U g;simp[g];exact qa (vs:=[.int .i64 (Q3 p.size n)]) (by simp) rfl rfl
theorem qmy:∀(k:Nat) (p:Pa),p.wt≤k→p.ok→p.size≤2000→∀S,Fn prog 188 [p.v] S (.int .i64 p.depth):=by
 intro k
 induction k with
 | zero=>intro p h;exfalso;cases p with
  | st s=>cases s;simp[Pa.wt] at h
  | de s=>cases s;simp[Pa.wt] at h
  | el s=>cases s;simp[Pa.wt] at h
  | ex s=>cases s;simp[Pa.wt] at h
 | succ k ih=>
  intro p hw hp hsz;refine Pu.ib func188 ok188 (by simp[c188]) (by simp) rfl ?_;have hs:=p.size_eq;have hlen:=zQ p.kids;have hown:=p.own_pos;have hd:=p.depth_eq;have hds:=qah _ p (qqY _);simp[c188,qG,ldS];refine qg (qaJ p hp (by omega) _) ?_;simp;refine qQ (fun e U=>e.get 3=some (.int .i64 (zr p.kids))) ?_ ?_
  ·refine qw (fun j e S'=>∃i:Nat,j=p.kids.length - i∧i≤p.kids.length∧
    e=[(5,.int .i64 i),(4,.sl false (p.kids.map Pa.v)),(3,.int .i64 (zr (p.kids.take i)))]) p.kids.length _ ?_ ⟨0,by simp,by omega,rfl⟩ ?_
   ·exact Env.so (by simp)
   rintro j e S' ⟨i,rfl,hi,rfl⟩;by_cases h:i<p.kids.length
   ·have hq:p.kids[i]?=some p.kids[i]:=by simp[h]
    have q1:=yV hq;have q2:=zK hq;have hk:=Pa.kid_lt (qra h);simp[h,qpk];refine qg (ih p.kids[i] (by omega) (Pa.kid_ok hp (qra h)) (by omega) _) ?_;simp[evX,mmV,zk (n:=(i:Int)+1)];refine ⟨_,?_,_,?_,i+1,rfl,by omega,rfl⟩
    ·omega
    ·exact Env.sub_cons (k:=5) (v:=.int .i64 (i+1:Nat)) (by simp) (Env.sub_cons (k:=4) (v:=.sl false (p.kids.map Pa.v)) (by simp) (Env.sub_cons (k:=3) (v:=.int .i64 (zr (p.kids.take (i+1)))) (by
     simp;rw[q1];split <;> omega) (Env.sub_nil _)))
   ·have:i=p.kids.length:=by omega
    subst this;simp
  ·rintro e U g;simp[g,qu (n:=1+(zr p.kids:Int)) (by omega) (by omega)];exact qa (vs:=[.int .i64 (1+zr p.kids)]) (by simp) (by simp[qo,hd]) rfl
theorem qe5(p:Pa)(hp:p.ok):∀S,Fn prog 159 [p.v] S (.bool (decide p.fits)):=by
 refine Pu.ib func159 ok159 (by simp[c159]) (by simp) rfl ?_;simp[c159,qG,ldS];refine qg (qkF _ p (qqY _) hp 2000 (by omega) (by omega) _) ?_;by_cases h:p.size≤2000
 ·have hm:Q3 p.size 2000=2000 - p.size:=by unfold Q3;rw[if_pos (by omega)]
  simp[hm,show (p.size:Int)≤2000 by omega,ldS];refine qg (qmy _ p (qqY _) hp h _) ?_;simp;exact qa rfl (by simp[qo,Pa.fits,h];omega) rfl
 ·have hm:Q3 p.size 2000=-1:=by unfold Q3;rw[if_neg (by omega)]
  simp[hm];exact qa rfl (by simp[qo,Pa.fits,h]) rfl
theorem qx{P:Program}{a b:C'}{Q:yD}{e:Env}{S:St}(M:Env→St→Prop)(h1:WP P a (Zi M Q) e S)(h2:∀e S,M e S→WP P b Q e S):WP P (.seq a b) Q e S:=by
 rw[qc7];exact qoE M h1 h2
def qjm(l m:List Bz)(i:Nat):Prop:=∀j,j<i→l[j]?=m[j]?
theorem qeh{l m:List Bz}(hl:l.length=m.length)(h:qjm l m l.length):l=m:=by
 apply qrM;intro i;by_cases hi:i<l.length
 ·exact h i hi
 ·rw[qrv (by omega),qrv (by omega)]
theorem qhs(l m:List Bz)(hl:l.length≤B50):∀S,Fn prog 233 [.sl false (l.map .str),.sl false (m.map .str)] S (.bool (decide (l=m))):=by
 refine Pu.ib func233 ok233 (by simp[c233]) (by simp[V.under]) rfl ?_;unfold B50 at hl;by_cases hlen:l.length=m.length
 case neg=>
  have hne:¬ l=m:=fun h=>hlen (by rw[h])
  simp only[decide_eq_false hne];simp[c233,show ¬ ((l.length:Int)=m.length) by omega];exact qa rfl rfl rfl
 generalize hd:decide (l=m)=b;simp only[c233,C'.k];simp[hlen];refine qw (fun j e S'=>∃i:Nat,j=l.length - i∧i≤l.length∧qjm l m i∧
  e=[(5,.int .i64 i),(0,.sl false (l.map .str)),(1,.sl false (m.map .str))]) l.length _ ?_ ⟨0,by simp,by omega,fun j hj=>by omega,rfl⟩ ?_
 ·exact Env.so (by simp)
 rintro j e S' ⟨i,rfl,hi,hq,rfl⟩;by_cases h:i<l.length
 ·have h':i<m.length:=by omega
  by_cases hx:l[i]=m[i]
  ·simp[h,h',ZO,QZ,zW,yp,hx,zk (n:=(i:Int)+1)];refine ⟨_,?_,_,?_,i+1,rfl,by omega,?_,rfl⟩
   ·omega
   ·exact Env.so (by simp)
   ·intro j hj;by_cases hji:j=i
    ·subst hji;simp[h,h',hx]
    ·exact hq j (by omega)
  ·simp[h,h',ZO,QZ,zW,yp,hx];refine qa rfl ?_ rfl;rw[←hd];have:¬ l=m:=fun hh=>hx (by simp[hh])
   simp[qo,this]
 ·have:i=l.length:=by omega
  subst this;simp;refine qa rfl ?_ rfl;rw[←hd,decide_eq_true (qeh hlen hq)];rfl
open Classical in
theorem qpG(f g:Fo):zn [.str f.name,.bool f.value,.int .i64 f.spec,.int .i64 f.type] [.str g.name,.bool g.value,.int .i64 g.spec,.int .i64 g.type] [(0,.s),(1,.b),(2,.i),(3,.i)]=some (decide (f=g)):=by
 by_cases h1:f.name=g.name
 ·by_cases h2:f.value=g.value
  ·by_cases h3:f.spec=g.spec
   ·by_cases h4:f.type=g.type
    ·have:f=g:=by cases f;cases g;simp at *;exact ⟨h1,h2,h3,h4⟩
     simp[zn,QH,this]
    ·have hb:(f.type==g.type)=false:=by simpa using h4
     have:¬ f=g:=fun h=>h4 (by rw[h])
     simp[zn,QH,h1,h2,h3,hb,this]
   ·have hb:(f.spec==g.spec)=false:=by simpa using h3
    have:¬ f=g:=fun h=>h3 (by rw[h])
    simp[zn,QH,h1,h2,hb,this]
  ·have hb:(f.value==g.value)=false:=by simpa using h2
   have:¬ f=g:=fun h=>h2 (by rw[h])
   simp[zn,QH,h1,hb,this]
 ·have hb:(f.name.data.toList==g.name.data.toList)=false:=by
   rw[beq_eq_false_iff_ne];intro hh;exact h1 (qsQ (Array.ext' hh))
  have:¬ f=g:=fun h=>h1 (by rw[h])
  simp[zn,QH,hb,this]
def jC(s t:Sm):Prop:=s.targets.length=t.targets.length∧s.exps.length=t.exps.length∧s.elems.length=t.elems.length∧s.decls.length=t.decls.length∧s.body.length=t.body.length
def qcj(c d:De)(e f:El)(x y:Ex):Prop:=c.exps.length=d.exps.length∧c.body.length=d.body.length∧e.exps.length=f.exps.length∧x.args.length=y.args.length
def EqS(s t:Sm):Prop:=s.kind=t.kind∧s.text=t.text∧s.labels=t.labels
def EqD(c d:De):Prop:=c.kind=d.kind∧c.own=d.own∧c.type=d.type∧c.names=d.names
def EqX(x y:Ex):Prop:=x.kind=y.kind∧x.op=y.op∧x.n=y.n∧(x.man=y.man∧x.exp=y.exp)∧x.text=y.text
def EqP(k k':Int)(s t:Sm)(c d:De)(e f:El)(x y:Ex):Prop:=(k=k'∧c.formals=d.formals)∧(jC s t∧qcj c d e f x y)∧EqS s t∧EqD c d∧e.kind=f.kind∧EqX x y
structure G195(e:Env):Prop where
 g2:e.get 2=some (.ptr 0 0 0 1)
 g3:e.get 3=some (.ptr 1 0 0 1)
 g5:e.get 5=some (.ptr 2 0 0 1)
 g6:e.get 6=some (.ptr 3 0 0 1)
 g7:e.get 7=some (.ptr 4 0 0 1)
 g8:e.get 8=some (.ptr 5 0 0 1)
structure H195(e:Env):Prop where
 g:G195 e
 g10:e.get 10=some (.ptr 6 0 0 1)
 g11:e.get 11=some (.ptr 7 0 0 1)
def qon(l m:List Fo)(i:Nat):Prop:=∀j,j<i→l[j]?=m[j]?
theorem qfc{l m:List Fo}(hl:l.length=m.length)(h:qon l m l.length):l=m:=by
 apply qrM;intro i;by_cases hi:i<l.length
 ·exact h i hi
 ·rw[qrv (by omega),qrv (by omega)]
open Classical in
theorem qkP(k k':Int)(s t:Sm)(c d:De)(e f:El)(x y:Ex)(hs:s.ok)(hc:c.ok):∀S,Fn prog 195 [paV k s c e x,paV k' t d f y] S (.bool (decide (EqP k k' s t c d e f x y))):=by
 refine Pu.ib func195 ok195 (by simp[c195]) (by simp) rfl ?_;have hO:=(Sm.ok_iff s).1 hs;have hP:=(De.ok_iff c).1 hc;have hfl:=hP.formals.1;unfold B50 at hfl;obtain ⟨S6,hS6⟩:∃S6:St,S6=[.arr [paV k s c e x] 25 1,.arr [paV k' t d f y] 25 1,.arr [s.v] 8 1,.arr [t.v] 8 1,.arr [c.v] 7 1,.arr [d.v] 7 1]:=⟨_,rfl⟩;obtain ⟨S8,hS8⟩:∃S8:St,S8=[.arr [paV k s c e x] 25 1,.arr [paV k' t d f y] 25 1,.arr [s.v] 8 1,.arr [t.v] 8 1,.arr [c.v] 7 1,.arr [d.v] 7 1,.arr [x.v] 7 1,.arr [y.v] 7 1]:=⟨_,rfl⟩;have h60:S6[0]?=some (.arr [paV k s c e x] 25 1):=by rw[hS6];rfl
 have h61:S6[1]?=some (.arr [paV k' t d f y] 25 1):=by rw[hS6];rfl
 have h64:S6[4]?=some (.arr [c.v] 7 1):=by rw[hS6];rfl
 have h65:S6[5]?=some (.arr [d.v] 7 1):=by rw[hS6];rfl
 have h80:S8[0]?=some (.arr [paV k s c e x] 25 1):=by rw[hS8];rfl
 have h81:S8[1]?=some (.arr [paV k' t d f y] 25 1):=by rw[hS8];rfl
 have h82:S8[2]?=some (.arr [s.v] 8 1):=by rw[hS8];rfl
 have h83:S8[3]?=some (.arr [t.v] 8 1):=by rw[hS8];rfl
 have h84:S8[4]?=some (.arr [c.v] 7 1):=by rw[hS8];rfl
 have h85:S8[5]?=some (.arr [d.v] 7 1):=by rw[hS8];rfl
 have h86:S8[6]?=some (.arr [x.v] 7 1):=by rw[hS8];rfl
 have h87:S8[7]?=some (.arr [y.v] 7 1):=by rw[hS8];rfl
 have hX:∀z:Ex,z.v=.agg [.int .i64 z.kind,.int .i64 z.op,.int .i64 z.n,.int .i64 z.man,.int .i64 z.exp,.str z.text,.sl false (z.args.map Ex.v)]:=Ex.v_eq;generalize hres:decide (EqP k k' s t c d e f x y)=res;simp only[c195,C'.k];refine qx (fun E U=>E.get 2=some (.ptr 0 0 0 1)∧E.get 3=some (.ptr 1 0 0 1)∧U=[.arr [paV k s c e x] 25 1,.arr [paV k' t d f y] 25 1]) (by simp[qG,yo]) ?_;rintro E U ⟨g2,g3,rfl⟩;refine qx (fun E U=>E.get 2=some (.ptr 0 0 0 1)∧E.get 3=some (.ptr 1 0 0 1)∧E.get 5=some (.ptr 2 0 0 1)∧E.get 6=some (.ptr 3 0 0 1)∧U=[.arr [paV k s c e x] 25 1,.arr [paV k' t d f y] 25 1,.arr [s.v] 8 1,.arr [t.v] 8 1]) ?_ ?_
 ·simp[g2,g3,phs,ldS,stS,qh,QZ,zW,yp]
 clear g2 g3 E;rintro E U ⟨g2,g3,g5,g6,rfl⟩;refine qx (fun E U=>G195 E∧U=S6) ?_ ?_
 ·simp[g2,g3,phs,ldS,stS,qh,QZ,zW,yp];exact ⟨⟨by simp[g2],by simp[g3],by simp[g5],by simp[g6],by simp,by simp⟩,hS6.symm⟩
 clear g2 g3 g5 g6 E;rintro E U ⟨⟨g2,g3,g5,g6,g7,g8⟩,hU⟩;rw[hU];clear hU U;refine qx (fun E U=>G195 E∧U=S6∧k=k'∧c.formals.length=d.formals.length) ?_ ?_
 ·by_cases hk:k=k'
  case neg=>
   simp[g2,g3,g7,g8,ldS,h60,h61,h64,h65,hk];refine qa rfl ?_ rfl;rw[←hres,decide_eq_false (fun h=>hk h.1.1)];rfl
  by_cases hf:c.formals.length=d.formals.length
  case neg=>
   simp[g2,g3,g7,g8,ldS,h60,h61,h64,h65,hk,show ¬ ((c.formals.length:Int)=d.formals.length) by omega];refine qa rfl ?_ rfl;rw[←hres,decide_eq_false (fun h=>hf (by rw[h.1.2]))];rfl
  simp[g2,g3,g7,g8,ldS,h60,h61,h64,h65,hk,hf];exact ⟨by simp[g2],by simp[g3],by simp[g5],by simp[g6],by simp[g7],by simp[g8]⟩
 clear g2 g3 g5 g6 g7 g8 E;rintro E U ⟨⟨g2,g3,g5,g6,g7,g8⟩,hU,hkk,hff⟩;rw[hU];clear hU U;refine qx (fun E U=>G195 E∧U=S6∧c.formals=d.formals) ?_ ?_
 ·simp;refine qQ (fun E U=>G195 E∧U=S6∧c.formals=d.formals) ?_ (fun E U h=>h);refine qw (fun j E U=>∃i:Nat,j=c.formals.length - i∧i≤c.formals.length∧qon c.formals d.formals i∧U=S6∧
   E=[(9,.int .i64 i),(2,.ptr 0 0 0 1),(3,.ptr 1 0 0 1),(5,.ptr 2 0 0 1),(6,.ptr 3 0 0 1),(7,.ptr 4 0 0 1),(8,.ptr 5 0 0 1)]) c.formals.length _ ?_ ⟨0,by simp,by omega,fun j hj=>by omega,rfl,rfl⟩ ?_
  ·repeat' first|exact Env.sub_nil _|refine Env.sub_cons (by simp[g2,g3,g5,g6,g7,g8]) ?_
  rintro j E' U ⟨i,rfl,hi,hq,hU,rfl⟩;rw[hU];clear hU U;by_cases h:i<c.formals.length
  ·have h':i<d.formals.length:=by omega
   have hef:=qpG c.formals[i] d.formals[i];by_cases hx:c.formals[i]=d.formals[i]
   ·rw[decide_eq_true hx] at hef;simp[h,h',ldS,h64,h65,qlp,evX,Fo.v,yI,hef,QZ,zW,yp,zk (n:=(i:Int)+1)];refine ⟨_,?_,_,?_,i+1,rfl,by omega,?_,rfl⟩
    ·omega
    ·exact Env.so (by simp)
    ·intro j hj;by_cases hji:j=i
     ·subst hji;simp[h,h',hx]
     ·exact hq j (by omega)
   ·rw[decide_eq_false hx] at hef;simp[h,h',ldS,h64,h65,qlp,evX,Fo.v,yI,hef,QZ,zW,yp];refine qa rfl ?_ rfl;rw[←hres,decide_eq_false (fun hh=>hx (by simp[hh.1.2]))];rfl
  ·have:i=c.formals.length:=by omega
   subst this;simp[h,ldS,h64,h65];exact ⟨⟨by simp,by simp,by simp,by simp,by simp,by simp⟩,qfc hff hq⟩
 clear g2 g3 g5 g6 g7 g8 E;rintro E U ⟨⟨g2,g3,g5,g6,g7,g8⟩,hU,hfo⟩;rw[hU];clear hU U;refine qx (fun E U=>H195 E∧U=S8) ?_ ?_
 ·simp only[hS6];simp[g2,g3,phs,ldS,stS,qh,QZ,zW,yp];exact ⟨⟨⟨by simp[g2],by simp[g3],by simp[g5],by simp[g6],by simp[g7],by simp[g8]⟩,by simp,by simp⟩,hS8.symm⟩
 clear g2 g3 g5 g6 g7 g8 E;rintro E U ⟨⟨⟨g2,g3,g5,g6,g7,g8⟩,g10,g11⟩,hU⟩;rw[hU];clear hU U;refine qx (fun E U=>H195 E∧E.get 12=some (.bool (decide (jC s t)))∧U=S8) ?_ ?_
 ·generalize hv:decide (jC s t)=v;by_cases a0:s.targets.length=t.targets.length
  case neg=>
   simp[g2,g3,g5,g6,g7,g8,g10,g11,ldS,h80,h81,h82,h83,h84,h85,h86,h87,show ¬ ((s.targets.length:Int)=t.targets.length) by omega];refine ⟨⟨⟨by simp[g2],by simp[g3],by simp[g5],by simp[g6],by simp[g7],by simp[g8]⟩,by simp[g10],by simp[g11]⟩,by rw[←hv,decide_eq_false (fun hh:jC s t=>a0 hh.1)]⟩
  by_cases a1:s.exps.length=t.exps.length
  case neg=>
   simp[g2,g3,g5,g6,g7,g8,g10,g11,ldS,h80,h81,h82,h83,h84,h85,h86,h87,a0,show ¬ ((s.exps.length:Int)=t.exps.length) by omega];refine ⟨⟨⟨by simp[g2],by simp[g3],by simp[g5],by simp[g6],by simp[g7],by simp[g8]⟩,by simp[g10],by simp[g11]⟩,by rw[←hv,decide_eq_false (fun hh:jC s t=>a1 hh.2.1)]⟩
  by_cases a2:s.elems.length=t.elems.length
  case neg=>
   simp[g2,g3,g5,g6,g7,g8,g10,g11,ldS,h80,h81,h82,h83,h84,h85,h86,h87,a0,a1,show ¬ ((s.elems.length:Int)=t.elems.length) by omega];refine ⟨⟨⟨by simp[g2],by simp[g3],by simp[g5],by simp[g6],by simp[g7],by simp[g8]⟩,by simp[g10],by simp[g11]⟩,by rw[←hv,decide_eq_false (fun hh:jC s t=>a2 hh.2.2.1)]⟩
  by_cases a3:s.decls.length=t.decls.length
  case neg=>
   simp[g2,g3,g5,g6,g7,g8,g10,g11,ldS,h80,h81,h82,h83,h84,h85,h86,h87,a0,a1,a2,show ¬ ((s.decls.length:Int)=t.decls.length) by omega];refine ⟨⟨⟨by simp[g2],by simp[g3],by simp[g5],by simp[g6],by simp[g7],by simp[g8]⟩,by simp[g10],by simp[g11]⟩,by rw[←hv,decide_eq_false (fun hh:jC s t=>a3 hh.2.2.2.1)]⟩
  by_cases a4:s.body.length=t.body.length
  case neg=>
   simp[g2,g3,g5,g6,g7,g8,g10,g11,ldS,h80,h81,h82,h83,h84,h85,h86,h87,a0,a1,a2,a3,show ¬ ((s.body.length:Int)=t.body.length) by omega];refine ⟨⟨⟨by simp[g2],by simp[g3],by simp[g5],by simp[g6],by simp[g7],by simp[g8]⟩,by simp[g10],by simp[g11]⟩,by rw[←hv,decide_eq_false (fun hh:jC s t=>a4 hh.2.2.2.2)]⟩
  simp[g2,g3,g5,g6,g7,g8,g10,g11,ldS,h80,h81,h82,h83,h84,h85,h86,h87,a0,a1,a2,a3,a4];refine ⟨⟨⟨by simp[g2],by simp[g3],by simp[g5],by simp[g6],by simp[g7],by simp[g8]⟩,by simp[g10],by simp[g11]⟩,by rw[←hv,decide_eq_true ⟨a0,a1,a2,a3,a4⟩]⟩
 clear g2 g3 g5 g6 g7 g8 g10 g11 E;rintro E U ⟨⟨⟨g2,g3,g5,g6,g7,g8⟩,g10,g11⟩,g12,hU⟩;rw[hU];clear hU U;refine qx (fun E U=>H195 E∧E.get 12=some (.bool (decide (jC s t∧qcj c d e f x y)))∧U=S8) ?_ ?_
 ·generalize hv:decide (jC s t∧qcj c d e f x y)=v;by_cases b0:jC s t
  case neg=>
   rw[decide_eq_false b0] at g12;simp[g2,g3,g5,g6,g7,g8,g10,g11,ldS,h80,h81,h82,h83,h84,h85,h86,h87,g12];refine ⟨⟨⟨by simp[g2],by simp[g3],by simp[g5],by simp[g6],by simp[g7],by simp[g8]⟩,by simp[g10],by simp[g11]⟩,by rw[←hv,decide_eq_false (fun hh=>b0 hh.1)]⟩
  rw[decide_eq_true b0] at g12;by_cases a0:c.exps.length=d.exps.length
  case neg=>
   simp[g2,g3,g5,g6,g7,g8,g10,g11,ldS,h80,h81,h82,h83,h84,h85,h86,h87,g12,show ¬ ((c.exps.length:Int)=d.exps.length) by omega];refine ⟨⟨⟨by simp[g2],by simp[g3],by simp[g5],by simp[g6],by simp[g7],by simp[g8]⟩,by simp[g10],by simp[g11]⟩,by rw[←hv,decide_eq_false (fun hh:jC s t∧qcj c d e f x y=>a0 hh.2.1)]⟩
  by_cases a1:c.body.length=d.body.length
  case neg=>
   simp[g2,g3,g5,g6,g7,g8,g10,g11,ldS,h80,h81,h82,h83,h84,h85,h86,h87,a0,g12,show ¬ ((c.body.length:Int)=d.body.length) by omega];refine ⟨⟨⟨by simp[g2],by simp[g3],by simp[g5],by simp[g6],by simp[g7],by simp[g8]⟩,by simp[g10],by simp[g11]⟩,by rw[←hv,decide_eq_false (fun hh:jC s t∧qcj c d e f x y=>a1 hh.2.2.1)]⟩
  by_cases a2:e.exps.length=f.exps.length
  case neg=>
   simp[g2,g3,g5,g6,g7,g8,g10,g11,ldS,h80,h81,h82,h83,h84,h85,h86,h87,a0,a1,g12,show ¬ ((e.exps.length:Int)=f.exps.length) by omega];refine ⟨⟨⟨by simp[g2],by simp[g3],by simp[g5],by simp[g6],by simp[g7],by simp[g8]⟩,by simp[g10],by simp[g11]⟩,by rw[←hv,decide_eq_false (fun hh:jC s t∧qcj c d e f x y=>a2 hh.2.2.2.1)]⟩
  by_cases a3:x.args.length=y.args.length
  case neg=>
   simp[g2,g3,g5,g6,g7,g8,g10,g11,ldS,h80,h81,h82,h83,h84,h85,h86,h87,a0,a1,a2,g12,show ¬ ((x.args.length:Int)=y.args.length) by omega];refine ⟨⟨⟨by simp[g2],by simp[g3],by simp[g5],by simp[g6],by simp[g7],by simp[g8]⟩,by simp[g10],by simp[g11]⟩,by rw[←hv,decide_eq_false (fun hh:jC s t∧qcj c d e f x y=>a3 hh.2.2.2.2)]⟩
  simp[g2,g3,g5,g6,g7,g8,g10,g11,ldS,h80,h81,h82,h83,h84,h85,h86,h87,a0,a1,a2,a3,g12];refine ⟨⟨⟨by simp[g2],by simp[g3],by simp[g5],by simp[g6],by simp[g7],by simp[g8]⟩,by simp[g10],by simp[g11]⟩,by rw[←hv,decide_eq_true ⟨b0,a0,a1,a2,a3⟩]⟩
 clear g2 g3 g5 g6 g7 g8 g10 g11 g12 E;rintro E U ⟨⟨⟨g2,g3,g5,g6,g7,g8⟩,g10,g11⟩,g12,hU⟩;rw[hU];clear hU U;refine qx (fun E U=>H195 E∧E.get 12=some (.bool (decide (jC s t∧qcj c d e f x y)))∧E.get 13=some (.bool (decide (EqS s t)))∧U=S8) ?_ ?_
 ·generalize hv:decide (EqS s t)=v;generalize decide (jC s t∧qcj c d e f x y)=v12 at *;by_cases a0:s.kind=t.kind
  case neg=>
   simp[g2,g3,g5,g6,g7,g8,g10,g11,ldS,h80,h81,h82,h83,h84,h85,h86,h87,a0];refine ⟨⟨⟨by simp[g2],by simp[g3],by simp[g5],by simp[g6],by simp[g7],by simp[g8]⟩,by simp[g10],by simp[g11]⟩,by simp[g12],by rw[←hv,decide_eq_false (fun hh:EqS s t=>a0 hh.1)]⟩
  by_cases a1:s.text=t.text
  case neg=>
   simp[g2,g3,g5,g6,g7,g8,g10,g11,ldS,h80,h81,h82,h83,h84,h85,h86,h87,a0,a1];refine ⟨⟨⟨by simp[g2],by simp[g3],by simp[g5],by simp[g6],by simp[g7],by simp[g8]⟩,by simp[g10],by simp[g11]⟩,by simp[g12],by rw[←hv,decide_eq_false (fun hh:EqS s t=>a1 hh.2.1)]⟩
  simp[g2,g3,g5,g6,g7,g8,g10,g11,ldS,h80,h81,h82,h83,h84,h85,h86,h87,a0,a1];refine qg (qhs s.labels t.labels hO.labels.1 _) ?_;by_cases a2:s.labels=t.labels
  case neg=>
   simp[a2];refine ⟨⟨⟨by simp[g2],by simp[g3],by simp[g5],by simp[g6],by simp[g7],by simp[g8]⟩,by simp[g10],by simp[g11]⟩,by simp[g12],by rw[←hv,decide_eq_false (fun hh:EqS s t=>a2 hh.2.2)]⟩
  simp[g2,g3,g5,g6,g7,g8,g10,g11,ldS,h80,h81,h82,h83,h84,h85,h86,h87,a0,a1,a2];refine ⟨⟨⟨by simp[g2],by simp[g3],by simp[g5],by simp[g6],by simp[g7],by simp[g8]⟩,by simp[g10],by simp[g11]⟩,by simp[g12],by rw[←hv,decide_eq_true ⟨a0,a1,a2⟩]⟩
 clear g2 g3 g5 g6 g7 g8 g10 g11 g12 E;rintro E U ⟨⟨⟨g2,g3,g5,g6,g7,g8⟩,g10,g11⟩,g12,g13,hU⟩;rw[hU];clear hU U;refine qx (fun E U=>H195 E∧E.get 12=some (.bool (decide (jC s t∧qcj c d e f x y)))∧E.get 13=some (.bool (decide (EqS s t)))∧E.get 14=some (.bool (decide (EqD c d)))∧U=S8) ?_ ?_
 ·generalize hv:decide (EqD c d)=v;generalize decide (jC s t∧qcj c d e f x y)=v12 at *;generalize decide (EqS s t)=v13 at *;by_cases a0:c.kind=d.kind
  case neg=>
   simp[g2,g3,g5,g6,g7,g8,g10,g11,ldS,h80,h81,h82,h83,h84,h85,h86,h87,zT,eqV,a0];refine ⟨⟨⟨by simp[g2],by simp[g3],by simp[g5],by simp[g6],by simp[g7],by simp[g8]⟩,by simp[g10],by simp[g11]⟩,by simp[g12],by simp[g13],by rw[←hv,decide_eq_false (fun hh:EqD c d=>a0 hh.1)]⟩
  by_cases a1:c.own=d.own
  case neg=>
   simp[g2,g3,g5,g6,g7,g8,g10,g11,ldS,h80,h81,h82,h83,h84,h85,h86,h87,a0,zT,eqV,zT,eqV,show (c.own==d.own)=false by simpa using a1];refine ⟨⟨⟨by simp[g2],by simp[g3],by simp[g5],by simp[g6],by simp[g7],by simp[g8]⟩,by simp[g10],by simp[g11]⟩,by simp[g12],by simp[g13],by rw[←hv,decide_eq_false (fun hh:EqD c d=>a1 hh.2.1)]⟩
  by_cases a2:c.type=d.type
  case neg=>
   simp[g2,g3,g5,g6,g7,g8,g10,g11,ldS,h80,h81,h82,h83,h84,h85,h86,h87,a0,a1,zT,eqV,zT,eqV,a2];refine ⟨⟨⟨by simp[g2],by simp[g3],by simp[g5],by simp[g6],by simp[g7],by simp[g8]⟩,by simp[g10],by simp[g11]⟩,by simp[g12],by simp[g13],by rw[←hv,decide_eq_false (fun hh:EqD c d=>a2 hh.2.2.1)]⟩
  simp[g2,g3,g5,g6,g7,g8,g10,g11,ldS,h80,h81,h82,h83,h84,h85,h86,h87,a0,a1,a2,zT,eqV];refine qg (qhs c.names d.names hP.names.1 _) ?_;by_cases a3:c.names=d.names
  case neg=>
   simp[a3];refine ⟨⟨⟨by simp[g2],by simp[g3],by simp[g5],by simp[g6],by simp[g7],by simp[g8]⟩,by simp[g10],by simp[g11]⟩,by simp[g12],by simp[g13],by rw[←hv,decide_eq_false (fun hh:EqD c d=>a3 hh.2.2.2)]⟩
  simp[g2,g3,g5,g6,g7,g8,g10,g11,ldS,h80,h81,h82,h83,h84,h85,h86,h87,a0,a1,a2,a3,zT,eqV];refine ⟨⟨⟨by simp[g2],by simp[g3],by simp[g5],by simp[g6],by simp[g7],by simp[g8]⟩,by simp[g10],by simp[g11]⟩,by simp[g12],by simp[g13],by rw[←hv,decide_eq_true ⟨a0,a1,a2,a3⟩]⟩
 clear g2 g3 g5 g6 g7 g8 g10 g11 g12 g13 E;rintro E U ⟨⟨⟨g2,g3,g5,g6,g7,g8⟩,g10,g11⟩,g12,g13,g14,hU⟩;rw[hU];clear hU U;refine qx (fun E U=>H195 E∧E.get 12=some (.bool (decide (jC s t∧qcj c d e f x y)))∧E.get 13=some (.bool (decide (EqS s t)))∧E.get 14=some (.bool (decide (EqD c d)))∧E.get 15=some (.bool (decide (EqX x y)))∧U=S8) ?_ ?_
 ·generalize hv:decide (EqX x y)=v;generalize decide (jC s t∧qcj c d e f x y)=v12 at *;generalize decide (EqS s t)=v13 at *;generalize decide (EqD c d)=v14 at *;by_cases a0:x.kind=y.kind
  case neg=>
   simp[g2,g3,g5,g6,g7,g8,g10,g11,ldS,h80,h81,h82,h83,h84,h85,h86,h87,evX,ze,a0];refine ⟨⟨⟨by simp[g2],by simp[g3],by simp[g5],by simp[g6],by simp[g7],by simp[g8]⟩,by simp[g10],by simp[g11]⟩,by simp[g12],by simp[g13],by simp[g14],by rw[←hv,decide_eq_false (fun hh:EqX x y=>a0 hh.1)]⟩
  by_cases a1:x.op=y.op
  case neg=>
   simp[g2,g3,g5,g6,g7,g8,g10,g11,ldS,h80,h81,h82,h83,h84,h85,h86,h87,a0,evX,ze,a1];refine ⟨⟨⟨by simp[g2],by simp[g3],by simp[g5],by simp[g6],by simp[g7],by simp[g8]⟩,by simp[g10],by simp[g11]⟩,by simp[g12],by simp[g13],by simp[g14],by rw[←hv,decide_eq_false (fun hh:EqX x y=>a1 hh.2.1)]⟩
  by_cases a2:x.n=y.n
  case neg=>
   simp[g2,g3,g5,g6,g7,g8,g10,g11,ldS,h80,h81,h82,h83,h84,h85,h86,h87,a0,a1,evX,ze,a2];refine ⟨⟨⟨by simp[g2],by simp[g3],by simp[g5],by simp[g6],by simp[g7],by simp[g8]⟩,by simp[g10],by simp[g11]⟩,by simp[g12],by simp[g13],by simp[g14],by rw[←hv,decide_eq_false (fun hh:EqX x y=>a2 hh.2.2.1)]⟩
  by_cases a3:x.man=y.man∧x.exp=y.exp
  case neg=>
   simp[g2,g3,g5,g6,g7,g8,g10,g11,ldS,h80,h81,h82,h83,h84,h85,h86,h87,a0,a1,a2,evX,ze,evX,ze,a3];refine ⟨⟨⟨by simp[g2],by simp[g3],by simp[g5],by simp[g6],by simp[g7],by simp[g8]⟩,by simp[g10],by simp[g11]⟩,by simp[g12],by simp[g13],by simp[g14],by rw[←hv,decide_eq_false (fun hh:EqX x y=>a3 hh.2.2.2.1)]⟩
  by_cases a4:x.text=y.text
  case neg=>
   simp[g2,g3,g5,g6,g7,g8,g10,g11,ldS,h80,h81,h82,h83,h84,h85,h86,h87,a0,a1,a2,a3,evX,ze,evX,ze,a4];refine ⟨⟨⟨by simp[g2],by simp[g3],by simp[g5],by simp[g6],by simp[g7],by simp[g8]⟩,by simp[g10],by simp[g11]⟩,by simp[g12],by simp[g13],by simp[g14],by rw[←hv,decide_eq_false (fun hh:EqX x y=>a4 hh.2.2.2.2)]⟩
  simp[g2,g3,g5,g6,g7,g8,g10,g11,ldS,h80,h81,h82,h83,h84,h85,h86,h87,a0,a1,a2,a3,a4,evX,ze];refine ⟨⟨⟨by simp[g2],by simp[g3],by simp[g5],by simp[g6],by simp[g7],by simp[g8]⟩,by simp[g10],by simp[g11]⟩,by simp[g12],by simp[g13],by simp[g14],by rw[←hv,decide_eq_true ⟨a0,a1,a2,a3,a4⟩]⟩
 clear g2 g3 g5 g6 g7 g8 g10 g11 g12 g13 g14 E;rintro E U ⟨⟨⟨g2,g3,g5,g6,g7,g8⟩,g10,g11⟩,g12,g13,g14,g15,hU⟩;rw[hU];clear hU U
 have hfin:res=(decide (jC s t∧qcj c d e f x y) && decide (EqS s t) && decide (EqD c d) && decide (e.kind=f.kind) && decide (EqX x y)):=by
  rw[←hres,qrz];rw[decide_eq_true_eq,qq5,qq5,qq5,qq5,decide_eq_true_eq,decide_eq_true_eq,decide_eq_true_eq,decide_eq_true_eq,decide_eq_true_eq];unfold EqP;constructor
  ·rintro ⟨_,h2,h3,h4,h5,h6⟩;exact ⟨⟨⟨⟨h2,h3⟩,h4⟩,h5⟩,h6⟩
  ·rintro ⟨⟨⟨⟨h2,h3⟩,h4⟩,h5⟩,h6⟩;exact ⟨⟨hkk,hfo⟩,h2,h3,h4,h5,h6⟩
 generalize decide (jC s t∧qcj c d e f x y)=v12 at *;generalize decide (EqS s t)=v13 at *;generalize decide (EqD c d)=v14 at *;generalize decide (EqX x y)=v15 at *
 cases v12 with
 | false=>simp[g12];exact qa rfl (by rw[hfin];rfl) rfl
 | true=>
  cases v13 with
  | false=>simp[g12,g13];exact qa rfl (by rw[hfin];rfl) rfl
  | true=>
   cases v14 with
   | false=>simp[g12,g13,g14];exact qa rfl (by rw[hfin];rfl) rfl
   | true=>
    by_cases he:e.kind=f.kind
    ·simp[g2,g3,ldS,h80,h81,g12,g13,g14,g15,he];exact qa rfl (by rw[hfin];simp[qo,he]) rfl
    ·simp[g2,g3,ldS,h80,h81,g12,g13,g14,g15,he];exact qa rfl (by rw[hfin];simp[qo,he]) rfl
end Go.Proofs.YtbifpocccfkhhaaGreatDoor

namespace Go.Proofs.YtbifpocccfkhhaaGreatDoor
open Go
theorem Ex.z_ok:Sm.z.ok:=by simp[Sm.z,Sm.ok,okS,Ex.okL,De.okL,Sm.okL];decide
theorem De.z_ok:De.z.ok:=by simp[De.z,De.ok,okS,Ex.okL,Sm.okL]
end Go.Proofs.YtbifpocccfkhhaaGreatDoor


namespace Go.Proofs.YtbifpocccfkhhaaGreatDoor
open Go Go.Proofs.Tryz
def Pa.eqOwn(a b:Pa):Prop:=EqP a.kind b.kind a.toS b.toS a.toD b.toD a.toE b.toE a.toX b.toX
theorem Pa.eqOwn_refl(a:Pa):a.eqOwn a:=⟨⟨rfl,rfl⟩,⟨⟨rfl,rfl,rfl,rfl,rfl⟩,rfl,rfl,rfl,rfl⟩,⟨rfl,rfl,rfl⟩,⟨rfl,rfl,rfl,rfl⟩,rfl,rfl,rfl,rfl,⟨rfl,rfl⟩,rfl⟩
theorem Pa.eqOwn_kids{a b:Pa}(h:a.eqOwn b):a.kids.length=b.kids.length:=by
 obtain ⟨⟨hk,_⟩,⟨⟨h1,h2,h3,h4,h5⟩,h6,h7,h8,h9⟩,_⟩:=h;rw[ZJ,ZJ];cases a <;> cases b <;> simp only[Pa.kind,Pa.toS,Pa.toD,Pa.toE,Pa.toX] at * <;> omega
theorem yJ{α β:Type}{f:α→β}(hf:∀x y,f x=f y→x=y):∀{l m:List α},l.map f=m.map f→l=m
 | [],[],_=>rfl
 | [],_::_,h=>by simp at h
 | _::_,[],h=>by simp at h
 | x::l,y::m,h=>by
  simp only[qq8,List.cons.injEq] at h;rw[hf x y h.1,yJ hf h.2]
theorem Pa.eq_of{a b:Pa}(h:a.eqOwn b)(hk:a.kids=b.kids):a=b:=by
 obtain ⟨⟨hk0,hf⟩,⟨⟨h1,h2,h3,h4,h5⟩,h6,h7,h8,h9⟩,⟨s1,s2,s3⟩,⟨d1,d2,d3,d4⟩,e1,x1,x2,x3,⟨x4,x5⟩,x6⟩:=h;have iX:∀x y,Pa.ex x=Pa.ex y→x=y:=fun x y h=>by cases h;rfl
 have iS:∀x y,Pa.st x=Pa.st y→x=y:=fun x y h=>by cases h;rfl
 have iE:∀x y,Pa.el x=Pa.el y→x=y:=fun x y h=>by cases h;rfl
 have iD:∀x y,Pa.de x=Pa.de y→x=y:=fun x y h=>by cases h;rfl
 cases a with
 | st s=>
  cases b with
  | st t=>
   simp only[Pa.kids,Pa.toS] at *;obtain ⟨k1,hk⟩:=List.append_inj hk (by simp[h1]);obtain ⟨k2,hk⟩:=List.append_inj hk (by simp[h2]);obtain ⟨k3,hk⟩:=List.append_inj hk (by simp[h3]);obtain ⟨k4,k5⟩:=List.append_inj hk (by simp[h4]);have k1:=yJ iX k1;have k2:=yJ iX k2;have k3:=yJ iE k3;have k4:=yJ iD k4;have k5:=yJ iS k5;cases s;cases t;simp only[Sm.labels,Sm.kind,Sm.text,Sm.targets,Sm.exps,Sm.elems,Sm.decls,Sm.body] at *;subst k1 k2 k3 k4 k5 s1 s2 s3;rfl
  | _=>simp[Pa.kind] at hk0
 | de s=>
  cases b with
  | de t=>
   simp only[Pa.kids,Pa.toD] at *;obtain ⟨k1,k2⟩:=List.append_inj hk (by simp[h6]);have k1:=yJ iX k1;have k2:=yJ iS k2;cases s;cases t;simp only[De.names,De.kind,De.own,De.type,De.exps,De.formals,De.body] at *;subst k1 k2 d1 d2 d3 d4 hf;rfl
  | _=>simp[Pa.kind] at hk0
 | el s=>
  cases b with
  | el t=>
   simp only[Pa.kids,Pa.toE] at *;have k1:=yJ iX hk;cases s;cases t;simp only at *;subst k1 e1;rfl
  | _=>simp[Pa.kind] at hk0
 | ex s=>
  cases b with
  | ex t=>
   simp only[Pa.kids,Pa.toX] at *;have k1:=yJ iX hk;cases s;cases t;simp only[Ex.kind,Ex.op,Ex.n,Ex.man,Ex.exp,Ex.text,Ex.args] at *;subst k1 x1 x2 x3 x4 x5 x6;rfl
  | _=>simp[Pa.kind] at hk0
theorem Pa.toS_ok{p:Pa}(h:p.ok):p.toS.ok:=by cases p <;> first|exact h|exact Ex.z_ok
theorem Pa.toD_ok{p:Pa}(h:p.ok):p.toD.ok:=by cases p <;> first|exact h|exact De.z_ok
theorem qhX{l m:List Pa}(hl:l.length=m.length)(h:∀j,j<l.length→l[j]?=m[j]?):l=m:=by
 apply qrM;intro i;by_cases hi:i<l.length
 ·exact h i hi
 ·rw[qrv (by omega),qrv (by omega)]
def qm8(l m:List Pa)(i:Nat):Prop:=∀j,j<i→l[j]?=m[j]?
open Classical in
theorem qj6:∀(k:Nat) (a b:Pa),a.wt≤k→a.ok→b.ok→a.size≤2000→b.size≤2000→∀S,Fn prog 164 [a.v,b.v] S (.bool (decide (a=b))):=by
 intro k
 induction k with
 | zero=>intro p q h;exfalso;cases p with
  | st s=>cases s;simp[Pa.wt] at h
  | de s=>cases s;simp[Pa.wt] at h
  | el s=>cases s;simp[Pa.wt] at h
  | ex s=>cases s;simp[Pa.wt] at h
 | succ k ih=>
  intro a b hw ha hb hsa hsb;refine Pu.ib func164 ok164 (by simp[c164]) (by simp) rfl ?_;have la:=a.size_eq;have lb:=b.size_eq;have la':=zQ a.kids;have lb':=zQ b.kids;have oa:=a.own_pos;have ob:=b.own_pos;generalize hr:decide (a=b)=r;simp[c164,qG,ldS];refine qg (qkP a.kind b.kind a.toS b.toS a.toD b.toD a.toE b.toE a.toX b.toX (Pa.toS_ok ha) (Pa.toD_ok ha) _) ?_;change qea prog _ _ _ _ (.bool (decide (a.eqOwn b))) _;by_cases he:a.eqOwn b
  case neg=>
   rw[decide_eq_false he];simp;refine qa rfl ?_ rfl;rw[←hr,decide_eq_false (fun h=>he (by rw[h];exact Pa.eqOwn_refl b))];rfl
  rw[decide_eq_true he];have hkl:=Pa.eqOwn_kids he;simp[ldS];refine qg (qaJ a ha (by omega) _) ?_;simp[ldS];refine qg (qaJ b hb (by omega) _) ?_;simp;refine qw (fun j e S'=>∃i:Nat,j=a.kids.length - i∧i≤a.kids.length∧qm8 a.kids b.kids i∧
   e=[(7,.int .i64 i),(5,.sl false (a.kids.map Pa.v)),(6,.sl false (b.kids.map Pa.v))]) a.kids.length _ ?_ ⟨0,by simp,by omega,fun j hj=>by omega,rfl⟩ ?_
  ·exact Env.so (by simp)
  rintro j e S' ⟨i,rfl,hi,hq,rfl⟩;by_cases h:i<a.kids.length
  ·have h':i<b.kids.length:=by omega
   have hk:=Pa.kid_lt (qra h);have q1:=zK (l:=a.kids) (i:=i) (q:=a.kids[i]) (by simp[h]);have q2:=zK (l:=b.kids) (i:=i) (q:=b.kids[i]) (by simp[h']);simp[h,h',qpk];refine Qs (ih a.kids[i] b.kids[i] (by omega) (Pa.kid_ok ha (qra h)) (Pa.kid_ok hb (qra h')) (by omega) (by omega) _) ?_;by_cases hx:a.kids[i]=b.kids[i]
   ·rw[decide_eq_true hx];simp[QZ,zW,yp,zk (n:=(i:Int)+1)];refine ⟨_,?_,_,?_,i+1,rfl,by omega,?_,rfl⟩
    ·omega
    ·exact Env.so (by simp)
    ·intro j hj;by_cases hji:j=i
     ·subst hji;simp[h,h',hx]
     ·exact hq j (by omega)
   ·rw[decide_eq_false hx];simp[QZ,zW,yp];refine qa rfl ?_ rfl;rw[←hr,decide_eq_false (fun hh=>hx (by subst hh;rfl))];rfl
  ·have:i=a.kids.length:=by omega
   subst this;simp;refine qa rfl ?_ rfl;rw[←hr,decide_eq_true (Pa.eq_of he (qhX hkl hq))];rfl
open Classical in
theorem qjV(a b:Pa)(ha:a.ok)(hb:b.ok)(fa:a.fits)(fb:b.fits):∀S,Fn prog 118 [a.v,b.v] S (.bool (decide (a=b))):=by
 refine Pu.ib func118 ok118 (by simp[c118]) (by simp) rfl ?_;simp[c118,qG,ldS];refine qg (qe5 a ha _) ?_;simp[fa,ldS];refine qg (qe5 b hb _) ?_;simp[fb,ldS];refine qg (qj6 _ a b (qqY _) ha hb fa.1 fb.1 _) ?_;simp;exact qa rfl rfl rfl
open Classical in
theorem qoM(a b:Sm)(ha:a.ok)(hb:b.ok)(fa:(Pa.st a).fits)(fb:(Pa.st b).fits):∀S,Fn prog 68 [a.v,b.v] S (.bool (decide (a=b))):=by
 refine Pu.ib func68 ok68 (by simp[c68]) (by simp[V.under]) rfl ?_;simp[c68,qG,ldS];refine Qs (qfo a _) ?_;simp[ldS];refine Qs (qfo b _) ?_;simp;refine Qs (qjV (.st a) (.st b) ha hb fa fb _) ?_;simp[QZ,zW,yp,ldS];exact qa rfl (by simp[qo]) rfl
open Classical in
theorem qjn(a b:Sm)(ha:a.ok)(hb:b.ok)(fa:(Pa.st a).fits)(fb:(Pa.st b).fits):∀S,Fn prog 23 [a.v,b.v] S (.bool (decide (a=b))):=by
 refine Pu.ib func23 ok23 (by simp[c23]) (by simp[V.under]) rfl ?_;simp[c23,qG,ldS];refine qg (qoM a b ha hb fa fb _) ?_;simp;exact qa rfl rfl rfl
set_option maxRecDepth 20000
noncomputable def c122:F':=⟨17,[.t 4],.k [.B 2 0,.B 3 1,.F 4] (.k [.f 5 0 2,.l 6 5,.f 7 0 3,.l 8 7,.b 9 .eql 6 8,.m 10 9,.v 11 10 true (.fa 1 (.t 2)),.M 12 10 true 11,.v 13 10 true (.fa 1 (.t 3)),.M 14 10 true 13,.v 15 10 true (.call (.f 123) [(.t 12),(.t 14)]),.y 16 10 15,.m 4 16] .ret)⟩
theorem ok122:okF f122 c122:=okI
noncomputable def c256:F':=⟨47,[.cell 6 (some 7)],.k [.B 4 1,.o 6 (.new zD)] (.k [.m 10 0,.m 11 2,.j 12 7 4,.c 13 272 12,.x 14 157 10 11 13,.m 7 14] (.k [.f 15 5 4,.l 16 15,.c 17 273 16,.m 8 17] (.seq (.k [.m 18 8,.L 19 18,.G 20 0] (.block 0 (.loop (.k [.b 21 .lss 20 19] (.seq (.d 21 .skip (.exit 0)) (.seq (.block 1 (.k [.m 22 20,.m 9 22] (.reg [.m 23 8,.m 24 9,.m 25 7,.m 26 8,.m 27 9,.i 28 4 26 27,.f 29 0 28,.l 30 29,.w 31 60 25 30,.h 32 31,.f 33 2 32,.l 34 33,.i 35 4 23 24,.f 36 0 35,.s 1 36 34]))) (.reg [.u 37 .add 20 1,.m 20 37]))))))) (.k [.m 38 8,.f 39 5 4,.s 1 39 38] (.k [.m 40 0,.f 41 6 4,.l 42 41,.m 43 7,.x 44 111 40 42 43,.f 45 6 4,.s 1 45 44] (.k [.j 46 7 4,.s 7 6 46] .ret))))))⟩
theorem ok256:okF f256 c256:=okI
noncomputable def c272:F':=⟨4,[.t 2],.k [.B 1 0,.a 2 .nilfn] (.k [.o 3 (.mkf 277 [] [(.t 1)]),.m 2 3] .ret)⟩
theorem ok272:okF f272 c272:=okI
noncomputable def c273:F':=⟨8,[.t 2],.k [.a 2 (.sl true [])] (.seq (.k [.m 3 0,.o 4 (.ex (.eqn false (.t 3)))] (.d 4 (.k [.a 2 (.sl true [])] .ret) .skip)) (.k [.o 5 (.bsl 4 []),.m 6 0,.o 7 (.app 4 40 (.t 5) (.t 6)),.m 2 7] .ret))⟩
theorem ok273:okF f273 c273:=okI
noncomputable def c277:F':=⟨18,[],.k [.f 5 5 1,.l 6 5,.L 7 6,.G 8 0] (.block 0 (.loop (.k [.b 9 .lss 8 7] (.seq (.d 9 .skip (.exit 0)) (.seq (.block 1 (.k [.i 10 4 6 8,.j 11 4 10,.o 4 (.new zF),.s 4 4 11] (.k [.m 12 0,.f 13 0 4,.l 14 13,.o 15 (.call (.t 12) [(.t 14)]),.o 16 (.un .not (.t 15))] (.d 16 .ret .skip)))) (.reg [.u 17 .add 8 1,.m 8 17]))))))⟩
theorem ok277:okF f277 c277:=okI
end Go.Proofs.YtbifpocccfkhhaaGreatDoor
end
