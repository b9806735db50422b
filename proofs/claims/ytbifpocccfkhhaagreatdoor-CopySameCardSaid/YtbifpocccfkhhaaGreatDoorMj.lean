/- Part of the proof. -/
import Derived.Test.YtbifpocccfkhhaaGreatDoorMi
set_option linter.all false
noncomputable section
namespace Go.Proofs.YtbifpocccfkhhaaGreatDoor
open Go Go.Proofs.Tryz
theorem qct(cs:List V)(off n:Nat):V.part (.agg cs) off (some n)=if off=0∧n=cs.length then some (.agg cs) else if off+n≤cs.length then some (.agg ((cs.drop off).take n)) else none:=by
 by_cases h:off=0∧n=cs.length
 ·simp[V.part,h]
 ·have:¬ (off=0∧n=(V.agg cs).size∧(V.agg cs).isAgg=true):=fun hh=>h ⟨hh.1,by simpa using hh.2.1⟩
  simp only[V.part,if_neg this,if_neg h]
@[simp] theorem part_Ex2(x:Ex):V.part x.v 3 (some 2)=some (.agg [.int .i64 x.man,.int .i64 x.exp]):=by rw[Ex.v_eq];rfl
theorem qaq(cs:List V)(off n:Nat)(y:V):V.upd (.agg cs) off n y=if y.size=n∧y.cells.all V.flat=true then (if off=0∧n=cs.length then some y else if off+n≤cs.length then some (.agg (cs.take off++y.cells++cs.drop (off+n))) else none) else none:=rfl
theorem qkg(x:Ex)(off n:Nat)(y:V):V.upd x.v off n y=V.upd (.agg [.int .i64 x.kind,.int .i64 x.op,.int .i64 x.n,.int .i64 x.man,.int .i64 x.exp,.str x.text,.sl false (x.args.map Ex.v)]) off n y:=by rw[Ex.v_eq]
theorem qgO(d:De)(off n:Nat)(y:V):V.upd d.v off n y=V.upd (.agg [.int .i64 d.kind,.bool d.own,.int .i64 d.type,.sl false (d.names.map .str),.sl false (d.exps.map Ex.v),.sl false (d.formals.map Fo.v),.sl false (d.body.map Sm.v)]) off n y:=by rw[De.v_eq]
theorem qcR(s:Sm)(off n:Nat)(y:V):V.upd s.v off n y=V.upd (.agg [.sl false (s.labels.map .str),.int .i64 s.kind,.str s.text,.sl false (s.targets.map Ex.v),.sl false (s.exps.map Ex.v),.sl false (s.elems.map El.v),.sl false (s.decls.map De.v),.sl false (s.body.map Sm.v)]) off n y:=by rw[Sm.v_eq]
theorem qqM(f:Fo)(off n:Nat)(y:V):V.upd f.v off n y=V.upd (.agg [.str f.name,.bool f.value,.int .i64 f.spec,.int .i64 f.type]) off n y:=rfl
theorem qku(k:IntKind)(m:Int)(y:V):V.upd (.int k m) 0 1 y=if y.size=1∧y.cells.all V.flat=true then some y else none:=rfl
theorem qb4(b:Bool)(y:V):V.upd (.bool b) 0 1 y=if y.size=1∧y.cells.all V.flat=true then some y else none:=rfl
theorem qkS(y:V):V.upd .nilfn 0 1 y=if y.size=1∧y.cells.all V.flat=true then some y else none:=rfl
theorem qaG{a lo hi:Int}(h:¬ (lo≤a∧a≤hi)):(decide (lo≤a) && decide (a≤hi))=false:=by
 by_cases h1:lo≤a
 ·have h2:¬ a≤hi:=fun hh=>h ⟨h1,hh⟩
  simp[h1,h2]
 ·simp[h1]
theorem qaL{a lo hi:Int}(h:lo≤a∧a≤hi):(decide (lo≤a) && decide (a≤hi))=true:=by simp[h.1,h.2]
theorem qaw(n lo hi:Int):∀S,Fn prog 209 [.int .i64 n,.int .i64 lo,.int .i64 hi] S (.bool (decide (lo≤n) && decide (n≤hi))):=by
 refine Pu.ib func209 ok209 (by simp[c209]) (by simp[V.under]) rfl ?_;by_cases h:lo≤n
 ·simp[c209,h];exact qaa rfl rfl rfl
 ·simp[c209,h];exact qaa rfl rfl rfl
def arL(k:Int):Int:=if k=7 then 1 else if k=8 then 1 else if k=9 then 1 else if k=10 then 2 else if k=11 then 3 else 0
def arH(k:Int):Int:=if k=7 then 4 else if k=8 then 8 else if k=9 then 1 else if k=10 then 2 else if k=11 then 3 else 0
theorem qbK(k:Int):∀S,Fn prog 208 [.int .i64 k] S (.tup [.int .i64 (arL k),.int .i64 (arH k)]):=by
 refine Pu.ib func208 ok208 (by simp[c208]) (by simp[V.under]) rfl ?_;by_cases h7:k=7
 ·simp[c208,h7];exact qaa rfl rfl rfl
 by_cases h8:k=8
 ·simp[c208,h8];exact qaa rfl rfl rfl
 by_cases h9:k=9
 ·simp[c208,h9];exact qaa rfl rfl rfl
 by_cases h10:k=10
 ·simp[c208,h10];exact qaa rfl rfl rfl
 by_cases h11:k=11
 ·simp[c208,h11];exact qaa rfl rfl rfl
 simp[c208,h7,h8,h9,h10,h11];exact qaa rfl (by simp[retV,arL,arH,h7,h8,h9,h10,h11]) rfl
def fitB(lo hi n:Int):Bool:=decide (lo≤n) && (decide (hi<0) || decide (n≤hi))
theorem qas(lo hi n:Int):∀S,Fn prog 212 [.agg [.int .i64 lo,.int .i64 hi],.int .i64 n] S (.bool (fitB lo hi n)):=by
 refine Pu.intro (R:=fun v=>v=.bool (fitB lo hi n)) func212 ok212 (by simp[c212]) (by simp[V.under,V.underL]) (by rintro v rfl;rfl) ?_;by_cases h:lo≤n
 ·by_cases h2:hi<0
  ·simp[c212,boxS,ldS,h,h2];exact qaa rfl (by simp[retV,fitB,h,h2]) rfl
  ·simp[c212,boxS,ldS,h,h2];exact qaa rfl (by simp[retV,fitB,h,h2]) rfl
 ·simp[c212,boxS,ldS,h];exact qaa rfl (by simp[retV,fitB,h]) rfl
theorem qoc(m:Int)(h:0≤m):IntKind.i64.wrap (-m)≤m∨9223372036854775808≤m:=by
 rw[IntKind.wrap_i64];omega
theorem qqt(m:Int):IntKind.i64.wrap m≤9223372036854775807∧-9223372036854775808≤IntKind.i64.wrap m:=by
 rw[IntKind.wrap_i64];omega
theorem qm9(m:Int):(if m<IntKind.i64.wrap (-m) then IntKind.i64.wrap (-m) else m)=mag m:=by
 unfold mag;have h1:=qqt (-m);by_cases h:m<0
 ·rw[if_pos h];split
  ·rfl
  ·rename_i h2;rw[IntKind.wrap_i64] at *;omega
 ·rw[if_neg h];rcases qoc m (by omega) with h2|h2
  ·rw[if_neg (by omega)]
  ·rw[if_neg (by omega)]
theorem qaV(m e m' e':Int):qaT [.int .i64 m,.int .i64 e] [.int .i64 m',.int .i64 e'] [(0,.i),(1,.i)]=some (decide (m=m'∧e=e')):=by
 by_cases h1:m=m'
 ·by_cases h2:e=e'
  ·have h3:(m==m')=true:=by simpa using h1
   have h4:(e==e')=true:=by simpa using h2
   simp[qaT,qcd,h1,h2]
  ·have h4:(e==e')=false:=by simpa using h2
   simp[qaT,qcd,h1,h4,h2]
 ·have h3:(m==m')=false:=by simpa using h1
  simp[qaT,qcd,h3,h1]
theorem qnR(m e:Int):∀S,Fn prog 210 [.agg [.int .i64 m,.int .i64 e]] S (.bool (rvOk m e)):=by
 refine Pu.intro (R:=fun v=>v=.bool (rvOk m e)) func210 ok210 (by simp[c210]) (by simp[V.under,V.underL]) (by rintro v rfl;rfl) ?_;have hm:=qm9 m;by_cases h0:m=0∧e=0
 ·obtain ⟨rfl,rfl⟩:=h0;simp[c210,boxS,ldS,V.part,qa2,qaQ,evX,qaV];exact qaa rfl rfl rfl
 have hr:rvOk m e=(decide (1≤mag m∧mag m<16777216) && (decide (e=-150) || (decide (8388608≤mag m) && decide (-150<e∧e≤150)))):=by
  unfold rvOk;rw[decide_eq_false h0];rfl
 rw[hr];simp[c210,boxS,ldS,V.part,qa2,qaQ,evX,qaV,h0,mmV,hm];clear hr hm;generalize mag m=a at *;by_cases g1:a<1
 ·simp[g1,show ¬ 1≤a by omega];exact qaa rfl rfl rfl
 by_cases g2:16777216≤a
 ·simp[g1,g2,show ¬ a<16777216 by omega];exact qaa rfl rfl rfl
 by_cases g3:e=-150
 ·simp[ldS,g1,g2,g3,show 1≤a by omega,show a<16777216 by omega];exact qaa rfl rfl rfl
 by_cases g4:8388608≤a
 ·by_cases g5:-150<e
  ·simp[ldS,g1,g2,g3,g4,g5,show 1≤a by omega,show a<16777216 by omega];exact qaa rfl rfl rfl
  ·simp[ldS,g1,g2,g3,g4,g5,show 1≤a by omega,show a<16777216 by omega];exact qaa rfl rfl rfl
 ·simp[ldS,g1,g2,g3,g4,show 1≤a by omega,show a<16777216 by omega];exact qaa rfl rfl rfl
def no(_:Nat):Prop:=False
def anyQ{α:Type}(l:List α)(q:α→Bool):Bool:=l.any q
theorem qoC(s:ByteArray):∀S,Fn prog 249 [.str s] S (.bool (!qac s)):=by
 refine Pu.ib func249 ok249 (by simp[c249]) (by simp[V.under]) rfl ?_;simp[c249];refine qad (qfi s _) ?_;simp;exact qaa rfl rfl rfl
theorem qn6(x:Ex):∀S,Fn prog 253 [x.v] S (.bool (!x.tgt)):=by
 refine Pu.ib func253 ok253 (by simp[c253]) (by simp[V.under]) rfl ?_;by_cases h6:x.kind=6
 ·simp[c253,boxS,ldS,h6];exact qaa rfl (by simp[retV,Ex.tgt,h6]) rfl
 ·simp[c253,boxS,ldS,h6];exact qaa rfl (by simp[retV,Ex.tgt,h6]) rfl
theorem qpj(b:Bool)(l:List ByteArray)(hl:l.length≤B50)(g:Nat)(cs:List V)(q:ByteArray→Bool)(S:St)(h:∀x,x∈l→∀U,Kp no S U→Spec prog g (.str x::cs) U (fun v U'=>v=.bool (q x)∧Kp no U U')):
  Spec prog 173 [.sl b (l.map V.str),.fn (.func g) [] cs] S (fun v U=>(∃n:Int,v=.int .i64 n∧(0≤n↔anyQ l q=true))∧Kp no S U):=by
 unfold B50 at hl;refine Spec.intro func173 ok173 (by simp[c173]) ?_;simp only[c173];simp;refine qax (fun j e S'=>∃i:Nat,j=l.length - i∧i≤l.length∧anyQ (l.take i) q=false∧Kp no S S'∧
  e=[(8,.int .i64 i),(7,.int .i64 l.length),(6,.sl b (l.map V.str)),(0,.sl b (l.map V.str)),(1,.fn (.func g) [] cs)]) l.length _ ?_ ⟨0,by simp,by omega,rfl,Kp.refl _ _,rfl⟩ ?_
 ·exact Env.so (by simp)
 rintro j e S' ⟨i,rfl,hi,hq,hk,rfl⟩;by_cases h1:i<l.length
 ·have h2:=h l[i] (qrf h1) S' hk;simp[h1,qe8];refine qan h2 ?_;rintro v U' ⟨rfl,hk'⟩
  cases h3:q l[i] with
  | true=>
   simp;refine qah rfl ⟨⟨i,rfl,?_⟩,hk.trans hk'⟩;exact ⟨fun _=>List.any_eq_true.2 ⟨l[i],qrf h1,h3⟩,fun _=>by omega⟩
  | false=>
   simp[qa6 (n:=(i:Int)+1)];refine ⟨_,?_,_,?_,i+1,rfl,by omega,?_,hk.trans hk',rfl⟩
   ·omega
   ·exact Env.so (by simp)
   ·unfold anyQ at *;rw[qrv,qrd h1,List.any_append,hq];simp[h3]
 ·simp[h1];refine qah rfl ⟨⟨-1,rfl,?_⟩,hk⟩;rw[qr2 (by omega)] at hq;rw[hq];exact ⟨fun h=>absurd h (by decide),fun h=>by cases h⟩
theorem qnL(b:Bool)(l:List ByteArray)(hl:l.length≤B50)(g:Nat)(cs:List V)(q:ByteArray→Bool)(S:St)(h:∀x,x∈l→∀U,Kp no S U→Spec prog g (.str x::cs) U (fun v U'=>v=.bool (q x)∧Kp no U U')):
  Spec prog 138 [.sl b (l.map V.str),.fn (.func g) [] cs] S (fun v U=>v=.bool (anyQ l q)∧Kp no S U):=by
 refine Spec.intro func138 ok138 (by simp[c138]) ?_;simp only[c138];simp;refine qan (qpj b l hl g cs q S h) ?_;rintro v U ⟨⟨n,rfl,hn⟩,hk⟩;simp;refine qah rfl ⟨?_,hk⟩
 cases ha:anyQ l q with
 | true=>simp[retV,hn.2 ha]
 | false=>
  have:¬ 0≤n:=fun hh=>by rw[hn.1 hh] at ha;cases ha
  simp[retV,this]
theorem qn5(b:Bool)(l:List Fo)(hl:l.length≤B50)(g:Nat)(cs:List V)(q:Fo→Bool)(S:St)(h:∀x,x∈l→∀U,Kp no S U→Spec prog g (Fo.v x::cs) U (fun v U'=>v=.bool (q x)∧Kp no U U')):
  Spec prog 169 [.sl b (l.map Fo.v),.fn (.func g) [] cs] S (fun v U=>(∃n:Int,v=.int .i64 n∧(0≤n↔anyQ l q=true))∧Kp no S U):=by
 unfold B50 at hl;refine Spec.intro func169 ok169 (by simp[c169]) ?_;simp only[c169];simp;refine qax (fun j e S'=>∃i:Nat,j=l.length - i∧i≤l.length∧anyQ (l.take i) q=false∧Kp no S S'∧
  e=[(8,.int .i64 i),(7,.int .i64 l.length),(6,.sl b (l.map Fo.v)),(0,.sl b (l.map Fo.v)),(1,.fn (.func g) [] cs)]) l.length _ ?_ ⟨0,by simp,by omega,rfl,Kp.refl _ _,rfl⟩ ?_
 ·exact Env.so (by simp)
 rintro j e S' ⟨i,rfl,hi,hq,hk,rfl⟩;by_cases h1:i<l.length
 ·have h2:=h l[i] (qrf h1) S' hk;simp[h1,iaFo];refine qan h2 ?_;rintro v U' ⟨rfl,hk'⟩
  cases h3:q l[i] with
  | true=>
   simp;refine qah rfl ⟨⟨i,rfl,?_⟩,hk.trans hk'⟩;exact ⟨fun _=>List.any_eq_true.2 ⟨l[i],qrf h1,h3⟩,fun _=>by omega⟩
  | false=>
   simp[qa6 (n:=(i:Int)+1)];refine ⟨_,?_,_,?_,i+1,rfl,by omega,?_,hk.trans hk',rfl⟩
   ·omega
   ·exact Env.so (by simp)
   ·unfold anyQ at *;rw[qrv,qrd h1,List.any_append,hq];simp[h3]
 ·simp[h1];refine qah rfl ⟨⟨-1,rfl,?_⟩,hk⟩;rw[qr2 (by omega)] at hq;rw[hq];exact ⟨fun h=>absurd h (by decide),fun h=>by cases h⟩
theorem qnJ(b:Bool)(l:List Fo)(hl:l.length≤B50)(g:Nat)(cs:List V)(q:Fo→Bool)(S:St)(h:∀x,x∈l→∀U,Kp no S U→Spec prog g (Fo.v x::cs) U (fun v U'=>v=.bool (q x)∧Kp no U U')):
  Spec prog 131 [.sl b (l.map Fo.v),.fn (.func g) [] cs] S (fun v U=>v=.bool (anyQ l q)∧Kp no S U):=by
 refine Spec.intro func131 ok131 (by simp[c131]) ?_;simp only[c131];simp;refine qan (qn5 b l hl g cs q S h) ?_;rintro v U ⟨⟨n,rfl,hn⟩,hk⟩;simp;refine qah rfl ⟨?_,hk⟩
 cases ha:anyQ l q with
 | true=>simp[retV,hn.2 ha]
 | false=>
  have:¬ 0≤n:=fun hh=>by rw[hn.1 hh] at ha;cases ha
  simp[retV,this]
theorem qnl(b:Bool)(l:List Ex)(hl:l.length≤B50)(g:Nat)(cs:List V)(q:Ex→Bool)(S:St)(h:∀x,x∈l→∀U,Kp no S U→Spec prog g (Ex.v x::cs) U (fun v U'=>v=.bool (q x)∧Kp no U U')):
  Spec prog 269 [.sl b (l.map Ex.v),.fn (.func g) [] cs] S (fun v U=>(∃n:Int,v=.int .i64 n∧(0≤n↔anyQ l q=true))∧Kp no S U):=by
 unfold B50 at hl;refine Spec.intro func269 ok269 (by simp[c269]) ?_;simp only[c269];simp;refine qax (fun j e S'=>∃i:Nat,j=l.length - i∧i≤l.length∧anyQ (l.take i) q=false∧Kp no S S'∧
  e=[(8,.int .i64 i),(7,.int .i64 l.length),(6,.sl b (l.map Ex.v)),(0,.sl b (l.map Ex.v)),(1,.fn (.func g) [] cs)]) l.length _ ?_ ⟨0,by simp,by omega,rfl,Kp.refl _ _,rfl⟩ ?_
 ·exact Env.so (by simp)
 rintro j e S' ⟨i,rfl,hi,hq,hk,rfl⟩;by_cases h1:i<l.length
 ·have h2:=h l[i] (qrf h1) S' hk;simp[h1,iaEx];refine qan h2 ?_;rintro v U' ⟨rfl,hk'⟩
  cases h3:q l[i] with
  | true=>
   simp;refine qah rfl ⟨⟨i,rfl,?_⟩,hk.trans hk'⟩;exact ⟨fun _=>List.any_eq_true.2 ⟨l[i],qrf h1,h3⟩,fun _=>by omega⟩
  | false=>
   simp[qa6 (n:=(i:Int)+1)];refine ⟨_,?_,_,?_,i+1,rfl,by omega,?_,hk.trans hk',rfl⟩
   ·omega
   ·exact Env.so (by simp)
   ·unfold anyQ at *;rw[qrv,qrd h1,List.any_append,hq];simp[h3]
 ·simp[h1];refine qah rfl ⟨⟨-1,rfl,?_⟩,hk⟩;rw[qr2 (by omega)] at hq;rw[hq];exact ⟨fun h=>absurd h (by decide),fun h=>by cases h⟩
theorem qnw(b:Bool)(l:List Ex)(hl:l.length≤B50)(g:Nat)(cs:List V)(q:Ex→Bool)(S:St)(h:∀x,x∈l→∀U,Kp no S U→Spec prog g (Ex.v x::cs) U (fun v U'=>v=.bool (q x)∧Kp no U U')):
  Spec prog 252 [.sl b (l.map Ex.v),.fn (.func g) [] cs] S (fun v U=>v=.bool (anyQ l q)∧Kp no S U):=by
 refine Spec.intro func252 ok252 (by simp[c252]) ?_;simp only[c252];simp;refine qan (qnl b l hl g cs q S h) ?_;rintro v U ⟨⟨n,rfl,hn⟩,hk⟩;simp;refine qah rfl ⟨?_,hk⟩
 cases ha:anyQ l q with
 | true=>simp[retV,hn.2 ha]
 | false=>
  have:¬ 0≤n:=fun hh=>by rw[hn.1 hh] at ha;cases ha
  simp[retV,this]
theorem qk9{α:Type}(l:List α)(q:α→Bool):(!anyQ l fun x=>!q x)=l.all q:=by
 unfold anyQ
 induction l with
 | nil=>rfl
 | cons x l ih=>simp only[List.any_cons,List.all_cons,Bool.not_or,Bool.not_not,ih]
theorem qbL(l:List ByteArray)(hl:l.length≤B50):∀S,Fn prog 213 [.sl false (l.map .str)] S (.bool (l.all qac)):=by
 refine Pu.ib func213 ok213 (by simp[c213]) (by simp[V.under]) rfl ?_;simp only[c213];simp;refine qan (qnL false l hl 249 [] (fun x=>!qac x) _ fun x _ U _=>(qoC x U).mono fun v U' h=>⟨h.1,by rw[h.2];exact Kp.refl _ _⟩) ?_;rintro v U ⟨rfl,_⟩;simp;refine qaa rfl ?_ rfl;simp only[retV,qk9]
theorem qcP(l:List Ex)(hl:l.length≤B50):∀S,Fn prog 215 [.sl false (l.map Ex.v)] S (.bool (l.all Ex.tgt)):=by
 refine Pu.ib func215 ok215 (by simp[c215]) (by simp[V.under]) rfl ?_;simp only[c215];simp;refine qan (qnw false l hl 253 [] (fun x=>!x.tgt) _ fun x _ U _=>(qn6 x U).mono fun v U' h=>⟨h.1,by rw[h.2];exact Kp.refl _ _⟩) ?_;rintro v U ⟨rfl,_⟩;simp;refine qaa rfl ?_ rfl;simp only[retV,qk9]
theorem qpl(f:Fo):∀S,Fn prog 250 [f.v] S (.bool (f.vOwn qac)):=by
 refine Pu.ib func250 ok250 (by simp[c250]) (by simp[V.under]) rfl ?_;simp[c250,boxS,ldS];refine qad (qfi f.name _) ?_
 cases hn:qac f.name with
 | false=>
  simp;exact qaa rfl (by simp[retV,Fo.vOwn,hn]) rfl
 | true=>
  have hv:f.vOwn qac=(if f.spec=0∨f.spec=3∨f.spec=4∨f.spec=5 then decide (f.type=0) && !f.value
   else if f.spec=1 then decide (1≤f.type∧f.type≤3)
   else if f.spec=2 then decide (0≤f.type∧f.type≤3) && (!f.value || decide (f.type≠0))
   else if f.spec=6 then decide (0≤f.type∧f.type≤3) && !f.value
   else false):=by unfold Fo.vOwn;rw[hn];rfl
  rw[hv];by_cases h0:f.spec=0
  ·by_cases ht:f.type=0
   ·simp[ldS,h0,ht];exact qaa rfl rfl rfl
   ·simp[ldS,h0,ht];exact qaa rfl rfl rfl
  by_cases h3:f.spec=3
  ·by_cases ht:f.type=0
   ·simp[ldS,h3,ht];exact qaa rfl rfl rfl
   ·simp[ldS,h3,ht];exact qaa rfl rfl rfl
  by_cases h4:f.spec=4
  ·by_cases ht:f.type=0
   ·simp[ldS,h4,ht];exact qaa rfl rfl rfl
   ·simp[ldS,h4,ht];exact qaa rfl rfl rfl
  by_cases h5:f.spec=5
  ·by_cases ht:f.type=0
   ·simp[ldS,h5,ht];exact qaa rfl rfl rfl
   ·simp[ldS,h5,ht];exact qaa rfl rfl rfl
  by_cases h1:f.spec=1
  ·simp[ldS,h1];refine qad (qaw _ _ _ _) ?_;simp;exact qaa rfl rfl rfl
  by_cases h2:f.spec=2
  ·simp[ldS,h2];refine qad (qaw _ _ _ _) ?_
   cases hr:decide (0≤f.type) && decide (f.type≤3) with
   | false=>
    simp;exact qaa rfl rfl rfl
   | true=>
    cases hval:f.value with
    | false=>
     simp[ldS,hval];exact qaa rfl rfl rfl
    | true=>
     simp[ldS,hval];exact qaa rfl rfl rfl
  by_cases h6:f.spec=6
  ·simp[ldS,h6];refine qad (qaw _ _ _ _) ?_
   cases hr:decide (0≤f.type) && decide (f.type≤3) with
   | false=>
    simp;exact qaa rfl rfl rfl
   | true=>
    simp[ldS];exact qaa rfl rfl rfl
  simp[ldS,h0,h1,h2,h3,h4,h5,h6];exact qaa rfl rfl rfl
theorem qnf(f g:Fo)(L:Nat)(S:St)(h:S[L]?=some (.arr [f.v] 4 1)):Spec prog 251 [g.v,.ptr L 0 0 1] S (fun v U=>v=.bool (decide (g.name=f.name))∧Kp no S U):=by
 refine Spec.intro func251 ok251 (by simp[c251]) ?_;simp[c251,boxS,ldS,gp h];exact qah rfl ⟨rfl,(Kp.refl _ _).push _⟩
theorem qcz(nm:ByteArray→Bool):∀(l m:List Fo) (had:List ByteArray),qca nm (l++m) had=(qca nm l had && qca nm m (had++l.map Fo.name))
 | [],m,had=>by simp[qca]
 | f::l,m,had=>by
  simp only[qru,qca,qcz nm l m,qrm,qrk,List.singleton_append,qsC,qru,Bool.and_assoc]
theorem qqW{l:List V}{k:Nat}(hk:k≤l.length){sz:Nat}(hs:∀x,x∈l→x.size=sz)(S:St):qbj S sz (.sl false l) none (some (k:Int))=some (.sl false (l.take k)):=by
 simp[qbj,hk];exact hs
def prB(l:List UInt8):Bool:=l.all qfb
theorem qdK(l:List Fo)(hl:l.length≤B50):∀S,Fn prog 214 [.sl false (l.map Fo.v)] S (.bool (qca qac l [])):=by
 refine Pu.ib func214 ok214 (by simp[c214]) (by simp[V.under]) rfl ?_;unfold B50 at hl;simp only[c214];simp;refine qax (fun j e S'=>∃i:Nat,j=l.length - i∧i≤l.length∧qca qac (l.take i) []=true∧
  e=[(7,.int .i64 i),(6,.int .i64 l.length),(5,.sl false (l.map Fo.v)),(0,.sl false (l.map Fo.v))]) l.length _ ?_ ⟨0,by simp,by omega,rfl,rfl⟩ ?_
 ·exact Env.so (by simp)
 rintro j e S' ⟨i,rfl,hi,hq,rfl⟩;by_cases h:i<l.length
 ·have hnext:qca qac (l.take (i+1)) []=(l[i].vOwn qac && !((l.take i).map Fo.name).any fun x=>decide (x=l[i].name)):=by
   rw[qrv,qrd h,qsc,qcz,hq];simp[qca]
  have hall:qca qac l []=true→qca qac (l.take (i+1)) []=true:=fun hh=>by
   rw[←qr7 (i+1) l,qcz,qri] at hh;exact hh.1
  simp[h,iaFo,boxS,stS,qbc,ldS];refine qad (qpl l[i] _) ?_
  cases hv:l[i].vOwn qac with
  | false=>
   simp;refine qaa rfl ?_ rfl;simp only[retV,V.bool.injEq]
   cases hh:qca qac l [] with
   | false=>rfl
   | true=>rw[hall hh,hv] at hnext;simp at hnext
  | true=>
   rw[hv] at hnext;have hs:=qqW (l:=l.map Fo.v) (k:=i) (by simp;omega) (sz:=4) (fun x hx=>by obtain ⟨y,_,rfl⟩:=qrp.1 hx;rfl) (S'++[Ob.arr [l[i].v] 4 1]);simp[qeW,hs];rw[←List.map_take];refine qan (qnJ false (l.take i) (by rw[qsq];unfold B50;omega) 251 [.ptr S'.length 0 0 1] (fun g=>decide (g.name=l[i].name)) _ fun x _ U hk=>qnf l[i] x S'.length U (hk.at (by simp) (fun h=>h))) ?_;rintro v U ⟨rfl,hk⟩
   have he:anyQ (l.take i) (fun g=>decide (g.name=l[i].name))=((l.take i).map Fo.name).any fun x=>decide (x=l[i].name):=by
    unfold anyQ;rw[List.any_map];rfl
   rw[he]
   cases hc:((l.take i).map Fo.name).any fun x=>decide (x=l[i].name) with
   | true=>
    rw[hc] at hnext;simp;refine qaa rfl ?_ rfl;simp only[retV,V.bool.injEq]
    cases hh:qca qac l [] with
    | false=>rfl
    | true=>rw[hall hh] at hnext;simp at hnext
   | false=>
    rw[hc] at hnext;simp[qa6 (n:=(i:Int)+1)];refine ⟨_,?_,_,?_,i+1,rfl,by omega,by rw[hnext];rfl,rfl⟩
    ·omega
    ·exact Env.so (by simp)
 ·simp[h];refine qaa rfl ?_ rfl;rw[qr2 (by omega)] at hq;simp only[retV,hq]
theorem qpr(s:ByteArray)(hs:s.size≤B50):∀S,Fn prog 211 [.str s] S (.bool (qdU s)):=by
 refine Pu.ib func211 ok211 (by simp[c211]) (by simp[V.under]) rfl ?_;unfold B50 at hs;have hp:qdU s=(prB s.data.toList && decide (s.size≤80)):=rfl;generalize hpr:qdU s=pr at hp ⊢;simp only[c211];simp;refine qax (fun j e S'=>∃i:Nat,j=s.size - i∧i≤s.size∧prB (s.data.toList.take i)=true∧
  e=[(3,.int .i64 i),(0,.str s)]) s.size _ ?_ ⟨0,by simp,by omega,rfl,rfl⟩ ?_
 ·exact Env.so (by simp)
 rintro j e S' ⟨i,rfl,hi,hq,rfl⟩;by_cases h:i<s.size
 ·have hb:s.data.toList[i]?=some (s.data[i]'h):=by simp[h]
  generalize hx:s.data[i]'h=x at hb;have hi':idxV s i=some (.int .u8 x.toNat):=by rw[←hx];exact idxS h
  have hlt:=x.toNat_lt
  have hno:qfb x=false→pr=false:=fun hh=>by
   rw[hp,Bool.and_eq_false_iff];left
   cases ha:prB s.data.toList with
   | false=>rfl
   | true=>
    unfold prB at ha;rw[qrn] at ha;rw[ha x (qrb hb)] at hh;cases hh
  simp[h,hi',qaJ (n:=(x.toNat:Int)) (by omega) (by omega)];refine qad (qaw _ _ _ _) ?_;by_cases h1:(32:Int)≤x.toNat∧(x.toNat:Int)≤126
  ·rw[show (decide ((32:Int)≤x.toNat) && decide ((x.toNat:Int)≤126))=true by simp[h1]];by_cases h2:(x.toNat:Int)=34
   ·simp[hi',h2];refine qaa rfl ?_ rfl;rw[hno (by unfold qfb;simp;omega)];rfl
   ·simp[hi',h2,qa6 (n:=(i:Int)+1)];refine ⟨_,?_,_,?_,i+1,rfl,by omega,?_,rfl⟩
    ·omega
    ·exact Env.so (by simp)
    ·unfold prB at *;rw[qrv,List.all_append,hq,hb];simp[qfb];omega
  ·rw[show (decide ((32:Int)≤x.toNat) && decide ((x.toNat:Int)≤126))=false by simp;omega];simp;refine qaa rfl ?_ rfl;rw[hno (by unfold qfb;simp;omega)];rfl
 ·simp[h];have hsz:s.data.toList.length=s.size:=rfl;rw[qr2 (by omega)] at hq;refine qaa rfl ?_ rfl;rw[hp,hq];simp only[retV,V.bool.injEq,Bool.true_and,decide_eq_decide];omega
theorem qnh(e:El):∀S,Fn prog 181 [e.v] S (.bool e.vOwn):=by
 refine Pu.ib func181 ok181 (by simp[c181]) (by simp[V.under]) rfl ?_;unfold El.vOwn;by_cases h1:e.kind=1
 ·simp[c181,boxS,ldS,h1];exact qaa rfl (by simp[retV];omega) rfl
 by_cases h2:e.kind=2
 ·simp[c181,boxS,ldS,h2];exact qaa rfl (by simp[retV];omega) rfl
 by_cases h3:e.kind=3
 ·simp[c181,boxS,ldS,h3];exact qaa rfl (by simp[retV];omega) rfl
 simp[c181,boxS,ldS,h1,h2,h3];exact qaa rfl rfl rfl
section
attribute [local simp] boxS ldS stS qaq qkg qku qb4 qct qa2 qaQ evX qaV
theorem Ex.vOwn_eq(nm:ByteArray→Bool)(x:Ex):x.vOwn nm=(
 if x.kind=1 then decide (0≤x.n∧x.n≤2147483647) && decide (x.args.length=0) && decide (x.op=0) && (decide (x.man=0) && decide (x.exp=0)) && qaW x.text
 else if x.kind=2 then rvOk x.man x.exp && decide (0≤x.man) && decide (x.args.length=0) && decide (x.op=0) && decide (x.n=0) && qaW x.text
 else if x.kind=3∨x.kind=4 then decide (x.args.length=0) && decide (x.op=0) && decide (x.n=0) && (decide (x.man=0) && decide (x.exp=0)) && qaW x.text
 else if x.kind=5 then qdU x.text && decide (x.args.length=0) && decide (x.op=0) && decide (x.n=0) && (decide (x.man=0) && decide (x.exp=0))
 else if x.kind=6 then nm x.text && decide (x.args.length=0) && decide (x.op=0) && decide (x.n=0) && (decide (x.man=0) && decide (x.exp=0))
 else if x.kind=7 then nm x.text && decide (1≤x.args.length∧x.args.length≤4) && decide (x.op=0) && decide (x.n=0) && (decide (x.man=0) && decide (x.exp=0))
 else if x.kind=8 then nm x.text && decide (1≤x.args.length∧x.args.length≤8) && decide (x.op=0) && decide (x.n=0) && (decide (x.man=0) && decide (x.exp=0))
 else if x.kind=9 then decide (x.op=1∨x.op=2) && decide (x.args.length=1) && decide (x.n=0) && (decide (x.man=0) && decide (x.exp=0)) && qaW x.text
 else if x.kind=10 then decide (3≤x.op∧x.op≤18) && decide (x.args.length=2) && decide (x.n=0) && (decide (x.man=0) && decide (x.exp=0)) && qaW x.text
 else if x.kind=11 then decide (x.args.length=3) && decide (x.op=0) && decide (x.n=0) && (decide (x.man=0) && decide (x.exp=0)) && qaW x.text
 else false):=by cases x;rfl
theorem qaD{t:ByteArray}(h:t=⟨⟨[]⟩⟩):qaW t=true:=by subst h;rfl
theorem qaA{t:ByteArray}(h:¬ t=⟨⟨[]⟩⟩):qaW t=false:=decide_eq_false fun hh=>h (qeI.2 hh)
theorem qkb(x:Ex)(hx:x.ok)(h1:x.kind=1):∀S,Fn prog 180 [x.v] S (.bool (x.vOwn qac)):=by
 refine Pu.ib func180 ok180 (by simp[c180]) (by simp[V.under]) rfl ?_;have hv:=Ex.vOwn_eq qac x;generalize x.vOwn qac=r at hv ⊢
 ·simp only[h1] at hv;simp at hv;simp[c180,boxS,ldS,h1];refine qad (qbK _ _) ?_;simp[arL,arH,ldS,h1];refine qad (qaw _ _ _ _) ?_;simp[ldS];refine qad (qaw _ _ _ _) ?_;by_cases hl:0≤x.args.length∧x.args.length≤0
  case neg=>
   rw[qaG (a:=(x.args.length:Int)) (lo:=0) (hi:=0) (by omega)];simp;refine qaa rfl ?_ rfl;rw[hv];simp only[retV,V.bool.injEq,qsj];have:¬ x.args=[]:=fun hh=>hl (by rw[hh];simp)
   simp[this]
  rw[qaL (a:=(x.args.length:Int)) (lo:=0) (hi:=0) (by omega)];have hl':x.args=[]:=qrr (by omega);simp[h1];refine qad (qaw _ _ _ _) ?_;by_cases hb:0≤x.n∧x.n≤2147483647
  case neg=>
   rw[qaG (by omega)];simp;exact qaa rfl (by rw[hv];simp[retV,hl',hb]) rfl
  rw[qaL (by omega)];simp;by_cases ho:x.op=0
  case neg=>
   simp[ho];exact qaa rfl (by rw[hv];simp[retV,hl',hb,ho]) rfl
  simp[ho];by_cases hr:x.man=0∧x.exp=0
  case neg=>
   rcases qrx.1 hr with hr1|hr1
   ·simp[hr1];exact qaa rfl (by rw[hv];simp[retV,hl',hr1,hb,ho,true_and]) rfl
   ·simp[hr1];exact qaa rfl (by rw[hv];simp[retV,hl',hr1,hb,ho,true_and]) rfl
  simp[hr];by_cases ht:x.text=⟨⟨[]⟩⟩
  case neg=>
   simp[ht];exact qaa rfl (by rw[hv];simp[retV,hl',hb,ho,hr,qaA ht]) rfl
  simp[ht];rw[ht] at hv;exact qaa rfl (by rw[hv];simp[retV,hl',hb,ho,hr,qaD rfl]) rfl
theorem qkR(x:Ex)(hx:x.ok)(h2:x.kind=2):∀S,Fn prog 180 [x.v] S (.bool (x.vOwn qac)):=by
 refine Pu.ib func180 ok180 (by simp[c180]) (by simp[V.under]) rfl ?_;have hv:=Ex.vOwn_eq qac x;generalize x.vOwn qac=r at hv ⊢
 ·simp only[h2] at hv;simp at hv;simp[c180,boxS,ldS,h2];refine qad (qbK _ _) ?_;simp[arL,arH,ldS,h2];refine qad (qaw _ _ _ _) ?_;simp[ldS];refine qad (qaw _ _ _ _) ?_;by_cases hl:0≤x.args.length∧x.args.length≤0
  case neg=>
   rw[qaG (a:=(x.args.length:Int)) (lo:=0) (hi:=0) (by omega)];simp;refine qaa rfl ?_ rfl;rw[hv];simp only[retV,V.bool.injEq,qsj];have:¬ x.args=[]:=fun hh=>hl (by rw[hh];simp)
   simp[this]
  rw[qaL (a:=(x.args.length:Int)) (lo:=0) (hi:=0) (by omega)];have hl':x.args=[]:=qrr (by omega);simp[h2];refine qad (qnR _ _ _) ?_;cases hb:rvOk x.man x.exp
  case false=>
   simp;exact qaa rfl (by rw[hv];simp[retV,hl',hb]) rfl
  simp;by_cases hm:0≤x.man
  case neg=>
   simp[hm];exact qaa rfl (by rw[hv];simp[retV,hl',hb,hm]) rfl
  simp[hm];by_cases ho:x.op=0
  case neg=>
   simp[ho];exact qaa rfl (by rw[hv];simp[retV,hl',hb,hm,ho]) rfl
  simp[ho];by_cases hn:x.n=0
  case neg=>
   simp[hn];exact qaa rfl (by rw[hv];simp[retV,hl',hb,hm,ho,hn]) rfl
  simp[hn];by_cases ht:x.text=⟨⟨[]⟩⟩
  case neg=>
   simp[ht];exact qaa rfl (by rw[hv];simp[retV,hl',hb,hm,ho,hn,qaA ht]) rfl
  simp[ht];rw[ht] at hv;exact qaa rfl (by rw[hv];simp[retV,hl',hb,hm,ho,hn,qaD rfl]) rfl
theorem qj8(x:Ex)(hx:x.ok)(h3:x.kind=3):∀S,Fn prog 180 [x.v] S (.bool (x.vOwn qac)):=by
 refine Pu.ib func180 ok180 (by simp[c180]) (by simp[V.under]) rfl ?_;have hv:=Ex.vOwn_eq qac x;generalize x.vOwn qac=r at hv ⊢
 ·simp only[h3] at hv;simp at hv;simp[c180,boxS,ldS,h3];refine qad (qbK _ _) ?_;simp[arL,arH,ldS,h3];refine qad (qaw _ _ _ _) ?_;simp[ldS];refine qad (qaw _ _ _ _) ?_;by_cases hl:0≤x.args.length∧x.args.length≤0
  case neg=>
   rw[qaG (a:=(x.args.length:Int)) (lo:=0) (hi:=0) (by omega)];simp;refine qaa rfl ?_ rfl;rw[hv];simp only[retV,V.bool.injEq,qsj];have:¬ x.args=[]:=fun hh=>hl (by rw[hh];simp)
   simp[this]
  rw[qaL (a:=(x.args.length:Int)) (lo:=0) (hi:=0) (by omega)];have hl':x.args=[]:=qrr (by omega);simp[h3];by_cases ho:x.op=0
  case neg=>
   simp[ho];exact qaa rfl (by rw[hv];simp[retV,hl',ho]) rfl
  simp[ho];by_cases hn:x.n=0
  case neg=>
   simp[hn];exact qaa rfl (by rw[hv];simp[retV,hl',ho,hn]) rfl
  simp[hn];by_cases hr:x.man=0∧x.exp=0
  case neg=>
   rcases qrx.1 hr with hr1|hr1
   ·simp[hr1];exact qaa rfl (by rw[hv];simp[retV,hl',hr1,ho,hn,true_and]) rfl
   ·simp[hr1];exact qaa rfl (by rw[hv];simp[retV,hl',hr1,ho,hn,true_and]) rfl
  simp[hr];by_cases ht:x.text=⟨⟨[]⟩⟩
  case neg=>
   simp[ht];exact qaa rfl (by rw[hv];simp[retV,hl',ho,hn,hr,qaA ht]) rfl
  simp[ht];rw[ht] at hv;exact qaa rfl (by rw[hv];simp[retV,hl',ho,hn,hr,qaD rfl]) rfl
theorem qjL(x:Ex)(hx:x.ok)(h4:x.kind=4):∀S,Fn prog 180 [x.v] S (.bool (x.vOwn qac)):=by
 refine Pu.ib func180 ok180 (by simp[c180]) (by simp[V.under]) rfl ?_;have hv:=Ex.vOwn_eq qac x;generalize x.vOwn qac=r at hv ⊢
 ·simp only[h4] at hv;simp at hv;simp[c180,boxS,ldS,h4];refine qad (qbK _ _) ?_;simp[arL,arH,ldS,h4];refine qad (qaw _ _ _ _) ?_;simp[ldS];refine qad (qaw _ _ _ _) ?_;by_cases hl:0≤x.args.length∧x.args.length≤0
  case neg=>
   rw[qaG (a:=(x.args.length:Int)) (lo:=0) (hi:=0) (by omega)];simp;refine qaa rfl ?_ rfl;rw[hv];simp only[retV,V.bool.injEq,qsj];have:¬ x.args=[]:=fun hh=>hl (by rw[hh];simp)
   simp[this]
  rw[qaL (a:=(x.args.length:Int)) (lo:=0) (hi:=0) (by omega)];have hl':x.args=[]:=qrr (by omega);simp[h4];by_cases ho:x.op=0
  case neg=>
   simp[ho];exact qaa rfl (by rw[hv];simp[retV,hl',ho]) rfl
  simp[ho];by_cases hn:x.n=0
  case neg=>
   simp[hn];exact qaa rfl (by rw[hv];simp[retV,hl',ho,hn]) rfl
  simp[hn];by_cases hr:x.man=0∧x.exp=0
  case neg=>
   rcases qrx.1 hr with hr1|hr1
   ·simp[hr1];exact qaa rfl (by rw[hv];simp[retV,hl',hr1,ho,hn,true_and]) rfl
   ·simp[hr1];exact qaa rfl (by rw[hv];simp[retV,hl',hr1,ho,hn,true_and]) rfl
  simp[hr];by_cases ht:x.text=⟨⟨[]⟩⟩
  case neg=>
   simp[ht];exact qaa rfl (by rw[hv];simp[retV,hl',ho,hn,hr,qaA ht]) rfl
  simp[ht];rw[ht] at hv;exact qaa rfl (by rw[hv];simp[retV,hl',ho,hn,hr,qaD rfl]) rfl
theorem qjS(x:Ex)(hx:x.ok)(h5:x.kind=5):∀S,Fn prog 180 [x.v] S (.bool (x.vOwn qac)):=by
 refine Pu.ib func180 ok180 (by simp[c180]) (by simp[V.under]) rfl ?_;have hv:=Ex.vOwn_eq qac x;generalize x.vOwn qac=r at hv ⊢
 ·simp only[h5] at hv;simp at hv;simp[c180,boxS,ldS,h5];refine qad (qbK _ _) ?_;simp[arL,arH,ldS,h5];refine qad (qaw _ _ _ _) ?_;simp[ldS];refine qad (qaw _ _ _ _) ?_;by_cases hl:0≤x.args.length∧x.args.length≤0
  case neg=>
   rw[qaG (a:=(x.args.length:Int)) (lo:=0) (hi:=0) (by omega)];simp;refine qaa rfl ?_ rfl;rw[hv];simp only[retV,V.bool.injEq,qsj];have:¬ x.args=[]:=fun hh=>hl (by rw[hh];simp)
   simp[this]
  rw[qaL (a:=(x.args.length:Int)) (lo:=0) (hi:=0) (by omega)];have hl':x.args=[]:=qrr (by omega);simp[h5];refine qad (qpr _ (Ex.ok_text hx) _) ?_;cases hb:qdU x.text
  case false=>
   simp;exact qaa rfl (by rw[hv];simp[retV,hl',hb]) rfl
  simp;by_cases ho:x.op=0
  case neg=>
   simp[ho];exact qaa rfl (by rw[hv];simp[retV,hl',hb,ho]) rfl
  simp[ho];by_cases hn:x.n=0
  case neg=>
   simp[hn];exact qaa rfl (by rw[hv];simp[retV,hl',hb,ho,hn]) rfl
  simp[hn];by_cases hr:x.man=0∧x.exp=0
  case neg=>
   rcases qrx.1 hr with hr1|hr1
   ·simp[hr1];exact qaa rfl (by rw[hv];simp[retV,hl',hr1,hb,ho,hn,true_and]) rfl
   ·simp[hr1];exact qaa rfl (by rw[hv];simp[retV,hl',hr1,hb,ho,hn,true_and]) rfl
  simp[hr];exact qaa rfl (by rw[hv];simp[retV,hl',hb,ho,hn,hr]) rfl
theorem qjH(x:Ex)(hx:x.ok)(h6:x.kind=6):∀S,Fn prog 180 [x.v] S (.bool (x.vOwn qac)):=by
 refine Pu.ib func180 ok180 (by simp[c180]) (by simp[V.under]) rfl ?_;have hv:=Ex.vOwn_eq qac x;generalize x.vOwn qac=r at hv ⊢
 ·simp only[h6] at hv;simp at hv;simp[c180,boxS,ldS,h6];refine qad (qbK _ _) ?_;simp[arL,arH,ldS,h6];refine qad (qaw _ _ _ _) ?_;simp[ldS];refine qad (qaw _ _ _ _) ?_;by_cases hl:0≤x.args.length∧x.args.length≤0
  case neg=>
   rw[qaG (a:=(x.args.length:Int)) (lo:=0) (hi:=0) (by omega)];simp;refine qaa rfl ?_ rfl;rw[hv];simp only[retV,V.bool.injEq,qsj];have:¬ x.args=[]:=fun hh=>hl (by rw[hh];simp)
   simp[this]
  rw[qaL (a:=(x.args.length:Int)) (lo:=0) (hi:=0) (by omega)];have hl':x.args=[]:=qrr (by omega);simp[h6];refine qad (qfi _ _) ?_;cases hb:qac x.text
  case false=>
   simp;exact qaa rfl (by rw[hv];simp[retV,hl',hb]) rfl
  simp;by_cases ho:x.op=0
  case neg=>
   simp[ho];exact qaa rfl (by rw[hv];simp[retV,hl',hb,ho]) rfl
  simp[ho];by_cases hn:x.n=0
  case neg=>
   simp[hn];exact qaa rfl (by rw[hv];simp[retV,hl',hb,ho,hn]) rfl
  simp[hn];by_cases hr:x.man=0∧x.exp=0
  case neg=>
   rcases qrx.1 hr with hr1|hr1
   ·simp[hr1];exact qaa rfl (by rw[hv];simp[retV,hl',hr1,hb,ho,hn,true_and]) rfl
   ·simp[hr1];exact qaa rfl (by rw[hv];simp[retV,hl',hr1,hb,ho,hn,true_and]) rfl
  simp[hr];exact qaa rfl (by rw[hv];simp[retV,hl',hb,ho,hn,hr]) rfl
theorem qjV(x:Ex)(hx:x.ok)(h7:x.kind=7):∀S,Fn prog 180 [x.v] S (.bool (x.vOwn qac)):=by
 refine Pu.ib func180 ok180 (by simp[c180]) (by simp[V.under]) rfl ?_;have hv:=Ex.vOwn_eq qac x;generalize x.vOwn qac=r at hv ⊢
 ·simp only[h7] at hv;simp at hv;simp[c180,boxS,ldS,h7];refine qad (qbK _ _) ?_;simp[arL,arH,ldS,h7];refine qad (qaw _ _ _ _) ?_;simp[ldS];refine qad (qaw _ _ _ _) ?_;by_cases hl:1≤x.args.length∧x.args.length≤4
  case neg=>
   rw[qaG (a:=(x.args.length:Int)) (lo:=1) (hi:=4) (by omega)];simp;refine qaa rfl ?_ rfl;rw[hv];simp only[retV,V.bool.injEq,qsj];have:¬ (1≤x.args.length∧x.args.length≤4):=by omega
   simp[this]
  rw[qaL (a:=(x.args.length:Int)) (lo:=1) (hi:=4) (by omega)];have hl':1≤x.args.length∧x.args.length≤4:=by omega
  simp[h7];refine qad (qfi _ _) ?_;cases hb:qac x.text
  case false=>
   simp;exact qaa rfl (by rw[hv];simp[retV,hl',hb]) rfl
  simp;by_cases ho:x.op=0
  case neg=>
   simp[ho];exact qaa rfl (by rw[hv];simp[retV,hl',hb,ho]) rfl
  simp[ho];by_cases hn:x.n=0
  case neg=>
   simp[hn];exact qaa rfl (by rw[hv];simp[retV,hl',hb,ho,hn]) rfl
  simp[hn];by_cases hr:x.man=0∧x.exp=0
  case neg=>
   rcases qrx.1 hr with hr1|hr1
   ·simp[hr1];exact qaa rfl (by rw[hv];simp[retV,hl',hr1,hb,ho,hn,true_and]) rfl
   ·simp[hr1];exact qaa rfl (by rw[hv];simp[retV,hl',hr1,hb,ho,hn,true_and]) rfl
  simp[hr];exact qaa rfl (by rw[hv];simp[retV,hl',hb,ho,hn,hr]) rfl
theorem qkU(x:Ex)(hx:x.ok)(h8:x.kind=8):∀S,Fn prog 180 [x.v] S (.bool (x.vOwn qac)):=by
 refine Pu.ib func180 ok180 (by simp[c180]) (by simp[V.under]) rfl ?_;have hv:=Ex.vOwn_eq qac x;generalize x.vOwn qac=r at hv ⊢
 ·simp only[h8] at hv;simp at hv;simp[c180,boxS,ldS,h8];refine qad (qbK _ _) ?_;simp[arL,arH,ldS,h8];refine qad (qaw _ _ _ _) ?_;simp[ldS];refine qad (qaw _ _ _ _) ?_;by_cases hl:1≤x.args.length∧x.args.length≤8
  case neg=>
   rw[qaG (a:=(x.args.length:Int)) (lo:=1) (hi:=8) (by omega)];simp;refine qaa rfl ?_ rfl;rw[hv];simp only[retV,V.bool.injEq,qsj];have:¬ (1≤x.args.length∧x.args.length≤8):=by omega
   simp[this]
  rw[qaL (a:=(x.args.length:Int)) (lo:=1) (hi:=8) (by omega)];have hl':1≤x.args.length∧x.args.length≤8:=by omega
  simp[h8];refine qad (qfi _ _) ?_;cases hb:qac x.text
  case false=>
   simp;exact qaa rfl (by rw[hv];simp[retV,hl',hb]) rfl
  simp;by_cases ho:x.op=0
  case neg=>
   simp[ho];exact qaa rfl (by rw[hv];simp[retV,hl',hb,ho]) rfl
  simp[ho];by_cases hn:x.n=0
  case neg=>
   simp[hn];exact qaa rfl (by rw[hv];simp[retV,hl',hb,ho,hn]) rfl
  simp[hn];by_cases hr:x.man=0∧x.exp=0
  case neg=>
   rcases qrx.1 hr with hr1|hr1
   ·simp[hr1];exact qaa rfl (by rw[hv];simp[retV,hl',hr1,hb,ho,hn,true_and]) rfl
   ·simp[hr1];exact qaa rfl (by rw[hv];simp[retV,hl',hr1,hb,ho,hn,true_and]) rfl
  simp[hr];exact qaa rfl (by rw[hv];simp[retV,hl',hb,ho,hn,hr]) rfl
theorem qjz(x:Ex)(hx:x.ok)(h9:x.kind=9):∀S,Fn prog 180 [x.v] S (.bool (x.vOwn qac)):=by
 refine Pu.ib func180 ok180 (by simp[c180]) (by simp[V.under]) rfl ?_;have hv:=Ex.vOwn_eq qac x;generalize x.vOwn qac=r at hv ⊢
 ·simp only[h9] at hv;simp at hv;simp[c180,boxS,ldS,h9];refine qad (qbK _ _) ?_;simp[arL,arH,ldS,h9];refine qad (qaw _ _ _ _) ?_;simp[ldS];refine qad (qaw _ _ _ _) ?_;by_cases hl:1≤x.args.length∧x.args.length≤1
  case neg=>
   rw[qaG (a:=(x.args.length:Int)) (lo:=1) (hi:=1) (by omega)];simp;refine qaa rfl ?_ rfl;rw[hv];simp only[retV,V.bool.injEq,qsj];have:¬ x.args.length=1:=by omega
   simp[this]
  rw[qaL (a:=(x.args.length:Int)) (lo:=1) (hi:=1) (by omega)];have hl':x.args.length=1:=by omega
  simp[h9];by_cases hb1:x.op=1
  case neg=>
   by_cases hb2:x.op=2
   case neg=>
    simp[hb1,hb2];exact qaa rfl (by rw[hv];simp[retV,hl',hb1,hb2]) rfl
   simp[hb2];by_cases hn:x.n=0
   case neg=>
    simp[hn];exact qaa rfl (by rw[hv];simp[retV,hl',hb2,hn]) rfl
   simp[hn];by_cases hr:x.man=0∧x.exp=0
   case neg=>
    rcases qrx.1 hr with hr1|hr1
    ·simp[hr1];exact qaa rfl (by rw[hv];simp[retV,hl',hr1,hb2,hn,true_and]) rfl
    ·simp[hr1];exact qaa rfl (by rw[hv];simp[retV,hl',hr1,hb2,hn,true_and]) rfl
   simp[hr];by_cases ht:x.text=⟨⟨[]⟩⟩
   case neg=>
    simp[ht];exact qaa rfl (by rw[hv];simp[retV,hl',hb2,hn,hr,qaA ht]) rfl
   simp[ht];rw[ht] at hv;exact qaa rfl (by rw[hv];simp[retV,hl',hb2,hn,hr,qaD rfl]) rfl
  simp[hb1];by_cases hn:x.n=0
  case neg=>
   simp[hn];exact qaa rfl (by rw[hv];simp[retV,hl',hb1,hn]) rfl
  simp[hn];by_cases hr:x.man=0∧x.exp=0
  case neg=>
   rcases qrx.1 hr with hr1|hr1
   ·simp[hr1];exact qaa rfl (by rw[hv];simp[retV,hl',hr1,hb1,hn,true_and]) rfl
   ·simp[hr1];exact qaa rfl (by rw[hv];simp[retV,hl',hr1,hb1,hn,true_and]) rfl
  simp[hr];by_cases ht:x.text=⟨⟨[]⟩⟩
  case neg=>
   simp[ht];exact qaa rfl (by rw[hv];simp[retV,hl',hb1,hn,hr,qaA ht]) rfl
  simp[ht];rw[ht] at hv;exact qaa rfl (by rw[hv];simp[retV,hl',hb1,hn,hr,qaD rfl]) rfl
theorem qiB(x:Ex)(hx:x.ok)(h10:x.kind=10):∀S,Fn prog 180 [x.v] S (.bool (x.vOwn qac)):=by
 refine Pu.ib func180 ok180 (by simp[c180]) (by simp[V.under]) rfl ?_;have hv:=Ex.vOwn_eq qac x;generalize x.vOwn qac=r at hv ⊢
 ·simp only[h10] at hv;simp at hv;simp[c180,boxS,ldS,h10];refine qad (qbK _ _) ?_;simp[arL,arH,ldS,h10];refine qad (qaw _ _ _ _) ?_;simp[ldS];refine qad (qaw _ _ _ _) ?_;by_cases hl:2≤x.args.length∧x.args.length≤2
  case neg=>
   rw[qaG (a:=(x.args.length:Int)) (lo:=2) (hi:=2) (by omega)];simp;refine qaa rfl ?_ rfl;rw[hv];simp only[retV,V.bool.injEq,qsj];have:¬ x.args.length=2:=by omega
   simp[this]
  rw[qaL (a:=(x.args.length:Int)) (lo:=2) (hi:=2) (by omega)];have hl':x.args.length=2:=by omega
  simp[h10];refine qad (qaw _ _ _ _) ?_;by_cases hb:3≤x.op∧x.op≤18
  case neg=>
   rw[qaG (by omega)];simp;exact qaa rfl (by rw[hv];simp[retV,hl',hb]) rfl
  rw[qaL (by omega)];simp;by_cases hn:x.n=0
  case neg=>
   simp[hn];exact qaa rfl (by rw[hv];simp[retV,hl',hb,hn]) rfl
  simp[hn];by_cases hr:x.man=0∧x.exp=0
  case neg=>
   rcases qrx.1 hr with hr1|hr1
   ·simp[hr1];exact qaa rfl (by rw[hv];simp[retV,hl',hr1,hb,hn,true_and]) rfl
   ·simp[hr1];exact qaa rfl (by rw[hv];simp[retV,hl',hr1,hb,hn,true_and]) rfl
  simp[hr];by_cases ht:x.text=⟨⟨[]⟩⟩
  case neg=>
   simp[ht];exact qaa rfl (by rw[hv];simp[retV,hl',hb,hn,hr,qaA ht]) rfl
  simp[ht];rw[ht] at hv;exact qaa rfl (by rw[hv];simp[retV,hl',hb,hn,hr,qaD rfl]) rfl
theorem qiU(x:Ex)(hx:x.ok)(h11:x.kind=11):∀S,Fn prog 180 [x.v] S (.bool (x.vOwn qac)):=by
 refine Pu.ib func180 ok180 (by simp[c180]) (by simp[V.under]) rfl ?_;have hv:=Ex.vOwn_eq qac x;generalize x.vOwn qac=r at hv ⊢
 ·simp only[h11] at hv;simp at hv;simp[c180,boxS,ldS,h11];refine qad (qbK _ _) ?_;simp[arL,arH,ldS,h11];refine qad (qaw _ _ _ _) ?_;simp[ldS];refine qad (qaw _ _ _ _) ?_;by_cases hl:3≤x.args.length∧x.args.length≤3
  case neg=>
   rw[qaG (a:=(x.args.length:Int)) (lo:=3) (hi:=3) (by omega)];simp;refine qaa rfl ?_ rfl;rw[hv];simp only[retV,V.bool.injEq,qsj];have:¬ x.args.length=3:=by omega
   simp[this]
  rw[qaL (a:=(x.args.length:Int)) (lo:=3) (hi:=3) (by omega)];have hl':x.args.length=3:=by omega
  simp[h11];by_cases ho:x.op=0
  case neg=>
   simp[ho];exact qaa rfl (by rw[hv];simp[retV,hl',ho]) rfl
  simp[ho];by_cases hn:x.n=0
  case neg=>
   simp[hn];exact qaa rfl (by rw[hv];simp[retV,hl',ho,hn]) rfl
  simp[hn];by_cases hr:x.man=0∧x.exp=0
  case neg=>
   rcases qrx.1 hr with hr1|hr1
   ·simp[hr1];exact qaa rfl (by rw[hv];simp[retV,hl',hr1,ho,hn,true_and]) rfl
   ·simp[hr1];exact qaa rfl (by rw[hv];simp[retV,hl',hr1,ho,hn,true_and]) rfl
  simp[hr];by_cases ht:x.text=⟨⟨[]⟩⟩
  case neg=>
   simp[ht];exact qaa rfl (by rw[hv];simp[retV,hl',ho,hn,hr,qaA ht]) rfl
  simp[ht];rw[ht] at hv;exact qaa rfl (by rw[hv];simp[retV,hl',ho,hn,hr,qaD rfl]) rfl
theorem qiX(x:Ex)(hx:x.ok)(h1:¬ x.kind=1)(h2:¬ x.kind=2)(h3:¬ x.kind=3)(h4:¬ x.kind=4)(h5:¬ x.kind=5)(h6:¬ x.kind=6)(h7:¬ x.kind=7)(h8:¬ x.kind=8)(h9:¬ x.kind=9)(h10:¬ x.kind=10)(h11:¬ x.kind=11):∀S,Fn prog 180 [x.v] S (.bool (x.vOwn qac)):=by
 refine Pu.ib func180 ok180 (by simp[c180]) (by simp[V.under]) rfl ?_;have hv:=Ex.vOwn_eq qac x;generalize x.vOwn qac=r at hv ⊢;have hv':r=false:=by rw[hv];simp[h1,h2,h3,h4,h5,h6,h7,h8,h9,h10,h11]
 simp[c180,boxS,ldS];refine qad (qbK _ _) ?_;simp[ldS];refine qad (qaw _ _ _ _) ?_;rw[qaG (by omega)];simp;exact qaa rfl (by rw[hv'];rfl) rfl
theorem qoE(x:Ex)(hx:x.ok):∀S,Fn prog 180 [x.v] S (.bool (x.vOwn qac)):=by
 by_cases h1:x.kind=1
 ·exact qkb x hx h1
 by_cases h2:x.kind=2
 ·exact qkR x hx h2
 by_cases h3:x.kind=3
 ·exact qj8 x hx h3
 by_cases h4:x.kind=4
 ·exact qjL x hx h4
 by_cases h5:x.kind=5
 ·exact qjS x hx h5
 by_cases h6:x.kind=6
 ·exact qjH x hx h6
 by_cases h7:x.kind=7
 ·exact qjV x hx h7
 by_cases h8:x.kind=8
 ·exact qkU x hx h8
 by_cases h9:x.kind=9
 ·exact qjz x hx h9
 by_cases h10:x.kind=10
 ·exact qiB x hx h10
 by_cases h11:x.kind=11
 ·exact qiU x hx h11
 exact qiX x hx h1 h2 h3 h4 h5 h6 h7 h8 h9 h10 h11
end
section
attribute [local simp] eqOk eqV boxS ldS stS qaq qcR qgO qku qb4 qct qa2 qaQ evX
theorem qa8(n:Nat):fitB 0 0 n=decide (n=0):=by unfold fitB;rw[qrL];simp
theorem qbH(n:Nat):fitB 1 1 n=decide (n=1):=by unfold fitB;rw[qrL];simp;omega
theorem qbJ(n:Nat):fitB 1 (-1) n=decide (1≤n):=by unfold fitB;rw[qrL];simp;omega
theorem qbw(n:Nat):fitB 1 2 n=decide (1≤n∧n≤2):=by unfold fitB;rw[qrL];simp;omega
theorem qbM(n:Nat):fitB 0 8 n=decide (n≤8):=by unfold fitB;rw[qrL];simp;omega
theorem qbI(n:Nat):fitB 2 8 n=decide (2≤n∧n≤8):=by unfold fitB;rw[qrL];simp;omega
theorem qpw{l:List Sm}(h:0<l.length):Sm.noIf l=decide (l[0].kind≠4∧l[0].kind≠5):=by
 cases l with
 | nil=>simp at h
 | cons x l=>rfl
theorem qi2:qac ⟨⟨[]⟩⟩=false:=rfl
theorem qnF{l:List Sm}(h:0<l.length)(b:Bool)(S:St):iaS S 8 (.sl b (l.map Sm.v)) 0=some (.iptr (Sm.v l[0]) 0):=iaSm (i:=0) h b S
theorem Sm.vOwn_1(nm:ByteArray→Bool)(s:Sm)(h:s.kind=1):s.vOwn nm=(fitB 0 0 s.targets.length && fitB 0 0 s.exps.length && fitB 0 0 s.elems.length && fitB 0 0 s.decls.length && fitB 0 0 s.body.length && qaW s.text && s.labels.all nm && s.targets.all Ex.tgt):=by
 cases s;simp only[Sm.kind] at h;subst h;simp only[Sm.vOwn,Sm.targets,Sm.exps,Sm.elems,Sm.decls,Sm.body,Sm.text,Sm.labels,qa8,qbH,qbJ,qbw,qbM,qbI];simp only[reduceIte,Int.reduceEq];ac_rfl
theorem Sm.vOwn_2(nm:ByteArray→Bool)(s:Sm)(h:s.kind=2):s.vOwn nm=(fitB 1 (-1) s.targets.length && fitB 1 1 s.exps.length && fitB 0 0 s.elems.length && fitB 0 0 s.decls.length && fitB 0 0 s.body.length && qaW s.text && s.labels.all nm && s.targets.all Ex.tgt):=by
 cases s;simp only[Sm.kind] at h;subst h;simp only[Sm.vOwn,Sm.targets,Sm.exps,Sm.elems,Sm.decls,Sm.body,Sm.text,Sm.labels,qa8,qbH,qbJ,qbw,qbM,qbI];simp only[reduceIte,Int.reduceEq];ac_rfl
theorem Sm.vOwn_3(nm:ByteArray→Bool)(s:Sm)(h:s.kind=3):s.vOwn nm=(fitB 0 0 s.targets.length && fitB 1 1 s.exps.length && fitB 0 0 s.elems.length && fitB 0 0 s.decls.length && fitB 0 0 s.body.length && qaW s.text && s.labels.all nm && s.targets.all Ex.tgt):=by
 cases s;simp only[Sm.kind] at h;subst h;simp only[Sm.vOwn,Sm.targets,Sm.exps,Sm.elems,Sm.decls,Sm.body,Sm.text,Sm.labels,qa8,qbH,qbJ,qbw,qbM,qbI];simp only[reduceIte,Int.reduceEq];ac_rfl
theorem Sm.vOwn_4(nm:ByteArray→Bool)(s:Sm)(h:s.kind=4):s.vOwn nm=(fitB 0 0 s.targets.length && fitB 1 1 s.exps.length && fitB 0 0 s.elems.length && fitB 0 0 s.decls.length && fitB 1 2 s.body.length && qaW s.text && s.labels.all nm && s.targets.all Ex.tgt && Sm.noIf s.body):=by
 cases s;simp only[Sm.kind] at h;subst h;simp only[Sm.vOwn,Sm.targets,Sm.exps,Sm.elems,Sm.decls,Sm.body,Sm.text,Sm.labels,qa8,qbH,qbJ,qbw,qbM,qbI];simp only[reduceIte,Int.reduceEq];ac_rfl
theorem Sm.vOwn_5(nm:ByteArray→Bool)(s:Sm)(h:s.kind=5):s.vOwn nm=(fitB 1 1 s.targets.length && fitB 0 0 s.exps.length && fitB 1 (-1) s.elems.length && fitB 0 0 s.decls.length && fitB 1 1 s.body.length && qaW s.text && s.labels.all nm && s.targets.all Ex.tgt):=by
 cases s;simp only[Sm.kind] at h;subst h;simp only[Sm.vOwn,Sm.targets,Sm.exps,Sm.elems,Sm.decls,Sm.body,Sm.text,Sm.labels,qa8,qbH,qbJ,qbw,qbM,qbI];simp only[reduceIte,Int.reduceEq];ac_rfl
theorem Sm.vOwn_6(nm:ByteArray→Bool)(s:Sm)(h:s.kind=6):s.vOwn nm=(fitB 0 0 s.targets.length && fitB 0 8 s.exps.length && fitB 0 0 s.elems.length && fitB 0 0 s.decls.length && fitB 0 0 s.body.length && nm s.text && s.labels.all nm && s.targets.all Ex.tgt):=by
 cases s;simp only[Sm.kind] at h;subst h;simp only[Sm.vOwn,Sm.targets,Sm.exps,Sm.elems,Sm.decls,Sm.body,Sm.text,Sm.labels,qa8,qbH,qbJ,qbw,qbM,qbI];simp only[reduceIte,Int.reduceEq];ac_rfl
theorem Sm.vOwn_7(nm:ByteArray→Bool)(s:Sm)(h:s.kind=7):s.vOwn nm=(fitB 0 0 s.targets.length && fitB 0 0 s.exps.length && fitB 0 0 s.elems.length && fitB 1 (-1) s.decls.length && fitB 1 (-1) s.body.length && qaW s.text && s.labels.all nm && s.targets.all Ex.tgt):=by
 cases s;simp only[Sm.kind] at h;subst h;simp only[Sm.vOwn,Sm.targets,Sm.exps,Sm.elems,Sm.decls,Sm.body,Sm.text,Sm.labels,qa8,qbH,qbJ,qbw,qbM,qbI];simp only[reduceIte,Int.reduceEq];ac_rfl
theorem Sm.vOwn_8(nm:ByteArray→Bool)(s:Sm)(h:s.kind=8):s.vOwn nm=(fitB 0 0 s.targets.length && fitB 0 0 s.exps.length && fitB 0 0 s.elems.length && fitB 0 0 s.decls.length && fitB 1 (-1) s.body.length && qaW s.text && s.labels.all nm && s.targets.all Ex.tgt):=by
 cases s;simp only[Sm.kind] at h;subst h;simp only[Sm.vOwn,Sm.targets,Sm.exps,Sm.elems,Sm.decls,Sm.body,Sm.text,Sm.labels,qa8,qbH,qbJ,qbw,qbM,qbI];simp only[reduceIte,Int.reduceEq];ac_rfl
theorem Sm.vOwn_no(nm:ByteArray→Bool)(s:Sm)(h:¬ (1≤s.kind∧s.kind≤8)):s.vOwn nm=false:=by
 cases s with
 | mk l k t g e f d b=>
  simp only[Sm.kind] at h;simp only[Sm.vOwn,if_neg (show ¬ k=1 by omega),if_neg (show ¬ k=2 by omega),if_neg (show ¬ k=3 by omega),if_neg (show ¬ k=4 by omega),if_neg (show ¬ k=5 by omega),if_neg (show ¬ k=6 by omega),if_neg (show ¬ k=7 by omega),if_neg (show ¬ k=8 by omega),Bool.and_false]
theorem qkj(s:Sm)(hs:s.ok)(hk:s.kind=1):∀S,Fn prog 183 [s.v] S (.bool (s.vOwn qac)):=by
 refine Pu.ib func183 ok183 (by simp[c183]) (by simp[V.under]) rfl ?_;have hO:=(Sm.ok_iff s).1 hs;rw[Sm.vOwn_1 qac s hk];simp[c183,hk];refine qad (qas _ _ _ _) ?_;cases f0:fitB 0 0 s.targets.length
 case false=>
  simp;exact qaa rfl (by simp[retV,f0]) rfl
 simp;refine qad (qas _ _ _ _) ?_;cases f1:fitB 0 0 s.exps.length
 case false=>
  simp;exact qaa rfl (by simp[retV,f0,f1]) rfl
 simp;refine qad (qas _ _ _ _) ?_;cases f2:fitB 0 0 s.elems.length
 case false=>
  simp;exact qaa rfl (by simp[retV,f0,f1,f2]) rfl
 simp;refine qad (qas _ _ _ _) ?_;cases f3:fitB 0 0 s.decls.length
 case false=>
  simp;exact qaa rfl (by simp[retV,f0,f1,f2,f3]) rfl
 simp;refine qad (qas _ _ _ _) ?_;cases f4:fitB 0 0 s.body.length
 case false=>
  simp;exact qaa rfl (by simp[retV,f0,f1,f2,f3,f4]) rfl
 simp;by_cases ht:s.text=⟨⟨[]⟩⟩
 case neg=>
  simp[ht];exact qaa rfl (by simp[retV,f0,f1,f2,f3,f4,qaA ht]) rfl
 simp[ht];refine qad (qbL _ hO.labels.1 _) ?_;cases hl:s.labels.all qac
 case false=>
  simp;exact qaa rfl (by simp[retV]) rfl
 simp;refine qad (qcP _ hO.targets.1 _) ?_;cases hg:s.targets.all Ex.tgt
 case false=>
  simp;exact qaa rfl (by simp[retV]) rfl
 simp[hk];exact qaa rfl (by simp[retV,f0,f1,f2,f3,f4,qaD rfl]) rfl
theorem qlf(s:Sm)(hs:s.ok)(hk:s.kind=2):∀S,Fn prog 183 [s.v] S (.bool (s.vOwn qac)):=by
 refine Pu.ib func183 ok183 (by simp[c183]) (by simp[V.under]) rfl ?_;have hO:=(Sm.ok_iff s).1 hs;rw[Sm.vOwn_2 qac s hk];simp[c183,hk];refine qad (qas _ _ _ _) ?_;cases f0:fitB 1 (-1) s.targets.length
 case false=>
  simp;exact qaa rfl (by simp[retV,f0]) rfl
 simp;refine qad (qas _ _ _ _) ?_;cases f1:fitB 1 1 s.exps.length
 case false=>
  simp;exact qaa rfl (by simp[retV,f0,f1]) rfl
 simp;refine qad (qas _ _ _ _) ?_;cases f2:fitB 0 0 s.elems.length
 case false=>
  simp;exact qaa rfl (by simp[retV,f0,f1,f2]) rfl
 simp;refine qad (qas _ _ _ _) ?_;cases f3:fitB 0 0 s.decls.length
 case false=>
  simp;exact qaa rfl (by simp[retV,f0,f1,f2,f3]) rfl
 simp;refine qad (qas _ _ _ _) ?_;cases f4:fitB 0 0 s.body.length
 case false=>
  simp;exact qaa rfl (by simp[retV,f0,f1,f2,f3,f4]) rfl
 simp;by_cases ht:s.text=⟨⟨[]⟩⟩
 case neg=>
  simp[ht];exact qaa rfl (by simp[retV,f0,f1,f2,f3,f4,qaA ht]) rfl
 simp[ht];refine qad (qbL _ hO.labels.1 _) ?_;cases hl:s.labels.all qac
 case false=>
  simp;exact qaa rfl (by simp[retV]) rfl
 simp;refine qad (qcP _ hO.targets.1 _) ?_;cases hg:s.targets.all Ex.tgt
 case false=>
  simp;exact qaa rfl (by simp[retV]) rfl
 simp[hk];exact qaa rfl (by simp[retV,f0,f1,f2,f3,f4,qaD rfl]) rfl
theorem qjA(s:Sm)(hs:s.ok)(hk:s.kind=3):∀S,Fn prog 183 [s.v] S (.bool (s.vOwn qac)):=by
 refine Pu.ib func183 ok183 (by simp[c183]) (by simp[V.under]) rfl ?_;have hO:=(Sm.ok_iff s).1 hs;rw[Sm.vOwn_3 qac s hk];simp[c183,hk];refine qad (qas _ _ _ _) ?_;cases f0:fitB 0 0 s.targets.length
 case false=>
  simp;exact qaa rfl (by simp[retV,f0]) rfl
 simp;refine qad (qas _ _ _ _) ?_;cases f1:fitB 1 1 s.exps.length
 case false=>
  simp;exact qaa rfl (by simp[retV,f0,f1]) rfl
 simp;refine qad (qas _ _ _ _) ?_;cases f2:fitB 0 0 s.elems.length
 case false=>
  simp;exact qaa rfl (by simp[retV,f0,f1,f2]) rfl
 simp;refine qad (qas _ _ _ _) ?_;cases f3:fitB 0 0 s.decls.length
 case false=>
  simp;exact qaa rfl (by simp[retV,f0,f1,f2,f3]) rfl
 simp;refine qad (qas _ _ _ _) ?_;cases f4:fitB 0 0 s.body.length
 case false=>
  simp;exact qaa rfl (by simp[retV,f0,f1,f2,f3,f4]) rfl
 simp;by_cases ht:s.text=⟨⟨[]⟩⟩
 case neg=>
  simp[ht];exact qaa rfl (by simp[retV,f0,f1,f2,f3,f4,qaA ht]) rfl
 simp[ht];refine qad (qbL _ hO.labels.1 _) ?_;cases hl:s.labels.all qac
 case false=>
  simp;exact qaa rfl (by simp[retV]) rfl
 simp;refine qad (qcP _ hO.targets.1 _) ?_;cases hg:s.targets.all Ex.tgt
 case false=>
  simp;exact qaa rfl (by simp[retV]) rfl
 simp[hk];exact qaa rfl (by simp[retV,f0,f1,f2,f3,f4,qaD rfl]) rfl
theorem qjx(s:Sm)(hs:s.ok)(hk:s.kind=4):∀S,Fn prog 183 [s.v] S (.bool (s.vOwn qac)):=by
 refine Pu.ib func183 ok183 (by simp[c183]) (by simp[V.under]) rfl ?_;have hO:=(Sm.ok_iff s).1 hs;rw[Sm.vOwn_4 qac s hk];simp[c183,hk];refine qad (qas _ _ _ _) ?_;cases f0:fitB 0 0 s.targets.length
 case false=>
  simp;exact qaa rfl (by simp[retV,f0]) rfl
 simp;refine qad (qas _ _ _ _) ?_;cases f1:fitB 1 1 s.exps.length
 case false=>
  simp;exact qaa rfl (by simp[retV,f0,f1]) rfl
 simp;refine qad (qas _ _ _ _) ?_;cases f2:fitB 0 0 s.elems.length
 case false=>
  simp;exact qaa rfl (by simp[retV,f0,f1,f2]) rfl
 simp;refine qad (qas _ _ _ _) ?_;cases f3:fitB 0 0 s.decls.length
 case false=>
  simp;exact qaa rfl (by simp[retV,f0,f1,f2,f3]) rfl
 simp;refine qad (qas _ _ _ _) ?_;cases f4:fitB 1 2 s.body.length
 case false=>
  simp;exact qaa rfl (by simp[retV,f0,f1,f2,f3,f4]) rfl
 simp;by_cases ht:s.text=⟨⟨[]⟩⟩
 case neg=>
  simp[ht];exact qaa rfl (by simp[retV,f0,f1,f2,f3,f4,qaA ht]) rfl
 simp[ht];refine qad (qbL _ hO.labels.1 _) ?_;cases hl:s.labels.all qac
 case false=>
  simp;exact qaa rfl (by simp[retV]) rfl
 simp;refine qad (qcP _ hO.targets.1 _) ?_;cases hg:s.targets.all Ex.tgt
 case false=>
  simp;exact qaa rfl (by simp[retV]) rfl
 have hb:0<s.body.length:=by rw[qbw] at f4;simp at f4;omega
 have hno:=qpw hb;rw[hno];by_cases g4:s.body[0].kind=4
 case pos=>
  simp[qnF hb,hk,g4];exact qaa rfl (by simp[retV]) rfl
 by_cases g5:s.body[0].kind=5
 case pos=>
  simp[qnF hb,hk,g4,g5];exact qaa rfl (by simp[retV]) rfl
 simp[qnF hb,hk,g4,g5];exact qaa rfl (by simp[retV,f0,f1,f2,f3,f4,qaD rfl]) rfl
theorem qj2(s:Sm)(hs:s.ok)(hk:s.kind=5):∀S,Fn prog 183 [s.v] S (.bool (s.vOwn qac)):=by
 refine Pu.ib func183 ok183 (by simp[c183]) (by simp[V.under]) rfl ?_;have hO:=(Sm.ok_iff s).1 hs;rw[Sm.vOwn_5 qac s hk];simp[c183,hk];refine qad (qas _ _ _ _) ?_;cases f0:fitB 1 1 s.targets.length
 case false=>
  simp;exact qaa rfl (by simp[retV,f0]) rfl
 simp;refine qad (qas _ _ _ _) ?_;cases f1:fitB 0 0 s.exps.length
 case false=>
  simp;exact qaa rfl (by simp[retV,f0,f1]) rfl
 simp;refine qad (qas _ _ _ _) ?_;cases f2:fitB 1 (-1) s.elems.length
 case false=>
  simp;exact qaa rfl (by simp[retV,f0,f1,f2]) rfl
 simp;refine qad (qas _ _ _ _) ?_;cases f3:fitB 0 0 s.decls.length
 case false=>
  simp;exact qaa rfl (by simp[retV,f0,f1,f2,f3]) rfl
 simp;refine qad (qas _ _ _ _) ?_;cases f4:fitB 1 1 s.body.length
 case false=>
  simp;exact qaa rfl (by simp[retV,f0,f1,f2,f3,f4]) rfl
 simp;by_cases ht:s.text=⟨⟨[]⟩⟩
 case neg=>
  simp[ht];exact qaa rfl (by simp[retV,f0,f1,f2,f3,f4,qaA ht]) rfl
 simp[ht];refine qad (qbL _ hO.labels.1 _) ?_;cases hl:s.labels.all qac
 case false=>
  simp;exact qaa rfl (by simp[retV]) rfl
 simp;refine qad (qcP _ hO.targets.1 _) ?_;cases hg:s.targets.all Ex.tgt
 case false=>
  simp;exact qaa rfl (by simp[retV]) rfl
 simp[hk];exact qaa rfl (by simp[retV,f0,f1,f2,f3,f4,qaD rfl]) rfl
theorem qkM(s:Sm)(hs:s.ok)(hk:s.kind=6):∀S,Fn prog 183 [s.v] S (.bool (s.vOwn qac)):=by
 refine Pu.ib func183 ok183 (by simp[c183]) (by simp[V.under]) rfl ?_;have hO:=(Sm.ok_iff s).1 hs;rw[Sm.vOwn_6 qac s hk];simp[c183,hk];refine qad (qas _ _ _ _) ?_;cases f0:fitB 0 0 s.targets.length
 case false=>
  simp;exact qaa rfl (by simp[retV,f0]) rfl
 simp;refine qad (qas _ _ _ _) ?_;cases f1:fitB 0 8 s.exps.length
 case false=>
  simp;exact qaa rfl (by simp[retV,f0,f1]) rfl
 simp;refine qad (qas _ _ _ _) ?_;cases f2:fitB 0 0 s.elems.length
 case false=>
  simp;exact qaa rfl (by simp[retV,f0,f1,f2]) rfl
 simp;refine qad (qas _ _ _ _) ?_;cases f3:fitB 0 0 s.decls.length
 case false=>
  simp;exact qaa rfl (by simp[retV,f0,f1,f2,f3]) rfl
 simp;refine qad (qas _ _ _ _) ?_;cases f4:fitB 0 0 s.body.length
 case false=>
  simp;exact qaa rfl (by simp[retV,f0,f1,f2,f3,f4]) rfl
 simp;by_cases ht:s.text=⟨⟨[]⟩⟩
 case pos=>
  simp[ht];exact qaa rfl (by simp[retV,f0,f1,f2,f3,f4,qi2]) rfl
 simp[ht];refine qad (qfi _ _) ?_;cases hn:qac s.text
 case false=>
  simp;exact qaa rfl (by simp[retV,f0,f1,f2,f3,f4,hn]) rfl
 simp;refine qad (qbL _ hO.labels.1 _) ?_;cases hl:s.labels.all qac
 case false=>
  simp;exact qaa rfl (by simp[retV]) rfl
 simp;refine qad (qcP _ hO.targets.1 _) ?_;cases hg:s.targets.all Ex.tgt
 case false=>
  simp;exact qaa rfl (by simp[retV]) rfl
 simp[hk];exact qaa rfl (by simp[retV,f0,f1,f2,f3,f4,hn]) rfl
theorem qlo(s:Sm)(hs:s.ok)(hk:s.kind=7):∀S,Fn prog 183 [s.v] S (.bool (s.vOwn qac)):=by
 refine Pu.ib func183 ok183 (by simp[c183]) (by simp[V.under]) rfl ?_;have hO:=(Sm.ok_iff s).1 hs;rw[Sm.vOwn_7 qac s hk];simp[c183,hk];refine qad (qas _ _ _ _) ?_;cases f0:fitB 0 0 s.targets.length
 case false=>
  simp;exact qaa rfl (by simp[retV,f0]) rfl
 simp;refine qad (qas _ _ _ _) ?_;cases f1:fitB 0 0 s.exps.length
 case false=>
  simp;exact qaa rfl (by simp[retV,f0,f1]) rfl
 simp;refine qad (qas _ _ _ _) ?_;cases f2:fitB 0 0 s.elems.length
 case false=>
  simp;exact qaa rfl (by simp[retV,f0,f1,f2]) rfl
 simp;refine qad (qas _ _ _ _) ?_;cases f3:fitB 1 (-1) s.decls.length
 case false=>
  simp;exact qaa rfl (by simp[retV,f0,f1,f2,f3]) rfl
 simp;refine qad (qas _ _ _ _) ?_;cases f4:fitB 1 (-1) s.body.length
 case false=>
  simp;exact qaa rfl (by simp[retV,f0,f1,f2,f3,f4]) rfl
 simp;by_cases ht:s.text=⟨⟨[]⟩⟩
 case neg=>
  simp[ht];exact qaa rfl (by simp[retV,f0,f1,f2,f3,f4,qaA ht]) rfl
 simp[ht];refine qad (qbL _ hO.labels.1 _) ?_;cases hl:s.labels.all qac
 case false=>
  simp;exact qaa rfl (by simp[retV]) rfl
 simp;refine qad (qcP _ hO.targets.1 _) ?_;cases hg:s.targets.all Ex.tgt
 case false=>
  simp;exact qaa rfl (by simp[retV]) rfl
 simp[hk];exact qaa rfl (by simp[retV,f0,f1,f2,f3,f4,qaD rfl]) rfl
theorem qkW(s:Sm)(hs:s.ok)(hk:s.kind=8):∀S,Fn prog 183 [s.v] S (.bool (s.vOwn qac)):=by
 refine Pu.ib func183 ok183 (by simp[c183]) (by simp[V.under]) rfl ?_;have hO:=(Sm.ok_iff s).1 hs;rw[Sm.vOwn_8 qac s hk];simp[c183,hk];refine qad (qas _ _ _ _) ?_;cases f0:fitB 0 0 s.targets.length
 case false=>
  simp;exact qaa rfl (by simp[retV,f0]) rfl
 simp;refine qad (qas _ _ _ _) ?_;cases f1:fitB 0 0 s.exps.length
 case false=>
  simp;exact qaa rfl (by simp[retV,f0,f1]) rfl
 simp;refine qad (qas _ _ _ _) ?_;cases f2:fitB 0 0 s.elems.length
 case false=>
  simp;exact qaa rfl (by simp[retV,f0,f1,f2]) rfl
 simp;refine qad (qas _ _ _ _) ?_;cases f3:fitB 0 0 s.decls.length
 case false=>
  simp;exact qaa rfl (by simp[retV,f0,f1,f2,f3]) rfl
 simp;refine qad (qas _ _ _ _) ?_;cases f4:fitB 1 (-1) s.body.length
 case false=>
  simp;exact qaa rfl (by simp[retV,f0,f1,f2,f3,f4]) rfl
 simp;by_cases ht:s.text=⟨⟨[]⟩⟩
 case neg=>
  simp[ht];exact qaa rfl (by simp[retV,f0,f1,f2,f3,f4,qaA ht]) rfl
 simp[ht];refine qad (qbL _ hO.labels.1 _) ?_;cases hl:s.labels.all qac
 case false=>
  simp;exact qaa rfl (by simp[retV]) rfl
 simp;refine qad (qcP _ hO.targets.1 _) ?_;cases hg:s.targets.all Ex.tgt
 case false=>
  simp;exact qaa rfl (by simp[retV]) rfl
 simp[hk];exact qaa rfl (by simp[retV,f0,f1,f2,f3,f4,qaD rfl]) rfl
theorem qiK(s:Sm)(hs:s.ok)(h:¬ (1≤s.kind∧s.kind≤8)):∀S,Fn prog 183 [s.v] S (.bool (s.vOwn qac)):=by
 refine Pu.ib func183 ok183 (by simp[c183]) (by simp[V.under]) rfl ?_;have hO:=(Sm.ok_iff s).1 hs;rw[Sm.vOwn_no qac s h];simp[c183,show ¬ s.kind=1 by omega,show ¬ s.kind=2 by omega,show ¬ s.kind=3 by omega,show ¬ s.kind=4 by omega,show ¬ s.kind=5 by omega,show ¬ s.kind=6 by omega,show ¬ s.kind=7 by omega,show ¬ s.kind=8 by omega];exact qaa rfl rfl rfl
theorem qpH(s:Sm)(hs:s.ok):∀S,Fn prog 183 [s.v] S (.bool (s.vOwn qac)):=by
 by_cases h1:s.kind=1
 ·exact qkj s hs h1
 by_cases h2:s.kind=2
 ·exact qlf s hs h2
 by_cases h3:s.kind=3
 ·exact qjA s hs h3
 by_cases h4:s.kind=4
 ·exact qjx s hs h4
 by_cases h5:s.kind=5
 ·exact qj2 s hs h5
 by_cases h6:s.kind=6
 ·exact qkM s hs h6
 by_cases h7:s.kind=7
 ·exact qlo s hs h7
 by_cases h8:s.kind=8
 ·exact qkW s hs h8
 exact qiK s hs (by omega)
theorem De.vOwn_1(nm:ByteArray→Bool)(d:De)(h:d.kind=1):d.vOwn nm=(fitB 1 (-1) d.names.length && fitB 0 0 d.exps.length && fitB 0 0 d.body.length && fitB 0 0 d.formals.length && d.names.all nm && (decide (1≤d.type∧d.type≤3))):=by
 cases d;simp only[De.kind] at h;subst h;simp only[De.vOwn,De.names,De.exps,De.formals,De.body,De.own,De.type,qa8,qbH,qbJ,qbw,qbM,qbI];simp only[reduceIte,Int.reduceEq];ac_rfl
theorem De.vOwn_2(nm:ByteArray→Bool)(d:De)(h:d.kind=2):d.vOwn nm=(fitB 1 (-1) d.names.length && fitB 2 8 d.exps.length && fitB 0 0 d.body.length && fitB 0 0 d.formals.length && d.names.all nm && (decide (1≤d.type∧d.type≤3) && decide (d.exps.length % 2=0))):=by
 cases d;simp only[De.kind] at h;subst h;simp only[De.vOwn,De.names,De.exps,De.formals,De.body,De.own,De.type,qa8,qbH,qbJ,qbw,qbM,qbI];simp only[reduceIte,Int.reduceEq];ac_rfl
theorem De.vOwn_3(nm:ByteArray→Bool)(d:De)(h:d.kind=3):d.vOwn nm=(fitB 1 1 d.names.length && fitB 1 (-1) d.exps.length && fitB 0 0 d.body.length && fitB 0 0 d.formals.length && d.names.all nm && (!d.own && decide (d.type=0))):=by
 cases d;simp only[De.kind] at h;subst h;simp only[De.vOwn,De.names,De.exps,De.formals,De.body,De.own,De.type,qa8,qbH,qbJ,qbw,qbM,qbI];simp only[reduceIte,Int.reduceEq];ac_rfl
theorem De.vOwn_4(nm:ByteArray→Bool)(d:De)(h:d.kind=4):d.vOwn nm=(fitB 1 1 d.names.length && fitB 0 0 d.exps.length && fitB 1 1 d.body.length && fitB 0 8 d.formals.length && d.names.all nm && (!d.own && decide (0≤d.type∧d.type≤3) && qca nm d.formals [])):=by
 cases d;simp only[De.kind] at h;subst h;simp only[De.vOwn,De.names,De.exps,De.formals,De.body,De.own,De.type,qa8,qbH,qbJ,qbw,qbM,qbI];simp only[reduceIte,Int.reduceEq];ac_rfl
theorem De.vOwn_no(nm:ByteArray→Bool)(s:De)(h:¬ (1≤s.kind∧s.kind≤4)):s.vOwn nm=false:=by
 cases s with
 | mk k o t n e f b=>
  simp only[De.kind] at h;simp only[De.vOwn,if_neg (show ¬ k=1 by omega),if_neg (show ¬ k=2 by omega),if_neg (show ¬ k=3 by omega),if_neg (show ¬ k=4 by omega),Bool.and_false]
theorem modI(n:Nat):Int.tmod (n:Int) 2=((n % 2:Nat):Int):=rfl
theorem qkZ(d:De)(hs:d.ok)(hk:d.kind=1):∀S,Fn prog 182 [d.v] S (.bool (d.vOwn qac)):=by
 refine Pu.ib func182 ok182 (by simp[c182]) (by simp[V.under]) rfl ?_;have hO:=(De.ok_iff d).1 hs;rw[De.vOwn_1 qac d hk];simp[c182,hk];refine qad (qas _ _ _ _) ?_;cases f0:fitB 1 (-1) d.names.length
 case false=>
  simp;exact qaa rfl (by simp[retV,f0]) rfl
 simp;refine qad (qas _ _ _ _) ?_;cases f1:fitB 0 0 d.exps.length
 case false=>
  simp;exact qaa rfl (by simp[retV,f0,f1]) rfl
 simp;refine qad (qas _ _ _ _) ?_;cases f2:fitB 0 0 d.body.length
 case false=>
  simp;exact qaa rfl (by simp[retV,f0,f1,f2]) rfl
 simp;refine qad (qas _ _ _ _) ?_;cases f3:fitB 0 0 d.formals.length
 case false=>
  simp;exact qaa rfl (by simp[retV,f0,f1,f2,f3]) rfl
 simp;refine qad (qbL _ hO.names.1 _) ?_;cases hl:d.names.all qac
 case false=>
  simp;exact qaa rfl (by simp[retV,f0]) rfl
 simp;have hgo:∀o:Bool,o=d.own→True:=fun _ _=>trivial
 cases ho:d.own
 case false=>
  simp[ho];refine qad (qaw _ _ _ _) ?_;by_cases ht:1≤d.type∧d.type≤3
  case neg=>
   rw[qaG ht];simp;exact qaa rfl (by simp[retV,f0,f1,f2,f3,ht]) rfl
  rw[qaL ht];simp[hk];refine qad (qaw _ _ _ _) ?_;rw[qaL (show 0≤d.type∧d.type≤3 by omega)];simp[hk];refine qad (qdK _ hO.formals.1 _) ?_;have hf:d.formals=[]:=qrr (by rw[qa8] at f3;simpa using f3);simp[hf,qca];exact qaa rfl (by simp[retV,f0,f1,f2,f3,hf,ht]) rfl
 case true=>
  simp[ho];refine qad (qaw _ _ _ _) ?_;by_cases ht:1≤d.type∧d.type≤3
  case neg=>
   rw[qaG ht];simp;exact qaa rfl (by simp[retV,f0,f1,f2,f3,ht]) rfl
  rw[qaL ht];simp[hk];refine qad (qaw _ _ _ _) ?_;rw[qaL (show 0≤d.type∧d.type≤3 by omega)];simp[hk];refine qad (qdK _ hO.formals.1 _) ?_;have hf:d.formals=[]:=qrr (by rw[qa8] at f3;simpa using f3);simp[hf,qca];exact qaa rfl (by simp[retV,f0,f1,f2,f3,hf,ht]) rfl
theorem qkq(d:De)(hs:d.ok)(hk:d.kind=2):∀S,Fn prog 182 [d.v] S (.bool (d.vOwn qac)):=by
 refine Pu.ib func182 ok182 (by simp[c182]) (by simp[V.under]) rfl ?_;have hO:=(De.ok_iff d).1 hs;rw[De.vOwn_2 qac d hk];simp[c182,hk];refine qad (qas _ _ _ _) ?_;cases f0:fitB 1 (-1) d.names.length
 case false=>
  simp;exact qaa rfl (by simp[retV,f0]) rfl
 simp;refine qad (qas _ _ _ _) ?_;cases f1:fitB 2 8 d.exps.length
 case false=>
  simp;exact qaa rfl (by simp[retV,f0,f1]) rfl
 simp;refine qad (qas _ _ _ _) ?_;cases f2:fitB 0 0 d.body.length
 case false=>
  simp;exact qaa rfl (by simp[retV,f0,f1,f2]) rfl
 simp;refine qad (qas _ _ _ _) ?_;cases f3:fitB 0 0 d.formals.length
 case false=>
  simp;exact qaa rfl (by simp[retV,f0,f1,f2,f3]) rfl
 simp;refine qad (qbL _ hO.names.1 _) ?_;cases hl:d.names.all qac
 case false=>
  simp;exact qaa rfl (by simp[retV,f0]) rfl
 simp;have hgo:∀o:Bool,o=d.own→True:=fun _ _=>trivial
 cases ho:d.own
 case false=>
  simp[ho];refine qad (qaw _ _ _ _) ?_;by_cases ht:1≤d.type∧d.type≤3
  case neg=>
   rw[qaG ht];simp;exact qaa rfl (by simp[retV,f0,f1,f2,f3,ht]) rfl
  rw[qaL ht];simp[hk];refine qad (qaw _ _ _ _) ?_;rw[qaL (show 0≤d.type∧d.type≤3 by omega)];simp[hk];have hmod:=modI d.exps.length;by_cases hm:d.exps.length % 2=0
  case neg=>
   simp[hmod,hm,show ¬ ((d.exps.length:Int) % 2=0) by omega];exact qaa rfl (by simp[retV,f0,f1,f2,f3,ht,hm]) rfl
  simp[hmod,hm,show ((d.exps.length:Int) % 2=0) by omega];refine qad (qdK _ hO.formals.1 _) ?_;have hf:d.formals=[]:=qrr (by rw[qa8] at f3;simpa using f3);simp[hf,qca];exact qaa rfl (by simp[retV,f0,f1,f2,f3,hf,ht,hm]) rfl
 case true=>
  simp[ho];refine qad (qaw _ _ _ _) ?_;by_cases ht:1≤d.type∧d.type≤3
  case neg=>
   rw[qaG ht];simp;exact qaa rfl (by simp[retV,f0,f1,f2,f3,ht]) rfl
  rw[qaL ht];simp[hk];refine qad (qaw _ _ _ _) ?_;rw[qaL (show 0≤d.type∧d.type≤3 by omega)];simp[hk];have hmod:=modI d.exps.length;by_cases hm:d.exps.length % 2=0
  case neg=>
   simp[hmod,hm,show ¬ ((d.exps.length:Int) % 2=0) by omega];exact qaa rfl (by simp[retV,f0,f1,f2,f3,ht,hm]) rfl
  simp[hmod,hm,show ((d.exps.length:Int) % 2=0) by omega];refine qad (qdK _ hO.formals.1 _) ?_;have hf:d.formals=[]:=qrr (by rw[qa8] at f3;simpa using f3);simp[hf,qca];exact qaa rfl (by simp[retV,f0,f1,f2,f3,hf,ht,hm]) rfl
theorem qko(d:De)(hs:d.ok)(hk:d.kind=3):∀S,Fn prog 182 [d.v] S (.bool (d.vOwn qac)):=by
 refine Pu.ib func182 ok182 (by simp[c182]) (by simp[V.under]) rfl ?_;have hO:=(De.ok_iff d).1 hs;rw[De.vOwn_3 qac d hk];simp[c182,hk];refine qad (qas _ _ _ _) ?_;cases f0:fitB 1 1 d.names.length
 case false=>
  simp;exact qaa rfl (by simp[retV,f0]) rfl
 simp;refine qad (qas _ _ _ _) ?_;cases f1:fitB 1 (-1) d.exps.length
 case false=>
  simp;exact qaa rfl (by simp[retV,f0,f1]) rfl
 simp;refine qad (qas _ _ _ _) ?_;cases f2:fitB 0 0 d.body.length
 case false=>
  simp;exact qaa rfl (by simp[retV,f0,f1,f2]) rfl
 simp;refine qad (qas _ _ _ _) ?_;cases f3:fitB 0 0 d.formals.length
 case false=>
  simp;exact qaa rfl (by simp[retV,f0,f1,f2,f3]) rfl
 simp;refine qad (qbL _ hO.names.1 _) ?_;cases hl:d.names.all qac
 case false=>
  simp;exact qaa rfl (by simp[retV,f0]) rfl
 simp;cases ho:d.own
 case true=>
  simp[ho];exact qaa rfl (by simp[retV,f0,f1,f2,f3,ho]) rfl
 by_cases ht:d.type=0
 case neg=>
  simp[ho,hk,ht];exact qaa rfl (by simp[retV,f0,f1,f2,f3,ho,ht]) rfl
 simp[ho,hk,ht];refine qad (qaw _ _ _ _) ?_;simp[ho,hk,ht];refine qad (qdK _ hO.formals.1 _) ?_;have hf:d.formals=[]:=qrr (by rw[qa8] at f3;simpa using f3);simp[hf,qca];exact qaa rfl (by simp[retV,f0,f1,f2,f3,hf,ho,ht]) rfl
theorem qkX(d:De)(hs:d.ok)(hk:d.kind=4):∀S,Fn prog 182 [d.v] S (.bool (d.vOwn qac)):=by
 refine Pu.ib func182 ok182 (by simp[c182]) (by simp[V.under]) rfl ?_;have hO:=(De.ok_iff d).1 hs;rw[De.vOwn_4 qac d hk];simp[c182,hk];refine qad (qas _ _ _ _) ?_;cases f0:fitB 1 1 d.names.length
 case false=>
  simp;exact qaa rfl (by simp[retV,f0]) rfl
 simp;refine qad (qas _ _ _ _) ?_;cases f1:fitB 0 0 d.exps.length
 case false=>
  simp;exact qaa rfl (by simp[retV,f0,f1]) rfl
 simp;refine qad (qas _ _ _ _) ?_;cases f2:fitB 1 1 d.body.length
 case false=>
  simp;exact qaa rfl (by simp[retV,f0,f1,f2]) rfl
 simp;refine qad (qas _ _ _ _) ?_;cases f3:fitB 0 8 d.formals.length
 case false=>
  simp;exact qaa rfl (by simp[retV,f0,f1,f2,f3]) rfl
 simp;refine qad (qbL _ hO.names.1 _) ?_;cases hl:d.names.all qac
 case false=>
  simp;exact qaa rfl (by simp[retV,f0]) rfl
 simp;cases ho:d.own
 case true=>
  simp[ho];exact qaa rfl (by simp[retV,f0,f1,f2,f3,ho]) rfl
 simp[ho,hk];refine qad (qaw _ _ _ _) ?_;by_cases ht:0≤d.type∧d.type≤3
 case neg=>
  rw[qaG ht];simp;exact qaa rfl (by simp[retV,f0,f1,f2,f3,ho,ht]) rfl
 rw[qaL ht];simp[hk];refine qad (qdK _ hO.formals.1 _) ?_;simp;exact qaa rfl (by simp[retV,f0,f1,f2,f3,ho,ht]) rfl
theorem qiT(d:De)(hs:d.ok)(h:¬ (1≤d.kind∧d.kind≤4)):∀S,Fn prog 182 [d.v] S (.bool (d.vOwn qac)):=by
 refine Pu.ib func182 ok182 (by simp[c182]) (by simp[V.under]) rfl ?_;have hO:=(De.ok_iff d).1 hs;rw[De.vOwn_no qac d h];simp[c182,show ¬ d.kind=1 by omega,show ¬ d.kind=2 by omega,show ¬ d.kind=3 by omega,show ¬ d.kind=4 by omega];exact qaa rfl rfl rfl
theorem qok(d:De)(hs:d.ok):∀S,Fn prog 182 [d.v] S (.bool (d.vOwn qac)):=by
 by_cases h1:d.kind=1
 ·exact qkZ d hs h1
 by_cases h2:d.kind=2
 ·exact qkq d hs h2
 by_cases h3:d.kind=3
 ·exact qko d hs h3
 by_cases h4:d.kind=4
 ·exact qkX d hs h4
 exact qiT d hs (by omega)
end
structure VJ(p:Pa)(U:St):Prop where
 t2:U[1]?=some (.arr [.bool false] 1 1)
 k:U[2]?=some (.arr [p.v] 25 1)
theorem VJ.push{p:Pa}{U:St}(h:VJ p U)(o:Ob):VJ p (U++[o]):=⟨gp h.t2,gp h.k⟩
theorem VJ.set{p:Pa}{U:St}(h:VJ p U){L:Nat}(o:Ob)(hL:3≤L):VJ p (U.set L o):=⟨gs h.t2 (by omega),gs h.k (by omega)⟩
def VV(p:Pa)(i:Nat):Prop:=∀q,q∈p.kids.take i→q.valid qac=true
def VD(p:Pa)(U:St):Prop:=U[1]?=some (.arr [.bool false] 1 1)∧p.valid qac=false
theorem VD.push{p:Pa}{U:St}(h:VD p U)(o:Ob):VD p (U++[o]):=⟨gp h.1,h.2⟩
theorem Env.keep_get{e:Env}{t:Nat}{v:V}:∀{ts:List Nat},t∈ts→e.get t=some v→(e.keep ts).get t=some v
 | [],h,_=>by simp at h
 | s::ts,h,hv=>by
  simp only[Env.keep];by_cases hs:s=t
  ·subst hs;rw[hv];simp[Env.get]
  ·have h':t∈ts:=by
    rcases qrE.1 h with h| h
    ·exact absurd h.symm hs
    ·exact h
   split
   ·simp only[Env.get,if_neg hs];exact Env.keep_get h' hv
   ·exact Env.keep_get h' hv
noncomputable def qhc:C':=(.seq (.seq (.reg [.j 29 25 1,.o 30 (.call (.f 179) [(.t 29)])])
 (.block 1 (.rf (.t 30) [31] (rfAt Tryz.f151 0).1 (rfAt Tryz.f151 0).2
  (.reg [.o 4 (.new zP),
   .s 25 4 31])
  (.block 2 (.seq (.reg [.j 32 25 4,.o 33 (.call (.f 151) [(.t 32)]),.o 34 (.un .not (.t 33))])
   (.cond (.t 34) (.seq (.reg [.n (.sto 1 (.t 2) (.c (.bool false)))]) (.ret)) (.skip))))
  35 [31,4,32,33,34,2])))
 (.seq (.reg [.n (.sto 1 (.t 2) (.c (.bool true)))]) (.ret)))
theorem qc0:qhc=(.seq (.seq (.reg [.j 29 25 1,.o 30 (.call (.f 179) [(.t 29)])])
 (.block 1 (.rf (.t 30) [31] (rfAt Tryz.f151 0).1 (rfAt Tryz.f151 0).2
  (.reg [.o 4 (.new zP),
   .s 25 4 31])
  (.block 2 (.seq (.reg [.j 32 25 4,.o 33 (.call (.f 151) [(.t 32)]),.o 34 (.un .not (.t 33))])
   (.cond (.t 34) (.seq (.reg [.n (.sto 1 (.t 2) (.c (.bool false)))]) (.ret)) (.skip))))
  35 [31,4,32,33,34,2])))
 (.seq (.reg [.n (.sto 1 (.t 2) (.c (.bool true)))]) (.ret))):=rfl
theorem qpo:∀(k:Nat) (p:Pa),p.wt≤k→p.ok→∀S,Fn prog 151 [p.v] S (.bool (p.valid qac)):=by
 intro k
 induction k with
 | zero=>intro p h;exfalso;cases p with
  | st s=>cases s;simp[Pa.wt] at h
  | de s=>cases s;simp[Pa.wt] at h
  | el s=>cases s;simp[Pa.wt] at h
  | ex s=>cases s;simp[Pa.wt] at h
 | succ k ih=>
  intro p hw hp;refine Pu.ib func151 ok151 (by simp[c151]) (by simp) rfl ?_;have hve:=Pa.valid_eq qac p;have range:∀e:Env,p.vOwn qac=true→e.get 1=some (.ptr 0 0 0 1)→e.get 2=some (.ptr 1 0 0 1)→
    WP prog qhc
     (endp [.cell 2 none] 0 fun v U=>v=.bool (p.valid qac)∧U=[]) e [.arr [p.v] 25 1,.arr [.bool false] 1 1]:=by
   intro e hown g1 g2;simp only[qhc];simp[g1,ldS];refine qan (qkr p _) ?_;rintro v U ⟨rfl,rfl⟩;simp;have hkl:(p.kids.map fun q=>[q.v]).length=p.kids.length:=by simp
   refine qix (k:=202) (fs:=[]) (cs:=[.ptr 2 0 0 1]) (by simp) (qgT p hp 2) rfl rfl rfl (by simp) (fun x=>x=1) (by rintro x rfl;simp)
    (fun i U=>VJ p U∧VV p i) (VD p) (fun _ _=>False) ?_ ?_ ?_ ?_ (fun i U L o o' _ h hl=>⟨⟨gl h.1.t2 (by simp) hl,gl h.1.k (by simp) hl⟩,h.2⟩) (fun U L o o' _ h hl=>⟨gl h.1 (by simp) hl,h.2⟩) (fun id U L o o' _ h hl=>h.elim) ?_ ?_ ?_ ?_ ?_
   ·rintro i U ⟨h,_⟩;exact h.k
   ·rintro i U ⟨h,h1⟩;exact fun o=>⟨h.push o,h1⟩
   ·rintro U h;exact fun o=>h.push o
   ·rintro id U h;exact h.elim
   ·exact ⟨⟨rfl,rfl⟩,fun q hq=>by simp at hq⟩
   ·rintro i av hav U ⟨hj,hv⟩ hk hl;rw[qre] at hav;obtain ⟨q,hq,rfl⟩:=qq9.1 hav;have hqk:q∈p.kids:=qrb hq;have hqw:=Pa.kid_lt hqk;generalize hke:Env.keep _ _=ke at hl ⊢;have g2':ke.get 2=some (.ptr 1 0 0 1):=by rw[←hke];exact Env.keep_get (by simp) (by simp[g2])
    clear hke;simp at hl;simp[qcb,boxS,stS,qaq];refine qcl (gp hl) rfl ?_;have lU:=glt hl;have nU:U.length≠3:=by omega
    have vq:((U++[Ob.arr [q.v] 25 1]).set 3 (.loop { st:=.busy,pend:=none,ps:=[31],asg:=(rfAt Tryz.f151 0).1,body:=(rfAt Tryz.f151 0).2,e:=ke,N:=35 }))[U.length]?=some (.arr [q.v] 25 1):=gs (by simp) nU;have vL:((U++[Ob.arr [q.v] 25 1]).set 3 (.loop { st:=.busy,pend:=none,ps:=[31],asg:=(rfAt Tryz.f151 0).1,body:=(rfAt Tryz.f151 0).2,e:=ke,N:=35 }))[3]?=some (.loop _):=qq5 (by simp;omega);have vj:=(hj.push (Ob.arr [q.v] 25 1)).set (L:=3) (.loop { st:=.busy,pend:=none,ps:=[31],asg:=(rfAt Tryz.f151 0).1,body:=(rfAt Tryz.f151 0).2,e:=ke,N:=35 }) (by omega);have vk:Kp (fun x=>x=1∨x=3) U ((U++[Ob.arr [q.v] 25 1]).set 3 (.loop { st:=.busy,pend:=none,ps:=[31],asg:=(rfAt Tryz.f151 0).1,body:=(rfAt Tryz.f151 0).2,e:=ke,N:=35 })):=((Kp.refl _ _).push _).set _ (.inl (.inr rfl));generalize (U++[Ob.arr [q.v] 25 1]).set 3 _=W at vq vL vj vk ⊢;simp[ldS,vq];refine qad (ih q (by omega) (Pa.kid_ok hp hqk) W) ?_
    cases hqv:q.valid qac with
    | true=>
     simp;refine qfA ⟨rfl,rfl⟩ (.inr rfl) vL vk ⟨vj.set _ (by omega),?_⟩;intro r hr;rw[qrv,hq] at hr;rcases qrw.1 hr with hr|hr
     ·exact hv r hr
     ·simp at hr;subst hr;exact hqv
    | false=>
     simp[stS,qb4,vj.t2,g2'];refine qg1 (.inr rfl) (gs vL (by omega)) (vk.set _ (.inl (.inl rfl))) ⟨gs (qq5 (glt vj.t2)) (by omega),?_⟩
     cases hh:p.valid qac with
     | false=>rfl
     | true=>rw[(Pa.valid_iff.1 hh).2 q hqk] at hqv;cases hqv
   ·rintro U ⟨hj,hv⟩ hk;rw[hkl] at hv;unfold VV at hv;rw[qrT] at hv;simp[stS,qb4,hj.t2,g2];refine qaa (vs:=[.bool true]) (by simp[ldS,g2,glt hj.t2]) ?_ rfl;rw[Pa.valid_iff.2 ⟨hown,hv⟩];rfl
   ·rintro U ⟨h1,h2⟩ hk;simp;refine qaa (vs:=[.bool false]) (by simp[ldS,g2,h1]) ?_ rfl;rw[h2];rfl
   ·rintro id U h;exact h.elim
  have stop:p.vOwn qac=false→p.valid qac=false:=fun h=>by rw[hve,h];rfl
  cases p with
  | st s=>
   have hown:(Pa.st s).vOwn qac=s.vOwn qac:=rfl;simp only[c151,←qc0];simp[boxS,ldS];simp only[Pa.v,Pa.kind,Pa.toS,Pa.toD,Pa.toE,Pa.toX];simp[ldS];refine qad (qpH s hp _) ?_
   cases ho:s.vOwn qac with
   | false=>
    simp[stS,qb4];refine qaa rfl ?_ rfl;rw[stop (by rw[hown,ho])];rfl
   | true=>
    simp[hown,ho];exact range _ (hown.trans ho) (by simp) (by simp)
  | de d=>
   have hown:(Pa.de d).vOwn qac=d.vOwn qac:=rfl;simp only[c151,←qc0];simp[boxS,ldS];simp only[Pa.v,Pa.kind,Pa.toS,Pa.toD,Pa.toE,Pa.toX];simp[ldS];refine qad (qok d hp _) ?_
   cases ho:d.vOwn qac with
   | false=>
    simp[stS,qb4];refine qaa rfl ?_ rfl;rw[stop (by rw[hown,ho])];rfl
   | true=>
    simp[hown,ho];exact range _ (hown.trans ho) (by simp) (by simp)
  | el e=>
   have hown:(Pa.el e).vOwn qac=e.vOwn:=rfl;simp only[c151,←qc0];simp[boxS,ldS];simp only[Pa.v,Pa.kind,Pa.toS,Pa.toD,Pa.toE,Pa.toX];simp[ldS];refine qad (qnh e _) ?_
   cases ho:e.vOwn with
   | false=>
    simp[stS,qb4];refine qaa rfl ?_ rfl;rw[stop (by rw[hown,ho])];rfl
   | true=>
    simp[hown,ho];exact range _ (hown.trans ho) (by simp) (by simp)
  | ex x=>
   have hown:(Pa.ex x).vOwn qac=x.vOwn qac:=rfl;simp only[c151,←qc0];simp[boxS,ldS];simp only[Pa.v,Pa.kind,Pa.toS,Pa.toD,Pa.toE,Pa.toX];simp[ldS];refine qad (qoE x hp _) ?_
   cases ho:x.vOwn qac with
   | false=>
    simp[stS,qb4];refine qaa rfl ?_ rfl;rw[stop (by rw[hown,ho])];rfl
   | true=>
    simp[hown,ho];exact range _ (hown.trans ho) (by simp) (by simp)
theorem qpC(p:Pa)(hp:p.ok):∀S,Fn prog 100 [p.v] S (.int .i64 (p.err qac)):=by
 refine Pu.ib func100 ok100 (by simp[c100]) (by simp) rfl ?_;simp[c100,boxS,ldS];refine qan (qop p hp _) ?_;rintro v U ⟨⟨z,d,rfl,_⟩,rfl⟩;unfold Pa.err;by_cases hf:p.fits
 ·simp[hf,ldS];refine qad (qpo _ p (qq8 _) hp _) ?_
  cases hv:p.valid qac with
  | true=>
   simp;exact qaa rfl rfl rfl
  | false=>
   simp;exact qaa rfl rfl rfl
 ·simp[hf,ldS];exact qaa rfl rfl rfl
theorem qmV(s:Sm)(hs:s.ok):∀S,Fn prog 56 [s.v] S (.int .i64 ((Pa.st s).err qac)):=by
 refine Pu.ib func56 ok56 (by simp[c56]) (by simp[V.under]) rfl ?_;simp[c56,boxS,ldS];refine qad (qjJ s _) ?_;simp;refine qad (qpC (.st s) hs _) ?_;simp;exact qaa rfl rfl rfl
@[simp] theorem uPa(l:List Pa):V.underL 0 (l.map Pa.v)=true:=qay fun x _=>Pa.v_under x
open Classical in
theorem eqFo(f g:Fo):qaT [.str f.name,.bool f.value,.int .i64 f.spec,.int .i64 f.type] [.str g.name,.bool g.value,.int .i64 g.spec,.int .i64 g.type] [(0,.s),(1,.b),(2,.i),(3,.i)]=some (decide (f=g)):=by
 by_cases h1:f.name=g.name
 ·by_cases h2:f.value=g.value
  ·by_cases h3:f.spec=g.spec
   ·by_cases h4:f.type=g.type
    ·have:f=g:=by cases f;cases g;simp at *;exact ⟨h1,h2,h3,h4⟩
     simp[qaT,qcd,this]
    ·have hb:(f.type==g.type)=false:=by simpa using h4
     have:¬ f=g:=fun h=>h4 (by rw[h])
     simp[qaT,qcd,h1,h2,h3,hb,this]
   ·have hb:(f.spec==g.spec)=false:=by simpa using h3
    have:¬ f=g:=fun h=>h3 (by rw[h])
    simp[qaT,qcd,h1,h2,hb,this]
  ·have hb:(f.value==g.value)=false:=by simpa using h2
   have:¬ f=g:=fun h=>h2 (by rw[h])
   simp[qaT,qcd,h1,hb,this]
 ·have hb:(f.name.data.toList==g.name.data.toList)=false:=by
   rw[beq_eq_false_iff_ne];intro hh;exact h1 (ByteArray.ext (Array.ext' hh))
  have:¬ f=g:=fun h=>h1 (by rw[h])
  simp[qaT,qcd,hb,this]
set_option maxRecDepth 20000
def c122:F':=⟨17,[.t 4],
 .seq (.reg [.o 2 (.box (.t 0)),
 .o 3 (.box (.t 1)),
 .o 4 (.mv (.c (.bool false)))])
 (.seq (.reg [.f 5 0 2,
 .l 6 5,
 .f 7 0 3,
 .l 8 7,
 .b 9 .eql 6 8,
 .m 10 9,
 .v 11 10 true (.fa 1 (.t 2)),
 .v 12 10 true (.ld none (.t 11)),
 .v 13 10 true (.fa 1 (.t 3)),
 .v 14 10 true (.ld none (.t 13)),
 .v 15 10 true (.call (.f 123) [(.t 12),(.t 14)]),
 .y 16 10 15,
 .m 4 16])
 (.ret))⟩
theorem ok122:okF Tryz.f122 c122:=okI (by kernel_rfl)
def c256:F':=⟨47,[.cell 6 (some 7)],
 .seq (.reg [.o 4 (.box (.t 1)),
 .o 6 (.new zD)])
 (.seq (.reg [.m 10 0,
 .m 11 2,
 .j 12 7 4,
 .o 13 (.call (.f 272) [(.t 12)]),
 .o 14 (.call (.f 157) [(.t 10),(.t 11),(.t 13)]),
 .m 7 14])
 (.seq (.reg [.f 15 5 4,
 .l 16 15,
 .o 17 (.call (.f 273) [(.t 16)]),
 .m 8 17])
 (.seq (.seq (.reg [.m 18 8,
 .o 19 (.len false (.t 18)),
 .o 20 (.mv (.c (.int .i64 0)))])
 (.block 0 (.loop (.seq (.reg [.b 21 .lss 20 19])
 (.seq (.cond (.t 21)
 (.skip)
 (.exit 0))
 (.seq (.block 1 (.seq (.reg [.m 22 20,
 .m 9 22])
 (.reg [.m 23 8,
 .m 24 9,
 .m 25 7,
 .m 26 8,
 .m 27 9,
 .i 28 4 26 27,
 .f 29 0 28,
 .l 30 29,
 .o 31 (.call (.f 60) [(.t 25),(.t 30)]),
 .h 32 31,
 .f 33 2 32,
 .l 34 33,
 .i 35 4 23 24,
 .f 36 0 35,
 .s 1 36 34])))
 (.reg [.u 37 .add 20 1,
 .m 20 37])))))))
 (.seq (.reg [.m 38 8,
 .f 39 5 4,
 .s 1 39 38])
 (.seq (.reg [.m 40 0,
 .f 41 6 4,
 .l 42 41,
 .m 43 7,
 .o 44 (.call (.f 111) [(.t 40),(.t 42),(.t 43)]),
 .f 45 6 4,
 .s 1 45 44])
 (.seq (.reg [.j 46 7 4,
 .s 7 6 46])
 (.ret)))))))⟩
theorem ok256:okF Tryz.f256 c256:=okI (by kernel_rfl)
def c272:F':=⟨4,[.t 2],
 .seq (.reg [.o 1 (.box (.t 0)),
 .o 2 (.mv (.c .nilfn))])
 (.seq (.reg [.o 3 (.mkf 277 [] [(.t 1)]),
 .m 2 3])
 (.ret))⟩
theorem ok272:okF Tryz.f272 c272:=okI (by kernel_rfl)
def c273:F':=⟨8,[.t 2],
 .seq (.reg [.o 2 (.mv (.c (.sl true [])))])
 (.seq (.seq (.reg [.m 3 0,
 .o 4 (.ex (.eqn false (.t 3)))])
 (.cond (.t 4)
 (.seq (.reg [.o 2 (.mv (.c (.sl true [])))])
 (.ret))
 (.skip)))
 (.seq (.reg [.o 5 (.bsl 4 []),
 .m 6 0,
 .o 7 (.app 4 40 (.t 5) (.t 6)),
 .m 2 7])
 (.ret)))⟩
theorem ok273:okF Tryz.f273 c273:=okI (by kernel_rfl)
def c277:F':=⟨18,[],
 .seq (.reg [.f 5 5 1,
 .l 6 5,
 .o 7 (.len false (.t 6)),
 .o 8 (.mv (.c (.int .i64 0)))])
 (.block 0 (.loop (.seq (.reg [.b 9 .lss 8 7])
 (.seq (.cond (.t 9)
 (.skip)
 (.exit 0))
 (.seq (.block 1 (.seq (.reg [.i 10 4 6 8,
 .j 11 4 10,
 .o 4 (.new zF),
 .s 4 4 11])
 (.seq (.reg [.m 12 0,
 .f 13 0 4,
 .l 14 13,
 .o 15 (.call (.t 12) [(.t 14)]),
 .o 16 (.un .not (.t 15))])
 (.cond (.t 16)
 (.ret)
 (.skip)))))
 (.reg [.u 17 .add 8 1,
 .m 8 17]))))))⟩
theorem ok277:okF Tryz.f277 c277:=okI (by kernel_rfl)
theorem Ex.ext'{x y:Ex}(a:x.kind=y.kind)(b:x.op=y.op)(c:x.n=y.n)(d:x.man=y.man∧x.exp=y.exp)(e:x.text=y.text)(f:x.args=y.args):x=y:=by
 obtain ⟨d,d'⟩:=d;cases x;cases y;simp only[Ex.kind,Ex.op,Ex.n,Ex.man,Ex.exp,Ex.text,Ex.args] at *;subst a b c d d' e f;rfl
theorem De.ext'{x y:De}(a:x.kind=y.kind)(b:x.own=y.own)(c:x.type=y.type)(d:x.names=y.names)(e:x.exps=y.exps)(f:x.formals=y.formals)(g:x.body=y.body):x=y:=by
 cases x;cases y;simp only[De.kind,De.own,De.type,De.names,De.exps,De.formals,De.body] at *;subst a b c d e f g;rfl
theorem Sm.ext'{x y:Sm}(a:x.elems=y.elems)(b:x.decls=y.decls)(c:x.labels=y.labels)(d:x.kind=y.kind)(e:x.text=y.text)(f:x.targets=y.targets)(g:x.exps=y.exps)(h:x.body=y.body):x=y:=by
 cases x;cases y;simp only[Sm.labels,Sm.kind,Sm.text,Sm.targets,Sm.exps,Sm.elems,Sm.decls,Sm.body] at *;subst a b c d e f g h;rfl
def eqTo{α:Type}(l m:List α)(i:Nat):Prop:=∀j,j<i→l[j]?=m[j]?
theorem qcS{α:Type}{l m:List α}(hl:l.length=m.length)(h:eqTo l m l.length):l=m:=by
 apply qr6;intro i;by_cases hi:i<l.length
 ·exact h i hi
 ·rw[qsu (by omega),qsu (by omega)]
open Classical in
theorem qk8(l m:List ByteArray)(hl:l.length≤B50):∀S,Fn prog 126 [.sl false (l.map .str),.sl false (m.map .str)] S (.bool (decide (l=m))):=by
 refine Pu.ib func126 ok126 (by simp[c126]) (by simp[V.under]) rfl ?_;unfold B50 at hl;by_cases hlen:l.length=m.length
 case neg=>
  have hne:¬ l=m:=fun h=>hlen (by rw[h])
  simp only[decide_eq_false hne];simp[c126,show ¬ ((l.length:Int)=m.length) by omega];exact qaa rfl rfl rfl
 generalize hd:decide (l=m)=b;simp only[c126];simp[hlen];refine qax (fun j e S'=>∃i:Nat,j=l.length - i∧i≤l.length∧eqTo l m i∧
  e=[(13,.int .i64 i),(12,.int .i64 m.length),(0,.sl false (l.map .str)),(1,.sl false (m.map .str))]) l.length _ ?_ ⟨0,by simp,by omega,fun j hj=>by omega,rfl⟩ ?_
 ·repeat' first|exact Env.sub_nil _|refine Env.sub_cons (by simp[hlen]) ?_
 rintro j e S' ⟨i,rfl,hi,hq,rfl⟩;by_cases h:i<l.length
 ·have h':i<m.length:=by omega
  by_cases hx:l[i]=m[i]
  ·skip;simp[h,h',qe8,dend,qcs,qc5,hx,qa6 (n:=(i:Int)+1)];refine ⟨_,?_,_,?_,i+1,rfl,by omega,?_,rfl⟩
   ·omega
   ·exact Env.so (by simp)
   ·intro j hj;by_cases hji:j=i
    ·subst hji;simp[h,h',hx]
    ·exact hq j (by omega)
  ·skip;simp[h,h',qe8,dend,qcs,qc5,hx];refine qaa rfl ?_ rfl;rw[←hd];have:¬ l=m:=fun hh=>hx (by subst hh;rfl)
   simp[retV,this]
 ·have:i=l.length:=by omega
  subst this;simp[hlen];refine qaa rfl ?_ rfl;rw[←hd,decide_eq_true (qcS hlen hq)];rfl
open Classical in
theorem qnd(l m:List Fo)(hl:l.length≤B50):∀S,Fn prog 127 [.sl false (l.map Fo.v),.sl false (m.map Fo.v)] S (.bool (decide (l=m))):=by
 refine Pu.ib func127 ok127 (by simp[c127]) (by simp[V.under]) rfl ?_;unfold B50 at hl;by_cases hlen:l.length=m.length
 case neg=>
  have hne:¬ l=m:=fun h=>hlen (by rw[h])
  simp only[decide_eq_false hne];simp[c127,show ¬ ((l.length:Int)=m.length) by omega];exact qaa rfl rfl rfl
 generalize hd:decide (l=m)=b;simp only[c127];simp[hlen];refine qax (fun j e S'=>∃i:Nat,j=l.length - i∧i≤l.length∧eqTo l m i∧
  e=[(13,.int .i64 i),(12,.int .i64 m.length),(0,.sl false (l.map Fo.v)),(1,.sl false (m.map Fo.v))]) l.length _ ?_ ⟨0,by simp,by omega,fun j hj=>by omega,rfl⟩ ?_
 ·repeat' first|exact Env.sub_nil _|refine Env.sub_cons (by simp[hlen]) ?_
 rintro j e S' ⟨i,rfl,hi,hq,rfl⟩;by_cases h:i<l.length
 ·have h':i<m.length:=by omega
  by_cases hx:l[i]=m[i]
  ·have hef:=eqFo l[i] m[i];rw[decide_eq_true hx] at hef;simp[h,h',iaFo,evX,Fo.v,qct,hef,dend,qcs,qc5,qa6 (n:=(i:Int)+1)];refine ⟨_,?_,_,?_,i+1,rfl,by omega,?_,rfl⟩
   ·omega
   ·exact Env.so (by simp)
   ·intro j hj;by_cases hji:j=i
    ·subst hji;simp[h,h',hx]
    ·exact hq j (by omega)
  ·have hef:=eqFo l[i] m[i];rw[decide_eq_false hx] at hef;simp[h,h',iaFo,evX,Fo.v,qct,hef,dend,qcs,qc5];refine qaa rfl ?_ rfl;rw[←hd];have:¬ l=m:=fun hh=>hx (by subst hh;rfl)
   simp[retV,this]
 ·have:i=l.length:=by omega
  subst this;simp[hlen];refine qaa rfl ?_ rfl;rw[←hd,decide_eq_true (qcS hlen hq)];rfl
open Classical in
theorem qk1(l m:List Ex)(hl:l.length≤B50)(g:Nat)(hg:∀x,x∈l→∀y S,Fn prog g [Ex.v x,Ex.v y] S (.bool (decide (x=y)))):∀S,Fn prog 165 [.sl false (l.map Ex.v),.sl false (m.map Ex.v),.fn (.func g) [] []] S (.bool (decide (l=m))):=by
 refine Pu.intro (R:=fun v=>v=.bool (decide (l=m))) func165 ok165 (by simp[c165]) (by simp[V.under,V.underL]) (by rintro v rfl;rfl) ?_;unfold B50 at hl;by_cases hlen:l.length=m.length
 case neg=>
  have hne:¬ l=m:=fun h=>hlen (by rw[h])
  simp only[decide_eq_false hne];simp[c165,show ¬ ((l.length:Int)=m.length) by omega];exact qaa rfl rfl rfl
 generalize hd:decide (l=m)=b;simp only[c165];simp[hlen];refine qax (fun j e S'=>∃i:Nat,j=l.length - i∧i≤l.length∧eqTo l m i∧
  e=[(17,.int .i64 i),(16,.int .i64 m.length),(15,.sl false (l.map Ex.v)),(1,.sl false (m.map Ex.v)),(2,.fn (.func g) [] [])]) l.length _ ?_ ⟨0,by simp,by omega,fun j hj=>by omega,rfl⟩ ?_
 ·repeat' first|exact Env.sub_nil _|refine Env.sub_cons (by simp[hlen]) ?_
 rintro j e S' ⟨i,rfl,hi,hq,rfl⟩;by_cases h:i<l.length
 ·have h':i<m.length:=by omega
  simp[h',iaEx,boxS,ldS,stS,qaq,h];refine qad (hg l[i] (qrf h) m[i] _) ?_;by_cases hx:l[i]=m[i]
  ·rw[decide_eq_true hx];simp[qa6 (n:=(i:Int)+1)];refine ⟨_,?_,_,?_,i+1,rfl,by omega,?_,rfl⟩
   ·omega
   ·exact Env.so (by simp)
   ·intro j hj;by_cases hji:j=i
    ·subst hji;simp[h,h',hx]
    ·exact hq j (by omega)
  ·rw[decide_eq_false hx];simp;refine qaa rfl ?_ rfl;rw[←hd];have:¬ l=m:=fun hh=>hx (by subst hh;rfl)
   simp[retV,this]
 ·have:i=l.length:=by omega
  subst this;simp[hlen];refine qaa rfl ?_ rfl;rw[←hd,decide_eq_true (qcS hlen hq)];rfl
open Classical in
theorem qoT(l m:List Sm)(hl:l.length≤B50)(g:Nat)(hg:∀x,x∈l→∀y S,Fn prog g [Sm.v x,Sm.v y] S (.bool (decide (x=y)))):∀S,Fn prog 119 [.sl false (l.map Sm.v),.sl false (m.map Sm.v),.fn (.func g) [] []] S (.bool (decide (l=m))):=by
 refine Pu.intro (R:=fun v=>v=.bool (decide (l=m))) func119 ok119 (by simp[c119]) (by simp[V.under,V.underL]) (by rintro v rfl;rfl) ?_;unfold B50 at hl;by_cases hlen:l.length=m.length
 case neg=>
  have hne:¬ l=m:=fun h=>hlen (by rw[h])
  simp only[decide_eq_false hne];simp[c119,show ¬ ((l.length:Int)=m.length) by omega];exact qaa rfl rfl rfl
 generalize hd:decide (l=m)=b;simp only[c119];simp[hlen];refine qax (fun j e S'=>∃i:Nat,j=l.length - i∧i≤l.length∧eqTo l m i∧
  e=[(17,.int .i64 i),(16,.int .i64 m.length),(15,.sl false (l.map Sm.v)),(1,.sl false (m.map Sm.v)),(2,.fn (.func g) [] [])]) l.length _ ?_ ⟨0,by simp,by omega,fun j hj=>by omega,rfl⟩ ?_
 ·repeat' first|exact Env.sub_nil _|refine Env.sub_cons (by simp[hlen]) ?_
 rintro j e S' ⟨i,rfl,hi,hq,rfl⟩;by_cases h:i<l.length
 ·have h':i<m.length:=by omega
  simp[h',iaSm,boxS,ldS,stS,qaq,h];refine qad (hg l[i] (qrf h) m[i] _) ?_;by_cases hx:l[i]=m[i]
  ·rw[decide_eq_true hx];simp[qa6 (n:=(i:Int)+1)];refine ⟨_,?_,_,?_,i+1,rfl,by omega,?_,rfl⟩
   ·omega
   ·exact Env.so (by simp)
   ·intro j hj;by_cases hji:j=i
    ·subst hji;simp[h,h',hx]
    ·exact hq j (by omega)
  ·rw[decide_eq_false hx];simp;refine qaa rfl ?_ rfl;rw[←hd];have:¬ l=m:=fun hh=>hx (by subst hh;rfl)
   simp[retV,this]
 ·have:i=l.length:=by omega
  subst this;simp[hlen];refine qaa rfl ?_ rfl;rw[←hd,decide_eq_true (qcS hlen hq)];rfl
open Classical in
theorem qo6(l m:List El)(hl:l.length≤B50)(g:Nat)(hg:∀x,x∈l→∀y S,Fn prog g [El.v x,El.v y] S (.bool (decide (x=y)))):∀S,Fn prog 121 [.sl false (l.map El.v),.sl false (m.map El.v),.fn (.func g) [] []] S (.bool (decide (l=m))):=by
 refine Pu.intro (R:=fun v=>v=.bool (decide (l=m))) func121 ok121 (by simp[c121]) (by simp[V.under,V.underL]) (by rintro v rfl;rfl) ?_;unfold B50 at hl;by_cases hlen:l.length=m.length
 case neg=>
  have hne:¬ l=m:=fun h=>hlen (by rw[h])
  simp only[decide_eq_false hne];simp[c121,show ¬ ((l.length:Int)=m.length) by omega];exact qaa rfl rfl rfl
 generalize hd:decide (l=m)=b;simp only[c121];simp[hlen];refine qax (fun j e S'=>∃i:Nat,j=l.length - i∧i≤l.length∧eqTo l m i∧
  e=[(17,.int .i64 i),(16,.int .i64 m.length),(15,.sl false (l.map El.v)),(1,.sl false (m.map El.v)),(2,.fn (.func g) [] [])]) l.length _ ?_ ⟨0,by simp,by omega,fun j hj=>by omega,rfl⟩ ?_
 ·repeat' first|exact Env.sub_nil _|refine Env.sub_cons (by simp[hlen]) ?_
 rintro j e S' ⟨i,rfl,hi,hq,rfl⟩;by_cases h:i<l.length
 ·have h':i<m.length:=by omega
  simp[h',iaEl,boxS,ldS,stS,qaq,h];refine qad (hg l[i] (qrf h) m[i] _) ?_;by_cases hx:l[i]=m[i]
  ·rw[decide_eq_true hx];simp[qa6 (n:=(i:Int)+1)];refine ⟨_,?_,_,?_,i+1,rfl,by omega,?_,rfl⟩
   ·omega
   ·exact Env.so (by simp)
   ·intro j hj;by_cases hji:j=i
    ·subst hji;simp[h,h',hx]
    ·exact hq j (by omega)
  ·rw[decide_eq_false hx];simp;refine qaa rfl ?_ rfl;rw[←hd];have:¬ l=m:=fun hh=>hx (by subst hh;rfl)
   simp[retV,this]
 ·have:i=l.length:=by omega
  subst this;simp[hlen];refine qaa rfl ?_ rfl;rw[←hd,decide_eq_true (qcS hlen hq)];rfl
open Classical in
theorem qnU(l m:List De)(hl:l.length≤B50)(g:Nat)(hg:∀x,x∈l→∀y S,Fn prog g [De.v x,De.v y] S (.bool (decide (x=y)))):∀S,Fn prog 124 [.sl false (l.map De.v),.sl false (m.map De.v),.fn (.func g) [] []] S (.bool (decide (l=m))):=by
 refine Pu.intro (R:=fun v=>v=.bool (decide (l=m))) func124 ok124 (by simp[c124]) (by simp[V.under,V.underL]) (by rintro v rfl;rfl) ?_;unfold B50 at hl;by_cases hlen:l.length=m.length
 case neg=>
  have hne:¬ l=m:=fun h=>hlen (by rw[h])
  simp only[decide_eq_false hne];simp[c124,show ¬ ((l.length:Int)=m.length) by omega];exact qaa rfl rfl rfl
 generalize hd:decide (l=m)=b;simp only[c124];simp[hlen];refine qax (fun j e S'=>∃i:Nat,j=l.length - i∧i≤l.length∧eqTo l m i∧
  e=[(17,.int .i64 i),(16,.int .i64 m.length),(15,.sl false (l.map De.v)),(1,.sl false (m.map De.v)),(2,.fn (.func g) [] [])]) l.length _ ?_ ⟨0,by simp,by omega,fun j hj=>by omega,rfl⟩ ?_
 ·repeat' first|exact Env.sub_nil _|refine Env.sub_cons (by simp[hlen]) ?_
 rintro j e S' ⟨i,rfl,hi,hq,rfl⟩;by_cases h:i<l.length
 ·have h':i<m.length:=by omega
  simp[h',iaDe,boxS,ldS,stS,qaq,h];refine qad (hg l[i] (qrf h) m[i] _) ?_;by_cases hx:l[i]=m[i]
  ·rw[decide_eq_true hx];simp[qa6 (n:=(i:Int)+1)];refine ⟨_,?_,_,?_,i+1,rfl,by omega,?_,rfl⟩
   ·omega
   ·exact Env.so (by simp)
   ·intro j hj;by_cases hji:j=i
    ·subst hji;simp[h,h',hx]
    ·exact hq j (by omega)
  ·rw[decide_eq_false hx];simp;refine qaa rfl ?_ rfl;rw[←hd];have:¬ l=m:=fun hh=>hx (by subst hh;rfl)
   simp[retV,this]
 ·have:i=l.length:=by omega
  subst this;simp[hlen];refine qaa rfl ?_ rfl;rw[←hd,decide_eq_true (qcS hlen hq)];rfl
open Classical in
theorem qhe:∀k:Nat,(∀x:Ex,SizeOf.sizeOf x≤k→x.ok→∀y S,Fn prog 166 [x.v,y.v] S (.bool (decide (x=y)))):=by
 intro k
 induction k with
 | zero=>intro x h;exfalso;cases x;simp at h
 | succ k ih=>
  intro x hx hok y;refine Pu.ib func166 ok166 (by simp[c166]) (by simp[V.under]) rfl ?_;have hargs:=Ex.ok_args hok
  have ih':∀z,z∈x.args→∀y S,Fn prog 166 [Ex.v z,Ex.v y] S (.bool (decide (z=y))):=fun z hz=>ih z (by
   have:=qrF hz;cases x;simp only[Ex.args] at *;simp at hx;omega) (Ex.okL_mem hargs.2 z hz)
  have h123:∀S,Fn prog 123 [.sl false (x.args.map Ex.v),.sl false (y.args.map Ex.v)] S (.bool (decide (x.args=y.args))):=by
   refine Pu.ib func123 ok123 (by simp[c123]) (by simp[V.under]) rfl ?_;simp[c123];refine qad (qk1 x.args y.args hargs.1 166 ih' _) ?_;simp;exact qaa rfl rfl rfl
  generalize hr:decide (x=y)=r;simp[c166,boxS,ldS];by_cases a1:x.kind=y.kind
  case neg=>
   simp[ldS,eqOk,eqV,evX,qaV,a1];exact qaa rfl (by rw[←hr,decide_eq_false (fun hh=>a1 (by subst hh;first|rfl|exact ⟨rfl,rfl⟩))];rfl) rfl
  by_cases a2:x.op=y.op
  case neg=>
   simp[ldS,eqOk,eqV,evX,qaV,a1,a2];exact qaa rfl (by rw[←hr,decide_eq_false (fun hh=>a2 (by subst hh;first|rfl|exact ⟨rfl,rfl⟩))];rfl) rfl
  by_cases a3:x.n=y.n
  case neg=>
   simp[ldS,eqOk,eqV,evX,qaV,a1,a2,a3];exact qaa rfl (by rw[←hr,decide_eq_false (fun hh=>a3 (by subst hh;first|rfl|exact ⟨rfl,rfl⟩))];rfl) rfl
  by_cases a4:x.man=y.man∧x.exp=y.exp
  case neg=>
   simp[ldS,eqOk,eqV,evX,qaV,a1,a2,a3,a4];exact qaa rfl (by rw[←hr,decide_eq_false (fun hh=>a4 (by subst hh;first|rfl|exact ⟨rfl,rfl⟩))];rfl) rfl
  by_cases a5:x.text=y.text
  case neg=>
   simp[ldS,eqOk,eqV,evX,qaV,a1,a2,a3,a4,a5];exact qaa rfl (by rw[←hr,decide_eq_false (fun hh=>a5 (by subst hh;first|rfl|exact ⟨rfl,rfl⟩))];rfl) rfl
  simp[ldS,eqOk,eqV,evX,qaV,a1,a2,a3,a4,a5];refine qad (h123 _) ?_;by_cases a6:x.args=y.args
  case neg=>
   rw[decide_eq_false a6];simp;exact qaa rfl (by rw[←hr,decide_eq_false (fun hh=>a6 (by rw[hh]))];rfl) rfl
  rw[decide_eq_true a6];simp[ldS,eqOk,eqV,evX,qaV];exact qaa rfl (by rw[←hr,decide_eq_true (Ex.ext' a1 a2 a3 a4 a5 a6)];rfl) rfl
open Classical in
theorem qo8(x:Ex)(h:x.ok)(y:Ex):∀S,Fn prog 166 [x.v,y.v] S (.bool (decide (x=y))):=qhe _ x (qq8 _) h y
open Classical in
theorem qf4(l m:List Ex)(hl:l.length≤B50)(hok:Ex.okL l):∀S,Fn prog 123 [.sl false (l.map Ex.v),.sl false (m.map Ex.v)] S (.bool (decide (l=m))):=by
 refine Pu.ib func123 ok123 (by simp[c123]) (by simp[V.under]) rfl ?_;simp[c123];refine qad (qk1 l m hl 166 (fun x hx y S=>qo8 x (Ex.okL_mem hok x hx) y S) _) ?_;simp;exact qaa rfl rfl rfl
open Classical in
theorem qne(x:El)(h:x.ok)(y:El):∀S,Fn prog 122 [x.v,y.v] S (.bool (decide (x=y))):=by
 refine Pu.ib func122 ok122 (by simp[c122]) (by simp[V.under]) rfl ?_;generalize hr:decide (x=y)=r;simp[c122,boxS,ldS];by_cases a1:x.kind=y.kind
 case neg=>
  simp[ldS,eqOk,eqV,evX,qaV,a1];exact qaa rfl (by rw[←hr,decide_eq_false (fun hh=>a1 (by subst hh;first|rfl|exact ⟨rfl,rfl⟩))];rfl) rfl
 simp[ldS,eqOk,eqV,evX,qaV,a1];refine qad (qf4 x.exps y.exps h.1 h.2 _) ?_;by_cases a2:x.exps=y.exps
 case neg=>
  rw[decide_eq_false a2];simp;exact qaa rfl (by rw[←hr,decide_eq_false (fun hh=>a2 (by rw[hh]))];rfl) rfl
 rw[decide_eq_true a2];simp[ldS,eqOk,eqV,evX,qaV];exact qaa rfl (by rw[←hr,decide_eq_true (by cases x;cases y;simp only at *;subst a1 a2;rfl)];rfl) rfl
open Classical in
theorem qem{l m:List Sm}(hl:l.length≤B50)(h:∀x,x∈l→∀y S,Fn prog 120 [Sm.v x,Sm.v y] S (.bool (decide (x=y)))):∀S,Fn prog 69 [.sl false (l.map Sm.v),.sl false (m.map Sm.v)] S (.bool (decide (l=m))):=by
 refine Pu.ib func69 ok69 (by simp[c69]) (by simp[V.under]) rfl ?_;simp[c69];refine qad (qoT l m hl 120 h _) ?_;simp;exact qaa rfl rfl rfl
open Classical in
theorem qho:∀k:Nat,(∀s:Sm,SizeOf.sizeOf s≤k→s.ok→∀t S,Fn prog 120 [s.v,t.v] S (.bool (decide (s=t))))∧(∀d:De,SizeOf.sizeOf d≤k→d.ok→∀e S,Fn prog 125 [d.v,e.v] S (.bool (decide (d=e)))):=by
 intro k
 induction k with
 | zero=>exact ⟨fun s h=>by exfalso;cases s;simp at h,fun s h=>by exfalso;cases s;simp at h⟩
 | succ k ih=>
  refine ⟨fun s hs hok t=>?_,fun d hd hok e=>?_⟩
  ·have O:=(Sm.ok_iff s).1 hok
   have ihb:∀z,z∈s.body→∀y S,Fn prog 120 [Sm.v z,Sm.v y] S (.bool (decide (z=y))):=fun z hz=>ih.1 z (by
    have:=qrF hz;cases s;simp only[Sm.body] at *;simp at hs;omega) (Sm.okL_mem O.body.2 z hz)
   have ihd:∀z,z∈s.decls→∀y S,Fn prog 125 [De.v z,De.v y] S (.bool (decide (z=y))):=fun z hz=>ih.2 z (by
    have:=qrF hz;cases s;simp only[Sm.decls] at *;simp at hs;omega) (De.okL_mem O.decls.2 z hz)
   refine Pu.ib func120 ok120 (by simp[c120]) (by simp[V.under]) rfl ?_;generalize hr:decide (s=t)=r;simp[c120,boxS,ldS];refine qad (qo6 s.elems t.elems O.elems.1 122 (fun x hx y S=>qne x (O.elems.2 x hx) y S) _) ?_;simp[ldS];refine qad (qnU s.decls t.decls O.decls.1 125 ihd _) ?_;by_cases a1:s.elems=t.elems
   case neg=>
    rw[decide_eq_false a1];simp;exact qaa rfl (by rw[←hr,decide_eq_false (fun hh=>a1 (by rw[hh]))];rfl) rfl
   rw[decide_eq_true a1];by_cases a2:s.decls=t.decls
   case neg=>
    rw[decide_eq_false a2];simp;exact qaa rfl (by rw[←hr,decide_eq_false (fun hh=>a2 (by rw[hh]))];rfl) rfl
   rw[decide_eq_true a2];simp[ldS,eqOk,eqV,evX,qaV];refine qad (qk8 s.labels t.labels O.labels.1 _) ?_;by_cases a3:s.labels=t.labels
   case neg=>
    rw[decide_eq_false a3];simp;exact qaa rfl (by rw[←hr,decide_eq_false (fun hh=>a3 (by rw[hh]))];rfl) rfl
   rw[decide_eq_true a3];by_cases a4:s.kind=t.kind
   case neg=>
    simp[ldS,eqOk,eqV,evX,qaV,a4];exact qaa rfl (by rw[←hr,decide_eq_false (fun hh=>a4 (by subst hh;first|rfl|exact ⟨rfl,rfl⟩))];rfl) rfl
   by_cases a5:s.text=t.text
   case neg=>
    simp[ldS,eqOk,eqV,evX,qaV,a4,a5];exact qaa rfl (by rw[←hr,decide_eq_false (fun hh=>a5 (by subst hh;first|rfl|exact ⟨rfl,rfl⟩))];rfl) rfl
   simp[ldS,eqOk,eqV,evX,qaV,a4,a5];refine qad (qf4 s.targets t.targets O.targets.1 O.targets.2 _) ?_;by_cases a6:s.targets=t.targets
   case neg=>
    rw[decide_eq_false a6];simp;exact qaa rfl (by rw[←hr,decide_eq_false (fun hh=>a6 (by rw[hh]))];rfl) rfl
   rw[decide_eq_true a6];simp[ldS,eqOk,eqV,evX,qaV];refine qad (qf4 s.exps t.exps O.exps.1 O.exps.2 _) ?_;by_cases a7:s.exps=t.exps
   case neg=>
    rw[decide_eq_false a7];simp;exact qaa rfl (by rw[←hr,decide_eq_false (fun hh=>a7 (by rw[hh]))];rfl) rfl
   rw[decide_eq_true a7];simp[ldS,eqOk,eqV,evX,qaV];refine qad (qem O.body.1 ihb _) ?_;by_cases a8:s.body=t.body
   case neg=>
    rw[decide_eq_false a8];simp;exact qaa rfl (by rw[←hr,decide_eq_false (fun hh=>a8 (by rw[hh]))];rfl) rfl
   rw[decide_eq_true a8];simp[ldS,eqOk,eqV,evX,qaV];exact qaa rfl (by rw[←hr,decide_eq_true (Sm.ext' a1 a2 a3 a4 a5 a6 a7 a8)];rfl) rfl
  ·have O:=(De.ok_iff d).1 hok
   have ihb:∀z,z∈d.body→∀y S,Fn prog 120 [Sm.v z,Sm.v y] S (.bool (decide (z=y))):=fun z hz=>ih.1 z (by
    have:=qrF hz;cases d;simp only[De.body] at *;simp at hd;omega) (Sm.okL_mem O.body.2 z hz)
   refine Pu.ib func125 ok125 (by simp[c125]) (by simp[V.under]) rfl ?_;generalize hr:decide (d=e)=r;simp[c125,boxS,ldS];by_cases a1:d.kind=e.kind
   case neg=>
    simp[ldS,eqOk,eqV,evX,qaV,a1];exact qaa rfl (by rw[←hr,decide_eq_false (fun hh=>a1 (by subst hh;first|rfl|exact ⟨rfl,rfl⟩))];rfl) rfl
   by_cases a2:d.own=e.own
   case neg=>
    simp[ldS,eqOk,eqV,evX,qaV,a1,show (d.own==e.own)=false by simpa using a2];exact qaa rfl (by rw[←hr,decide_eq_false (fun hh=>a2 (by subst hh;first|rfl|exact ⟨rfl,rfl⟩))];rfl) rfl
   by_cases a3:d.type=e.type
   case neg=>
    simp[ldS,eqOk,eqV,evX,qaV,a1,a2,a3];exact qaa rfl (by rw[←hr,decide_eq_false (fun hh=>a3 (by subst hh;first|rfl|exact ⟨rfl,rfl⟩))];rfl) rfl
   simp[ldS,eqOk,eqV,evX,qaV,a1,a2,a3];refine qad (qk8 d.names e.names O.names.1 _) ?_;by_cases a4:d.names=e.names
   case neg=>
    rw[decide_eq_false a4];simp;exact qaa rfl (by rw[←hr,decide_eq_false (fun hh=>a4 (by rw[hh]))];rfl) rfl
   rw[decide_eq_true a4];simp[ldS,eqOk,eqV,evX,qaV];refine qad (qf4 d.exps e.exps O.exps.1 O.exps.2 _) ?_;by_cases a5:d.exps=e.exps
   case neg=>
    rw[decide_eq_false a5];simp;exact qaa rfl (by rw[←hr,decide_eq_false (fun hh=>a5 (by rw[hh]))];rfl) rfl
   rw[decide_eq_true a5];simp[ldS,eqOk,eqV,evX,qaV];refine qad (qnd d.formals e.formals O.formals.1 _) ?_;by_cases a6:d.formals=e.formals
   case neg=>
    rw[decide_eq_false a6];simp;exact qaa rfl (by rw[←hr,decide_eq_false (fun hh=>a6 (by rw[hh]))];rfl) rfl
   rw[decide_eq_true a6];simp[ldS,eqOk,eqV,evX,qaV];refine qad (qem O.body.1 ihb _) ?_;by_cases a7:d.body=e.body
   case neg=>
    rw[decide_eq_false a7];simp;exact qaa rfl (by rw[←hr,decide_eq_false (fun hh=>a7 (by rw[hh]))];rfl) rfl
   rw[decide_eq_true a7];simp[ldS,eqOk,eqV,evX,qaV];exact qaa rfl (by rw[←hr,decide_eq_true (De.ext' a1 a2 a3 a4 a5 a6 a7)];rfl) rfl
open Classical in
theorem qpO(l m:List Sm)(hl:l.length≤B50)(hok:Sm.okL l):∀S,Fn prog 69 [.sl false (l.map Sm.v),.sl false (m.map Sm.v)] S (.bool (decide (l=m))):=
 qem hl fun x hx y S=>(qho _).1 x (qq8 _) (Sm.okL_mem hok x hx) y S
structure Pw where
 H:Type
 f:Nat→ByteArray→ByteArray
 nm:Option (Ex→Scs→Bool→Ex)
 cl:Option (ByteArray→Scs→ByteArray)
 ent:H→Nat→ByteArray→H
 nmH:H→Ex→Scs→Bool→H
 clH:H→ByteArray→Scs→H
def retp(p:Pw)(sc:Scs)(x:ByteArray):ByteArray:=match sc.at x with
 | some k=>p.f k x
 | none=>x
def enters(p:Pw)(h:p.H)(s:Sco):p.H:=s.foldl (fun h e=>p.ent h e.2 e.1) h
def Pw.nmE(p:Pw)(sc:Scs)(tg:Bool)(x:Ex):Ex:=if Ex.named x.kind then match p.nm with
  | none=>.mk x.kind x.op x.n x.man x.exp (retp p sc x.text) x.args
  | some g=>g x sc tg
 else x
def Pw.nmS(p:Pw)(sc:Scs)(tg:Bool)(h:p.H)(x:Ex):p.H:=if Ex.named x.kind then match p.nm with
  | none=>h
  | some _=>p.nmH h x sc tg
 else h
mutual
def Ex.wr(p:Pw)(sc:Scs)(tg:Bool):Ex→Ex
 | .mk k o n m e t a=>p.nmE sc tg (.mk k o n m e t (Ex.wrl p sc false a))
def Ex.wrl(p:Pw)(sc:Scs)(tg:Bool):List Ex→List Ex
 | []=>[]
 | x::l=>Ex.wr p sc tg x::Ex.wrl p sc tg l
end
theorem Ex.wrl_map(p:Pw)(sc:Scs)(tg:Bool):∀l,Ex.wrl p sc tg l=l.map (Ex.wr p sc tg)
 | []=>rfl
 | x::l=>by rw[Ex.wrl,Ex.wrl_map p sc tg l];rfl
mutual
def Ex.hs(p:Pw)(sc:Scs)(tg:Bool)(h:p.H):Ex→p.H
 | .mk k o n m e t a=>p.nmS sc tg (Ex.hsl p sc false h a) (.mk k o n m e t (Ex.wrl p sc false a))
def Ex.hsl(p:Pw)(sc:Scs)(tg:Bool)(h:p.H):List Ex→p.H
 | []=>h
 | x::l=>Ex.hsl p sc tg (Ex.hs p sc tg h x) l
end
theorem Ex.hsl_append(p:Pw)(sc:Scs)(tg:Bool):∀(l m:List Ex) (h:p.H),Ex.hsl p sc tg h (l++m)=Ex.hsl p sc tg (Ex.hsl p sc tg h l) m
 | [],m,h=>rfl
 | x::l,m,h=>by simp only[qru,Ex.hsl];exact Ex.hsl_append p sc tg l m _
def El.wr(p:Pw)(sc:Scs)(e:El):El:=⟨e.kind,Ex.wrl p sc false e.exps⟩
def El.hsl(p:Pw)(sc:Scs)(h:p.H)(l:List El):p.H:=l.foldl (fun h e=>Ex.hsl p sc false h e.exps) h
def Fo.wr(p:Pw)(sc:Scs)(x:Fo):Fo:=⟨retp p sc x.name,x.value,x.spec,x.type⟩
def Pw.clE(p:Pw)(sc:Scs)(k:Int)(t:ByteArray):ByteArray:=if k=6 then match p.cl with
  | none=>retp p sc t
  | some c=>c t sc
 else t
def Pw.clS(p:Pw)(sc:Scs)(k:Int)(h:p.H)(t:ByteArray):p.H:=if k=6 then match p.cl with
  | none=>h
  | some _=>p.clH h t sc
 else h
mutual
def Sm.wr(p:Pw)(sc:Scs)(n:Nat):Sm→Sm
 | .mk l k t g e h d b=>
  if k=7 then
   .mk (l.map (retp p sc)) k t (Ex.wrl p sc true g) e h (De.wrl p (qaf (qae d b) n::sc) sc (n+(qaf (qae d b) n).length) d) (Sm.wrl p (qaf (qae d b) n::sc) (n+(qaf (qae d b) n).length+De.nbl d) b)
  else if k=8 then
   .mk (l.map (retp p sc)) k t (Ex.wrl p sc true g) e h d (Sm.wrl p (qaf (qap b) n::sc) (n+(qaf (qap b) n).length) b)
  else .mk (l.map (retp p sc)) k (p.clE sc k t) (Ex.wrl p sc true g) (Ex.wrl p sc false e) (h.map (El.wr p sc)) d (Sm.wr1 p sc n b)
def De.wr(p:Pw)(own sc:Scs)(n:Nat):De→De
 | .mk k o t nm e fo b=>
  if k=4 then .mk k o t (nm.map (retp p own)) (Ex.wrl p own false e) (fo.map (Fo.wr p (qaf (fo.map Fo.name) n::own))) (Sm.wr1 p (qaf (fo.map Fo.name) n::own) (n+(qaf (fo.map Fo.name) n).length) b)
  else .mk k o t (nm.map (retp p own)) (Ex.wrl p (if k=2 then sc else own) false e) fo b
def De.wrl(p:Pw)(own sc:Scs)(n:Nat):List De→List De
 | []=>[]
 | x::l=>De.wr p own sc n x::De.wrl p own sc (n+De.nb x) l
def Sm.wrl(p:Pw)(sc:Scs)(n:Nat):List Sm→List Sm
 | []=>[]
 | x::l=>Sm.wr p sc n x::Sm.wrl p sc (n+Sm.nb x) l
def Sm.wr1(p:Pw)(sc:Scs)(n:Nat):List Sm→List Sm
 | []=>[]
 | x::l=>Sm.wr p (qaf x.labels n::sc) (n+(qaf x.labels n).length) x::Sm.wr1 p sc (n+(qaf x.labels n).length+Sm.nb x) l
end
mutual
def Sm.hs(p:Pw)(sc:Scs)(n:Nat)(h:p.H):Sm→p.H
 | .mk _ k t g e el d b=>
  if k=7 then
   Sm.hsl p (qaf (qae d b) n::sc) (n+(qaf (qae d b) n).length+De.nbl d) (De.hsl p (qaf (qae d b) n::sc) sc (n+(qaf (qae d b) n).length) (enters p (Ex.hsl p sc true h g) (qaf (qae d b) n)) d) b
  else if k=8 then
   Sm.hsl p (qaf (qap b) n::sc) (n+(qaf (qap b) n).length) (enters p (Ex.hsl p sc true h g) (qaf (qap b) n)) b
  else p.clS sc k (Sm.hs1 p sc n (El.hsl p sc (Ex.hsl p sc false (Ex.hsl p sc true h g) e) el) b) t
def De.hs(p:Pw)(own sc:Scs)(n:Nat)(h:p.H):De→p.H
 | .mk k _ _ _ e fo b=>
  if k=4 then Sm.hs1 p (qaf (fo.map Fo.name) n::own) (n+(qaf (fo.map Fo.name) n).length) (enters p (Ex.hsl p own false h e) (qaf (fo.map Fo.name) n)) b
  else Ex.hsl p (if k=2 then sc else own) false h e
def De.hsl(p:Pw)(own sc:Scs)(n:Nat)(h:p.H):List De→p.H
 | []=>h
 | x::l=>De.hsl p own sc (n+De.nb x) (De.hs p own sc n h x) l
def Sm.hsl(p:Pw)(sc:Scs)(n:Nat)(h:p.H):List Sm→p.H
 | []=>h
 | x::l=>Sm.hsl p sc (n+Sm.nb x) (Sm.hs p sc n h x) l
def Sm.hs1(p:Pw)(sc:Scs)(n:Nat)(h:p.H):List Sm→p.H
 | []=>h
 | x::l=>Sm.hs1 p sc (n+(qaf x.labels n).length+Sm.nb x) (Sm.hs p (qaf x.labels n::sc) (n+(qaf x.labels n).length) (enters p h (qaf x.labels n)) x) l
end
def Sm.wholeR(p:Pw)(s:Sm):Sm:=s.wr p [qaf s.labels 0] (qaf s.labels 0).length
def Sm.wholeH(p:Pw)(h:p.H)(s:Sm):p.H:=s.hs p [qaf s.labels 0] (qaf s.labels 0).length (enters p h (qaf s.labels 0))
theorem Sm.nbl_append:∀(l m:List Sm),Sm.nbl (l++m)=Sm.nbl l+Sm.nbl m
 | [],m=>by simp[Sm.nbl]
 | x::l,m=>by simp only[qru,Sm.nbl,Sm.nbl_append l m];omega
theorem De.nbl_append:∀(l m:List De),De.nbl (l++m)=De.nbl l+De.nbl m
 | [],m=>by simp[De.nbl]
 | x::l,m=>by simp only[qru,De.nbl,De.nbl_append l m];omega
theorem Sm.nb1_append:∀(l m:List Sm),Sm.nb1 (l++m)=Sm.nb1 l+Sm.nb1 m
 | [],m=>by simp[Sm.nb1]
 | x::l,m=>by simp only[qru,Sm.nb1,Sm.nb1_append l m];omega
theorem Sm.wrl_append(p:Pw)(sc:Scs):∀(l m:List Sm) (n:Nat),Sm.wrl p sc n (l++m)=Sm.wrl p sc n l++Sm.wrl p sc (n+Sm.nbl l) m
 | [],m,n=>by simp[Sm.wrl,Sm.nbl]
 | x::l,m,n=>by simp only[qru,Sm.wrl,Sm.nbl,Sm.wrl_append p sc l m,qrU]
theorem De.wrl_append(p:Pw)(own sc:Scs):∀(l m:List De) (n:Nat),De.wrl p own sc n (l++m)=De.wrl p own sc n l++De.wrl p own sc (n+De.nbl l) m
 | [],m,n=>by simp[De.wrl,De.nbl]
 | x::l,m,n=>by simp only[qru,De.wrl,De.nbl,De.wrl_append p own sc l m,qrU]
theorem Sm.hsl_append(p:Pw)(sc:Scs):∀(l m:List Sm) (n:Nat) (h:p.H),Sm.hsl p sc n h (l++m)=Sm.hsl p sc (n+Sm.nbl l) (Sm.hsl p sc n h l) m
 | [],m,n,h=>by simp[Sm.hsl,Sm.nbl]
 | x::l,m,n,h=>by simp only[qru,Sm.hsl,Sm.nbl,Sm.hsl_append p sc l m,qrU]
theorem De.hsl_append(p:Pw)(own sc:Scs):∀(l m:List De) (n:Nat) (h:p.H),De.hsl p own sc n h (l++m)=De.hsl p own sc (n+De.nbl l) (De.hsl p own sc n h l) m
 | [],m,n,h=>by simp[De.hsl,De.nbl]
 | x::l,m,n,h=>by simp only[qru,De.hsl,De.nbl,De.hsl_append p own sc l m,qrU]
theorem qdh(m:Nat):∀(l:List ByteArray) (s s':Sco) (n n':Nat),s.map (·.1)=s'.map (·.1)→(binds l s n).map (·.1)=(binds l s' n').map (·.1)
 | [],s,s',n,n',h=>h
 | x::l,s,s',n,n',h=>by
  have at_eq:∀(s s':Sco),s.map (·.1)=s'.map (·.1)→(s.at x).isSome=(s'.at x).isSome:=by
   intro s
   induction s with
   | nil=>intro s' h;cases s' with
    | nil=>rfl
    | cons e s'=>simp at h
   | cons e s ih=>
    intro s' h
    cases s' with
    | nil=>simp at h
    | cons e' s'=>
     simp only[qrm,List.cons.injEq] at h;have:=ih s' h.2;simp only[Sco.at,List.find?_cons,h.1] at this ⊢;by_cases hx:e'.1=x
     ·simp[hx]
     ·simp only[decide_eq_false hx];exact this
  simp only[binds];rw[at_eq s s' h];split
  ·exact qdh m l s s' n n' h
  ·exact qdh m l _ _ _ _ (by simp[h])
theorem qaS(l:List ByteArray)(n n':Nat):(qaf l n).length=(qaf l n').length:=by
 have:=congrArg List.length (qdh 0 l [] [] n n' rfl);rw[qrh,qrh] at this;exact this
end Go.Proofs.YtbifpocccfkhhaaGreatDoor
end
