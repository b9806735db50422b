/- A part. -/
import Derived.Test.YtbifpocccfkhhaaGreatDoorUh
set_option linter.all false
noncomputable section
namespace Go.Proofs.YtbifpocccfkhhaaGreatDoor
open Go Go.Proofs.Tryz
theorem Qz(cs:List V)(off n:Nat):V.part (.agg cs) off (some n)=if off=0∧n=cs.length then some (.agg cs) else if off+n≤cs.length then some (.agg ((cs.drop off).take n)) else none:=by
 by_cases h:off=0∧n=cs.length
 ·simp[V.part,h]
 ·have:¬ (off=0∧n=(V.agg cs).size∧(V.agg cs).isAgg=true):=fun hh=>h ⟨hh.1,by simpa using hh.2.1⟩
  simp only[V.part,if_neg this,if_neg h]
@[simp] theorem part_Ex2(x:Ex):V.part x.v 3 (some 2)=some (.agg [.int .i64 x.man,.int .i64 x.exp]):=by rw[Ex.v_eq];rfl
theorem qi(cs:List V)(off n:Nat)(y:V):V.upd (.agg cs) off n y=if y.size=n∧y.cells.all V.flat=true then (if off=0∧n=cs.length then some y else if off+n≤cs.length then some (.agg (cs.take off++y.cells++cs.drop (off+n))) else none) else none:=rfl
theorem qdx(x:Ex)(off n:Nat)(y:V):V.upd x.v off n y=V.upd (.agg [.int .i64 x.kind,.int .i64 x.op,.int .i64 x.n,.int .i64 x.man,.int .i64 x.exp,.str x.text,.sl false (x.args.map Ex.v)]) off n y:=by rw[Ex.v_eq]
theorem qbc(d:De)(off n:Nat)(y:V):V.upd d.v off n y=V.upd (.agg [.int .i64 d.kind,.bool d.own,.int .i64 d.type,.sl false (d.names.map .str),.sl false (d.exps.map Ex.v),.sl false (d.formals.map Fo.v),.sl false (d.body.map Sm.v)]) off n y:=by rw[De.v_eq]
theorem Zt(s:Sm)(off n:Nat)(y:V):V.upd s.v off n y=V.upd (.agg [.sl false (s.labels.map .str),.int .i64 s.kind,.str s.text,.sl false (s.targets.map Ex.v),.sl false (s.exps.map Ex.v),.sl false (s.elems.map El.v),.sl false (s.decls.map De.v),.sl false (s.body.map Sm.v)]) off n y:=by rw[Sm.v_eq]
theorem qoG(f:Fo)(off n:Nat)(y:V):V.upd f.v off n y=V.upd (.agg [.str f.name,.bool f.value,.int .i64 f.spec,.int .i64 f.type]) off n y:=rfl
theorem qe9(k:IntKind)(m:Int)(y:V):V.upd (.int k m) 0 1 y=if y.size=1∧y.cells.all V.flat=true then some y else none:=rfl
theorem zG(b:Bool)(y:V):V.upd (.bool b) 0 1 y=if y.size=1∧y.cells.all V.flat=true then some y else none:=rfl
theorem Yr(y:V):V.upd .nilfn 0 1 y=if y.size=1∧y.cells.all V.flat=true then some y else none:=rfl
theorem qS{a lo hi:Int}(h:¬ (lo≤a∧a≤hi)):(decide (lo≤a) && decide (a≤hi))=false:=by
 by_cases h1:lo≤a
 ·have h2:¬ a≤hi:=fun hh=>h ⟨h1,hh⟩
  simp[h1,h2]
 ·simp[h1]
theorem qW{a lo hi:Int}(h:lo≤a∧a≤hi):(decide (lo≤a) && decide (a≤hi))=true:=by simp[h.1,h.2]
theorem qF(n lo hi:Int):∀S,Fn prog 209 [.int .i64 n,.int .i64 lo,.int .i64 hi] S (.bool (decide (lo≤n) && decide (n≤hi))):=by
 refine Pu.ib func209 ok209 (by simp[c209]) (by simp[V.under]) rfl ?_;by_cases h:lo≤n
 ·simp[c209,h];exact qa rfl rfl rfl
 ·simp[c209,h];exact qa rfl rfl rfl
def arL(k:Int):Int:=if k=7 then 1 else if k=8 then 1 else if k=9 then 1 else if k=10 then 2 else if k=11 then 3 else 0
def arH(k:Int):Int:=if k=7 then 4 else if k=8 then 8 else if k=9 then 1 else if k=10 then 2 else if k=11 then 3 else 0
theorem y8(k:Int):∀S,Fn prog 208 [.int .i64 k] S (.tup [.int .i64 (arL k),.int .i64 (arH k)]):=by
 refine Pu.ib func208 ok208 (by simp[c208]) (by simp[V.under]) rfl ?_;by_cases h7:k=7
 ·simp[c208,h7];exact qa rfl rfl rfl
 by_cases h8:k=8
 ·simp[c208,h8];exact qa rfl rfl rfl
 by_cases h9:k=9
 ·simp[c208,h9];exact qa rfl rfl rfl
 by_cases h10:k=10
 ·simp[c208,h10];exact qa rfl rfl rfl
 by_cases h11:k=11
 ·simp[c208,h11];exact qa rfl rfl rfl
 simp[c208,h7,h8,h9,h10,h11];exact qa rfl (by simp[qq,arL,arH,h7,h8,h9,h10,h11]) rfl
def qL(lo hi n:Int):Bool:=decide (lo≤n) && (decide (hi<0) || decide (n≤hi))
theorem qw(lo hi n:Int):∀S,Fn prog 212 [.agg [.int .i64 lo,.int .i64 hi],.int .i64 n] S (.bool (qL lo hi n)):=by
 refine Pu.intro (R:=fun v=>v=.bool (qL lo hi n)) func212 ok212 (by simp[c212]) (by simp[V.under,V.underL]) (by rintro v rfl;rfl) ?_;by_cases h:lo≤n
 ·by_cases h2:hi<0
  ·simp[c212,qE,ldS,h,h2];exact qa rfl (by simp[qq,qL,h,h2]) rfl
  ·simp[c212,qE,ldS,h,h2];exact qa rfl (by simp[qq,qL,h,h2]) rfl
 ·simp[c212,qE,ldS,h];exact qa rfl (by simp[qq,qL,h]) rfl
theorem qmu(m:Int)(h:0≤m):IntKind.i64.wrap (-m)≤m∨9223372036854775808≤m:=by
 rw[IntKind.wrap_i64];omega
theorem qn2(m:Int):IntKind.i64.wrap m≤9223372036854775807∧-9223372036854775808≤IntKind.i64.wrap m:=by
 rw[IntKind.wrap_i64];omega
theorem qlO(m:Int):(if m<IntKind.i64.wrap (-m) then IntKind.i64.wrap (-m) else m)=mag m:=by
 unfold mag;have h1:=qn2 (-m);by_cases h:m<0
 ·rw[if_pos h];split
  ·rfl
  ·rename_i h2;rw[IntKind.wrap_i64] at *;omega
 ·rw[if_neg h];rcases qmu m (by omega) with h2|h2
  ·rw[if_neg (by omega)]
  ·rw[if_neg (by omega)]
theorem zo(m e m' e':Int):zj [.int .i64 m,.int .i64 e] [.int .i64 m',.int .i64 e'] [(0,.i),(1,.i)]=some (decide (m=m'∧e=e')):=by
 by_cases h1:m=m'
 ·by_cases h2:e=e'
  ·have h3:(m==m')=true:=by simpa using h1
   have h4:(e==e')=true:=by simpa using h2
   simp[zj,QL,h1,h2]
  ·have h4:(e==e')=false:=by simpa using h2
   simp[zj,QL,h1,h4,h2]
 ·have h3:(m==m')=false:=by simpa using h1
  simp[zj,QL,h3,h1]
theorem qmj(m e:Int):∀S,Fn prog 210 [.agg [.int .i64 m,.int .i64 e]] S (.bool (qkA m e)):=by
 refine Pu.intro (R:=fun v=>v=.bool (qkA m e)) func210 ok210 (by simp[c210]) (by simp[V.under,V.underL]) (by rintro v rfl;rfl) ?_;have hm:=qlO m;by_cases h0:m=0∧e=0
 ·obtain ⟨rfl,rfl⟩:=h0;simp[c210,qE,ldS,V.part,qH,qD,evX,zo];exact qa rfl rfl rfl
 have hr:qkA m e=(decide (1≤mag m∧mag m<16777216) && (decide (e=-150) || (decide (8388608≤mag m) && decide (-150<e∧e≤150)))):=by
  unfold qkA;rw[decide_eq_false h0];rfl
 rw[hr];simp[c210,qE,ldS,V.part,qH,qD,evX,zo,h0,mmV,hm];clear hr hm;generalize mag m=a at *;by_cases g1:a<1
 ·simp[g1,show ¬ 1≤a by omega];exact qa rfl rfl rfl
 by_cases g2:16777216≤a
 ·simp[g1,g2,show ¬ a<16777216 by omega];exact qa rfl rfl rfl
 by_cases g3:e=-150
 ·simp[ldS,g1,g2,g3,show 1≤a by omega,show a<16777216 by omega];exact qa rfl rfl rfl
 by_cases g4:8388608≤a
 ·by_cases g5:-150<e
  ·simp[ldS,g1,g2,g3,g4,g5,show 1≤a by omega,show a<16777216 by omega];exact qa rfl rfl rfl
  ·simp[ldS,g1,g2,g3,g4,g5,show 1≤a by omega,show a<16777216 by omega];exact qa rfl rfl rfl
 ·simp[ldS,g1,g2,g3,g4,show 1≤a by omega,show a<16777216 by omega];exact qa rfl rfl rfl
def no(_:Nat):Prop:=False
def JI{α:Type}(l:List α)(q:α→Bool):Bool:=l.any q
theorem qmC(s:Bz):∀S,Fn prog 249 [.str s] S (.bool (!qb s)):=by
 refine Pu.ib func249 ok249 (by simp[c249]) (by simp[V.under]) rfl ?_;simp[c249];refine qe (jE s _) ?_;simp;exact qa rfl rfl rfl
theorem qkP(x:Ex):∀S,Fn prog 253 [x.v] S (.bool (!x.tgt)):=by
 refine Pu.ib func253 ok253 (by simp[c253]) (by simp[V.under]) rfl ?_;by_cases h6:x.kind=6
 ·simp[c253,qE,ldS,h6];exact qa rfl (by simp[qq,Ex.tgt,h6]) rfl
 ·simp[c253,qE,ldS,h6];exact qa rfl (by simp[qq,Ex.tgt,h6]) rfl
theorem qlV(b:Bool)(l:List Bz)(hl:l.length≤B50)(g:Nat)(cs:List V)(q:Bz→Bool)(S:St)(h:∀x,x∈l→∀U,Kp no S U→qv prog g (.str x::cs) U (fun v U'=>v=.bool (q x)∧Kp no U U')):
  qv prog 173 [.sl b (l.map V.str),.fn (.func g) [] cs] S (fun v U=>(∃n:Int,v=.int .i64 n∧(0≤n↔JI l q=true))∧Kp no S U):=by
 unfold B50 at hl;refine qv.ib func173 ok173 ?_;simp only[c173,C'.k];simp;refine qx (fun j e S'=>∃i:Nat,j=l.length - i∧i≤l.length∧JI (l.take i) q=false∧Kp no S S'∧
  e=[(8,.int .i64 i),(7,.int .i64 l.length),(6,.sl b (l.map V.str)),(0,.sl b (l.map V.str)),(1,.fn (.func g) [] cs)]) l.length _ ?_ ⟨0,by simp,by omega,rfl,Kp.refl _ _,rfl⟩ ?_
 ·exact Env.so (by simp)
 rintro j e S' ⟨i,rfl,hi,hq,hk,rfl⟩;by_cases h1:i<l.length
 ·have h2:=h l[i] (qqP h1) S' hk;simp[h1,ZU];refine qh h2 ?_;rintro v U' ⟨rfl,hk'⟩
  cases h3:q l[i] with
  | true=>
   simp;refine qg rfl ⟨⟨i,rfl,?_⟩,hk.trans hk'⟩;exact ⟨fun _=>List.any_eq_true.2 ⟨l[i],qqP h1,h3⟩,fun _=>by omega⟩
  | false=>
   simp[zh (n:=(i:Int)+1)];refine ⟨_,?_,_,?_,i+1,rfl,by omega,?_,hk.trans hk',rfl⟩
   ·omega
   ·exact Env.so (by simp)
   ·unfold JI at *;rw[qqW,qqD h1,List.any_append,hq];simp[h3]
 ·simp[h1];refine qg rfl ⟨⟨-1,rfl,?_⟩,hk⟩;rw[qq8 (by omega)] at hq;rw[hq];exact ⟨fun h=>absurd h (by decide),fun h=>by cases h⟩
theorem qgp(b:Bool)(l:List Bz)(hl:l.length≤B50)(g:Nat)(cs:List V)(q:Bz→Bool)(S:St)(h:∀x,x∈l→∀U,Kp no S U→qv prog g (.str x::cs) U (fun v U'=>v=.bool (q x)∧Kp no U U')):
  qv prog 138 [.sl b (l.map V.str),.fn (.func g) [] cs] S (fun v U=>v=.bool (JI l q)∧Kp no S U):=by
 refine qv.ib func138 ok138 ?_;simp only[c138,C'.k];simp;refine qh (qlV b l hl g cs q S h) ?_;rintro v U ⟨⟨n,rfl,hn⟩,hk⟩;simp;refine qg rfl ⟨?_,hk⟩
 cases ha:JI l q with
 | true=>simp[qq,hn.2 ha]
 | false=>
  have:¬ 0≤n:=fun hh=>by rw[hn.1 hh] at ha;cases ha
  simp[qq,this]
theorem qlw(b:Bool)(l:List Fo)(hl:l.length≤B50)(g:Nat)(cs:List V)(q:Fo→Bool)(S:St)(h:∀x,x∈l→∀U,Kp no S U→qv prog g (Fo.v x::cs) U (fun v U'=>v=.bool (q x)∧Kp no U U')):
  qv prog 169 [.sl b (l.map Fo.v),.fn (.func g) [] cs] S (fun v U=>(∃n:Int,v=.int .i64 n∧(0≤n↔JI l q=true))∧Kp no S U):=by
 unfold B50 at hl;refine qv.ib func169 ok169 ?_;simp only[c169,C'.k];simp;refine qx (fun j e S'=>∃i:Nat,j=l.length - i∧i≤l.length∧JI (l.take i) q=false∧Kp no S S'∧
  e=[(8,.int .i64 i),(7,.int .i64 l.length),(6,.sl b (l.map Fo.v)),(0,.sl b (l.map Fo.v)),(1,.fn (.func g) [] cs)]) l.length _ ?_ ⟨0,by simp,by omega,rfl,Kp.refl _ _,rfl⟩ ?_
 ·exact Env.so (by simp)
 rintro j e S' ⟨i,rfl,hi,hq,hk,rfl⟩;by_cases h1:i<l.length
 ·have h2:=h l[i] (qqP h1) S' hk;simp[h1,qnO];refine qh h2 ?_;rintro v U' ⟨rfl,hk'⟩
  cases h3:q l[i] with
  | true=>
   simp;refine qg rfl ⟨⟨i,rfl,?_⟩,hk.trans hk'⟩;exact ⟨fun _=>List.any_eq_true.2 ⟨l[i],qqP h1,h3⟩,fun _=>by omega⟩
  | false=>
   simp[zh (n:=(i:Int)+1)];refine ⟨_,?_,_,?_,i+1,rfl,by omega,?_,hk.trans hk',rfl⟩
   ·omega
   ·exact Env.so (by simp)
   ·unfold JI at *;rw[qqW,qqD h1,List.any_append,hq];simp[h3]
 ·simp[h1];refine qg rfl ⟨⟨-1,rfl,?_⟩,hk⟩;rw[qq8 (by omega)] at hq;rw[hq];exact ⟨fun h=>absurd h (by decide),fun h=>by cases h⟩
theorem qlq(b:Bool)(l:List Fo)(hl:l.length≤B50)(g:Nat)(cs:List V)(q:Fo→Bool)(S:St)(h:∀x,x∈l→∀U,Kp no S U→qv prog g (Fo.v x::cs) U (fun v U'=>v=.bool (q x)∧Kp no U U')):
  qv prog 131 [.sl b (l.map Fo.v),.fn (.func g) [] cs] S (fun v U=>v=.bool (JI l q)∧Kp no S U):=by
 refine qv.ib func131 ok131 ?_;simp only[c131,C'.k];simp;refine qh (qlw b l hl g cs q S h) ?_;rintro v U ⟨⟨n,rfl,hn⟩,hk⟩;simp;refine qg rfl ⟨?_,hk⟩
 cases ha:JI l q with
 | true=>simp[qq,hn.2 ha]
 | false=>
  have:¬ 0≤n:=fun hh=>by rw[hn.1 hh] at ha;cases ha
  simp[qq,this]
theorem qkD(b:Bool)(l:List Ex)(hl:l.length≤B50)(g:Nat)(cs:List V)(q:Ex→Bool)(S:St)(h:∀x,x∈l→∀U,Kp no S U→qv prog g (Ex.v x::cs) U (fun v U'=>v=.bool (q x)∧Kp no U U')):
  qv prog 269 [.sl b (l.map Ex.v),.fn (.func g) [] cs] S (fun v U=>(∃n:Int,v=.int .i64 n∧(0≤n↔JI l q=true))∧Kp no S U):=by
 unfold B50 at hl;refine qv.ib func269 ok269 ?_;simp only[c269,C'.k];simp;refine qx (fun j e S'=>∃i:Nat,j=l.length - i∧i≤l.length∧JI (l.take i) q=false∧Kp no S S'∧
  e=[(8,.int .i64 i),(7,.int .i64 l.length),(6,.sl b (l.map Ex.v)),(0,.sl b (l.map Ex.v)),(1,.fn (.func g) [] cs)]) l.length _ ?_ ⟨0,by simp,by omega,rfl,Kp.refl _ _,rfl⟩ ?_
 ·exact Env.so (by simp)
 rintro j e S' ⟨i,rfl,hi,hq,hk,rfl⟩;by_cases h1:i<l.length
 ·have h2:=h l[i] (qqP h1) S' hk;simp[h1,qjA];refine qh h2 ?_;rintro v U' ⟨rfl,hk'⟩
  cases h3:q l[i] with
  | true=>
   simp;refine qg rfl ⟨⟨i,rfl,?_⟩,hk.trans hk'⟩;exact ⟨fun _=>List.any_eq_true.2 ⟨l[i],qqP h1,h3⟩,fun _=>by omega⟩
  | false=>
   simp[zh (n:=(i:Int)+1)];refine ⟨_,?_,_,?_,i+1,rfl,by omega,?_,hk.trans hk',rfl⟩
   ·omega
   ·exact Env.so (by simp)
   ·unfold JI at *;rw[qqW,qqD h1,List.any_append,hq];simp[h3]
 ·simp[h1];refine qg rfl ⟨⟨-1,rfl,?_⟩,hk⟩;rw[qq8 (by omega)] at hq;rw[hq];exact ⟨fun h=>absurd h (by decide),fun h=>by cases h⟩
theorem qjW(b:Bool)(l:List Ex)(hl:l.length≤B50)(g:Nat)(cs:List V)(q:Ex→Bool)(S:St)(h:∀x,x∈l→∀U,Kp no S U→qv prog g (Ex.v x::cs) U (fun v U'=>v=.bool (q x)∧Kp no U U')):
  qv prog 252 [.sl b (l.map Ex.v),.fn (.func g) [] cs] S (fun v U=>v=.bool (JI l q)∧Kp no S U):=by
 refine qv.ib func252 ok252 ?_;simp only[c252,C'.k];simp;refine qh (qkD b l hl g cs q S h) ?_;rintro v U ⟨⟨n,rfl,hn⟩,hk⟩;simp;refine qg rfl ⟨?_,hk⟩
 cases ha:JI l q with
 | true=>simp[qq,hn.2 ha]
 | false=>
  have:¬ 0≤n:=fun hh=>by rw[hn.1 hh] at ha;cases ha
  simp[qq,this]
theorem qgG{α:Type}(l:List α)(q:α→Bool):(!JI l fun x=>!q x)=l.all q:=by
 unfold JI
 induction l with
 | nil=>rfl
 | cons x l ih=>simp only[List.any_cons,qsG,Bool.not_or,Bool.not_not,ih]
theorem yY(l:List Bz)(hl:l.length≤B50):∀S,Fn prog 213 [.sl false (l.map .str)] S (.bool (l.all qb)):=by
 refine Pu.ib func213 ok213 (by simp[c213]) (by simp[V.under]) rfl ?_;simp only[c213,C'.k];simp;refine qh (qgp false l hl 249 [] (fun x=>!qb x) _ fun x _ U _=>(qmC x U).mono fun v U' h=>⟨h.1,by rw[h.2];exact Kp.refl _ _⟩) ?_;rintro v U ⟨rfl,_⟩;simp;refine qa rfl ?_ rfl;simp only[qq,qgG]
theorem Zh(l:List Ex)(hl:l.length≤B50):∀S,Fn prog 215 [.sl false (l.map Ex.v)] S (.bool (l.all Ex.tgt)):=by
 refine Pu.ib func215 ok215 (by simp[c215]) (by simp[V.under]) rfl ?_;simp only[c215,C'.k];simp;refine qh (qjW false l hl 253 [] (fun x=>!x.tgt) _ fun x _ U _=>(qkP x U).mono fun v U' h=>⟨h.1,by rw[h.2];exact Kp.refl _ _⟩) ?_;rintro v U ⟨rfl,_⟩;simp;refine qa rfl ?_ rfl;simp only[qq,qgG]
theorem qk5(f:Fo):∀S,Fn prog 250 [f.v] S (.bool (f.vOwn qb)):=by
 refine Pu.ib func250 ok250 (by simp[c250]) (by simp[V.under]) rfl ?_;simp[c250,qE,ldS];refine qe (jE f.name _) ?_
 cases hn:qb f.name with
 | false=>
  simp;exact qa rfl (by simp[qq,Fo.vOwn,hn]) rfl
 | true=>
  have hv:f.vOwn qb=(if f.spec=0∨f.spec=3∨f.spec=4∨f.spec=5 then decide (f.type=0) && !f.value
   else if f.spec=1 then decide (1≤f.type∧f.type≤3)
   else if f.spec=2 then decide (0≤f.type∧f.type≤3) && (!f.value || decide (f.type≠0))
   else if f.spec=6 then decide (0≤f.type∧f.type≤3) && !f.value
   else false):=by unfold Fo.vOwn;rw[hn];rfl
  rw[hv];by_cases h0:f.spec=0
  ·by_cases ht:f.type=0
   ·simp[ldS,h0,ht];exact qa rfl rfl rfl
   ·simp[ldS,h0,ht];exact qa rfl rfl rfl
  by_cases h3:f.spec=3
  ·by_cases ht:f.type=0
   ·simp[ldS,h3,ht];exact qa rfl rfl rfl
   ·simp[ldS,h3,ht];exact qa rfl rfl rfl
  by_cases h4:f.spec=4
  ·by_cases ht:f.type=0
   ·simp[ldS,h4,ht];exact qa rfl rfl rfl
   ·simp[ldS,h4,ht];exact qa rfl rfl rfl
  by_cases h5:f.spec=5
  ·by_cases ht:f.type=0
   ·simp[ldS,h5,ht];exact qa rfl rfl rfl
   ·simp[ldS,h5,ht];exact qa rfl rfl rfl
  by_cases h1:f.spec=1
  ·simp[ldS,h1];refine qe (qF _ _ _ _) ?_;simp;exact qa rfl rfl rfl
  by_cases h2:f.spec=2
  ·simp[ldS,h2];refine qe (qF _ _ _ _) ?_
   cases hr:decide (0≤f.type) && decide (f.type≤3) with
   | false=>
    simp;exact qa rfl rfl rfl
   | true=>
    cases hval:f.value with
    | false=>
     simp[ldS,hval];exact qa rfl rfl rfl
    | true=>
     simp[ldS,hval];exact qa rfl rfl rfl
  by_cases h6:f.spec=6
  ·simp[ldS,h6];refine qe (qF _ _ _ _) ?_
   cases hr:decide (0≤f.type) && decide (f.type≤3) with
   | false=>
    simp;exact qa rfl rfl rfl
   | true=>
    simp[ldS];exact qa rfl rfl rfl
  simp[ldS,h0,h1,h2,h3,h4,h5,h6];exact qa rfl rfl rfl
theorem qjQ(f g:Fo)(L:Nat)(S:St)(h:S[L]?=some (.arr [f.v] 4 1)):qv prog 251 [g.v,.ptr L 0 0 1] S (fun v U=>v=.bool (decide (g.name=f.name))∧Kp no S U):=by
 refine qv.ib func251 ok251 ?_;simp[c251,qE,ldS,gp h];exact qg rfl ⟨rfl,(Kp.refl _ _).push _⟩
theorem Zu(nm:Bz→Bool):∀(l m:List Fo) (had:List Bz),yx nm (l++m) had=(yx nm l had && yx nm m (had++l.map Fo.name))
 | [],m,had=>by simp[yx]
 | f::l,m,had=>by
  simp only[qq3,yx,Zu nm l m,qqH,qqR,List.singleton_append,qrN,qq3,Bool.and_assoc]
theorem qpi{l:List V}{k:Nat}(hk:k≤l.length){sz:Nat}(hs:∀x,x∈l→x.size=sz)(S:St):zU S sz (.sl false l) none (some (k:Int))=some (.sl false (l.take k)):=by
 simp[zU,hk];exact hs
def prB(l:List UInt8):Bool:=l.all kh
theorem YQ(l:List Fo)(hl:l.length≤B50):∀S,Fn prog 214 [.sl false (l.map Fo.v)] S (.bool (yx qb l [])):=by
 refine Pu.ib func214 ok214 (by simp[c214]) (by simp[V.under]) rfl ?_;unfold B50 at hl;simp only[c214,C'.k];simp;refine qx (fun j e S'=>∃i:Nat,j=l.length - i∧i≤l.length∧yx qb (l.take i) []=true∧
  e=[(7,.int .i64 i),(6,.int .i64 l.length),(5,.sl false (l.map Fo.v)),(0,.sl false (l.map Fo.v))]) l.length _ ?_ ⟨0,by simp,by omega,rfl,rfl⟩ ?_
 ·exact Env.so (by simp)
 rintro j e S' ⟨i,rfl,hi,hq,rfl⟩;by_cases h:i<l.length
 ·have hnext:yx qb (l.take (i+1)) []=(l[i].vOwn qb && !((l.take i).map Fo.name).any fun x=>decide (x=l[i].name)):=by
   rw[qqW,qqD h,qrk,Zu,hq];simp[yx]
  have hall:yx qb l []=true→yx qb (l.take (i+1)) []=true:=fun hh=>by
   rw[←qrR (i+1) l,Zu,qqL] at hh;exact hh.1
  simp[h,qnO,qE,stS,zQ,ldS];refine qe (qk5 l[i] _) ?_
  cases hv:l[i].vOwn qb with
  | false=>
   simp;refine qa rfl ?_ rfl;simp only[qq,V.bool.injEq]
   cases hh:yx qb l [] with
   | false=>rfl
   | true=>rw[hall hh,hv] at hnext;simp at hnext
  | true=>
   rw[hv] at hnext;have hs:=qpi (l:=l.map Fo.v) (k:=i) (by simp;omega) (sz:=4) (fun x hx=>by obtain ⟨y,_,rfl⟩:=qqT.1 hx;rfl) (S'++[Ob.arr [l[i].v] 4 1]);simp[JD,hs];rw[←List.map_take];refine qh (qlq false (l.take i) (by rw[qrT];unfold B50;omega) 251 [.ptr S'.length 0 0 1] (fun g=>decide (g.name=l[i].name)) _ fun x _ U hk=>qjQ l[i] x S'.length U (hk.at (by simp) (fun h=>h))) ?_;rintro v U ⟨rfl,hk⟩
   have he:JI (l.take i) (fun g=>decide (g.name=l[i].name))=((l.take i).map Fo.name).any fun x=>decide (x=l[i].name):=by
    unfold JI;rw[List.any_map];rfl
   rw[he]
   cases hc:((l.take i).map Fo.name).any fun x=>decide (x=l[i].name) with
   | true=>
    rw[hc] at hnext;simp;refine qa rfl ?_ rfl;simp only[qq,V.bool.injEq]
    cases hh:yx qb l [] with
    | false=>rfl
    | true=>rw[hall hh] at hnext;simp at hnext
   | false=>
    rw[hc] at hnext;simp[zh (n:=(i:Int)+1)];refine ⟨_,?_,_,?_,i+1,rfl,by omega,by rw[hnext];rfl,rfl⟩
    ·omega
    ·exact Env.so (by simp)
 ·simp[h];refine qa rfl ?_ rfl;rw[qq8 (by omega)] at hq;simp only[qq,hq]
theorem qla(s:Bz)(hs:s.size≤B50):∀S,Fn prog 211 [.str s] S (.bool (Jk s)):=by
 refine Pu.ib func211 ok211 (by simp[c211]) (by simp[V.under]) rfl ?_;unfold B50 at hs;have hp:Jk s=(prB s.data.toList && decide (s.size≤80)):=rfl;generalize hpr:Jk s=pr at hp ⊢;simp only[c211,C'.k];simp;refine qx (fun j e S'=>∃i:Nat,j=s.size - i∧i≤s.size∧prB (s.data.toList.take i)=true∧
  e=[(3,.int .i64 i),(0,.str s)]) s.size _ ?_ ⟨0,by simp,by omega,rfl,rfl⟩ ?_
 ·exact Env.so (by simp)
 rintro j e S' ⟨i,rfl,hi,hq,rfl⟩;by_cases h:i<s.size
 ·have hb:s.data.toList[i]?=some (s.data[i]'h):=by simp[h]
  generalize hx:s.data[i]'h=x at hb;have hi':qhu s i=some (.int .u8 x.toNat):=by rw[←hx];exact qqa h
  have hlt:=x.toNat_lt
  have hno:kh x=false→pr=false:=fun hh=>by
   rw[hp,Bool.and_eq_false_iff];left
   cases ha:prB s.data.toList with
   | false=>rfl
   | true=>
    unfold prB at ha;rw[qqV] at ha;rw[ha x (qqG hb)] at hh;cases hh
  simp[h,hi',qn (n:=(x.toNat:Int)) (by omega) (by omega)];refine qe (qF _ _ _ _) ?_;by_cases h1:(32:Int)≤x.toNat∧(x.toNat:Int)≤126
  ·rw[show (decide ((32:Int)≤x.toNat) && decide ((x.toNat:Int)≤126))=true by simp[h1]];by_cases h2:(x.toNat:Int)=34
   ·simp[hi',h2];refine qa rfl ?_ rfl;rw[hno (by unfold kh;simp;omega)];rfl
   ·simp[hi',h2,zh (n:=(i:Int)+1)];refine ⟨_,?_,_,?_,i+1,rfl,by omega,?_,rfl⟩
    ·omega
    ·exact Env.so (by simp)
    ·unfold prB at *;rw[qqW,List.all_append,hq,hb];simp[kh];omega
  ·rw[show (decide ((32:Int)≤x.toNat) && decide ((x.toNat:Int)≤126))=false by simp;omega];simp;refine qa rfl ?_ rfl;rw[hno (by unfold kh;simp;omega)];rfl
 ·simp[h];have hsz:s.data.toList.length=s.size:=rfl;rw[qq8 (by omega)] at hq;refine qa rfl ?_ rfl;rw[hp,hq];simp only[qq,V.bool.injEq,qrQ,decide_eq_decide];omega
theorem ql6(e:El):∀S,Fn prog 181 [e.v] S (.bool e.vOwn):=by
 refine Pu.ib func181 ok181 (by simp[c181]) (by simp[V.under]) rfl ?_;unfold El.vOwn;by_cases h1:e.kind=1
 ·simp[c181,qE,ldS,h1];exact qa rfl (by simp[qq];omega) rfl
 by_cases h2:e.kind=2
 ·simp[c181,qE,ldS,h2];exact qa rfl (by simp[qq];omega) rfl
 by_cases h3:e.kind=3
 ·simp[c181,qE,ldS,h3];exact qa rfl (by simp[qq];omega) rfl
 simp[c181,qE,ldS,h1,h2,h3];exact qa rfl rfl rfl
section
attribute [local simp] qE ldS stS qi qdx qe9 zG Qz qH qD evX zo
theorem Ex.vOwn_eq(nm:Bz→Bool)(x:Ex):x.vOwn nm=(
 if x.kind=1 then decide (0≤x.n∧x.n≤2147483647) && decide (x.args.length=0) && decide (x.op=0) && (decide (x.man=0) && decide (x.exp=0)) && zp x.text
 else if x.kind=2 then qkA x.man x.exp && decide (0≤x.man) && decide (x.args.length=0) && decide (x.op=0) && decide (x.n=0) && zp x.text
 else if x.kind=3∨x.kind=4 then decide (x.args.length=0) && decide (x.op=0) && decide (x.n=0) && (decide (x.man=0) && decide (x.exp=0)) && zp x.text
 else if x.kind=5 then Jk x.text && decide (x.args.length=0) && decide (x.op=0) && decide (x.n=0) && (decide (x.man=0) && decide (x.exp=0))
 else if x.kind=6 then nm x.text && decide (x.args.length=0) && decide (x.op=0) && decide (x.n=0) && (decide (x.man=0) && decide (x.exp=0))
 else if x.kind=7 then nm x.text && decide (1≤x.args.length∧x.args.length≤4) && decide (x.op=0) && decide (x.n=0) && (decide (x.man=0) && decide (x.exp=0))
 else if x.kind=8 then nm x.text && decide (1≤x.args.length∧x.args.length≤8) && decide (x.op=0) && decide (x.n=0) && (decide (x.man=0) && decide (x.exp=0))
 else if x.kind=9 then decide (x.op=1∨x.op=2) && decide (x.args.length=1) && decide (x.n=0) && (decide (x.man=0) && decide (x.exp=0)) && zp x.text
 else if x.kind=10 then decide (3≤x.op∧x.op≤18) && decide (x.args.length=2) && decide (x.n=0) && (decide (x.man=0) && decide (x.exp=0)) && zp x.text
 else if x.kind=11 then decide (x.args.length=3) && decide (x.op=0) && decide (x.n=0) && (decide (x.man=0) && decide (x.exp=0)) && zp x.text
 else false):=by cases x;rfl
theorem qO{t:Bz}(h:t=⟨⟨[]⟩⟩):zp t=true:=by subst h;rfl
theorem qI{t:Bz}(h:¬ t=⟨⟨[]⟩⟩):zp t=false:=decide_eq_false fun hh=>h (jF.2 hh)
theorem qfJ(x:Ex)(hx:x.ok)(h1:x.kind=1):∀S,Fn prog 180 [x.v] S (.bool (x.vOwn qb)):=by
 refine Pu.ib func180 ok180 (by simp[c180]) (by simp[V.under]) rfl ?_;have hv:=Ex.vOwn_eq qb x;generalize x.vOwn qb=r at hv ⊢
 ·simp only[h1] at hv;simp at hv;simp[c180,qE,ldS,h1];refine qe (y8 _ _) ?_;simp[arL,arH,ldS,h1];refine qe (qF _ _ _ _) ?_;simp[ldS];refine qe (qF _ _ _ _) ?_;by_cases hl:0≤x.args.length∧x.args.length≤0
  case neg=>
   rw[qS (a:=(x.args.length:Int)) (lo:=0) (hi:=0) (by omega)];simp;refine qa rfl ?_ rfl;rw[hv];simp only[qq,V.bool.injEq,qr9];have:¬ x.args=[]:=fun hh=>hl (by rw[hh];simp)
   simp[this]
  rw[qW (a:=(x.args.length:Int)) (lo:=0) (hi:=0) (by omega)];have hl':x.args=[]:=qq4 (by omega);simp[h1];refine qe (qF _ _ _ _) ?_;by_cases hb:0≤x.n∧x.n≤2147483647
  case neg=>
   rw[qS (by omega)];simp;exact qa rfl (by rw[hv];simp[qq,hl',hb]) rfl
  rw[qW (by omega)];simp;by_cases ho:x.op=0
  case neg=>
   simp[ho];exact qa rfl (by rw[hv];simp[qq,hl',hb,ho]) rfl
  simp[ho];by_cases hr:x.man=0∧x.exp=0
  case neg=>
   rcases qq9.1 hr with hr1|hr1
   ·simp[hr1];exact qa rfl (by rw[hv];simp[qq,hl',hr1,hb,ho,true_and]) rfl
   ·simp[hr1];exact qa rfl (by rw[hv];simp[qq,hl',hr1,hb,ho,true_and]) rfl
  simp[hr];by_cases ht:x.text=⟨⟨[]⟩⟩
  case neg=>
   simp[ht];exact qa rfl (by rw[hv];simp[qq,hl',hb,ho,hr,qI ht]) rfl
  simp[ht];rw[ht] at hv;exact qa rfl (by rw[hv];simp[qq,hl',hb,ho,hr,qO rfl]) rfl
theorem qff(x:Ex)(hx:x.ok)(h2:x.kind=2):∀S,Fn prog 180 [x.v] S (.bool (x.vOwn qb)):=by
 refine Pu.ib func180 ok180 (by simp[c180]) (by simp[V.under]) rfl ?_;have hv:=Ex.vOwn_eq qb x;generalize x.vOwn qb=r at hv ⊢
 ·simp only[h2] at hv;simp at hv;simp[c180,qE,ldS,h2];refine qe (y8 _ _) ?_;simp[arL,arH,ldS,h2];refine qe (qF _ _ _ _) ?_;simp[ldS];refine qe (qF _ _ _ _) ?_;by_cases hl:0≤x.args.length∧x.args.length≤0
  case neg=>
   rw[qS (a:=(x.args.length:Int)) (lo:=0) (hi:=0) (by omega)];simp;refine qa rfl ?_ rfl;rw[hv];simp only[qq,V.bool.injEq,qr9];have:¬ x.args=[]:=fun hh=>hl (by rw[hh];simp)
   simp[this]
  rw[qW (a:=(x.args.length:Int)) (lo:=0) (hi:=0) (by omega)];have hl':x.args=[]:=qq4 (by omega);simp[h2];refine qe (qmj _ _ _) ?_;cases hb:qkA x.man x.exp
  case false=>
   simp;exact qa rfl (by rw[hv];simp[qq,hl',hb]) rfl
  simp;by_cases hm:0≤x.man
  case neg=>
   simp[hm];exact qa rfl (by rw[hv];simp[qq,hl',hb,hm]) rfl
  simp[hm];by_cases ho:x.op=0
  case neg=>
   simp[ho];exact qa rfl (by rw[hv];simp[qq,hl',hb,hm,ho]) rfl
  simp[ho];by_cases hn:x.n=0
  case neg=>
   simp[hn];exact qa rfl (by rw[hv];simp[qq,hl',hb,hm,ho,hn]) rfl
  simp[hn];by_cases ht:x.text=⟨⟨[]⟩⟩
  case neg=>
   simp[ht];exact qa rfl (by rw[hv];simp[qq,hl',hb,hm,ho,hn,qI ht]) rfl
  simp[ht];rw[ht] at hv;exact qa rfl (by rw[hv];simp[qq,hl',hb,hm,ho,hn,qO rfl]) rfl
theorem qgq(x:Ex)(hx:x.ok)(h3:x.kind=3):∀S,Fn prog 180 [x.v] S (.bool (x.vOwn qb)):=by
 refine Pu.ib func180 ok180 (by simp[c180]) (by simp[V.under]) rfl ?_;have hv:=Ex.vOwn_eq qb x;generalize x.vOwn qb=r at hv ⊢
 ·simp only[h3] at hv;simp at hv;simp[c180,qE,ldS,h3];refine qe (y8 _ _) ?_;simp[arL,arH,ldS,h3];refine qe (qF _ _ _ _) ?_;simp[ldS];refine qe (qF _ _ _ _) ?_;by_cases hl:0≤x.args.length∧x.args.length≤0
  case neg=>
   rw[qS (a:=(x.args.length:Int)) (lo:=0) (hi:=0) (by omega)];simp;refine qa rfl ?_ rfl;rw[hv];simp only[qq,V.bool.injEq,qr9];have:¬ x.args=[]:=fun hh=>hl (by rw[hh];simp)
   simp[this]
  rw[qW (a:=(x.args.length:Int)) (lo:=0) (hi:=0) (by omega)];have hl':x.args=[]:=qq4 (by omega);simp[h3];by_cases ho:x.op=0
  case neg=>
   simp[ho];exact qa rfl (by rw[hv];simp[qq,hl',ho]) rfl
  simp[ho];by_cases hn:x.n=0
  case neg=>
   simp[hn];exact qa rfl (by rw[hv];simp[qq,hl',ho,hn]) rfl
  simp[hn];by_cases hr:x.man=0∧x.exp=0
  case neg=>
   rcases qq9.1 hr with hr1|hr1
   ·simp[hr1];exact qa rfl (by rw[hv];simp[qq,hl',hr1,ho,hn,true_and]) rfl
   ·simp[hr1];exact qa rfl (by rw[hv];simp[qq,hl',hr1,ho,hn,true_and]) rfl
  simp[hr];by_cases ht:x.text=⟨⟨[]⟩⟩
  case neg=>
   simp[ht];exact qa rfl (by rw[hv];simp[qq,hl',ho,hn,hr,qI ht]) rfl
  simp[ht];rw[ht] at hv;exact qa rfl (by rw[hv];simp[qq,hl',ho,hn,hr,qO rfl]) rfl
theorem qgW(x:Ex)(hx:x.ok)(h4:x.kind=4):∀S,Fn prog 180 [x.v] S (.bool (x.vOwn qb)):=by
 refine Pu.ib func180 ok180 (by simp[c180]) (by simp[V.under]) rfl ?_;have hv:=Ex.vOwn_eq qb x;generalize x.vOwn qb=r at hv ⊢
 ·simp only[h4] at hv;simp at hv;simp[c180,qE,ldS,h4];refine qe (y8 _ _) ?_;simp[arL,arH,ldS,h4];refine qe (qF _ _ _ _) ?_;simp[ldS];refine qe (qF _ _ _ _) ?_;by_cases hl:0≤x.args.length∧x.args.length≤0
  case neg=>
   rw[qS (a:=(x.args.length:Int)) (lo:=0) (hi:=0) (by omega)];simp;refine qa rfl ?_ rfl;rw[hv];simp only[qq,V.bool.injEq,qr9];have:¬ x.args=[]:=fun hh=>hl (by rw[hh];simp)
   simp[this]
  rw[qW (a:=(x.args.length:Int)) (lo:=0) (hi:=0) (by omega)];have hl':x.args=[]:=qq4 (by omega);simp[h4];by_cases ho:x.op=0
  case neg=>
   simp[ho];exact qa rfl (by rw[hv];simp[qq,hl',ho]) rfl
  simp[ho];by_cases hn:x.n=0
  case neg=>
   simp[hn];exact qa rfl (by rw[hv];simp[qq,hl',ho,hn]) rfl
  simp[hn];by_cases hr:x.man=0∧x.exp=0
  case neg=>
   rcases qq9.1 hr with hr1|hr1
   ·simp[hr1];exact qa rfl (by rw[hv];simp[qq,hl',hr1,ho,hn,true_and]) rfl
   ·simp[hr1];exact qa rfl (by rw[hv];simp[qq,hl',hr1,ho,hn,true_and]) rfl
  simp[hr];by_cases ht:x.text=⟨⟨[]⟩⟩
  case neg=>
   simp[ht];exact qa rfl (by rw[hv];simp[qq,hl',ho,hn,hr,qI ht]) rfl
  simp[ht];rw[ht] at hv;exact qa rfl (by rw[hv];simp[qq,hl',ho,hn,hr,qO rfl]) rfl
theorem qgk(x:Ex)(hx:x.ok)(h5:x.kind=5):∀S,Fn prog 180 [x.v] S (.bool (x.vOwn qb)):=by
 refine Pu.ib func180 ok180 (by simp[c180]) (by simp[V.under]) rfl ?_;have hv:=Ex.vOwn_eq qb x;generalize x.vOwn qb=r at hv ⊢
 ·simp only[h5] at hv;simp at hv;simp[c180,qE,ldS,h5];refine qe (y8 _ _) ?_;simp[arL,arH,ldS,h5];refine qe (qF _ _ _ _) ?_;simp[ldS];refine qe (qF _ _ _ _) ?_;by_cases hl:0≤x.args.length∧x.args.length≤0
  case neg=>
   rw[qS (a:=(x.args.length:Int)) (lo:=0) (hi:=0) (by omega)];simp;refine qa rfl ?_ rfl;rw[hv];simp only[qq,V.bool.injEq,qr9];have:¬ x.args=[]:=fun hh=>hl (by rw[hh];simp)
   simp[this]
  rw[qW (a:=(x.args.length:Int)) (lo:=0) (hi:=0) (by omega)];have hl':x.args=[]:=qq4 (by omega);simp[h5];refine qe (qla _ (Ex.ok_text hx) _) ?_;cases hb:Jk x.text
  case false=>
   simp;exact qa rfl (by rw[hv];simp[qq,hl',hb]) rfl
  simp;by_cases ho:x.op=0
  case neg=>
   simp[ho];exact qa rfl (by rw[hv];simp[qq,hl',hb,ho]) rfl
  simp[ho];by_cases hn:x.n=0
  case neg=>
   simp[hn];exact qa rfl (by rw[hv];simp[qq,hl',hb,ho,hn]) rfl
  simp[hn];by_cases hr:x.man=0∧x.exp=0
  case neg=>
   rcases qq9.1 hr with hr1|hr1
   ·simp[hr1];exact qa rfl (by rw[hv];simp[qq,hl',hr1,hb,ho,hn,true_and]) rfl
   ·simp[hr1];exact qa rfl (by rw[hv];simp[qq,hl',hr1,hb,ho,hn,true_and]) rfl
  simp[hr];exact qa rfl (by rw[hv];simp[qq,hl',hb,ho,hn,hr]) rfl
theorem qeV(x:Ex)(hx:x.ok)(h6:x.kind=6):∀S,Fn prog 180 [x.v] S (.bool (x.vOwn qb)):=by
 refine Pu.ib func180 ok180 (by simp[c180]) (by simp[V.under]) rfl ?_;have hv:=Ex.vOwn_eq qb x;generalize x.vOwn qb=r at hv ⊢
 ·simp only[h6] at hv;simp at hv;simp[c180,qE,ldS,h6];refine qe (y8 _ _) ?_;simp[arL,arH,ldS,h6];refine qe (qF _ _ _ _) ?_;simp[ldS];refine qe (qF _ _ _ _) ?_;by_cases hl:0≤x.args.length∧x.args.length≤0
  case neg=>
   rw[qS (a:=(x.args.length:Int)) (lo:=0) (hi:=0) (by omega)];simp;refine qa rfl ?_ rfl;rw[hv];simp only[qq,V.bool.injEq,qr9];have:¬ x.args=[]:=fun hh=>hl (by rw[hh];simp)
   simp[this]
  rw[qW (a:=(x.args.length:Int)) (lo:=0) (hi:=0) (by omega)];have hl':x.args=[]:=qq4 (by omega);simp[h6];refine qe (jE _ _) ?_;cases hb:qb x.text
  case false=>
   simp;exact qa rfl (by rw[hv];simp[qq,hl',hb]) rfl
  simp;by_cases ho:x.op=0
  case neg=>
   simp[ho];exact qa rfl (by rw[hv];simp[qq,hl',hb,ho]) rfl
  simp[ho];by_cases hn:x.n=0
  case neg=>
   simp[hn];exact qa rfl (by rw[hv];simp[qq,hl',hb,ho,hn]) rfl
  simp[hn];by_cases hr:x.man=0∧x.exp=0
  case neg=>
   rcases qq9.1 hr with hr1|hr1
   ·simp[hr1];exact qa rfl (by rw[hv];simp[qq,hl',hr1,hb,ho,hn,true_and]) rfl
   ·simp[hr1];exact qa rfl (by rw[hv];simp[qq,hl',hr1,hb,ho,hn,true_and]) rfl
  simp[hr];exact qa rfl (by rw[hv];simp[qq,hl',hb,ho,hn,hr]) rfl
theorem qeZ(x:Ex)(hx:x.ok)(h7:x.kind=7):∀S,Fn prog 180 [x.v] S (.bool (x.vOwn qb)):=by
 refine Pu.ib func180 ok180 (by simp[c180]) (by simp[V.under]) rfl ?_;have hv:=Ex.vOwn_eq qb x;generalize x.vOwn qb=r at hv ⊢
 ·simp only[h7] at hv;simp at hv;simp[c180,qE,ldS,h7];refine qe (y8 _ _) ?_;simp[arL,arH,ldS,h7];refine qe (qF _ _ _ _) ?_;simp[ldS];refine qe (qF _ _ _ _) ?_;by_cases hl:1≤x.args.length∧x.args.length≤4
  case neg=>
   rw[qS (a:=(x.args.length:Int)) (lo:=1) (hi:=4) (by omega)];simp;refine qa rfl ?_ rfl;rw[hv];simp only[qq,V.bool.injEq,qr9];have:¬ (1≤x.args.length∧x.args.length≤4):=by omega
   simp[this]
  rw[qW (a:=(x.args.length:Int)) (lo:=1) (hi:=4) (by omega)];have hl':1≤x.args.length∧x.args.length≤4:=by omega
  simp[h7];refine qe (jE _ _) ?_;cases hb:qb x.text
  case false=>
   simp;exact qa rfl (by rw[hv];simp[qq,hl',hb]) rfl
  simp;by_cases ho:x.op=0
  case neg=>
   simp[ho];exact qa rfl (by rw[hv];simp[qq,hl',hb,ho]) rfl
  simp[ho];by_cases hn:x.n=0
  case neg=>
   simp[hn];exact qa rfl (by rw[hv];simp[qq,hl',hb,ho,hn]) rfl
  simp[hn];by_cases hr:x.man=0∧x.exp=0
  case neg=>
   rcases qq9.1 hr with hr1|hr1
   ·simp[hr1];exact qa rfl (by rw[hv];simp[qq,hl',hr1,hb,ho,hn,true_and]) rfl
   ·simp[hr1];exact qa rfl (by rw[hv];simp[qq,hl',hr1,hb,ho,hn,true_and]) rfl
  simp[hr];exact qa rfl (by rw[hv];simp[qq,hl',hb,ho,hn,hr]) rfl
theorem qfg(x:Ex)(hx:x.ok)(h8:x.kind=8):∀S,Fn prog 180 [x.v] S (.bool (x.vOwn qb)):=by
 refine Pu.ib func180 ok180 (by simp[c180]) (by simp[V.under]) rfl ?_;have hv:=Ex.vOwn_eq qb x;generalize x.vOwn qb=r at hv ⊢
 ·simp only[h8] at hv;simp at hv;simp[c180,qE,ldS,h8];refine qe (y8 _ _) ?_;simp[arL,arH,ldS,h8];refine qe (qF _ _ _ _) ?_;simp[ldS];refine qe (qF _ _ _ _) ?_;by_cases hl:1≤x.args.length∧x.args.length≤8
  case neg=>
   rw[qS (a:=(x.args.length:Int)) (lo:=1) (hi:=8) (by omega)];simp;refine qa rfl ?_ rfl;rw[hv];simp only[qq,V.bool.injEq,qr9];have:¬ (1≤x.args.length∧x.args.length≤8):=by omega
   simp[this]
  rw[qW (a:=(x.args.length:Int)) (lo:=1) (hi:=8) (by omega)];have hl':1≤x.args.length∧x.args.length≤8:=by omega
  simp[h8];refine qe (jE _ _) ?_;cases hb:qb x.text
  case false=>
   simp;exact qa rfl (by rw[hv];simp[qq,hl',hb]) rfl
  simp;by_cases ho:x.op=0
  case neg=>
   simp[ho];exact qa rfl (by rw[hv];simp[qq,hl',hb,ho]) rfl
  simp[ho];by_cases hn:x.n=0
  case neg=>
   simp[hn];exact qa rfl (by rw[hv];simp[qq,hl',hb,ho,hn]) rfl
  simp[hn];by_cases hr:x.man=0∧x.exp=0
  case neg=>
   rcases qq9.1 hr with hr1|hr1
   ·simp[hr1];exact qa rfl (by rw[hv];simp[qq,hl',hr1,hb,ho,hn,true_and]) rfl
   ·simp[hr1];exact qa rfl (by rw[hv];simp[qq,hl',hr1,hb,ho,hn,true_and]) rfl
  simp[hr];exact qa rfl (by rw[hv];simp[qq,hl',hb,ho,hn,hr]) rfl
theorem qgR(x:Ex)(hx:x.ok)(h9:x.kind=9):∀S,Fn prog 180 [x.v] S (.bool (x.vOwn qb)):=by
 refine Pu.ib func180 ok180 (by simp[c180]) (by simp[V.under]) rfl ?_;have hv:=Ex.vOwn_eq qb x;generalize x.vOwn qb=r at hv ⊢
 ·simp only[h9] at hv;simp at hv;simp[c180,qE,ldS,h9];refine qe (y8 _ _) ?_;simp[arL,arH,ldS,h9];refine qe (qF _ _ _ _) ?_;simp[ldS];refine qe (qF _ _ _ _) ?_;by_cases hl:1≤x.args.length∧x.args.length≤1
  case neg=>
   rw[qS (a:=(x.args.length:Int)) (lo:=1) (hi:=1) (by omega)];simp;refine qa rfl ?_ rfl;rw[hv];simp only[qq,V.bool.injEq,qr9];have:¬ x.args.length=1:=by omega
   simp[this]
  rw[qW (a:=(x.args.length:Int)) (lo:=1) (hi:=1) (by omega)];have hl':x.args.length=1:=by omega
  simp[h9];by_cases hb1:x.op=1
  case neg=>
   by_cases hb2:x.op=2
   case neg=>
    simp[hb1,hb2];exact qa rfl (by rw[hv];simp[qq,hl',hb1,hb2]) rfl
   simp[hb2];by_cases hn:x.n=0
   case neg=>
    simp[hn];exact qa rfl (by rw[hv];simp[qq,hl',hb2,hn]) rfl
   simp[hn];by_cases hr:x.man=0∧x.exp=0
   case neg=>
    rcases qq9.1 hr with hr1|hr1
    ·simp[hr1];exact qa rfl (by rw[hv];simp[qq,hl',hr1,hb2,hn,true_and]) rfl
    ·simp[hr1];exact qa rfl (by rw[hv];simp[qq,hl',hr1,hb2,hn,true_and]) rfl
   simp[hr];by_cases ht:x.text=⟨⟨[]⟩⟩
   case neg=>
    simp[ht];exact qa rfl (by rw[hv];simp[qq,hl',hb2,hn,hr,qI ht]) rfl
   simp[ht];rw[ht] at hv;exact qa rfl (by rw[hv];simp[qq,hl',hb2,hn,hr,qO rfl]) rfl
  simp[hb1];by_cases hn:x.n=0
  case neg=>
   simp[hn];exact qa rfl (by rw[hv];simp[qq,hl',hb1,hn]) rfl
  simp[hn];by_cases hr:x.man=0∧x.exp=0
  case neg=>
   rcases qq9.1 hr with hr1|hr1
   ·simp[hr1];exact qa rfl (by rw[hv];simp[qq,hl',hr1,hb1,hn,true_and]) rfl
   ·simp[hr1];exact qa rfl (by rw[hv];simp[qq,hl',hr1,hb1,hn,true_and]) rfl
  simp[hr];by_cases ht:x.text=⟨⟨[]⟩⟩
  case neg=>
   simp[ht];exact qa rfl (by rw[hv];simp[qq,hl',hb1,hn,hr,qI ht]) rfl
  simp[ht];rw[ht] at hv;exact qa rfl (by rw[hv];simp[qq,hl',hb1,hn,hr,qO rfl]) rfl
theorem qdK(x:Ex)(hx:x.ok)(h10:x.kind=10):∀S,Fn prog 180 [x.v] S (.bool (x.vOwn qb)):=by
 refine Pu.ib func180 ok180 (by simp[c180]) (by simp[V.under]) rfl ?_;have hv:=Ex.vOwn_eq qb x;generalize x.vOwn qb=r at hv ⊢
 ·simp only[h10] at hv;simp at hv;simp[c180,qE,ldS,h10];refine qe (y8 _ _) ?_;simp[arL,arH,ldS,h10];refine qe (qF _ _ _ _) ?_;simp[ldS];refine qe (qF _ _ _ _) ?_;by_cases hl:2≤x.args.length∧x.args.length≤2
  case neg=>
   rw[qS (a:=(x.args.length:Int)) (lo:=2) (hi:=2) (by omega)];simp;refine qa rfl ?_ rfl;rw[hv];simp only[qq,V.bool.injEq,qr9];have:¬ x.args.length=2:=by omega
   simp[this]
  rw[qW (a:=(x.args.length:Int)) (lo:=2) (hi:=2) (by omega)];have hl':x.args.length=2:=by omega
  simp[h10];refine qe (qF _ _ _ _) ?_;by_cases hb:3≤x.op∧x.op≤18
  case neg=>
   rw[qS (by omega)];simp;exact qa rfl (by rw[hv];simp[qq,hl',hb]) rfl
  rw[qW (by omega)];simp;by_cases hn:x.n=0
  case neg=>
   simp[hn];exact qa rfl (by rw[hv];simp[qq,hl',hb,hn]) rfl
  simp[hn];by_cases hr:x.man=0∧x.exp=0
  case neg=>
   rcases qq9.1 hr with hr1|hr1
   ·simp[hr1];exact qa rfl (by rw[hv];simp[qq,hl',hr1,hb,hn,true_and]) rfl
   ·simp[hr1];exact qa rfl (by rw[hv];simp[qq,hl',hr1,hb,hn,true_and]) rfl
  simp[hr];by_cases ht:x.text=⟨⟨[]⟩⟩
  case neg=>
   simp[ht];exact qa rfl (by rw[hv];simp[qq,hl',hb,hn,hr,qI ht]) rfl
  simp[ht];rw[ht] at hv;exact qa rfl (by rw[hv];simp[qq,hl',hb,hn,hr,qO rfl]) rfl
theorem qey(x:Ex)(hx:x.ok)(h11:x.kind=11):∀S,Fn prog 180 [x.v] S (.bool (x.vOwn qb)):=by
 refine Pu.ib func180 ok180 (by simp[c180]) (by simp[V.under]) rfl ?_;have hv:=Ex.vOwn_eq qb x;generalize x.vOwn qb=r at hv ⊢
 ·simp only[h11] at hv;simp at hv;simp[c180,qE,ldS,h11];refine qe (y8 _ _) ?_;simp[arL,arH,ldS,h11];refine qe (qF _ _ _ _) ?_;simp[ldS];refine qe (qF _ _ _ _) ?_;by_cases hl:3≤x.args.length∧x.args.length≤3
  case neg=>
   rw[qS (a:=(x.args.length:Int)) (lo:=3) (hi:=3) (by omega)];simp;refine qa rfl ?_ rfl;rw[hv];simp only[qq,V.bool.injEq,qr9];have:¬ x.args.length=3:=by omega
   simp[this]
  rw[qW (a:=(x.args.length:Int)) (lo:=3) (hi:=3) (by omega)];have hl':x.args.length=3:=by omega
  simp[h11];by_cases ho:x.op=0
  case neg=>
   simp[ho];exact qa rfl (by rw[hv];simp[qq,hl',ho]) rfl
  simp[ho];by_cases hn:x.n=0
  case neg=>
   simp[hn];exact qa rfl (by rw[hv];simp[qq,hl',ho,hn]) rfl
  simp[hn];by_cases hr:x.man=0∧x.exp=0
  case neg=>
   rcases qq9.1 hr with hr1|hr1
   ·simp[hr1];exact qa rfl (by rw[hv];simp[qq,hl',hr1,ho,hn,true_and]) rfl
   ·simp[hr1];exact qa rfl (by rw[hv];simp[qq,hl',hr1,ho,hn,true_and]) rfl
  simp[hr];by_cases ht:x.text=⟨⟨[]⟩⟩
  case neg=>
   simp[ht];exact qa rfl (by rw[hv];simp[qq,hl',ho,hn,hr,qI ht]) rfl
  simp[ht];rw[ht] at hv;exact qa rfl (by rw[hv];simp[qq,hl',ho,hn,hr,qO rfl]) rfl
theorem qeo(x:Ex)(hx:x.ok)(h1:¬ x.kind=1)(h2:¬ x.kind=2)(h3:¬ x.kind=3)(h4:¬ x.kind=4)(h5:¬ x.kind=5)(h6:¬ x.kind=6)(h7:¬ x.kind=7)(h8:¬ x.kind=8)(h9:¬ x.kind=9)(h10:¬ x.kind=10)(h11:¬ x.kind=11):∀S,Fn prog 180 [x.v] S (.bool (x.vOwn qb)):=by
 refine Pu.ib func180 ok180 (by simp[c180]) (by simp[V.under]) rfl ?_;have hv:=Ex.vOwn_eq qb x;generalize x.vOwn qb=r at hv ⊢;have hv':r=false:=by rw[hv];simp[h1,h2,h3,h4,h5,h6,h7,h8,h9,h10,h11]
 simp[c180,qE,ldS];refine qe (y8 _ _) ?_;simp[ldS];refine qe (qF _ _ _ _) ?_;rw[qS (by omega)];simp;exact qa rfl (by rw[hv'];rfl) rfl
theorem qkd(x:Ex)(hx:x.ok):∀S,Fn prog 180 [x.v] S (.bool (x.vOwn qb)):=by
 by_cases h1:x.kind=1
 ·exact qfJ x hx h1
 by_cases h2:x.kind=2
 ·exact qff x hx h2
 by_cases h3:x.kind=3
 ·exact qgq x hx h3
 by_cases h4:x.kind=4
 ·exact qgW x hx h4
 by_cases h5:x.kind=5
 ·exact qgk x hx h5
 by_cases h6:x.kind=6
 ·exact qeV x hx h6
 by_cases h7:x.kind=7
 ·exact qeZ x hx h7
 by_cases h8:x.kind=8
 ·exact qfg x hx h8
 by_cases h9:x.kind=9
 ·exact qgR x hx h9
 by_cases h10:x.kind=10
 ·exact qdK x hx h10
 by_cases h11:x.kind=11
 ·exact qey x hx h11
 exact qeo x hx h1 h2 h3 h4 h5 h6 h7 h8 h9 h10 h11
end
section
attribute [local simp] yz eqV qE ldS stS qi Zt qbc qe9 zG Qz qH qD evX
theorem zO(n:Nat):qL 0 0 n=decide (n=0):=by unfold qL;rw[qro];simp
theorem Qb(n:Nat):qL 1 1 n=decide (n=1):=by unfold qL;rw[qro];simp;omega
theorem yT(n:Nat):qL 1 (-1) n=decide (1≤n):=by unfold qL;rw[qro];simp;omega
theorem yD(n:Nat):qL 1 2 n=decide (1≤n∧n≤2):=by unfold qL;rw[qro];simp;omega
theorem yU(n:Nat):qL 0 8 n=decide (n≤8):=by unfold qL;rw[qro];simp;omega
theorem yZ(n:Nat):qL 2 8 n=decide (2≤n∧n≤8):=by unfold qL;rw[qro];simp;omega
theorem qlc{l:List Sm}(h:0<l.length):Sm.noIf l=decide (l[0].kind≠4∧l[0].kind≠5):=by
 cases l with
 | nil=>simp at h
 | cons x l=>rfl
theorem qep:qb ⟨⟨[]⟩⟩=false:=rfl
theorem qkJ{l:List Sm}(h:0<l.length)(b:Bool)(S:St):iaS S 8 (.sl b (l.map Sm.v)) 0=some (.iptr (Sm.v l[0]) 0):=qi2 (i:=0) h b S
theorem Sm.vOwn_1(nm:Bz→Bool)(s:Sm)(h:s.kind=1):s.vOwn nm=(qL 0 0 s.targets.length && qL 0 0 s.exps.length && qL 0 0 s.elems.length && qL 0 0 s.decls.length && qL 0 0 s.body.length && zp s.text && s.labels.all nm && s.targets.all Ex.tgt):=by
 cases s;simp only[Sm.kind] at h;subst h;simp only[Sm.vOwn,Sm.targets,Sm.exps,Sm.elems,Sm.decls,Sm.body,Sm.text,Sm.labels,zO,Qb,yT,yD,yU,yZ];simp only[reduceIte,Int.reduceEq];ac_rfl
theorem Sm.vOwn_2(nm:Bz→Bool)(s:Sm)(h:s.kind=2):s.vOwn nm=(qL 1 (-1) s.targets.length && qL 1 1 s.exps.length && qL 0 0 s.elems.length && qL 0 0 s.decls.length && qL 0 0 s.body.length && zp s.text && s.labels.all nm && s.targets.all Ex.tgt):=by
 cases s;simp only[Sm.kind] at h;subst h;simp only[Sm.vOwn,Sm.targets,Sm.exps,Sm.elems,Sm.decls,Sm.body,Sm.text,Sm.labels,zO,Qb,yT,yD,yU,yZ];simp only[reduceIte,Int.reduceEq];ac_rfl
theorem Sm.vOwn_3(nm:Bz→Bool)(s:Sm)(h:s.kind=3):s.vOwn nm=(qL 0 0 s.targets.length && qL 1 1 s.exps.length && qL 0 0 s.elems.length && qL 0 0 s.decls.length && qL 0 0 s.body.length && zp s.text && s.labels.all nm && s.targets.all Ex.tgt):=by
 cases s;simp only[Sm.kind] at h;subst h;simp only[Sm.vOwn,Sm.targets,Sm.exps,Sm.elems,Sm.decls,Sm.body,Sm.text,Sm.labels,zO,Qb,yT,yD,yU,yZ];simp only[reduceIte,Int.reduceEq];ac_rfl
theorem Sm.vOwn_4(nm:Bz→Bool)(s:Sm)(h:s.kind=4):s.vOwn nm=(qL 0 0 s.targets.length && qL 1 1 s.exps.length && qL 0 0 s.elems.length && qL 0 0 s.decls.length && qL 1 2 s.body.length && zp s.text && s.labels.all nm && s.targets.all Ex.tgt && Sm.noIf s.body):=by
 cases s;simp only[Sm.kind] at h;subst h;simp only[Sm.vOwn,Sm.targets,Sm.exps,Sm.elems,Sm.decls,Sm.body,Sm.text,Sm.labels,zO,Qb,yT,yD,yU,yZ];simp only[reduceIte,Int.reduceEq];ac_rfl
theorem Sm.vOwn_5(nm:Bz→Bool)(s:Sm)(h:s.kind=5):s.vOwn nm=(qL 1 1 s.targets.length && qL 0 0 s.exps.length && qL 1 (-1) s.elems.length && qL 0 0 s.decls.length && qL 1 1 s.body.length && zp s.text && s.labels.all nm && s.targets.all Ex.tgt):=by
 cases s;simp only[Sm.kind] at h;subst h;simp only[Sm.vOwn,Sm.targets,Sm.exps,Sm.elems,Sm.decls,Sm.body,Sm.text,Sm.labels,zO,Qb,yT,yD,yU,yZ];simp only[reduceIte,Int.reduceEq];ac_rfl
theorem Sm.vOwn_6(nm:Bz→Bool)(s:Sm)(h:s.kind=6):s.vOwn nm=(qL 0 0 s.targets.length && qL 0 8 s.exps.length && qL 0 0 s.elems.length && qL 0 0 s.decls.length && qL 0 0 s.body.length && nm s.text && s.labels.all nm && s.targets.all Ex.tgt):=by
 cases s;simp only[Sm.kind] at h;subst h;simp only[Sm.vOwn,Sm.targets,Sm.exps,Sm.elems,Sm.decls,Sm.body,Sm.text,Sm.labels,zO,Qb,yT,yD,yU,yZ];simp only[reduceIte,Int.reduceEq];ac_rfl
theorem Sm.vOwn_7(nm:Bz→Bool)(s:Sm)(h:s.kind=7):s.vOwn nm=(qL 0 0 s.targets.length && qL 0 0 s.exps.length && qL 0 0 s.elems.length && qL 1 (-1) s.decls.length && qL 1 (-1) s.body.length && zp s.text && s.labels.all nm && s.targets.all Ex.tgt):=by
 cases s;simp only[Sm.kind] at h;subst h;simp only[Sm.vOwn,Sm.targets,Sm.exps,Sm.elems,Sm.decls,Sm.body,Sm.text,Sm.labels,zO,Qb,yT,yD,yU,yZ];simp only[reduceIte,Int.reduceEq];ac_rfl
theorem Sm.vOwn_8(nm:Bz→Bool)(s:Sm)(h:s.kind=8):s.vOwn nm=(qL 0 0 s.targets.length && qL 0 0 s.exps.length && qL 0 0 s.elems.length && qL 0 0 s.decls.length && qL 1 (-1) s.body.length && zp s.text && s.labels.all nm && s.targets.all Ex.tgt):=by
 cases s;simp only[Sm.kind] at h;subst h;simp only[Sm.vOwn,Sm.targets,Sm.exps,Sm.elems,Sm.decls,Sm.body,Sm.text,Sm.labels,zO,Qb,yT,yD,yU,yZ];simp only[reduceIte,Int.reduceEq];ac_rfl
theorem Sm.vOwn_no(nm:Bz→Bool)(s:Sm)(h:¬ (1≤s.kind∧s.kind≤8)):s.vOwn nm=false:=by
 cases s with
 | mk l k t g e f d b=>
  simp only[Sm.kind] at h;simp only[Sm.vOwn,if_neg (show ¬ k=1 by omega),if_neg (show ¬ k=2 by omega),if_neg (show ¬ k=3 by omega),if_neg (show ¬ k=4 by omega),if_neg (show ¬ k=5 by omega),if_neg (show ¬ k=6 by omega),if_neg (show ¬ k=7 by omega),if_neg (show ¬ k=8 by omega),Bool.and_false]
theorem qe5(s:Sm)(hs:s.ok)(hk:s.kind=1):∀S,Fn prog 183 [s.v] S (.bool (s.vOwn qb)):=by
 refine Pu.ib func183 ok183 (by simp[c183]) (by simp[V.under]) rfl ?_;have hO:=(Sm.ok_iff s).1 hs;rw[Sm.vOwn_1 qb s hk];simp[c183,hk];refine qe (qw _ _ _ _) ?_;cases f0:qL 0 0 s.targets.length
 case false=>
  simp;exact qa rfl (by simp[qq,f0]) rfl
 simp;refine qe (qw _ _ _ _) ?_;cases f1:qL 0 0 s.exps.length
 case false=>
  simp;exact qa rfl (by simp[qq,f0,f1]) rfl
 simp;refine qe (qw _ _ _ _) ?_;cases f2:qL 0 0 s.elems.length
 case false=>
  simp;exact qa rfl (by simp[qq,f0,f1,f2]) rfl
 simp;refine qe (qw _ _ _ _) ?_;cases f3:qL 0 0 s.decls.length
 case false=>
  simp;exact qa rfl (by simp[qq,f0,f1,f2,f3]) rfl
 simp;refine qe (qw _ _ _ _) ?_;cases f4:qL 0 0 s.body.length
 case false=>
  simp;exact qa rfl (by simp[qq,f0,f1,f2,f3,f4]) rfl
 simp;by_cases ht:s.text=⟨⟨[]⟩⟩
 case neg=>
  simp[ht];exact qa rfl (by simp[qq,f0,f1,f2,f3,f4,qI ht]) rfl
 simp[ht];refine qe (yY _ hO.labels.1 _) ?_;cases hl:s.labels.all qb
 case false=>
  simp;exact qa rfl (by simp[qq]) rfl
 simp;refine qe (Zh _ hO.targets.1 _) ?_;cases hg:s.targets.all Ex.tgt
 case false=>
  simp;exact qa rfl (by simp[qq]) rfl
 simp[hk];exact qa rfl (by simp[qq,f0,f1,f2,f3,f4,qO rfl]) rfl
theorem qfm(s:Sm)(hs:s.ok)(hk:s.kind=2):∀S,Fn prog 183 [s.v] S (.bool (s.vOwn qb)):=by
 refine Pu.ib func183 ok183 (by simp[c183]) (by simp[V.under]) rfl ?_;have hO:=(Sm.ok_iff s).1 hs;rw[Sm.vOwn_2 qb s hk];simp[c183,hk];refine qe (qw _ _ _ _) ?_;cases f0:qL 1 (-1) s.targets.length
 case false=>
  simp;exact qa rfl (by simp[qq,f0]) rfl
 simp;refine qe (qw _ _ _ _) ?_;cases f1:qL 1 1 s.exps.length
 case false=>
  simp;exact qa rfl (by simp[qq,f0,f1]) rfl
 simp;refine qe (qw _ _ _ _) ?_;cases f2:qL 0 0 s.elems.length
 case false=>
  simp;exact qa rfl (by simp[qq,f0,f1,f2]) rfl
 simp;refine qe (qw _ _ _ _) ?_;cases f3:qL 0 0 s.decls.length
 case false=>
  simp;exact qa rfl (by simp[qq,f0,f1,f2,f3]) rfl
 simp;refine qe (qw _ _ _ _) ?_;cases f4:qL 0 0 s.body.length
 case false=>
  simp;exact qa rfl (by simp[qq,f0,f1,f2,f3,f4]) rfl
 simp;by_cases ht:s.text=⟨⟨[]⟩⟩
 case neg=>
  simp[ht];exact qa rfl (by simp[qq,f0,f1,f2,f3,f4,qI ht]) rfl
 simp[ht];refine qe (yY _ hO.labels.1 _) ?_;cases hl:s.labels.all qb
 case false=>
  simp;exact qa rfl (by simp[qq]) rfl
 simp;refine qe (Zh _ hO.targets.1 _) ?_;cases hg:s.targets.all Ex.tgt
 case false=>
  simp;exact qa rfl (by simp[qq]) rfl
 simp[hk];exact qa rfl (by simp[qq,f0,f1,f2,f3,f4,qO rfl]) rfl
theorem qfw(s:Sm)(hs:s.ok)(hk:s.kind=3):∀S,Fn prog 183 [s.v] S (.bool (s.vOwn qb)):=by
 refine Pu.ib func183 ok183 (by simp[c183]) (by simp[V.under]) rfl ?_;have hO:=(Sm.ok_iff s).1 hs;rw[Sm.vOwn_3 qb s hk];simp[c183,hk];refine qe (qw _ _ _ _) ?_;cases f0:qL 0 0 s.targets.length
 case false=>
  simp;exact qa rfl (by simp[qq,f0]) rfl
 simp;refine qe (qw _ _ _ _) ?_;cases f1:qL 1 1 s.exps.length
 case false=>
  simp;exact qa rfl (by simp[qq,f0,f1]) rfl
 simp;refine qe (qw _ _ _ _) ?_;cases f2:qL 0 0 s.elems.length
 case false=>
  simp;exact qa rfl (by simp[qq,f0,f1,f2]) rfl
 simp;refine qe (qw _ _ _ _) ?_;cases f3:qL 0 0 s.decls.length
 case false=>
  simp;exact qa rfl (by simp[qq,f0,f1,f2,f3]) rfl
 simp;refine qe (qw _ _ _ _) ?_;cases f4:qL 0 0 s.body.length
 case false=>
  simp;exact qa rfl (by simp[qq,f0,f1,f2,f3,f4]) rfl
 simp;by_cases ht:s.text=⟨⟨[]⟩⟩
 case neg=>
  simp[ht];exact qa rfl (by simp[qq,f0,f1,f2,f3,f4,qI ht]) rfl
 simp[ht];refine qe (yY _ hO.labels.1 _) ?_;cases hl:s.labels.all qb
 case false=>
  simp;exact qa rfl (by simp[qq]) rfl
 simp;refine qe (Zh _ hO.targets.1 _) ?_;cases hg:s.targets.all Ex.tgt
 case false=>
  simp;exact qa rfl (by simp[qq]) rfl
 simp[hk];exact qa rfl (by simp[qq,f0,f1,f2,f3,f4,qO rfl]) rfl
theorem qeQ(s:Sm)(hs:s.ok)(hk:s.kind=4):∀S,Fn prog 183 [s.v] S (.bool (s.vOwn qb)):=by
 refine Pu.ib func183 ok183 (by simp[c183]) (by simp[V.under]) rfl ?_;have hO:=(Sm.ok_iff s).1 hs;rw[Sm.vOwn_4 qb s hk];simp[c183,hk];refine qe (qw _ _ _ _) ?_;cases f0:qL 0 0 s.targets.length
 case false=>
  simp;exact qa rfl (by simp[qq,f0]) rfl
 simp;refine qe (qw _ _ _ _) ?_;cases f1:qL 1 1 s.exps.length
 case false=>
  simp;exact qa rfl (by simp[qq,f0,f1]) rfl
 simp;refine qe (qw _ _ _ _) ?_;cases f2:qL 0 0 s.elems.length
 case false=>
  simp;exact qa rfl (by simp[qq,f0,f1,f2]) rfl
 simp;refine qe (qw _ _ _ _) ?_;cases f3:qL 0 0 s.decls.length
 case false=>
  simp;exact qa rfl (by simp[qq,f0,f1,f2,f3]) rfl
 simp;refine qe (qw _ _ _ _) ?_;cases f4:qL 1 2 s.body.length
 case false=>
  simp;exact qa rfl (by simp[qq,f0,f1,f2,f3,f4]) rfl
 simp;by_cases ht:s.text=⟨⟨[]⟩⟩
 case neg=>
  simp[ht];exact qa rfl (by simp[qq,f0,f1,f2,f3,f4,qI ht]) rfl
 simp[ht];refine qe (yY _ hO.labels.1 _) ?_;cases hl:s.labels.all qb
 case false=>
  simp;exact qa rfl (by simp[qq]) rfl
 simp;refine qe (Zh _ hO.targets.1 _) ?_;cases hg:s.targets.all Ex.tgt
 case false=>
  simp;exact qa rfl (by simp[qq]) rfl
 have hb:0<s.body.length:=by rw[yD] at f4;simp at f4;omega
 have hno:=qlc hb;rw[hno];by_cases g4:s.body[0].kind=4
 case pos=>
  simp[qkJ hb,hk,g4];exact qa rfl (by simp[qq]) rfl
 by_cases g5:s.body[0].kind=5
 case pos=>
  simp[qkJ hb,hk,g4,g5];exact qa rfl (by simp[qq]) rfl
 simp[qkJ hb,hk,g4,g5];exact qa rfl (by simp[qq,f0,f1,f2,f3,f4,qO rfl]) rfl
theorem qe1(s:Sm)(hs:s.ok)(hk:s.kind=5):∀S,Fn prog 183 [s.v] S (.bool (s.vOwn qb)):=by
 refine Pu.ib func183 ok183 (by simp[c183]) (by simp[V.under]) rfl ?_;have hO:=(Sm.ok_iff s).1 hs;rw[Sm.vOwn_5 qb s hk];simp[c183,hk];refine qe (qw _ _ _ _) ?_;cases f0:qL 1 1 s.targets.length
 case false=>
  simp;exact qa rfl (by simp[qq,f0]) rfl
 simp;refine qe (qw _ _ _ _) ?_;cases f1:qL 0 0 s.exps.length
 case false=>
  simp;exact qa rfl (by simp[qq,f0,f1]) rfl
 simp;refine qe (qw _ _ _ _) ?_;cases f2:qL 1 (-1) s.elems.length
 case false=>
  simp;exact qa rfl (by simp[qq,f0,f1,f2]) rfl
 simp;refine qe (qw _ _ _ _) ?_;cases f3:qL 0 0 s.decls.length
 case false=>
  simp;exact qa rfl (by simp[qq,f0,f1,f2,f3]) rfl
 simp;refine qe (qw _ _ _ _) ?_;cases f4:qL 1 1 s.body.length
 case false=>
  simp;exact qa rfl (by simp[qq,f0,f1,f2,f3,f4]) rfl
 simp;by_cases ht:s.text=⟨⟨[]⟩⟩
 case neg=>
  simp[ht];exact qa rfl (by simp[qq,f0,f1,f2,f3,f4,qI ht]) rfl
 simp[ht];refine qe (yY _ hO.labels.1 _) ?_;cases hl:s.labels.all qb
 case false=>
  simp;exact qa rfl (by simp[qq]) rfl
 simp;refine qe (Zh _ hO.targets.1 _) ?_;cases hg:s.targets.all Ex.tgt
 case false=>
  simp;exact qa rfl (by simp[qq]) rfl
 simp[hk];exact qa rfl (by simp[qq,f0,f1,f2,f3,f4,qO rfl]) rfl
theorem qhk(s:Sm)(hs:s.ok)(hk:s.kind=6):∀S,Fn prog 183 [s.v] S (.bool (s.vOwn qb)):=by
 refine Pu.ib func183 ok183 (by simp[c183]) (by simp[V.under]) rfl ?_;have hO:=(Sm.ok_iff s).1 hs;rw[Sm.vOwn_6 qb s hk];simp[c183,hk];refine qe (qw _ _ _ _) ?_;cases f0:qL 0 0 s.targets.length
 case false=>
  simp;exact qa rfl (by simp[qq,f0]) rfl
 simp;refine qe (qw _ _ _ _) ?_;cases f1:qL 0 8 s.exps.length
 case false=>
  simp;exact qa rfl (by simp[qq,f0,f1]) rfl
 simp;refine qe (qw _ _ _ _) ?_;cases f2:qL 0 0 s.elems.length
 case false=>
  simp;exact qa rfl (by simp[qq,f0,f1,f2]) rfl
 simp;refine qe (qw _ _ _ _) ?_;cases f3:qL 0 0 s.decls.length
 case false=>
  simp;exact qa rfl (by simp[qq,f0,f1,f2,f3]) rfl
 simp;refine qe (qw _ _ _ _) ?_;cases f4:qL 0 0 s.body.length
 case false=>
  simp;exact qa rfl (by simp[qq,f0,f1,f2,f3,f4]) rfl
 simp;by_cases ht:s.text=⟨⟨[]⟩⟩
 case pos=>
  simp[ht];exact qa rfl (by simp[qq,f0,f1,f2,f3,f4,qep]) rfl
 simp[ht];refine qe (jE _ _) ?_;cases hn:qb s.text
 case false=>
  simp;exact qa rfl (by simp[qq,f0,f1,f2,f3,f4,hn]) rfl
 simp;refine qe (yY _ hO.labels.1 _) ?_;cases hl:s.labels.all qb
 case false=>
  simp;exact qa rfl (by simp[qq]) rfl
 simp;refine qe (Zh _ hO.targets.1 _) ?_;cases hg:s.targets.all Ex.tgt
 case false=>
  simp;exact qa rfl (by simp[qq]) rfl
 simp[hk];exact qa rfl (by simp[qq,f0,f1,f2,f3,f4,hn]) rfl
theorem qhp(s:Sm)(hs:s.ok)(hk:s.kind=7):∀S,Fn prog 183 [s.v] S (.bool (s.vOwn qb)):=by
 refine Pu.ib func183 ok183 (by simp[c183]) (by simp[V.under]) rfl ?_;have hO:=(Sm.ok_iff s).1 hs;rw[Sm.vOwn_7 qb s hk];simp[c183,hk];refine qe (qw _ _ _ _) ?_;cases f0:qL 0 0 s.targets.length
 case false=>
  simp;exact qa rfl (by simp[qq,f0]) rfl
 simp;refine qe (qw _ _ _ _) ?_;cases f1:qL 0 0 s.exps.length
 case false=>
  simp;exact qa rfl (by simp[qq,f0,f1]) rfl
 simp;refine qe (qw _ _ _ _) ?_;cases f2:qL 0 0 s.elems.length
 case false=>
  simp;exact qa rfl (by simp[qq,f0,f1,f2]) rfl
 simp;refine qe (qw _ _ _ _) ?_;cases f3:qL 1 (-1) s.decls.length
 case false=>
  simp;exact qa rfl (by simp[qq,f0,f1,f2,f3]) rfl
 simp;refine qe (qw _ _ _ _) ?_;cases f4:qL 1 (-1) s.body.length
 case false=>
  simp;exact qa rfl (by simp[qq,f0,f1,f2,f3,f4]) rfl
 simp;by_cases ht:s.text=⟨⟨[]⟩⟩
 case neg=>
  simp[ht];exact qa rfl (by simp[qq,f0,f1,f2,f3,f4,qI ht]) rfl
 simp[ht];refine qe (yY _ hO.labels.1 _) ?_;cases hl:s.labels.all qb
 case false=>
  simp;exact qa rfl (by simp[qq]) rfl
 simp;refine qe (Zh _ hO.targets.1 _) ?_;cases hg:s.targets.all Ex.tgt
 case false=>
  simp;exact qa rfl (by simp[qq]) rfl
 simp[hk];exact qa rfl (by simp[qq,f0,f1,f2,f3,f4,qO rfl]) rfl
theorem qfZ(s:Sm)(hs:s.ok)(hk:s.kind=8):∀S,Fn prog 183 [s.v] S (.bool (s.vOwn qb)):=by
 refine Pu.ib func183 ok183 (by simp[c183]) (by simp[V.under]) rfl ?_;have hO:=(Sm.ok_iff s).1 hs;rw[Sm.vOwn_8 qb s hk];simp[c183,hk];refine qe (qw _ _ _ _) ?_;cases f0:qL 0 0 s.targets.length
 case false=>
  simp;exact qa rfl (by simp[qq,f0]) rfl
 simp;refine qe (qw _ _ _ _) ?_;cases f1:qL 0 0 s.exps.length
 case false=>
  simp;exact qa rfl (by simp[qq,f0,f1]) rfl
 simp;refine qe (qw _ _ _ _) ?_;cases f2:qL 0 0 s.elems.length
 case false=>
  simp;exact qa rfl (by simp[qq,f0,f1,f2]) rfl
 simp;refine qe (qw _ _ _ _) ?_;cases f3:qL 0 0 s.decls.length
 case false=>
  simp;exact qa rfl (by simp[qq,f0,f1,f2,f3]) rfl
 simp;refine qe (qw _ _ _ _) ?_;cases f4:qL 1 (-1) s.body.length
 case false=>
  simp;exact qa rfl (by simp[qq,f0,f1,f2,f3,f4]) rfl
 simp;by_cases ht:s.text=⟨⟨[]⟩⟩
 case neg=>
  simp[ht];exact qa rfl (by simp[qq,f0,f1,f2,f3,f4,qI ht]) rfl
 simp[ht];refine qe (yY _ hO.labels.1 _) ?_;cases hl:s.labels.all qb
 case false=>
  simp;exact qa rfl (by simp[qq]) rfl
 simp;refine qe (Zh _ hO.targets.1 _) ?_;cases hg:s.targets.all Ex.tgt
 case false=>
  simp;exact qa rfl (by simp[qq]) rfl
 simp[hk];exact qa rfl (by simp[qq,f0,f1,f2,f3,f4,qO rfl]) rfl
theorem qd6(s:Sm)(hs:s.ok)(h:¬ (1≤s.kind∧s.kind≤8)):∀S,Fn prog 183 [s.v] S (.bool (s.vOwn qb)):=by
 refine Pu.ib func183 ok183 (by simp[c183]) (by simp[V.under]) rfl ?_;have hO:=(Sm.ok_iff s).1 hs;rw[Sm.vOwn_no qb s h];simp[c183,show ¬ s.kind=1 by omega,show ¬ s.kind=2 by omega,show ¬ s.kind=3 by omega,show ¬ s.kind=4 by omega,show ¬ s.kind=5 by omega,show ¬ s.kind=6 by omega,show ¬ s.kind=7 by omega,show ¬ s.kind=8 by omega];exact qa rfl rfl rfl
theorem qmR(s:Sm)(hs:s.ok):∀S,Fn prog 183 [s.v] S (.bool (s.vOwn qb)):=by
 by_cases h1:s.kind=1
 ·exact qe5 s hs h1
 by_cases h2:s.kind=2
 ·exact qfm s hs h2
 by_cases h3:s.kind=3
 ·exact qfw s hs h3
 by_cases h4:s.kind=4
 ·exact qeQ s hs h4
 by_cases h5:s.kind=5
 ·exact qe1 s hs h5
 by_cases h6:s.kind=6
 ·exact qhk s hs h6
 by_cases h7:s.kind=7
 ·exact qhp s hs h7
 by_cases h8:s.kind=8
 ·exact qfZ s hs h8
 exact qd6 s hs (by omega)
theorem De.vOwn_1(nm:Bz→Bool)(d:De)(h:d.kind=1):d.vOwn nm=(qL 1 (-1) d.names.length && qL 0 0 d.exps.length && qL 0 0 d.body.length && qL 0 0 d.formals.length && d.names.all nm && (decide (1≤d.type∧d.type≤3))):=by
 cases d;simp only[De.kind] at h;subst h;simp only[De.vOwn,De.names,De.exps,De.formals,De.body,De.own,De.type,zO,Qb,yT,yD,yU,yZ];simp only[reduceIte,Int.reduceEq];ac_rfl
theorem De.vOwn_2(nm:Bz→Bool)(d:De)(h:d.kind=2):d.vOwn nm=(qL 1 (-1) d.names.length && qL 2 8 d.exps.length && qL 0 0 d.body.length && qL 0 0 d.formals.length && d.names.all nm && (decide (1≤d.type∧d.type≤3) && decide (d.exps.length % 2=0))):=by
 cases d;simp only[De.kind] at h;subst h;simp only[De.vOwn,De.names,De.exps,De.formals,De.body,De.own,De.type,zO,Qb,yT,yD,yU,yZ];simp only[reduceIte,Int.reduceEq];ac_rfl
theorem De.vOwn_3(nm:Bz→Bool)(d:De)(h:d.kind=3):d.vOwn nm=(qL 1 1 d.names.length && qL 1 (-1) d.exps.length && qL 0 0 d.body.length && qL 0 0 d.formals.length && d.names.all nm && (!d.own && decide (d.type=0))):=by
 cases d;simp only[De.kind] at h;subst h;simp only[De.vOwn,De.names,De.exps,De.formals,De.body,De.own,De.type,zO,Qb,yT,yD,yU,yZ];simp only[reduceIte,Int.reduceEq];ac_rfl
theorem De.vOwn_4(nm:Bz→Bool)(d:De)(h:d.kind=4):d.vOwn nm=(qL 1 1 d.names.length && qL 0 0 d.exps.length && qL 1 1 d.body.length && qL 0 8 d.formals.length && d.names.all nm && (!d.own && decide (0≤d.type∧d.type≤3) && yx nm d.formals [])):=by
 cases d;simp only[De.kind] at h;subst h;simp only[De.vOwn,De.names,De.exps,De.formals,De.body,De.own,De.type,zO,Qb,yT,yD,yU,yZ];simp only[reduceIte,Int.reduceEq];ac_rfl
theorem De.vOwn_no(nm:Bz→Bool)(s:De)(h:¬ (1≤s.kind∧s.kind≤4)):s.vOwn nm=false:=by
 cases s with
 | mk k o t n e f b=>
  simp only[De.kind] at h;simp only[De.vOwn,if_neg (show ¬ k=1 by omega),if_neg (show ¬ k=2 by omega),if_neg (show ¬ k=3 by omega),if_neg (show ¬ k=4 by omega),Bool.and_false]
theorem qpE(n:Nat):Int.tmod (n:Int) 2=((n % 2:Nat):Int):=rfl
theorem qf2(d:De)(hs:d.ok)(hk:d.kind=1):∀S,Fn prog 182 [d.v] S (.bool (d.vOwn qb)):=by
 refine Pu.ib func182 ok182 (by simp[c182]) (by simp[V.under]) rfl ?_;have hO:=(De.ok_iff d).1 hs;rw[De.vOwn_1 qb d hk];simp[c182,hk];refine qe (qw _ _ _ _) ?_;cases f0:qL 1 (-1) d.names.length
 case false=>
  simp;exact qa rfl (by simp[qq,f0]) rfl
 simp;refine qe (qw _ _ _ _) ?_;cases f1:qL 0 0 d.exps.length
 case false=>
  simp;exact qa rfl (by simp[qq,f0,f1]) rfl
 simp;refine qe (qw _ _ _ _) ?_;cases f2:qL 0 0 d.body.length
 case false=>
  simp;exact qa rfl (by simp[qq,f0,f1,f2]) rfl
 simp;refine qe (qw _ _ _ _) ?_;cases f3:qL 0 0 d.formals.length
 case false=>
  simp;exact qa rfl (by simp[qq,f0,f1,f2,f3]) rfl
 simp;refine qe (yY _ hO.names.1 _) ?_;cases hl:d.names.all qb
 case false=>
  simp;exact qa rfl (by simp[qq,f0]) rfl
 simp;have hgo:∀o:Bool,o=d.own→True:=fun _ _=>trivial
 cases ho:d.own
 case false=>
  simp[ho];refine qe (qF _ _ _ _) ?_;by_cases ht:1≤d.type∧d.type≤3
  case neg=>
   rw[qS ht];simp;exact qa rfl (by simp[qq,f0,f1,f2,f3,ht]) rfl
  rw[qW ht];simp[hk];refine qe (qF _ _ _ _) ?_;rw[qW (show 0≤d.type∧d.type≤3 by omega)];simp[hk];refine qe (YQ _ hO.formals.1 _) ?_;have hf:d.formals=[]:=qq4 (by rw[zO] at f3;simpa using f3);simp[hf,yx];exact qa rfl (by simp[qq,f0,f1,f2,f3,hf,ht]) rfl
 case true=>
  simp[ho];refine qe (qF _ _ _ _) ?_;by_cases ht:1≤d.type∧d.type≤3
  case neg=>
   rw[qS ht];simp;exact qa rfl (by simp[qq,f0,f1,f2,f3,ht]) rfl
  rw[qW ht];simp[hk];refine qe (qF _ _ _ _) ?_;rw[qW (show 0≤d.type∧d.type≤3 by omega)];simp[hk];refine qe (YQ _ hO.formals.1 _) ?_;have hf:d.formals=[]:=qq4 (by rw[zO] at f3;simpa using f3);simp[hf,yx];exact qa rfl (by simp[qq,f0,f1,f2,f3,hf,ht]) rfl
theorem qgt(d:De)(hs:d.ok)(hk:d.kind=2):∀S,Fn prog 182 [d.v] S (.bool (d.vOwn qb)):=by
 refine Pu.ib func182 ok182 (by simp[c182]) (by simp[V.under]) rfl ?_;have hO:=(De.ok_iff d).1 hs;rw[De.vOwn_2 qb d hk];simp[c182,hk];refine qe (qw _ _ _ _) ?_;cases f0:qL 1 (-1) d.names.length
 case false=>
  simp;exact qa rfl (by simp[qq,f0]) rfl
 simp;refine qe (qw _ _ _ _) ?_;cases f1:qL 2 8 d.exps.length
 case false=>
  simp;exact qa rfl (by simp[qq,f0,f1]) rfl
 simp;refine qe (qw _ _ _ _) ?_;cases f2:qL 0 0 d.body.length
 case false=>
  simp;exact qa rfl (by simp[qq,f0,f1,f2]) rfl
 simp;refine qe (qw _ _ _ _) ?_;cases f3:qL 0 0 d.formals.length
 case false=>
  simp;exact qa rfl (by simp[qq,f0,f1,f2,f3]) rfl
 simp;refine qe (yY _ hO.names.1 _) ?_;cases hl:d.names.all qb
 case false=>
  simp;exact qa rfl (by simp[qq,f0]) rfl
 simp;have hgo:∀o:Bool,o=d.own→True:=fun _ _=>trivial
 cases ho:d.own
 case false=>
  simp[ho];refine qe (qF _ _ _ _) ?_;by_cases ht:1≤d.type∧d.type≤3
  case neg=>
   rw[qS ht];simp;exact qa rfl (by simp[qq,f0,f1,f2,f3,ht]) rfl
  rw[qW ht];simp[hk];refine qe (qF _ _ _ _) ?_;rw[qW (show 0≤d.type∧d.type≤3 by omega)];simp[hk];have hmod:=qpE d.exps.length;by_cases hm:d.exps.length % 2=0
  case neg=>
   simp[hmod,hm,show ¬ ((d.exps.length:Int) % 2=0) by omega];exact qa rfl (by simp[qq,f0,f1,f2,f3,ht,hm]) rfl
  simp[hmod,hm,show ((d.exps.length:Int) % 2=0) by omega];refine qe (YQ _ hO.formals.1 _) ?_;have hf:d.formals=[]:=qq4 (by rw[zO] at f3;simpa using f3);simp[hf,yx];exact qa rfl (by simp[qq,f0,f1,f2,f3,hf,ht,hm]) rfl
 case true=>
  simp[ho];refine qe (qF _ _ _ _) ?_;by_cases ht:1≤d.type∧d.type≤3
  case neg=>
   rw[qS ht];simp;exact qa rfl (by simp[qq,f0,f1,f2,f3,ht]) rfl
  rw[qW ht];simp[hk];refine qe (qF _ _ _ _) ?_;rw[qW (show 0≤d.type∧d.type≤3 by omega)];simp[hk];have hmod:=qpE d.exps.length;by_cases hm:d.exps.length % 2=0
  case neg=>
   simp[hmod,hm,show ¬ ((d.exps.length:Int) % 2=0) by omega];exact qa rfl (by simp[qq,f0,f1,f2,f3,ht,hm]) rfl
  simp[hmod,hm,show ((d.exps.length:Int) % 2=0) by omega];refine qe (YQ _ hO.formals.1 _) ?_;have hf:d.formals=[]:=qq4 (by rw[zO] at f3;simpa using f3);simp[hf,yx];exact qa rfl (by simp[qq,f0,f1,f2,f3,hf,ht,hm]) rfl
theorem qfP(d:De)(hs:d.ok)(hk:d.kind=3):∀S,Fn prog 182 [d.v] S (.bool (d.vOwn qb)):=by
 refine Pu.ib func182 ok182 (by simp[c182]) (by simp[V.under]) rfl ?_;have hO:=(De.ok_iff d).1 hs;rw[De.vOwn_3 qb d hk];simp[c182,hk];refine qe (qw _ _ _ _) ?_;cases f0:qL 1 1 d.names.length
 case false=>
  simp;exact qa rfl (by simp[qq,f0]) rfl
 simp;refine qe (qw _ _ _ _) ?_;cases f1:qL 1 (-1) d.exps.length
 case false=>
  simp;exact qa rfl (by simp[qq,f0,f1]) rfl
 simp;refine qe (qw _ _ _ _) ?_;cases f2:qL 0 0 d.body.length
 case false=>
  simp;exact qa rfl (by simp[qq,f0,f1,f2]) rfl
 simp;refine qe (qw _ _ _ _) ?_;cases f3:qL 0 0 d.formals.length
 case false=>
  simp;exact qa rfl (by simp[qq,f0,f1,f2,f3]) rfl
 simp;refine qe (yY _ hO.names.1 _) ?_;cases hl:d.names.all qb
 case false=>
  simp;exact qa rfl (by simp[qq,f0]) rfl
 simp;cases ho:d.own
 case true=>
  simp[ho];exact qa rfl (by simp[qq,f0,f1,f2,f3,ho]) rfl
 by_cases ht:d.type=0
 case neg=>
  simp[ho,hk,ht];exact qa rfl (by simp[qq,f0,f1,f2,f3,ho,ht]) rfl
 simp[ho,hk,ht];refine qe (qF _ _ _ _) ?_;simp[ho,hk,ht];refine qe (YQ _ hO.formals.1 _) ?_;have hf:d.formals=[]:=qq4 (by rw[zO] at f3;simpa using f3);simp[hf,yx];exact qa rfl (by simp[qq,f0,f1,f2,f3,hf,ho,ht]) rfl
theorem qfh(d:De)(hs:d.ok)(hk:d.kind=4):∀S,Fn prog 182 [d.v] S (.bool (d.vOwn qb)):=by
 refine Pu.ib func182 ok182 (by simp[c182]) (by simp[V.under]) rfl ?_;have hO:=(De.ok_iff d).1 hs;rw[De.vOwn_4 qb d hk];simp[c182,hk];refine qe (qw _ _ _ _) ?_;cases f0:qL 1 1 d.names.length
 case false=>
  simp;exact qa rfl (by simp[qq,f0]) rfl
 simp;refine qe (qw _ _ _ _) ?_;cases f1:qL 0 0 d.exps.length
 case false=>
  simp;exact qa rfl (by simp[qq,f0,f1]) rfl
 simp;refine qe (qw _ _ _ _) ?_;cases f2:qL 1 1 d.body.length
 case false=>
  simp;exact qa rfl (by simp[qq,f0,f1,f2]) rfl
 simp;refine qe (qw _ _ _ _) ?_;cases f3:qL 0 8 d.formals.length
 case false=>
  simp;exact qa rfl (by simp[qq,f0,f1,f2,f3]) rfl
 simp;refine qe (yY _ hO.names.1 _) ?_;cases hl:d.names.all qb
 case false=>
  simp;exact qa rfl (by simp[qq,f0]) rfl
 simp;cases ho:d.own
 case true=>
  simp[ho];exact qa rfl (by simp[qq,f0,f1,f2,f3,ho]) rfl
 simp[ho,hk];refine qe (qF _ _ _ _) ?_;by_cases ht:0≤d.type∧d.type≤3
 case neg=>
  rw[qS ht];simp;exact qa rfl (by simp[qq,f0,f1,f2,f3,ho,ht]) rfl
 rw[qW ht];simp[hk];refine qe (YQ _ hO.formals.1 _) ?_;simp;exact qa rfl (by simp[qq,f0,f1,f2,f3,ho,ht]) rfl
theorem qen(d:De)(hs:d.ok)(h:¬ (1≤d.kind∧d.kind≤4)):∀S,Fn prog 182 [d.v] S (.bool (d.vOwn qb)):=by
 refine Pu.ib func182 ok182 (by simp[c182]) (by simp[V.under]) rfl ?_;have hO:=(De.ok_iff d).1 hs;rw[De.vOwn_no qb d h];simp[c182,show ¬ d.kind=1 by omega,show ¬ d.kind=2 by omega,show ¬ d.kind=3 by omega,show ¬ d.kind=4 by omega];exact qa rfl rfl rfl
theorem qmy(d:De)(hs:d.ok):∀S,Fn prog 182 [d.v] S (.bool (d.vOwn qb)):=by
 by_cases h1:d.kind=1
 ·exact qf2 d hs h1
 by_cases h2:d.kind=2
 ·exact qgt d hs h2
 by_cases h3:d.kind=3
 ·exact qfP d hs h3
 by_cases h4:d.kind=4
 ·exact qfh d hs h4
 exact qen d hs (by omega)
end
structure VJ(p:Pa)(U:St):Prop where
 t2:U[1]?=some (.arr [.bool false] 1 1)
 k:U[2]?=some (.arr [p.v] 25 1)
theorem VJ.push{p:Pa}{U:St}(h:VJ p U)(o:Ob):VJ p (U++[o]):=⟨gp h.t2,gp h.k⟩
theorem VJ.set{p:Pa}{U:St}(h:VJ p U){L:Nat}(o:Ob)(hL:3≤L):VJ p (U.set L o):=⟨gs h.t2 (by omega),gs h.k (by omega)⟩
def VV(p:Pa)(i:Nat):Prop:=∀q,q∈p.kids.take i→q.valid qb=true
def VD(p:Pa)(U:St):Prop:=U[1]?=some (.arr [.bool false] 1 1)∧p.valid qb=false
theorem VD.push{p:Pa}{U:St}(h:VD p U)(o:Ob):VD p (U++[o]):=⟨gp h.1,h.2⟩
theorem Env.keep_get{e:Env}{t:Nat}{v:V}:∀{ts:List Nat},t∈ts→e.get t=some v→(e.keep ts).get t=some v
 | [],h,_=>by simp at h
 | s::ts,h,hv=>by
  simp only[Env.keep];by_cases hs:s=t
  ·subst hs;rw[hv];simp[Env.get]
  ·have h':t∈ts:=by
    rcases qq0.1 h with h| h
    ·exact absurd h.symm hs
    ·exact h
   split
   ·simp only[Env.get,if_neg hs];exact Env.keep_get h' hv
   ·exact Env.keep_get h' hv
noncomputable def qca:C':=(.seq (.k [.j 29 25 1,.c 30 179 29]
 (.block 1 (.rf (.t 30) [31] (QC Tryz.f151 0).1 (QC Tryz.f151 0).2
  (.reg [.o 4 (.new zP),
   .s 25 4 31])
  (.block 2 (.k [.j 32 25 4,.c 33 151 32,.o 34 (.un .not (.t 33))]
   (.d 34 (.k [.n (.sto 1 (.t 2) (.c (.bool false)))] (.ret)) (.skip))))
  35 [31,4,32,33,34,2])))
 (.k [.n (.sto 1 (.t 2) (.c (.bool true)))] (.ret)))
theorem ZF:qca=(.seq (.k [.j 29 25 1,.c 30 179 29]
 (.block 1 (.rf (.t 30) [31] (QC Tryz.f151 0).1 (QC Tryz.f151 0).2
  (.reg [.o 4 (.new zP),
   .s 25 4 31])
  (.block 2 (.k [.j 32 25 4,.c 33 151 32,.o 34 (.un .not (.t 33))]
   (.d 34 (.k [.n (.sto 1 (.t 2) (.c (.bool false)))] (.ret)) (.skip))))
  35 [31,4,32,33,34,2])))
 (.k [.n (.sto 1 (.t 2) (.c (.bool true)))] (.ret))):=rfl
theorem qkr:∀(k:Nat) (p:Pa),p.wt≤k→p.ok→∀S,Fn prog 151 [p.v] S (.bool (p.valid qb)):=by
 intro k
 induction k with
 | zero=>intro p h;exfalso;cases p with
  | st s=>cases s;simp[Pa.wt] at h
  | de s=>cases s;simp[Pa.wt] at h
  | el s=>cases s;simp[Pa.wt] at h
  | ex s=>cases s;simp[Pa.wt] at h
 | succ k ih=>
  intro p hw hp;refine Pu.ib func151 ok151 (by simp[c151]) (by simp) rfl ?_;have hve:=Pa.valid_eq qb p;have range:∀e:Env,p.vOwn qb=true→e.get 1=some (.ptr 0 0 0 1)→e.get 2=some (.ptr 1 0 0 1)→
    WP prog qca
     (jH [.cell 2 none] 0 fun v U=>v=.bool (p.valid qb)∧U=[]) e [.arr [p.v] 25 1,.arr [.bool false] 1 1]:=by
   intro e hown g1 g2;simp only[qca];simp[g1,ldS];refine qh (qgu p _) ?_;rintro v U ⟨rfl,rfl⟩;simp;have hkl:(p.kids.map fun q=>[q.v]).length=p.kids.length:=by simp
   refine qdq (k:=202) (fs:=[]) (cs:=[.ptr 2 0 0 1]) (by simp) (qbE p hp 2) rfl rfl rfl (by simp) (fun x=>x=1) (by rintro x rfl;simp)
    (fun i U=>VJ p U∧VV p i) (VD p) (fun _ _=>False) ?_ ?_ ?_ ?_ (fun i U L o o' _ h hl=>⟨⟨gl h.1.t2 (by simp) hl,gl h.1.k (by simp) hl⟩,h.2⟩) (fun U L o o' _ h hl=>⟨gl h.1 (by simp) hl,h.2⟩) (fun id U L o o' _ h hl=>h.elim) ?_ ?_ ?_ ?_ ?_
   ·rintro i U ⟨h,_⟩;exact h.k
   ·rintro i U ⟨h,h1⟩;exact fun o=>⟨h.push o,h1⟩
   ·rintro U h;exact fun o=>h.push o
   ·rintro id U h;exact h.elim
   ·exact ⟨⟨rfl,rfl⟩,fun q hq=>by simp at hq⟩
   ·rintro i av hav U ⟨hj,hv⟩ hk hl;rw[qqM] at hav;obtain ⟨q,hq,rfl⟩:=qqI.1 hav;have hqk:q∈p.kids:=qqG hq;have hqw:=Pa.kid_lt hqk;generalize hke:Env.keep _ _=ke at hl ⊢;have g2':ke.get 2=some (.ptr 1 0 0 1):=by rw[←hke];exact Env.keep_get (by simp) (by simp[g2])
    clear hke;simp at hl;simp[QQ,qE,stS,qi];refine Q7 (gp hl) rfl ?_;have lU:=glt hl;have nU:U.length≠3:=by omega
    have vq:((U++[Ob.arr [q.v] 25 1]).set 3 (.loop { st:=.busy,pend:=none,ps:=[31],asg:=(QC Tryz.f151 0).1,body:=(QC Tryz.f151 0).2,e:=ke,N:=35 }))[U.length]?=some (.arr [q.v] 25 1):=gs (by simp) nU;have vL:((U++[Ob.arr [q.v] 25 1]).set 3 (.loop { st:=.busy,pend:=none,ps:=[31],asg:=(QC Tryz.f151 0).1,body:=(QC Tryz.f151 0).2,e:=ke,N:=35 }))[3]?=some (.loop _):=qqz (by simp;omega);have vj:=(hj.push (Ob.arr [q.v] 25 1)).set (L:=3) (.loop { st:=.busy,pend:=none,ps:=[31],asg:=(QC Tryz.f151 0).1,body:=(QC Tryz.f151 0).2,e:=ke,N:=35 }) (by omega);have vk:Kp (fun x=>x=1∨x=3) U ((U++[Ob.arr [q.v] 25 1]).set 3 (.loop { st:=.busy,pend:=none,ps:=[31],asg:=(QC Tryz.f151 0).1,body:=(QC Tryz.f151 0).2,e:=ke,N:=35 })):=((Kp.refl _ _).push _).set _ (.inl (.inr rfl));generalize (U++[Ob.arr [q.v] 25 1]).set 3 _=W at vq vL vj vk ⊢;simp[ldS,vq];refine qe (ih q (by omega) (Pa.kid_ok hp hqk) W) ?_
    cases hqv:q.valid qb with
    | true=>
     simp;refine kK ⟨rfl,rfl⟩ (.inr rfl) vL vk ⟨vj.set _ (by omega),?_⟩;intro r hr;rw[qqW,hq] at hr;rcases qqE.1 hr with hr|hr
     ·exact hv r hr
     ·simp at hr;subst hr;exact hqv
    | false=>
     simp[stS,zG,vj.t2,g2'];refine qbJ (.inr rfl) (gs vL (by omega)) (vk.set _ (.inl (.inl rfl))) ⟨gs (qqz (glt vj.t2)) (by omega),?_⟩
     cases hh:p.valid qb with
     | false=>rfl
     | true=>rw[(Pa.valid_iff.1 hh).2 q hqk] at hqv;cases hqv
   ·rintro U ⟨hj,hv⟩ hk;rw[hkl] at hv;unfold VV at hv;rw[qrt] at hv;simp[stS,zG,hj.t2,g2];refine qa (vs:=[.bool true]) (by simp[ldS,g2,glt hj.t2]) ?_ rfl;rw[Pa.valid_iff.2 ⟨hown,hv⟩];rfl
   ·rintro U ⟨h1,h2⟩ hk;simp;refine qa (vs:=[.bool false]) (by simp[ldS,g2,h1]) ?_ rfl;rw[h2];rfl
   ·rintro id U h;exact h.elim
  have stop:p.vOwn qb=false→p.valid qb=false:=fun h=>by rw[hve,h];rfl
  cases p with
  | st s=>
   have hown:(Pa.st s).vOwn qb=s.vOwn qb:=rfl;simp only[c151,←ZF];simp[qE,ldS];simp only[Pa.v,Pa.kind,Pa.toS,Pa.toD,Pa.toE,Pa.toX];simp[ldS];refine qe (qmR s hp _) ?_
   cases ho:s.vOwn qb with
   | false=>
    simp[stS,zG];refine qa rfl ?_ rfl;rw[stop (by rw[hown,ho])];rfl
   | true=>
    simp[hown,ho];exact range _ (hown.trans ho) (by simp) (by simp)
  | de d=>
   have hown:(Pa.de d).vOwn qb=d.vOwn qb:=rfl;simp only[c151,←ZF];simp[qE,ldS];simp only[Pa.v,Pa.kind,Pa.toS,Pa.toD,Pa.toE,Pa.toX];simp[ldS];refine qe (qmy d hp _) ?_
   cases ho:d.vOwn qb with
   | false=>
    simp[stS,zG];refine qa rfl ?_ rfl;rw[stop (by rw[hown,ho])];rfl
   | true=>
    simp[hown,ho];exact range _ (hown.trans ho) (by simp) (by simp)
  | el e=>
   have hown:(Pa.el e).vOwn qb=e.vOwn:=rfl;simp only[c151,←ZF];simp[qE,ldS];simp only[Pa.v,Pa.kind,Pa.toS,Pa.toD,Pa.toE,Pa.toX];simp[ldS];refine qe (ql6 e _) ?_
   cases ho:e.vOwn with
   | false=>
    simp[stS,zG];refine qa rfl ?_ rfl;rw[stop (by rw[hown,ho])];rfl
   | true=>
    simp[hown,ho];exact range _ (hown.trans ho) (by simp) (by simp)
  | ex x=>
   have hown:(Pa.ex x).vOwn qb=x.vOwn qb:=rfl;simp only[c151,←ZF];simp[qE,ldS];simp only[Pa.v,Pa.kind,Pa.toS,Pa.toD,Pa.toE,Pa.toX];simp[ldS];refine qe (qkd x hp _) ?_
   cases ho:x.vOwn qb with
   | false=>
    simp[stS,zG];refine qa rfl ?_ rfl;rw[stop (by rw[hown,ho])];rfl
   | true=>
    simp[hown,ho];exact range _ (hown.trans ho) (by simp) (by simp)
theorem qgb(p:Pa)(hp:p.ok):∀S,Fn prog 100 [p.v] S (.int .i64 (p.err qb)):=by
 refine Pu.ib func100 ok100 (by simp[c100]) (by simp) rfl ?_;simp[c100,qE,ldS];refine qh (qka p hp _) ?_;rintro v U ⟨⟨z,d,rfl,_⟩,rfl⟩;unfold Pa.err;by_cases hf:p.fits
 ·simp[hf,ldS];refine qe (qkr _ p (qqC _) hp _) ?_
  cases hv:p.valid qb with
  | true=>
   simp;exact qa rfl rfl rfl
  | false=>
   simp;exact qa rfl rfl rfl
 ·simp[hf,ldS];exact qa rfl rfl rfl
theorem jY(s:Sm)(hs:s.ok):∀S,Fn prog 56 [s.v] S (.int .i64 ((Pa.st s).err qb)):=by
 refine Pu.ib func56 ok56 (by simp[c56]) (by simp[V.under]) rfl ?_;simp[c56,qE,ldS];refine qe (qgV s _) ?_;simp;refine qe (qgb (.st s) hs _) ?_;simp;exact qa rfl rfl rfl
theorem qjf(s:Ex)(hs:s.ok):∀S,Fn prog 90 [s.v] S (.int .i64 ((Pa.ex s).err qb)):=by
 refine Pu.ib func90 ok90 (by simp[c90]) (by simp[V.under]) rfl ?_;simp[c90,qE,ldS];refine qe (qgB s _) ?_;simp;refine qe (qgb (.ex s) hs _) ?_;simp;exact qa rfl rfl rfl
def qbK(s:Sm):V:=.agg [.int .i64 1,.sl false (s.labels.map .str),.int .i64 s.kind,.str s.text,.sl false (s.targets.map Ex.v),.sl false (s.exps.map Ex.v),.sl false (s.elems.map El.v),.sl false (s.decls.map De.v),.sl false (s.body.map Sm.v),.int .i64 0,.bool false,.int .i64 0,.sl true [],.sl true [],.sl true [],.sl true [],.int .i64 0,.sl true [],.int .i64 0,.int .i64 0,.int .i64 0,.int .i64 0,.int .i64 0,.str ⟨⟨[]⟩⟩,.sl true []]
def qbe(d:De):V:=.agg [.int .i64 2,.sl true [],.int .i64 0,.str ⟨⟨[]⟩⟩,.sl true [],.sl true [],.sl true [],.sl true [],.sl true [],.int .i64 d.kind,.bool d.own,.int .i64 d.type,.sl false (d.names.map .str),.sl false (d.exps.map Ex.v),.sl false (d.formals.map Fo.v),.sl false (d.body.map Sm.v),.int .i64 0,.sl true [],.int .i64 0,.int .i64 0,.int .i64 0,.int .i64 0,.int .i64 0,.str ⟨⟨[]⟩⟩,.sl true []]
def qbL(e:El):V:=.agg [.int .i64 3,.sl true [],.int .i64 0,.str ⟨⟨[]⟩⟩,.sl true [],.sl true [],.sl true [],.sl true [],.sl true [],.int .i64 0,.bool false,.int .i64 0,.sl true [],.sl true [],.sl true [],.sl true [],.int .i64 e.kind,.sl false (e.exps.map Ex.v),.int .i64 0,.int .i64 0,.int .i64 0,.int .i64 0,.int .i64 0,.str ⟨⟨[]⟩⟩,.sl true []]
def jQ(x:Ex):V:=.agg [.int .i64 4,.sl true [],.int .i64 0,.str ⟨⟨[]⟩⟩,.sl true [],.sl true [],.sl true [],.sl true [],.sl true [],.int .i64 0,.bool false,.int .i64 0,.sl true [],.sl true [],.sl true [],.sl true [],.int .i64 0,.sl true [],.int .i64 x.kind,.int .i64 x.op,.int .i64 x.n,.int .i64 x.man,.int .i64 x.exp,.str x.text,.sl false (x.args.map Ex.v)]
def Pa.raw:Pa→V
 | .st s=>qbK s
 | .de d=>qbe d
 | .el e=>qbL e
 | .ex x=>jQ x
theorem Pa.raw_weak(p:Pa):p.raw.weak=p.v:=by
 cases p <;> simp only[Pa.raw,qbK,qbe,qbL,jQ,V.weak,V.weakL,wEx,wEl,wFo,qdW,wDe,wSm] <;> rfl
theorem Qy(p:Pa):fits 25 [p.raw]=true:=by cases p <;> rfl
theorem qkj(s:Sm):∀S,Fn prog 113 [s.v] S (Pa.st s).v:=by
 refine Pu.intro (R:=fun v=>v=(Pa.st s).v) func113 ok113 (by simp[c113]) (by simp[V.under]) (by rintro v rfl;simp) ?_;simp[c113,qE,ldS,stS,zQ,qD,qH];refine QP rfl ?_ ?_
 ·simp only[qq,V.weak,V.weakL,wEx,wEl,wFo,qdW,wDe,wSm];rfl
 ·simp[qq,V.weak,V.weakL,V.under,V.underL]
theorem qj8(s:Ex):∀S,Fn prog 141 [s.v] S (Pa.ex s).v:=by
 refine Pu.intro (R:=fun v=>v=(Pa.ex s).v) func141 ok141 (by simp[c141]) (by simp[V.under]) (by rintro v rfl;simp) ?_;simp[c141,qE,ldS,stS,zQ,qD,qH];refine QP rfl ?_ ?_
 ·simp only[qq,V.weak,V.weakL,wEx,wEl,wFo,qdW,wDe,wSm];rfl
 ·simp[qq,V.weak,V.weakL,V.under,V.underL]
theorem qgU(p:Pa)(hp:p.ok):∀S,Fn prog 200 [p.v] S (.int .i64 p.own):=by
 refine Pu.ib func200 ok200 (by simp[c200]) (by simp) rfl ?_;have h1:=Pa.own_le hp;unfold B50 at h1
 cases p with
 | st s=>
  simp only[Pa.own] at h1;simp[c200,qE,ldS,Pa.v,Pa.kind,Pa.toS,Pa.own,qn (n:=1+(s.labels.length:Int)) (by omega) (by omega)];exact qa rfl rfl rfl
 | de d=>
  simp only[Pa.own] at h1;simp[c200,qE,ldS,Pa.v,Pa.kind,Pa.toD,Pa.own,qn (n:=1+(d.names.length:Int)) (by omega) (by omega),qn (n:=1+(d.names.length:Int)+d.formals.length) (by omega) (by omega)];exact qa rfl rfl rfl
 | el e=>
  simp[c200,qE,ldS,Pa.v,Pa.kind,Pa.own];exact qa rfl rfl rfl
 | ex x=>
  simp[c200,qE,ldS,Pa.v,Pa.kind,Pa.own];exact qa rfl rfl rfl
theorem ql2(p:Pa)(hp:p.ok):∀S,Fn prog 201 [p.v] S (.int .i64 p.kids.length):=by
 refine Pu.ib func201 ok201 (by simp[c201]) (by simp) rfl ?_;rw[JQ]
 cases p with
 | st s=>
  have o:=(Sm.ok_iff s).1 hp;have o1:=o.targets.1;have o2:=o.exps.1;have o3:=o.elems.1;have o4:=o.decls.1;have o5:=o.body.1;unfold B50 at o1 o2 o3 o4 o5;simp[c201,qE,ldS,stS,qi,Pa.v,Pa.kind,Pa.toS,qn (n:=(s.targets.length:Int)+s.exps.length) (by omega) (by omega),qn (n:=(s.targets.length:Int)+s.exps.length+s.elems.length) (by omega) (by omega),
   qn (n:=(s.targets.length:Int)+s.exps.length+s.elems.length+s.decls.length) (by omega) (by omega),qn (n:=(s.targets.length:Int)+s.exps.length+s.elems.length+s.decls.length+s.body.length) (by omega) (by omega)]
  exact qa rfl (by simp[qq];omega) rfl
 | de d=>
  have o:=(De.ok_iff d).1 hp;have o1:=o.exps.1;have o2:=o.body.1;unfold B50 at o1 o2;simp[c201,qE,ldS,Pa.v,Pa.kind,Pa.toD,qn (n:=(d.exps.length:Int)+d.body.length) (by omega) (by omega)];exact qa rfl rfl rfl
 | el e=>
  simp[c201,qE,ldS,Pa.v,Pa.kind,Pa.toE];exact qa rfl rfl rfl
 | ex x=>
  simp[c201,qE,ldS,Pa.v,Pa.kind,Pa.toX];exact qa rfl rfl rfl
def grV(n:Nat)(xs:List V):V:=match xs with
 | []=>.sl true []
 | _::_=>.arr n 0 xs.length xs.length
def grS(S:St)(xs:List V):St:=match xs with
 | []=>S
 | _::_=>S++[.arr xs 25 1]
theorem qjG{n:Nat}{xs:List V}(h:xs≠[]):grV n xs=.arr n 0 xs.length xs.length:=by
 cases xs with
 | nil=>exact absurd rfl h
 | cons=>rfl
theorem qjt{S:St}{xs:List V}(h:xs≠[]):grS S xs=S++[.arr xs 25 1]:=by
 cases xs with
 | nil=>exact absurd rfl h
 | cons=>rfl
theorem qh3{S:St}{xs:List V}{y:V}(hy:fits 25 [y]=true)(hl:xs.length≤1000000):JA (grS S xs) 25 408 (grV S.length xs) (.sl true [y])=some (grV S.length (xs++[y]),grS S (xs++[y])):=by
 rw[qjG (xs:=xs++[y]) (by simp),qjt (xs:=xs++[y]) (by simp)]
 cases xs with
 | nil=>
  simp only[grS,grV,JA,elems];rw[if_neg (by simp),if_pos ⟨trivial,hy,rfl,by simp⟩];simp
 | cons x xs=>
  rw[qjG (by simp),qjt (by simp)];simp only[JA,elems];have hg:(S++[Ob.arr (x::xs) 25 1])[S.length]?=some (.arr (x::xs) 25 1):=by simp
  rw[hg];simp only;rw[if_pos ⟨trivial,trivial,trivial,trivial,hy,by simp at hl ⊢;omega⟩];simp
theorem qom{S:St}{xs:List V}{l:Nat}{o:Ob}(h:S[l]?=some o):(grS S xs)[l]?=some o:=by
 cases xs with
 | nil=>exact h
 | cons=>exact gp h
theorem J3(S:St)(xs:List V)(l:List Ex)(hl:xs.length+l.length≤1000000):
  qv prog 228 [grV S.length xs,.sl false (l.map Ex.v)] (grS S xs) (fun r U=>r=grV S.length (xs++l.map jQ)∧U=grS S (xs++l.map jQ)):=by
 refine qv.ib func228 ok228 ?_;simp only[c228,C'.k];simp;refine qx (fun j e S'=>∃i:Nat,j=l.length - i∧i≤l.length∧S'=grS S (xs++(l.map jQ).take i)∧
  e=[(5,.int .i64 i),(0,grV S.length (xs++(l.map jQ).take i)),(1,.sl false (l.map Ex.v))]) l.length _ ?_ ⟨0,by simp,by omega,by simp,rfl⟩ ?_
 ·exact Env.so (by simp)
 rintro j e S' ⟨i,rfl,hi,rfl,rfl⟩;by_cases h:i<l.length
 ·have ha:=qh3 (S:=S) (xs:=xs++(l.map jQ).take i) (y:=jQ l[i]) (Qy (.ex l[i])) (by simp;omega)
  have hn:xs++(l.map jQ).take i++[jQ l[i]]=xs++(l.map jQ).take (i+1):=by
   rw[qqW,qqM,qqD h,qqS,qrk,qqR]
  rw[hn] at ha;have hf:fits 25 [jQ l[i]]=true:=Qy (.ex l[i]);generalize hr:jQ l[i]=y at ha hf;have hb:qH (.agg [.int .i64 0,.sl true [],.int .i64 0,.str ⟨⟨[]⟩⟩,.sl true [],.sl true [],.sl true [],.sl true [],.sl true [],.int .i64 0,.bool false,.int .i64 0,.sl true [],.sl true [],.sl true [],.sl true [],.int .i64 0,.sl true [],.int .i64 0,.int .i64 0,.int .i64 0,.int .i64 0,.int .i64 0,.str ⟨⟨[]⟩⟩,.sl true []]) [(0,1,.int .i64 4),(18,7,l[i].v)]=some y:=by rw[←hr];simp[qH,qi,jQ]
  simp[h,qjA,qD,hb,hf,ha,zh (n:=(i:Int)+1)];refine ⟨_,?_,_,?_,i+1,rfl,by omega,rfl,rfl⟩
  ·omega
  ·exact Env.so (by simp)
 ·have:i=l.length:=by omega
  subst this;simp[h];refine qg rfl ⟨?_,?_⟩
  ·simp only[qq];rw[qq8 (by simp)]
  ·rw[qq8 (by simp)]
theorem qfn(S:St)(xs:List V)(l:List Sm)(hl:xs.length+l.length≤1000000):
  qv prog 229 [grV S.length xs,.sl false (l.map Sm.v)] (grS S xs) (fun r U=>r=grV S.length (xs++l.map qbK)∧U=grS S (xs++l.map qbK)):=by
 refine qv.ib func229 ok229 ?_;simp only[c229,C'.k];simp;refine qx (fun j e S'=>∃i:Nat,j=l.length - i∧i≤l.length∧S'=grS S (xs++(l.map qbK).take i)∧
  e=[(5,.int .i64 i),(0,grV S.length (xs++(l.map qbK).take i)),(1,.sl false (l.map Sm.v))]) l.length _ ?_ ⟨0,by simp,by omega,by simp,rfl⟩ ?_
 ·exact Env.so (by simp)
 rintro j e S' ⟨i,rfl,hi,rfl,rfl⟩;by_cases h:i<l.length
 ·have ha:=qh3 (S:=S) (xs:=xs++(l.map qbK).take i) (y:=qbK l[i]) (Qy (.st l[i])) (by simp;omega)
  have hn:xs++(l.map qbK).take i++[qbK l[i]]=xs++(l.map qbK).take (i+1):=by
   rw[qqW,qqM,qqD h,qqS,qrk,qqR]
  rw[hn] at ha;have hf:fits 25 [qbK l[i]]=true:=Qy (.st l[i]);generalize hr:qbK l[i]=y at ha hf;have hb:qH (.agg [.int .i64 0,.sl true [],.int .i64 0,.str ⟨⟨[]⟩⟩,.sl true [],.sl true [],.sl true [],.sl true [],.sl true [],.int .i64 0,.bool false,.int .i64 0,.sl true [],.sl true [],.sl true [],.sl true [],.int .i64 0,.sl true [],.int .i64 0,.int .i64 0,.int .i64 0,.int .i64 0,.int .i64 0,.str ⟨⟨[]⟩⟩,.sl true []]) [(0,1,.int .i64 1),(1,8,l[i].v)]=some y:=by rw[←hr];simp[qH,qi,qbK]
  simp[h,qi2,qD,hb,hf,ha,zh (n:=(i:Int)+1)];refine ⟨_,?_,_,?_,i+1,rfl,by omega,rfl,rfl⟩
  ·omega
  ·exact Env.so (by simp)
 ·have:i=l.length:=by omega
  subst this;simp[h];refine qg rfl ⟨?_,?_⟩
  ·simp only[qq];rw[qq8 (by simp)]
  ·rw[qq8 (by simp)]
theorem qqg(S:St)(xs:List V):Gr 25 0 xs (grV S.length xs) (grS S xs):=by
 cases xs with
 | nil=>exact .inl ⟨rfl,rfl⟩
 | cons x xs=>exact .inr ⟨S.length,1,qrc _,rfl,by simp[grS],by simp⟩
theorem qfR(l:List Pa):(l.map Pa.raw).map V.weak=l.map Pa.v:=by
 rw[qrG];exact qrr fun p _=>Pa.raw_weak p
theorem Yl{rs:List RV}{e:Env}{S:St}{l:List Pa}(h:rvs e (grS S (l.map Pa.raw)) rs=some [grV S.length (l.map Pa.raw)]):
  jH rs 0 (fun v U=>v=.sl false (l.map Pa.v)∧U=[]) .ret e (grS S (l.map Pa.raw)):=
 qj7 (R:=fun v=>v=.sl false (l.map Pa.v)) h (qqg S _) (fun x hx=>by
  obtain ⟨p,_,rfl⟩:=qqT.1 hx;rw[Pa.raw_weak];simp) (by rw[qfR])
theorem qm3(l:List Ex):l.map jQ=(l.map Pa.ex).map Pa.raw:=by rw[qrG];rfl
theorem qpu(l:List Sm):l.map qbK=(l.map Pa.st).map Pa.raw:=by rw[qrG];rfl
theorem qqu(l:List El):l.map qbL=(l.map Pa.el).map Pa.raw:=by rw[qrG];rfl
theorem qqt(l:List De):l.map qbe=(l.map Pa.de).map Pa.raw:=by rw[qrG];rfl
@[simp] theorem uPa(l:List Pa):V.underL 0 (l.map Pa.v)=true:=qG fun x _=>Pa.v_under x
theorem qhl(p:Pa)(hp:p.ok)(hl:p.kids.length≤2000):∀S,Fn prog 193 [p.v] S (.sl false (p.kids.map Pa.v)):=by
 refine Pu.intro (R:=fun v=>v=.sl false (p.kids.map Pa.v)) func193 ok193 (by simp[c193]) (by simp) (by rintro v rfl;simp[V.under]) ?_;rw[JQ] at hl
 cases p with
 | el e=>
  simp only at hl;simp[c193,qE,ldS];simp only[Pa.v,Pa.kind,Pa.toS,Pa.toD,Pa.toE,Pa.toX];simp[ldS];refine qh (J3 [.arr [(Pa.el e).v] 25 1] [] e.exps (by simp;omega)) ?_;rintro v U ⟨rfl,rfl⟩;simp;rw[qm3];exact Yl rfl
 | ex x=>
  simp only at hl;simp[c193,qE,ldS];simp only[Pa.v,Pa.kind,Pa.toS,Pa.toD,Pa.toE,Pa.toX];simp[ldS];refine qh (J3 [.arr [(Pa.ex x).v] 25 1] [] x.args (by simp;omega)) ?_;rintro v U ⟨rfl,rfl⟩;simp;rw[qm3];exact Yl rfl
 | de d=>
  simp only at hl;simp[c193,qE,ldS];simp only[Pa.v,Pa.kind,Pa.toS,Pa.toD,Pa.toE,Pa.toX];simp[ldS];refine Yw (J3 [.arr [(Pa.de d).v] 25 1] [] d.exps (by simp;omega)) ?_;have h0:(grS [Ob.arr [(Pa.de d).v] 25 1] ([]++d.exps.map jQ))[0]?=some (.arr [(Pa.de d).v] 25 1):=qom rfl;simp only[qrN] at h0 ⊢;simp only[Pa.v,Pa.kind,Pa.toS,Pa.toD,Pa.toE,Pa.toX] at h0 ⊢;simp[ldS,h0];refine Yw (qfn _ (d.exps.map jQ) d.body (by simp;omega)) ?_;simp[ZX,Qc,QG,ldS,h0];rw[qm3,qpu,←qqX];exact Yl rfl
 | st s=>
  simp only at hl;simp[c193,qE,ldS,stS,qi];simp only[Pa.v,Pa.kind,Pa.toS,Pa.toD,Pa.toE,Pa.toX];simp[ldS,stS,qi,qE];obtain ⟨B,hB⟩:∃B:St,B=[.arr [paV 1 s De.z El.z Ex.z] 25 1,.arr [s.v] 8 1]:=⟨_,rfl⟩;have hBl:B.length=2:=by rw[hB];rfl
  have hB1:B[1]?=some (.arr [s.v] 8 1):=by rw[hB];rfl
  have c1:=J3 B [] s.targets (by simp;omega);have c2:=J3 B (s.targets.map jQ) s.exps (by simp;omega);rw[hBl] at c1 c2;simp only[qrN] at c1;have hb1:∀xs,(grS B xs)[1]?=some (.arr [s.v] 8 1):=fun xs=>qom hB1
  have c1':qv prog 228 [.sl true [],.sl false (s.targets.map Ex.v)] B (fun r U=>r=grV 2 (s.targets.map jQ)∧U=grS B (s.targets.map jQ)):=c1;simp only[hB] at c1';refine qh c1' ?_;rintro v U ⟨rfl,rfl⟩;simp only[←hB];simp[ldS,hb1];refine qh c2 ?_;rintro v U ⟨rfl,rfl⟩;generalize hxs:s.targets.map jQ++s.exps.map jQ=xs;have hxl:xs.length=s.targets.length+s.exps.length:=by rw[←hxs];simp
  simp;refine qN (fun e U=>e.get 4=some (grV 2 (xs++s.elems.map qbL))∧e.get 3=some (.ptr 1 0 0 1)∧U=grS B (xs++s.elems.map qbL)) ?_ ?_
  ·refine qx (fun j e S'=>∃i:Nat,j=s.elems.length - i∧i≤s.elems.length∧S'=grS B (xs++(s.elems.map qbL).take i)∧
    e=[(5,.int .i64 i),(4,grV 2 (xs++(s.elems.map qbL).take i)),(3,.ptr 1 0 0 1)]) s.elems.length _ ?_ ⟨0,by simp,by omega,by simp,rfl⟩ ?_
   ·exact Env.so (by simp)
   rintro j e S' ⟨i,rfl,hi,rfl,rfl⟩;by_cases h:i<s.elems.length
   ·have ha:=qh3 (S:=B) (xs:=xs++(s.elems.map qbL).take i) (y:=qbL s.elems[i]) (Qy (.el s.elems[i])) (by simp;omega)
    have hn:xs++(s.elems.map qbL).take i++[qbL s.elems[i]]=xs++(s.elems.map qbL).take (i+1):=by
     rw[qqW,qqM,qqD h,qqS,qrk,qqR]
    rw[hn,hBl] at ha;have hf:fits 25 [qbL s.elems[i]]=true:=Qy (.el s.elems[i]);generalize hr:qbL s.elems[i]=y at ha hf;have hb:qH (.agg [.int .i64 0,.sl true [],.int .i64 0,.str ⟨⟨[]⟩⟩,.sl true [],.sl true [],.sl true [],.sl true [],.sl true [],.int .i64 0,.bool false,.int .i64 0,.sl true [],.sl true [],.sl true [],.sl true [],.int .i64 0,.sl true [],.int .i64 0,.int .i64 0,.int .i64 0,.int .i64 0,.int .i64 0,.str ⟨⟨[]⟩⟩,.sl true []]) [(0,1,.int .i64 3),(16,2,s.elems[i].v)]=some y:=by rw[←hr];simp[qH,qi,qbL]
    simp[h,ldS,hb1,qnL,qD,hb,hf,ha,zh (n:=(i:Int)+1)];refine ⟨_,?_,_,?_,i+1,rfl,by omega,rfl,rfl⟩
    ·omega
    ·exact Env.so (by simp)
   ·have:i=s.elems.length:=by omega
    subst this;simp[ldS,hb1];rw[qq8 (by simp)];exact ⟨rfl,rfl⟩
  rintro e U ⟨g4,g3,rfl⟩;generalize hxs2:xs++s.elems.map qbL=ys at *;have hyl:ys.length=s.targets.length+s.exps.length+s.elems.length:=by rw[←hxs2];simp;omega
  simp[g3,g4];refine qN (fun e U=>e.get 4=some (grV 2 (ys++s.decls.map qbe))∧e.get 3=some (.ptr 1 0 0 1)∧U=grS B (ys++s.decls.map qbe)) ?_ ?_
  ·refine qx (fun j e S'=>∃i:Nat,j=s.decls.length - i∧i≤s.decls.length∧S'=grS B (ys++(s.decls.map qbe).take i)∧
    e=[(6,.int .i64 i),(4,grV 2 (ys++(s.decls.map qbe).take i)),(3,.ptr 1 0 0 1)]) s.decls.length _ ?_ ⟨0,by simp,by omega,by simp,rfl⟩ ?_
   ·repeat' first|exact Env.sub_nil _|refine Env.sub_cons (by simp[g3,g4]) ?_
   rintro j e S' ⟨i,rfl,hi,rfl,rfl⟩;by_cases h:i<s.decls.length
   ·have ha:=qh3 (S:=B) (xs:=ys++(s.decls.map qbe).take i) (y:=qbe s.decls[i]) (Qy (.de s.decls[i])) (by simp;omega)
    have hn:ys++(s.decls.map qbe).take i++[qbe s.decls[i]]=ys++(s.decls.map qbe).take (i+1):=by
     rw[qqW,qqM,qqD h,qqS,qrk,qqR]
    rw[hn,hBl] at ha;have hf:fits 25 [qbe s.decls[i]]=true:=Qy (.de s.decls[i]);generalize hr:qbe s.decls[i]=y at ha hf;have hb:qH (.agg [.int .i64 0,.sl true [],.int .i64 0,.str ⟨⟨[]⟩⟩,.sl true [],.sl true [],.sl true [],.sl true [],.sl true [],.int .i64 0,.bool false,.int .i64 0,.sl true [],.sl true [],.sl true [],.sl true [],.int .i64 0,.sl true [],.int .i64 0,.int .i64 0,.int .i64 0,.int .i64 0,.int .i64 0,.str ⟨⟨[]⟩⟩,.sl true []]) [(0,1,.int .i64 2),(9,7,s.decls[i].v)]=some y:=by rw[←hr];simp[qH,qi,qbe]
    simp[h,ldS,hb1,qmT,qD,hb,hf,ha,zh (n:=(i:Int)+1)];refine ⟨_,?_,_,?_,i+1,rfl,by omega,rfl,rfl⟩
    ·omega
    ·exact Env.so (by simp)
   ·have:i=s.decls.length:=by omega
    subst this;simp[ldS,hb1];rw[qq8 (by simp)];exact ⟨rfl,rfl⟩
  clear g3 g4;rintro e U ⟨g4,g3,rfl⟩;have c3:=qfn B (ys++s.decls.map qbe) s.body (by simp;omega);rw[hBl] at c3;simp[g3,g4,ldS,hb1];refine qh c3 ?_;rintro v U ⟨rfl,rfl⟩;simp
  have hz:ys++s.decls.map qbe++s.body.map qbK=(Pa.st s).kids.map Pa.raw:=by
   rw[←hxs2,←hxs,qm3,qm3,qqu,qqt,qpu];simp only[Pa.kids,qqX,qqR]
  rw[←qqR,hz,←hBl];exact Yl (by simp)
theorem qpA{l:List Pa}{i:Nat}(h:i<l.length)(b:Bool)(S:St):iaS S 25 (.sl b (l.map Pa.v)) i=some (.iptr (Pa.v l[i]) 0):=qem (f:=Pa.v) (fun _=>rfl) h b S
theorem Zi:∀l:List Pa,(∀p,p∈l→p.depth≤p.size)→zu l≤qA l
 | [],_=>qqC _
 | p::l,h=>by
  have h1:=h p (by simp);have h2:=Zi l fun q hq=>h q (by simp[hq])
  rw[depths_cons,sizes_cons];omega
theorem qal:∀(k:Nat) (p:Pa),p.wt≤k→p.depth≤p.size:=by
 intro k
 induction k with
 | zero=>intro p h;exfalso;cases p with
  | st s=>cases s;simp[Pa.wt] at h
  | de s=>cases s;simp[Pa.wt] at h
  | el s=>cases s;simp[Pa.wt] at h
  | ex s=>cases s;simp[Pa.wt] at h
 | succ k ih=>
  intro p hw;rw[Pa.depth_eq,Pa.size_eq];have:=Zi p.kids fun q hq=>ih q (by have:=Pa.kid_lt hq;omega)
  have:=p.own_pos;omega
def QH(z:Nat)(n:Int):Int:=if (z:Int)≤n then n - z else -1
theorem qft:∀(k:Nat) (p:Pa),p.wt≤k→p.ok→∀n:Int,0≤n→n≤2000→∀S,Fn prog 174 [p.v,.int .i64 n] S (.int .i64 (QH p.size n)):=by
 intro k
 induction k with
 | zero=>intro p h;exfalso;cases p with
  | st s=>cases s;simp[Pa.wt] at h
  | de s=>cases s;simp[Pa.wt] at h
  | el s=>cases s;simp[Pa.wt] at h
  | ex s=>cases s;simp[Pa.wt] at h
 | succ k ih=>
  intro p hw hp n hn0 hn1;refine Pu.ib func174 ok174 (by simp[c174]) (by simp[V.under]) rfl ?_;have ho:=Pa.own_le hp;have hs:=p.size_eq;have hlen:=yp p.kids;unfold B50 at ho
  have hkl:p.kids.length≤9007199254740992:=by
   rw[JQ]
   cases p with
   | st s=>
    have o:=(Sm.ok_iff s).1 hp;have o1:=o.targets.1;have o2:=o.exps.1;have o3:=o.elems.1;have o4:=o.decls.1;have o5:=o.body.1;unfold B50 at o1 o2 o3 o4 o5;simp only;omega
   | de d=>
    have o:=(De.ok_iff d).1 hp;have o1:=o.exps.1;have o2:=o.body.1;unfold B50 at o1 o2;simp only;omega
   | el e=>have:=hp.1;unfold B50 at this;simp only;omega
   | ex x=>have:=(Ex.ok_args hp).1;unfold B50 at this;simp only;omega
  have w1:IntKind.i64.wrap ((p.own:Int)+p.kids.length)=(p.own:Int)+p.kids.length:=qn (by omega) (by omega);have w2:IntKind.i64.wrap (n - p.own)=n - p.own:=qn (by omega) (by omega);simp[c174,qE,ldS];refine Qu (qgU p hp _) ?_;simp[ldS];refine Qu (ql2 p hp _) ?_;simp[ZX,Qc,QG,ldS,w1];by_cases hbig:n<(p.own:Int)+p.kids.length
  ·simp[hbig];refine qa rfl ?_ rfl;unfold QH;rw[if_neg (by omega)];rfl
  simp[hbig,ldS];refine qe (qgU p hp _) ?_;simp[ldS,w2];refine qe (qhl p hp (by omega) _) ?_;simp;refine qN (fun e U=>e.get 1=some (.int .i64 (QH p.size n))) ?_ ?_
  ·refine qx (fun j e S'=>∃i:Nat,j=p.kids.length - i∧i≤p.kids.length∧
    e=[(6,.int .i64 i),(5,.sl false (p.kids.map Pa.v)),(1,.int .i64 (QH (qA (p.kids.take i)) (n - p.own)))]) p.kids.length _ ?_ ⟨0,by simp,by omega,rfl⟩ ?_
   ·have hz:QH 0 (n - p.own)=n - p.own:=by unfold QH;rw[if_pos (by omega)];omega
    repeat' first|exact Env.sub_nil _|refine Env.sub_cons (by simp[hz]) ?_
   rintro j e S' ⟨i,rfl,hi,rfl⟩;by_cases h:i<p.kids.length
   ·have hq:p.kids[i]?=some p.kids[i]:=by simp[h]
    have q1:=Qs hq;have q2:=zZ hq;by_cases h0:(qA (p.kids.take i):Int)≤n - p.own
    ·have hm:QH (qA (p.kids.take i)) (n - p.own)=n - p.own - qA (p.kids.take i):=by unfold QH;rw[if_pos h0]
     have hk:=Pa.kid_lt (qqP h);simp[h,hm,show (qA (p.kids.take i):Int)≤n - p.own by omega,qpA];refine qe (ih p.kids[i] (by omega) (Pa.kid_ok hp (qqP h)) _ (by omega) (by omega) _) ?_;simp[zh (n:=(i:Int)+1)];refine ⟨_,?_,_,?_,i+1,rfl,by omega,rfl⟩
     ·omega
     ·exact Env.sub_cons (k:=6) (v:=.int .i64 (i+1:Nat)) (by simp) (Env.sub_cons (k:=5) (v:=.sl false (p.kids.map Pa.v)) (by simp) (Env.sub_cons (k:=1) (v:=.int .i64 (QH (qA (p.kids.take (i+1))) (n - p.own))) (by
      simp;rw[q1];unfold QH;split <;> split <;> omega) (Env.sub_nil _)))
    ·have hm:QH (qA (p.kids.take i)) (n - p.own)=-1:=by unfold QH;rw[if_neg h0]
     simp[h,hm];unfold QH;rw[if_neg (by omega)]
   ·have:i=p.kids.length:=by omega
    subst this;simp;unfold QH;split <;> split <;> omega
  ·rintro e U g;simp[g];exact qa (vs:=[.int .i64 (QH p.size n)]) (by simp) rfl rfl
theorem qmp:∀(k:Nat) (p:Pa),p.wt≤k→p.ok→p.size≤2000→∀S,Fn prog 188 [p.v] S (.int .i64 p.depth):=by
 intro k
 induction k with
 | zero=>intro p h;exfalso;cases p with
  | st s=>cases s;simp[Pa.wt] at h
  | de s=>cases s;simp[Pa.wt] at h
  | el s=>cases s;simp[Pa.wt] at h
  | ex s=>cases s;simp[Pa.wt] at h
 | succ k ih=>
  intro p hw hp hsz;refine Pu.ib func188 ok188 (by simp[c188]) (by simp) rfl ?_;have hs:=p.size_eq;have hlen:=yp p.kids;have hown:=p.own_pos;have hd:=p.depth_eq;have hds:=qal _ p (qqC _);simp[c188,qE,ldS];refine qe (qhl p hp (by omega) _) ?_;simp;refine qN (fun e U=>e.get 3=some (.int .i64 (zu p.kids))) ?_ ?_
  ·refine qx (fun j e S'=>∃i:Nat,j=p.kids.length - i∧i≤p.kids.length∧
    e=[(5,.int .i64 i),(4,.sl false (p.kids.map Pa.v)),(3,.int .i64 (zu (p.kids.take i)))]) p.kids.length _ ?_ ⟨0,by simp,by omega,rfl⟩ ?_
   ·exact Env.so (by simp)
   rintro j e S' ⟨i,rfl,hi,rfl⟩;by_cases h:i<p.kids.length
   ·have hq:p.kids[i]?=some p.kids[i]:=by simp[h]
    have q1:=yW hq;have q2:=zZ hq;have hk:=Pa.kid_lt (qqP h);simp[h,qpA];refine qe (ih p.kids[i] (by omega) (Pa.kid_ok hp (qqP h)) (by omega) _) ?_;simp[evX,mmV,zh (n:=(i:Int)+1)];refine ⟨_,?_,_,?_,i+1,rfl,by omega,rfl⟩
    ·omega
    ·exact Env.sub_cons (k:=5) (v:=.int .i64 (i+1:Nat)) (by simp) (Env.sub_cons (k:=4) (v:=.sl false (p.kids.map Pa.v)) (by simp) (Env.sub_cons (k:=3) (v:=.int .i64 (zu (p.kids.take (i+1)))) (by
     simp;rw[q1];split <;> omega) (Env.sub_nil _)))
   ·have:i=p.kids.length:=by omega
    subst this;simp
  ·rintro e U g;simp[g,qn (n:=1+(zu p.kids:Int)) (by omega) (by omega)];exact qa (vs:=[.int .i64 (1+zu p.kids)]) (by simp) (by simp[qq,hd]) rfl
theorem qj0(p:Pa)(hp:p.ok):∀S,Fn prog 159 [p.v] S (.bool (decide p.fits)):=by
 refine Pu.ib func159 ok159 (by simp[c159]) (by simp) rfl ?_;simp[c159,qE,ldS];refine qe (qft _ p (qqC _) hp 2000 (by omega) (by omega) _) ?_;by_cases h:p.size≤2000
 ·have hm:QH p.size 2000=2000 - p.size:=by unfold QH;rw[if_pos (by omega)]
  simp[hm,show (p.size:Int)≤2000 by omega,ldS];refine qe (qmp _ p (qqC _) hp h _) ?_;simp;exact qa rfl (by simp[qq,Pa.fits,h];omega) rfl
 ·have hm:QH p.size 2000=-1:=by unfold QH;rw[if_neg (by omega)]
  simp[hm];exact qa rfl (by simp[qq,Pa.fits,h]) rfl
theorem zg{P:Program}{a b:C'}{Q:yH}{e:Env}{S:St}(M:Env→St→Prop)(h1:WP P a (Zk M Q) e S)(h2:∀e S,M e S→WP P b Q e S):WP P (.seq a b) Q e S:=by
 rw[qc5];exact qor M h1 h2
open Classical in
theorem qqe(f g:Fo):zj [.str f.name,.bool f.value,.int .i64 f.spec,.int .i64 f.type] [.str g.name,.bool g.value,.int .i64 g.spec,.int .i64 g.type] [(0,.s),(1,.b),(2,.i),(3,.i)]=some (decide (f=g)):=by
 by_cases h1:f.name=g.name
 ·by_cases h2:f.value=g.value
  ·by_cases h3:f.spec=g.spec
   ·by_cases h4:f.type=g.type
    ·have:f=g:=by cases f;cases g;simp at *;exact ⟨h1,h2,h3,h4⟩
     simp[zj,QL,this]
    ·have hb:(f.type==g.type)=false:=by simpa using h4
     have:¬ f=g:=fun h=>h4 (by rw[h])
     simp[zj,QL,h1,h2,h3,hb,this]
   ·have hb:(f.spec==g.spec)=false:=by simpa using h3
    have:¬ f=g:=fun h=>h3 (by rw[h])
    simp[zj,QL,h1,h2,hb,this]
  ·have hb:(f.value==g.value)=false:=by simpa using h2
   have:¬ f=g:=fun h=>h2 (by rw[h])
   simp[zj,QL,h1,hb,this]
 ·have hb:(f.name.data.toList==g.name.data.toList)=false:=by
   rw[beq_eq_false_iff_ne];intro hh;exact h1 (qsn (Array.ext' hh))
  have:¬ f=g:=fun h=>h1 (by rw[h])
  simp[zj,QL,hb,this]
end Go.Proofs.YtbifpocccfkhhaaGreatDoor





namespace Go.Proofs.YtbifpocccfkhhaaGreatDoor
open Go Go.Proofs.Tryz
set_option maxRecDepth 20000
noncomputable def c122:F':=⟨17,[.t 4],.k [.B 2 0,.B 3 1,.F 4] (.k [.f 5 0 2,.l 6 5,.f 7 0 3,.l 8 7,.b 9 .eql 6 8,.m 10 9,.v 11 10 true (.fa 1 (.t 2)),.M 12 10 true 11,.v 13 10 true (.fa 1 (.t 3)),.M 14 10 true 13,.v 15 10 true (.call (.f 123) [(.t 12),(.t 14)]),.y 16 10 15,.m 4 16] .ret)⟩
theorem ok122:okF f122 c122:=okI
noncomputable def c256:F':=⟨47,[.cell 6 (some 7)],.k [.B 4 1,.o 6 (.new zD)] (.k [.m 10 0,.m 11 2,.j 12 7 4,.c 13 272 12,.x 14 157 10 11 13,.m 7 14] (.k [.f 15 5 4,.l 16 15,.c 17 273 16,.m 8 17] (.seq (.k [.m 18 8,.L 19 18,.G 20 0] (.block 0 (.loop (.k [.b 21 .lss 20 19] (.seq (.d 21 .skip (.exit 0)) (.seq (.block 1 (.k [.m 22 20,.m 9 22] (.reg [.m 23 8,.m 24 9,.m 25 7,.m 26 8,.m 27 9,.i 28 4 26 27,.f 29 0 28,.l 30 29,.w 31 60 25 30,.h 32 31,.f 33 2 32,.l 34 33,.i 35 4 23 24,.f 36 0 35,.s 1 36 34]))) (.reg [.u 37 .add 20 1,.m 20 37]))))))) (.k [.m 38 8,.f 39 5 4,.s 1 39 38] (.k [.m 40 0,.f 41 6 4,.l 42 41,.m 43 7,.x 44 111 40 42 43,.f 45 6 4,.s 1 45 44] (.k [.j 46 7 4,.s 7 6 46] .ret))))))⟩
theorem ok256:okF f256 c256:=okI
noncomputable def c272:F':=⟨4,[.t 2],.k [.B 1 0,.a 2 .nilfn] (.k [.o 3 (.mkf 277 [] [(.t 1)]),.m 2 3] .ret)⟩
theorem ok272:okF f272 c272:=okI
noncomputable def c273:F':=⟨8,[.t 2],.k [.a 2 (.sl true [])] (.seq (.k [.m 3 0,.o 4 (.ex (.eqn false (.t 3)))] (.d 4 (.k [.a 2 (.sl true [])] .ret) .skip)) (.k [.o 5 (.bsl 4 []),.m 6 0,.o 7 (.app 4 40 (.t 5) (.t 6)),.m 2 7] .ret))⟩
theorem ok273:okF f273 c273:=okI
noncomputable def c277:F':=⟨18,[],.k [.f 5 5 1,.l 6 5,.L 7 6,.G 8 0] (.block 0 (.loop (.k [.b 9 .lss 8 7] (.seq (.d 9 .skip (.exit 0)) (.seq (.block 1 (.k [.i 10 4 6 8,.j 11 4 10,.o 4 (.new zF),.s 4 4 11] (.k [.m 12 0,.f 13 0 4,.l 14 13,.o 15 (.call (.t 12) [(.t 14)]),.o 16 (.un .not (.t 15))] (.d 16 .ret .skip)))) (.reg [.u 17 .add 8 1,.m 8 17]))))))⟩
theorem ok277:okF f277 c277:=okI
theorem Ex.ext'{x y:Ex}(a:x.kind=y.kind)(b:x.op=y.op)(c:x.n=y.n)(d:x.man=y.man∧x.exp=y.exp)(e:x.text=y.text)(f:x.args=y.args):x=y:=by
 obtain ⟨d,d'⟩:=d;cases x;cases y;simp only[Ex.kind,Ex.op,Ex.n,Ex.man,Ex.exp,Ex.text,Ex.args] at *;subst a b c d d' e f;rfl
theorem De.ext'{x y:De}(a:x.kind=y.kind)(b:x.own=y.own)(c:x.type=y.type)(d:x.names=y.names)(e:x.exps=y.exps)(f:x.formals=y.formals)(g:x.body=y.body):x=y:=by
 cases x;cases y;simp only[De.kind,De.own,De.type,De.names,De.exps,De.formals,De.body] at *;subst a b c d e f g;rfl
theorem Sm.ext'{x y:Sm}(a:x.elems=y.elems)(b:x.decls=y.decls)(c:x.labels=y.labels)(d:x.kind=y.kind)(e:x.text=y.text)(f:x.targets=y.targets)(g:x.exps=y.exps)(h:x.body=y.body):x=y:=by
 cases x;cases y;simp only[Sm.labels,Sm.kind,Sm.text,Sm.targets,Sm.exps,Sm.elems,Sm.decls,Sm.body] at *;subst a b c d e f g h;rfl
def qmq{α:Type}(l m:List α)(i:Nat):Prop:=∀j,j<i→l[j]?=m[j]?
theorem Zz{α:Type}{l m:List α}(hl:l.length=m.length)(h:qmq l m l.length):l=m:=by
 apply qrH;intro i;by_cases hi:i<l.length
 ·exact h i hi
 ·rw[qrB (by omega),qrB (by omega)]
open Classical in
theorem qfk(l m:List Bz)(hl:l.length≤B50):∀S,Fn prog 126 [.sl false (l.map .str),.sl false (m.map .str)] S (.bool (decide (l=m))):=by
 refine Pu.ib func126 ok126 (by simp[c126]) (by simp[V.under]) rfl ?_;unfold B50 at hl;by_cases hlen:l.length=m.length
 case neg=>
  have hne:¬ l=m:=fun h=>hlen (by rw[h])
  simp only[decide_eq_false hne];simp[c126,show ¬ ((l.length:Int)=m.length) by omega];exact qa rfl rfl rfl
 generalize hd:decide (l=m)=b;simp only[c126,C'.k];simp[hlen];refine qx (fun j e S'=>∃i:Nat,j=l.length - i∧i≤l.length∧qmq l m i∧
  e=[(13,.int .i64 i),(12,.int .i64 m.length),(0,.sl false (l.map .str)),(1,.sl false (m.map .str))]) l.length _ ?_ ⟨0,by simp,by omega,fun j hj=>by omega,rfl⟩ ?_
 ·repeat' first|exact Env.sub_nil _|refine Env.sub_cons (by simp[hlen]) ?_
 rintro j e S' ⟨i,rfl,hi,hq,rfl⟩;by_cases h:i<l.length
 ·have h':i<m.length:=by omega
  by_cases hx:l[i]=m[i]
  ·skip;simp[h,h',ZU,ZX,Qc,QG,hx,zh (n:=(i:Int)+1)];refine ⟨_,?_,_,?_,i+1,rfl,by omega,?_,rfl⟩
   ·omega
   ·exact Env.so (by simp)
   ·intro j hj;by_cases hji:j=i
    ·subst hji;simp[h,h',hx]
    ·exact hq j (by omega)
  ·skip;simp[h,h',ZU,ZX,Qc,QG,hx];refine qa rfl ?_ rfl;rw[←hd];have:¬ l=m:=fun hh=>hx (by subst hh;rfl)
   simp[qq,this]
 ·have:i=l.length:=by omega
  subst this;simp[hlen];refine qa rfl ?_ rfl;rw[←hd,decide_eq_true (Zz hlen hq)];rfl
open Classical in
theorem qkz(l m:List Fo)(hl:l.length≤B50):∀S,Fn prog 127 [.sl false (l.map Fo.v),.sl false (m.map Fo.v)] S (.bool (decide (l=m))):=by
 refine Pu.ib func127 ok127 (by simp[c127]) (by simp[V.under]) rfl ?_;unfold B50 at hl;by_cases hlen:l.length=m.length
 case neg=>
  have hne:¬ l=m:=fun h=>hlen (by rw[h])
  simp only[decide_eq_false hne];simp[c127,show ¬ ((l.length:Int)=m.length) by omega];exact qa rfl rfl rfl
 generalize hd:decide (l=m)=b;simp only[c127,C'.k];simp[hlen];refine qx (fun j e S'=>∃i:Nat,j=l.length - i∧i≤l.length∧qmq l m i∧
  e=[(13,.int .i64 i),(12,.int .i64 m.length),(0,.sl false (l.map Fo.v)),(1,.sl false (m.map Fo.v))]) l.length _ ?_ ⟨0,by simp,by omega,fun j hj=>by omega,rfl⟩ ?_
 ·repeat' first|exact Env.sub_nil _|refine Env.sub_cons (by simp[hlen]) ?_
 rintro j e S' ⟨i,rfl,hi,hq,rfl⟩;by_cases h:i<l.length
 ·have h':i<m.length:=by omega
  by_cases hx:l[i]=m[i]
  ·have hef:=qqe l[i] m[i];rw[decide_eq_true hx] at hef;simp[h,h',qnO,evX,Fo.v,Qz,hef,ZX,Qc,QG,zh (n:=(i:Int)+1)];refine ⟨_,?_,_,?_,i+1,rfl,by omega,?_,rfl⟩
   ·omega
   ·exact Env.so (by simp)
   ·intro j hj;by_cases hji:j=i
    ·subst hji;simp[h,h',hx]
    ·exact hq j (by omega)
  ·have hef:=qqe l[i] m[i];rw[decide_eq_false hx] at hef;simp[h,h',qnO,evX,Fo.v,Qz,hef,ZX,Qc,QG];refine qa rfl ?_ rfl;rw[←hd];have:¬ l=m:=fun hh=>hx (by subst hh;rfl)
   simp[qq,this]
 ·have:i=l.length:=by omega
  subst this;simp[hlen];refine qa rfl ?_ rfl;rw[←hd,decide_eq_true (Zz hlen hq)];rfl
open Classical in
theorem qgF(l m:List Ex)(hl:l.length≤B50)(g:Nat)(hg:∀x,x∈l→∀y S,Fn prog g [Ex.v x,Ex.v y] S (.bool (decide (x=y)))):∀S,Fn prog 165 [.sl false (l.map Ex.v),.sl false (m.map Ex.v),.fn (.func g) [] []] S (.bool (decide (l=m))):=by
 refine Pu.intro (R:=fun v=>v=.bool (decide (l=m))) func165 ok165 (by simp[c165]) (by simp[V.under,V.underL]) (by rintro v rfl;rfl) ?_;unfold B50 at hl;by_cases hlen:l.length=m.length
 case neg=>
  have hne:¬ l=m:=fun h=>hlen (by rw[h])
  simp only[decide_eq_false hne];simp[c165,show ¬ ((l.length:Int)=m.length) by omega];exact qa rfl rfl rfl
 generalize hd:decide (l=m)=b;simp only[c165,C'.k];simp[hlen];refine qx (fun j e S'=>∃i:Nat,j=l.length - i∧i≤l.length∧qmq l m i∧
  e=[(17,.int .i64 i),(16,.int .i64 m.length),(15,.sl false (l.map Ex.v)),(1,.sl false (m.map Ex.v)),(2,.fn (.func g) [] [])]) l.length _ ?_ ⟨0,by simp,by omega,fun j hj=>by omega,rfl⟩ ?_
 ·repeat' first|exact Env.sub_nil _|refine Env.sub_cons (by simp[hlen]) ?_
 rintro j e S' ⟨i,rfl,hi,hq,rfl⟩;by_cases h:i<l.length
 ·have h':i<m.length:=by omega
  simp[h',qjA,qE,ldS,stS,qi,h];refine qe (hg l[i] (qqP h) m[i] _) ?_;by_cases hx:l[i]=m[i]
  ·rw[decide_eq_true hx];simp[zh (n:=(i:Int)+1)];refine ⟨_,?_,_,?_,i+1,rfl,by omega,?_,rfl⟩
   ·omega
   ·exact Env.so (by simp)
   ·intro j hj;by_cases hji:j=i
    ·subst hji;simp[h,h',hx]
    ·exact hq j (by omega)
  ·rw[decide_eq_false hx];simp;refine qa rfl ?_ rfl;rw[←hd];have:¬ l=m:=fun hh=>hx (by subst hh;rfl)
   simp[qq,this]
 ·have:i=l.length:=by omega
  subst this;simp[hlen];refine qa rfl ?_ rfl;rw[←hd,decide_eq_true (Zz hlen hq)];rfl
open Classical in
theorem qmH(l m:List Sm)(hl:l.length≤B50)(g:Nat)(hg:∀x,x∈l→∀y S,Fn prog g [Sm.v x,Sm.v y] S (.bool (decide (x=y)))):∀S,Fn prog 119 [.sl false (l.map Sm.v),.sl false (m.map Sm.v),.fn (.func g) [] []] S (.bool (decide (l=m))):=by
 refine Pu.intro (R:=fun v=>v=.bool (decide (l=m))) func119 ok119 (by simp[c119]) (by simp[V.under,V.underL]) (by rintro v rfl;rfl) ?_;unfold B50 at hl;by_cases hlen:l.length=m.length
 case neg=>
  have hne:¬ l=m:=fun h=>hlen (by rw[h])
  simp only[decide_eq_false hne];simp[c119,show ¬ ((l.length:Int)=m.length) by omega];exact qa rfl rfl rfl
 generalize hd:decide (l=m)=b;simp only[c119,C'.k];simp[hlen];refine qx (fun j e S'=>∃i:Nat,j=l.length - i∧i≤l.length∧qmq l m i∧
  e=[(17,.int .i64 i),(16,.int .i64 m.length),(15,.sl false (l.map Sm.v)),(1,.sl false (m.map Sm.v)),(2,.fn (.func g) [] [])]) l.length _ ?_ ⟨0,by simp,by omega,fun j hj=>by omega,rfl⟩ ?_
 ·repeat' first|exact Env.sub_nil _|refine Env.sub_cons (by simp[hlen]) ?_
 rintro j e S' ⟨i,rfl,hi,hq,rfl⟩;by_cases h:i<l.length
 ·have h':i<m.length:=by omega
  simp[h',qi2,qE,ldS,stS,qi,h];refine qe (hg l[i] (qqP h) m[i] _) ?_;by_cases hx:l[i]=m[i]
  ·rw[decide_eq_true hx];simp[zh (n:=(i:Int)+1)];refine ⟨_,?_,_,?_,i+1,rfl,by omega,?_,rfl⟩
   ·omega
   ·exact Env.so (by simp)
   ·intro j hj;by_cases hji:j=i
    ·subst hji;simp[h,h',hx]
    ·exact hq j (by omega)
  ·rw[decide_eq_false hx];simp;refine qa rfl ?_ rfl;rw[←hd];have:¬ l=m:=fun hh=>hx (by subst hh;rfl)
   simp[qq,this]
 ·have:i=l.length:=by omega
  subst this;simp[hlen];refine qa rfl ?_ rfl;rw[←hd,decide_eq_true (Zz hlen hq)];rfl
open Classical in
theorem qlP(l m:List El)(hl:l.length≤B50)(g:Nat)(hg:∀x,x∈l→∀y S,Fn prog g [El.v x,El.v y] S (.bool (decide (x=y)))):∀S,Fn prog 121 [.sl false (l.map El.v),.sl false (m.map El.v),.fn (.func g) [] []] S (.bool (decide (l=m))):=by
 refine Pu.intro (R:=fun v=>v=.bool (decide (l=m))) func121 ok121 (by simp[c121]) (by simp[V.under,V.underL]) (by rintro v rfl;rfl) ?_;unfold B50 at hl;by_cases hlen:l.length=m.length
 case neg=>
  have hne:¬ l=m:=fun h=>hlen (by rw[h])
  simp only[decide_eq_false hne];simp[c121,show ¬ ((l.length:Int)=m.length) by omega];exact qa rfl rfl rfl
 generalize hd:decide (l=m)=b;simp only[c121,C'.k];simp[hlen];refine qx (fun j e S'=>∃i:Nat,j=l.length - i∧i≤l.length∧qmq l m i∧
  e=[(17,.int .i64 i),(16,.int .i64 m.length),(15,.sl false (l.map El.v)),(1,.sl false (m.map El.v)),(2,.fn (.func g) [] [])]) l.length _ ?_ ⟨0,by simp,by omega,fun j hj=>by omega,rfl⟩ ?_
 ·repeat' first|exact Env.sub_nil _|refine Env.sub_cons (by simp[hlen]) ?_
 rintro j e S' ⟨i,rfl,hi,hq,rfl⟩;by_cases h:i<l.length
 ·have h':i<m.length:=by omega
  simp[h',qnL,qE,ldS,stS,qi,h];refine qe (hg l[i] (qqP h) m[i] _) ?_;by_cases hx:l[i]=m[i]
  ·rw[decide_eq_true hx];simp[zh (n:=(i:Int)+1)];refine ⟨_,?_,_,?_,i+1,rfl,by omega,?_,rfl⟩
   ·omega
   ·exact Env.so (by simp)
   ·intro j hj;by_cases hji:j=i
    ·subst hji;simp[h,h',hx]
    ·exact hq j (by omega)
  ·rw[decide_eq_false hx];simp;refine qa rfl ?_ rfl;rw[←hd];have:¬ l=m:=fun hh=>hx (by subst hh;rfl)
   simp[qq,this]
 ·have:i=l.length:=by omega
  subst this;simp[hlen];refine qa rfl ?_ rfl;rw[←hd,decide_eq_true (Zz hlen hq)];rfl
open Classical in
theorem qls(l m:List De)(hl:l.length≤B50)(g:Nat)(hg:∀x,x∈l→∀y S,Fn prog g [De.v x,De.v y] S (.bool (decide (x=y)))):∀S,Fn prog 124 [.sl false (l.map De.v),.sl false (m.map De.v),.fn (.func g) [] []] S (.bool (decide (l=m))):=by
 refine Pu.intro (R:=fun v=>v=.bool (decide (l=m))) func124 ok124 (by simp[c124]) (by simp[V.under,V.underL]) (by rintro v rfl;rfl) ?_;unfold B50 at hl;by_cases hlen:l.length=m.length
 case neg=>
  have hne:¬ l=m:=fun h=>hlen (by rw[h])
  simp only[decide_eq_false hne];simp[c124,show ¬ ((l.length:Int)=m.length) by omega];exact qa rfl rfl rfl
 generalize hd:decide (l=m)=b;simp only[c124,C'.k];simp[hlen];refine qx (fun j e S'=>∃i:Nat,j=l.length - i∧i≤l.length∧qmq l m i∧
  e=[(17,.int .i64 i),(16,.int .i64 m.length),(15,.sl false (l.map De.v)),(1,.sl false (m.map De.v)),(2,.fn (.func g) [] [])]) l.length _ ?_ ⟨0,by simp,by omega,fun j hj=>by omega,rfl⟩ ?_
 ·repeat' first|exact Env.sub_nil _|refine Env.sub_cons (by simp[hlen]) ?_
 rintro j e S' ⟨i,rfl,hi,hq,rfl⟩;by_cases h:i<l.length
 ·have h':i<m.length:=by omega
  simp[h',qmT,qE,ldS,stS,qi,h];refine qe (hg l[i] (qqP h) m[i] _) ?_;by_cases hx:l[i]=m[i]
  ·rw[decide_eq_true hx];simp[zh (n:=(i:Int)+1)];refine ⟨_,?_,_,?_,i+1,rfl,by omega,?_,rfl⟩
   ·omega
   ·exact Env.so (by simp)
   ·intro j hj;by_cases hji:j=i
    ·subst hji;simp[h,h',hx]
    ·exact hq j (by omega)
  ·rw[decide_eq_false hx];simp;refine qa rfl ?_ rfl;rw[←hd];have:¬ l=m:=fun hh=>hx (by subst hh;rfl)
   simp[qq,this]
 ·have:i=l.length:=by omega
  subst this;simp[hlen];refine qa rfl ?_ rfl;rw[←hd,decide_eq_true (Zz hlen hq)];rfl
open Classical in
theorem qcb:∀k:Nat,(∀x:Ex,SizeOf.sizeOf x≤k→x.ok→∀y S,Fn prog 166 [x.v,y.v] S (.bool (decide (x=y)))):=by
 intro k
 induction k with
 | zero=>intro x h;exfalso;cases x;simp at h
 | succ k ih=>
  intro x hx hok y;refine Pu.ib func166 ok166 (by simp[c166]) (by simp[V.under]) rfl ?_;have hargs:=Ex.ok_args hok
  have ih':∀z,z∈x.args→∀y S,Fn prog 166 [Ex.v z,Ex.v y] S (.bool (decide (z=y))):=fun z hz=>ih z (by
   have:=qrp hz;cases x;simp only[Ex.args] at *;simp at hx;omega) (Ex.okL_mem hargs.2 z hz)
  have h123:∀S,Fn prog 123 [.sl false (x.args.map Ex.v),.sl false (y.args.map Ex.v)] S (.bool (decide (x.args=y.args))):=by
   refine Pu.ib func123 ok123 (by simp[c123]) (by simp[V.under]) rfl ?_;simp[c123];refine qe (qgF x.args y.args hargs.1 166 ih' _) ?_;simp;exact qa rfl rfl rfl
  generalize hr:decide (x=y)=r;simp[c166,qE,ldS];by_cases a1:x.kind=y.kind
  case neg=>
   simp[ldS,yz,eqV,evX,zo,a1];exact qa rfl (by rw[←hr,decide_eq_false (fun hh=>a1 (by subst hh;first|rfl|exact ⟨rfl,rfl⟩))];rfl) rfl
  by_cases a2:x.op=y.op
  case neg=>
   simp[ldS,yz,eqV,evX,zo,a1,a2];exact qa rfl (by rw[←hr,decide_eq_false (fun hh=>a2 (by subst hh;first|rfl|exact ⟨rfl,rfl⟩))];rfl) rfl
  by_cases a3:x.n=y.n
  case neg=>
   simp[ldS,yz,eqV,evX,zo,a1,a2,a3];exact qa rfl (by rw[←hr,decide_eq_false (fun hh=>a3 (by subst hh;first|rfl|exact ⟨rfl,rfl⟩))];rfl) rfl
  by_cases a4:x.man=y.man∧x.exp=y.exp
  case neg=>
   simp[ldS,yz,eqV,evX,zo,a1,a2,a3,a4];exact qa rfl (by rw[←hr,decide_eq_false (fun hh=>a4 (by subst hh;first|rfl|exact ⟨rfl,rfl⟩))];rfl) rfl
  by_cases a5:x.text=y.text
  case neg=>
   simp[ldS,yz,eqV,evX,zo,a1,a2,a3,a4,a5];exact qa rfl (by rw[←hr,decide_eq_false (fun hh=>a5 (by subst hh;first|rfl|exact ⟨rfl,rfl⟩))];rfl) rfl
  simp[ldS,yz,eqV,evX,zo,a1,a2,a3,a4,a5];refine qe (h123 _) ?_;by_cases a6:x.args=y.args
  case neg=>
   rw[decide_eq_false a6];simp;exact qa rfl (by rw[←hr,decide_eq_false (fun hh=>a6 (by rw[hh]))];rfl) rfl
  rw[decide_eq_true a6];simp[ldS,yz,eqV,evX,zo];exact qa rfl (by rw[←hr,decide_eq_true (Ex.ext' a1 a2 a3 a4 a5 a6)];rfl) rfl
open Classical in
theorem qlR(x:Ex)(h:x.ok)(y:Ex):∀S,Fn prog 166 [x.v,y.v] S (.bool (decide (x=y))):=qcb _ x (qqC _) h y
open Classical in
theorem qaM(l m:List Ex)(hl:l.length≤B50)(hok:Ex.okL l):∀S,Fn prog 123 [.sl false (l.map Ex.v),.sl false (m.map Ex.v)] S (.bool (decide (l=m))):=by
 refine Pu.ib func123 ok123 (by simp[c123]) (by simp[V.under]) rfl ?_;simp[c123];refine qe (qgF l m hl 166 (fun x hx y S=>qlR x (Ex.okL_mem hok x hx) y S) _) ?_;simp;exact qa rfl rfl rfl
open Classical in
theorem qkB(x:El)(h:x.ok)(y:El):∀S,Fn prog 122 [x.v,y.v] S (.bool (decide (x=y))):=by
 refine Pu.ib func122 ok122 (by simp[c122]) (by simp[V.under]) rfl ?_;generalize hr:decide (x=y)=r;simp[c122,qE,ldS];by_cases a1:x.kind=y.kind
 case neg=>
  simp[ldS,yz,eqV,evX,zo,a1];exact qa rfl (by rw[←hr,decide_eq_false (fun hh=>a1 (by subst hh;first|rfl|exact ⟨rfl,rfl⟩))];rfl) rfl
 simp[ldS,yz,eqV,evX,zo,a1];refine qe (qaM x.exps y.exps h.1 h.2 _) ?_;by_cases a2:x.exps=y.exps
 case neg=>
  rw[decide_eq_false a2];simp;exact qa rfl (by rw[←hr,decide_eq_false (fun hh=>a2 (by rw[hh]))];rfl) rfl
 rw[decide_eq_true a2];simp[ldS,yz,eqV,evX,zo];exact qa rfl (by rw[←hr,decide_eq_true (by cases x;cases y;simp only at *;subst a1 a2;rfl)];rfl) rfl
open Classical in
theorem J9{l m:List Sm}(hl:l.length≤B50)(h:∀x,x∈l→∀y S,Fn prog 120 [Sm.v x,Sm.v y] S (.bool (decide (x=y)))):∀S,Fn prog 69 [.sl false (l.map Sm.v),.sl false (m.map Sm.v)] S (.bool (decide (l=m))):=by
 refine Pu.ib func69 ok69 (by simp[c69]) (by simp[V.under]) rfl ?_;simp[c69];refine qe (qmH l m hl 120 h _) ?_;simp;exact qa rfl rfl rfl
open Classical in
theorem qb3:∀k:Nat,(∀s:Sm,SizeOf.sizeOf s≤k→s.ok→∀t S,Fn prog 120 [s.v,t.v] S (.bool (decide (s=t))))∧(∀d:De,SizeOf.sizeOf d≤k→d.ok→∀e S,Fn prog 125 [d.v,e.v] S (.bool (decide (d=e)))):=by
 intro k
 induction k with
 | zero=>exact ⟨fun s h=>by exfalso;cases s;simp at h,fun s h=>by exfalso;cases s;simp at h⟩
 | succ k ih=>
  refine ⟨fun s hs hok t=>?_,fun d hd hok e=>?_⟩
  ·have O:=(Sm.ok_iff s).1 hok
   have ihb:∀z,z∈s.body→∀y S,Fn prog 120 [Sm.v z,Sm.v y] S (.bool (decide (z=y))):=fun z hz=>ih.1 z (by
    have:=qrp hz;cases s;simp only[Sm.body] at *;simp at hs;omega) (Sm.okL_mem O.body.2 z hz)
   have ihd:∀z,z∈s.decls→∀y S,Fn prog 125 [De.v z,De.v y] S (.bool (decide (z=y))):=fun z hz=>ih.2 z (by
    have:=qrp hz;cases s;simp only[Sm.decls] at *;simp at hs;omega) (De.okL_mem O.decls.2 z hz)
   refine Pu.ib func120 ok120 (by simp[c120]) (by simp[V.under]) rfl ?_;generalize hr:decide (s=t)=r;simp[c120,qE,ldS];refine qe (qlP s.elems t.elems O.elems.1 122 (fun x hx y S=>qkB x (O.elems.2 x hx) y S) _) ?_;simp[ldS];refine qe (qls s.decls t.decls O.decls.1 125 ihd _) ?_;by_cases a1:s.elems=t.elems
   case neg=>
    rw[decide_eq_false a1];simp;exact qa rfl (by rw[←hr,decide_eq_false (fun hh=>a1 (by rw[hh]))];rfl) rfl
   rw[decide_eq_true a1];by_cases a2:s.decls=t.decls
   case neg=>
    rw[decide_eq_false a2];simp;exact qa rfl (by rw[←hr,decide_eq_false (fun hh=>a2 (by rw[hh]))];rfl) rfl
   rw[decide_eq_true a2];simp[ldS,yz,eqV,evX,zo];refine qe (qfk s.labels t.labels O.labels.1 _) ?_;by_cases a3:s.labels=t.labels
   case neg=>
    rw[decide_eq_false a3];simp;exact qa rfl (by rw[←hr,decide_eq_false (fun hh=>a3 (by rw[hh]))];rfl) rfl
   rw[decide_eq_true a3];by_cases a4:s.kind=t.kind
   case neg=>
    simp[ldS,yz,eqV,evX,zo,a4];exact qa rfl (by rw[←hr,decide_eq_false (fun hh=>a4 (by subst hh;first|rfl|exact ⟨rfl,rfl⟩))];rfl) rfl
   by_cases a5:s.text=t.text
   case neg=>
    simp[ldS,yz,eqV,evX,zo,a4,a5];exact qa rfl (by rw[←hr,decide_eq_false (fun hh=>a5 (by subst hh;first|rfl|exact ⟨rfl,rfl⟩))];rfl) rfl
   simp[ldS,yz,eqV,evX,zo,a4,a5];refine qe (qaM s.targets t.targets O.targets.1 O.targets.2 _) ?_;by_cases a6:s.targets=t.targets
   case neg=>
    rw[decide_eq_false a6];simp;exact qa rfl (by rw[←hr,decide_eq_false (fun hh=>a6 (by rw[hh]))];rfl) rfl
   rw[decide_eq_true a6];simp[ldS,yz,eqV,evX,zo];refine qe (qaM s.exps t.exps O.exps.1 O.exps.2 _) ?_;by_cases a7:s.exps=t.exps
   case neg=>
    rw[decide_eq_false a7];simp;exact qa rfl (by rw[←hr,decide_eq_false (fun hh=>a7 (by rw[hh]))];rfl) rfl
   rw[decide_eq_true a7];simp[ldS,yz,eqV,evX,zo];refine qe (J9 O.body.1 ihb _) ?_;by_cases a8:s.body=t.body
   case neg=>
    rw[decide_eq_false a8];simp;exact qa rfl (by rw[←hr,decide_eq_false (fun hh=>a8 (by rw[hh]))];rfl) rfl
   rw[decide_eq_true a8];simp[ldS,yz,eqV,evX,zo];exact qa rfl (by rw[←hr,decide_eq_true (Sm.ext' a1 a2 a3 a4 a5 a6 a7 a8)];rfl) rfl
  ·have O:=(De.ok_iff d).1 hok
   have ihb:∀z,z∈d.body→∀y S,Fn prog 120 [Sm.v z,Sm.v y] S (.bool (decide (z=y))):=fun z hz=>ih.1 z (by
    have:=qrp hz;cases d;simp only[De.body] at *;simp at hd;omega) (Sm.okL_mem O.body.2 z hz)
   refine Pu.ib func125 ok125 (by simp[c125]) (by simp[V.under]) rfl ?_;generalize hr:decide (d=e)=r;simp[c125,qE,ldS];by_cases a1:d.kind=e.kind
   case neg=>
    simp[ldS,yz,eqV,evX,zo,a1];exact qa rfl (by rw[←hr,decide_eq_false (fun hh=>a1 (by subst hh;first|rfl|exact ⟨rfl,rfl⟩))];rfl) rfl
   by_cases a2:d.own=e.own
   case neg=>
    simp[ldS,yz,eqV,evX,zo,a1,show (d.own==e.own)=false by simpa using a2];exact qa rfl (by rw[←hr,decide_eq_false (fun hh=>a2 (by subst hh;first|rfl|exact ⟨rfl,rfl⟩))];rfl) rfl
   by_cases a3:d.type=e.type
   case neg=>
    simp[ldS,yz,eqV,evX,zo,a1,a2,a3];exact qa rfl (by rw[←hr,decide_eq_false (fun hh=>a3 (by subst hh;first|rfl|exact ⟨rfl,rfl⟩))];rfl) rfl
   simp[ldS,yz,eqV,evX,zo,a1,a2,a3];refine qe (qfk d.names e.names O.names.1 _) ?_;by_cases a4:d.names=e.names
   case neg=>
    rw[decide_eq_false a4];simp;exact qa rfl (by rw[←hr,decide_eq_false (fun hh=>a4 (by rw[hh]))];rfl) rfl
   rw[decide_eq_true a4];simp[ldS,yz,eqV,evX,zo];refine qe (qaM d.exps e.exps O.exps.1 O.exps.2 _) ?_;by_cases a5:d.exps=e.exps
   case neg=>
    rw[decide_eq_false a5];simp;exact qa rfl (by rw[←hr,decide_eq_false (fun hh=>a5 (by rw[hh]))];rfl) rfl
   rw[decide_eq_true a5];simp[ldS,yz,eqV,evX,zo];refine qe (qkz d.formals e.formals O.formals.1 _) ?_;by_cases a6:d.formals=e.formals
   case neg=>
    rw[decide_eq_false a6];simp;exact qa rfl (by rw[←hr,decide_eq_false (fun hh=>a6 (by rw[hh]))];rfl) rfl
   rw[decide_eq_true a6];simp[ldS,yz,eqV,evX,zo];refine qe (J9 O.body.1 ihb _) ?_;by_cases a7:d.body=e.body
   case neg=>
    rw[decide_eq_false a7];simp;exact qa rfl (by rw[←hr,decide_eq_false (fun hh=>a7 (by rw[hh]))];rfl) rfl
   rw[decide_eq_true a7];simp[ldS,yz,eqV,evX,zo];exact qa rfl (by rw[←hr,decide_eq_true (De.ext' a1 a2 a3 a4 a5 a6 a7)];rfl) rfl
open Classical in
theorem qno(l m:List Sm)(hl:l.length≤B50)(hok:Sm.okL l):∀S,Fn prog 69 [.sl false (l.map Sm.v),.sl false (m.map Sm.v)] S (.bool (decide (l=m))):=
 J9 hl fun x hx y S=>(qb3 _).1 x (qqC _) (Sm.okL_mem hok x hx) y S
end Go.Proofs.YtbifpocccfkhhaaGreatDoor
end
