/- A part of it. -/
import Derived.Test.YtbifpocccfkhhaaGreatDoorKi
set_option linter.all false
noncomputable section
namespace Go.Proofs.YtbifpocccfkhhaaGreatDoor
open Go Go.Proofs.Tryz
structure VJ(p:Pa)(U:St):Prop where
 t2:U[1]?=some (.arr [.bool false] 1 1)
 k:U[2]?=some (.arr [p.v] 25 1)
theorem VJ.push{p:Pa}{U:St}(h:VJ p U)(o:Ob):VJ p (U++[o]):=⟨gp h.t2,gp h.k⟩
theorem VJ.set{p:Pa}{U:St}(h:VJ p U){L:Nat}(o:Ob)(hL:3≤L):VJ p (U.set L o):=⟨gs h.t2 (by omega),gs h.k (by omega)⟩
def VV(p:Pa)(i:Nat):Prop:=∀q,q∈p.kids.take i→q.valid qab=true
def VD(p:Pa)(U:St):Prop:=U[1]?=some (.arr [.bool false] 1 1)∧p.valid qab=false
theorem VD.push{p:Pa}{U:St}(h:VD p U)(o:Ob):VD p (U++[o]):=⟨gp h.1,h.2⟩
theorem Env.keep_get{e:Env}{t:Nat}{v:V}:∀{ts:List Nat},t∈ts→e.get t=some v→(e.keep ts).get t=some v
 | [],h,_=>by simp at h
 | s::ts,h,hv=>by
  simp only[Env.keep];by_cases hs:s=t
  ·subst hs;rw[hv];simp[Env.get]
  ·have h':t∈ts:=by
    rcases quc.1 h with h| h
    ·exact absurd h.symm hs
    ·exact h
   split
   ·simp only[Env.get,if_neg hs];exact Env.keep_get h' hv
   ·exact Env.keep_get h' hv
noncomputable def qip:C':=(.seq (.seq (.reg [.j 29 25 1,.o 30 (.call (.f 179) [(.t 29)])])
 (.block 1 (.rf (.t 30) [31] (rfAt Tryz.f151 0).1 (rfAt Tryz.f151 0).2
  (.reg [.o 4 (.new zP),
   .s 25 4 31])
  (.block 2 (.seq (.reg [.j 32 25 4,.o 33 (.call (.f 151) [(.t 32)]),.o 34 (.un .not (.t 33))])
   (.cond (.t 34) (.seq (.reg [.n (.sto 1 (.t 2) (.c (.bool false)))]) (.ret)) (.skip))))
  35 [31,4,32,33,34,2])))
 (.seq (.reg [.n (.sto 1 (.t 2) (.c (.bool true)))]) (.ret)))
theorem qdw:qip=(.seq (.seq (.reg [.j 29 25 1,.o 30 (.call (.f 179) [(.t 29)])])
 (.block 1 (.rf (.t 30) [31] (rfAt Tryz.f151 0).1 (rfAt Tryz.f151 0).2
  (.reg [.o 4 (.new zP),
   .s 25 4 31])
  (.block 2 (.seq (.reg [.j 32 25 4,.o 33 (.call (.f 151) [(.t 32)]),.o 34 (.un .not (.t 33))])
   (.cond (.t 34) (.seq (.reg [.n (.sto 1 (.t 2) (.c (.bool false)))]) (.ret)) (.skip))))
  35 [31,4,32,33,34,2])))
 (.seq (.reg [.n (.sto 1 (.t 2) (.c (.bool true)))]) (.ret))):=rfl
theorem qq8:∀(k:Nat) (p:Pa),p.wt≤k→p.ok→∀S,Fn prog 151 [p.v] S (.bool (p.valid qab)):=by
 intro k
 induction k with
 | zero=>intro p h;exfalso;cases p with
  | st s=>cases s;simp[Pa.wt] at h
  | de s=>cases s;simp[Pa.wt] at h
  | el s=>cases s;simp[Pa.wt] at h
  | ex s=>cases s;simp[Pa.wt] at h
 | succ k ih=>
  intro p hw hp;refine Pu.ib func151 ok151 (by simp[c151]) (by simp) rfl ?_;have hve:=Pa.valid_eq qab p;have range:∀e:Env,p.vOwn qab=true→e.get 1=some (.ptr 0 0 0 1)→e.get 2=some (.ptr 1 0 0 1)→
    WP prog qip
     (endp [.cell 2 none] 0 fun v U=>v=.bool (p.valid qab)∧U=[]) e [.arr [p.v] 25 1,.arr [.bool false] 1 1]:=by
   intro e hown g1 g2;simp only[qip];simp[g1,ldS];refine qan (qlE p _) ?_;rintro v U ⟨rfl,rfl⟩;simp;have hkl:(p.kids.map fun q=>[q.v]).length=p.kids.length:=by simp
   refine qe5 (k:=202) (fs:=[]) (cs:=[.ptr 2 0 0 1]) (by simp) (qhQ p hp 2) rfl rfl rfl (by simp) (fun x=>x=1) (by rintro x rfl;simp)
    (fun i U=>VJ p U∧VV p i) (VD p) (fun _ _=>False) ?_ ?_ ?_ ?_ (fun i U L o o' _ h hl=>⟨⟨gl h.1.t2 (by simp) hl,gl h.1.k (by simp) hl⟩,h.2⟩) (fun U L o o' _ h hl=>⟨gl h.1 (by simp) hl,h.2⟩) (fun id U L o o' _ h hl=>h.elim) ?_ ?_ ?_ ?_ ?_
   ·rintro i U ⟨h,_⟩;exact h.k
   ·rintro i U ⟨h,h1⟩;exact fun o=>⟨h.push o,h1⟩
   ·rintro U h;exact fun o=>h.push o
   ·rintro id U h;exact h.elim
   ·exact ⟨⟨rfl,rfl⟩,fun q hq=>by simp at hq⟩
   ·rintro i av hav U ⟨hj,hv⟩ hk hl;rw[qtV] at hav;obtain ⟨q,hq,rfl⟩:=qtK.1 hav;have hqk:q∈p.kids:=qtP hq;have hqw:=Pa.kid_lt hqk;generalize hke:Env.keep _ _=ke at hl ⊢;have g2':ke.get 2=some (.ptr 1 0 0 1):=by rw[←hke];exact Env.keep_get (by simp) (by simp[g2])
    clear hke;simp at hl;simp[qc7,boxS,stS,qac];refine qcU (gp hl) rfl ?_;have lU:=glt hl;have nU:U.length≠3:=by omega
    have vq:((U++[Ob.arr [q.v] 25 1]).set 3 (.loop { st:=.busy,pend:=none,ps:=[31],asg:=(rfAt Tryz.f151 0).1,body:=(rfAt Tryz.f151 0).2,e:=ke,N:=35 }))[U.length]?=some (.arr [q.v] 25 1):=gs (by simp) nU;have vL:((U++[Ob.arr [q.v] 25 1]).set 3 (.loop { st:=.busy,pend:=none,ps:=[31],asg:=(rfAt Tryz.f151 0).1,body:=(rfAt Tryz.f151 0).2,e:=ke,N:=35 }))[3]?=some (.loop _):=qtE (by simp;omega);have vj:=(hj.push (Ob.arr [q.v] 25 1)).set (L:=3) (.loop { st:=.busy,pend:=none,ps:=[31],asg:=(rfAt Tryz.f151 0).1,body:=(rfAt Tryz.f151 0).2,e:=ke,N:=35 }) (by omega);have vk:Kp (fun x=>x=1∨x=3) U ((U++[Ob.arr [q.v] 25 1]).set 3 (.loop { st:=.busy,pend:=none,ps:=[31],asg:=(rfAt Tryz.f151 0).1,body:=(rfAt Tryz.f151 0).2,e:=ke,N:=35 })):=((Kp.refl _ _).push _).set _ (.inl (.inr rfl));generalize (U++[Ob.arr [q.v] 25 1]).set 3 _=W at vq vL vj vk ⊢;simp[ldS,vq];refine qag (ih q (by omega) (Pa.kid_ok hp hqk) W) ?_
    cases hqv:q.valid qab with
    | true=>
     simp;refine qci ⟨rfl,rfl⟩ (.inr rfl) vL vk ⟨vj.set _ (by omega),?_⟩;intro r hr;rw[qtQ,hq] at hr;rcases quh.1 hr with hr|hr
     ·exact hv r hr
     ·simp at hr;subst hr;exact hqv
    | false=>
     simp[stS,qcx,vj.t2,g2'];refine qfc (.inr rfl) (gs vL (by omega)) (vk.set _ (.inl (.inl rfl))) ⟨gs (qtE (glt vj.t2)) (by omega),?_⟩
     cases hh:p.valid qab with
     | false=>rfl
     | true=>rw[(Pa.valid_iff.1 hh).2 q hqk] at hqv;cases hqv
   ·rintro U ⟨hj,hv⟩ hk;rw[hkl] at hv;unfold VV at hv;rw[qt7] at hv;simp[stS,qcx,hj.t2,g2];refine qaa (vs:=[.bool true]) (by simp[ldS,g2,glt hj.t2]) ?_ rfl;rw[Pa.valid_iff.2 ⟨hown,hv⟩];rfl
   ·rintro U ⟨h1,h2⟩ hk;simp;refine qaa (vs:=[.bool false]) (by simp[ldS,g2,h1]) ?_ rfl;rw[h2];rfl
   ·rintro id U h;exact h.elim
  have stop:p.vOwn qab=false→p.valid qab=false:=fun h=>by rw[hve,h];rfl
  cases p with
  | st s=>
   have hown:(Pa.st s).vOwn qab=s.vOwn qab:=rfl;simp only[c151,←qdw];simp[boxS,ldS];simp only[Pa.v,Pa.kind,Pa.toS,Pa.toD,Pa.toE,Pa.toX];simp[ldS];refine qag (qp3 s hp _) ?_
   cases ho:s.vOwn qab with
   | false=>
    simp[stS,qcx];refine qaa rfl ?_ rfl;rw[stop (by rw[hown,ho])];rfl
   | true=>
    simp[hown,ho];exact range _ (hown.trans ho) (by simp) (by simp)
  | de d=>
   have hown:(Pa.de d).vOwn qab=d.vOwn qab:=rfl;simp only[c151,←qdw];simp[boxS,ldS];simp only[Pa.v,Pa.kind,Pa.toS,Pa.toD,Pa.toE,Pa.toX];simp[ldS];refine qag (qpB d hp _) ?_
   cases ho:d.vOwn qab with
   | false=>
    simp[stS,qcx];refine qaa rfl ?_ rfl;rw[stop (by rw[hown,ho])];rfl
   | true=>
    simp[hown,ho];exact range _ (hown.trans ho) (by simp) (by simp)
  | el e=>
   have hown:(Pa.el e).vOwn qab=e.vOwn:=rfl;simp only[c151,←qdw];simp[boxS,ldS];simp only[Pa.v,Pa.kind,Pa.toS,Pa.toD,Pa.toE,Pa.toX];simp[ldS];refine qag (qpS e _) ?_
   cases ho:e.vOwn with
   | false=>
    simp[stS,qcx];refine qaa rfl ?_ rfl;rw[stop (by rw[hown,ho])];rfl
   | true=>
    simp[hown,ho];exact range _ (hown.trans ho) (by simp) (by simp)
  | ex x=>
   have hown:(Pa.ex x).vOwn qab=x.vOwn qab:=rfl;simp only[c151,←qdw];simp[boxS,ldS];simp only[Pa.v,Pa.kind,Pa.toS,Pa.toD,Pa.toE,Pa.toX];simp[ldS];refine qag (qrj x hp _) ?_
   cases ho:x.vOwn qab with
   | false=>
    simp[stS,qcx];refine qaa rfl ?_ rfl;rw[stop (by rw[hown,ho])];rfl
   | true=>
    simp[hown,ho];exact range _ (hown.trans ho) (by simp) (by simp)
theorem qqj(p:Pa)(hp:p.ok):∀S,Fn prog 100 [p.v] S (.int .i64 (p.err qab)):=by
 refine Pu.ib func100 ok100 (by simp[c100]) (by simp) rfl ?_;simp[c100,boxS,ldS];refine qan (qqD p hp _) ?_;rintro v U ⟨⟨z,d,rfl,_⟩,rfl⟩;unfold Pa.err;by_cases hf:p.fits
 ·simp[hf,ldS];refine qag (qq8 _ p (qtH _) hp _) ?_
  cases hv:p.valid qab with
  | true=>
   simp;exact qaa rfl rfl rfl
  | false=>
   simp;exact qaa rfl rfl rfl
 ·simp[hf,ldS];exact qaa rfl rfl rfl
theorem qsY(s:Sm)(hs:s.ok):∀S,Fn prog 56 [s.v] S (.int .i64 ((Pa.st s).err qab)):=by
 refine Pu.ib func56 ok56 (by simp[c56]) (by simp[V.under]) rfl ?_;simp[c56,boxS,ldS];refine qag (qlc s _) ?_;simp;refine qag (qqj (.st s) hs _) ?_;simp;exact qaa rfl rfl rfl
def rawS(s:Sm):V:=.agg [.int .i64 1,.sl false (s.labels.map .str),.int .i64 s.kind,.str s.text,.sl false (s.targets.map Ex.v),.sl false (s.exps.map Ex.v),.sl false (s.elems.map El.v),.sl false (s.decls.map De.v),.sl false (s.body.map Sm.v),.int .i64 0,.bool false,.int .i64 0,.sl true [],.sl true [],.sl true [],.sl true [],.int .i64 0,.sl true [],.int .i64 0,.int .i64 0,.int .i64 0,.int .i64 0,.int .i64 0,.str ⟨⟨[]⟩⟩,.sl true []]
def rawD(d:De):V:=.agg [.int .i64 2,.sl true [],.int .i64 0,.str ⟨⟨[]⟩⟩,.sl true [],.sl true [],.sl true [],.sl true [],.sl true [],.int .i64 d.kind,.bool d.own,.int .i64 d.type,.sl false (d.names.map .str),.sl false (d.exps.map Ex.v),.sl false (d.formals.map Fo.v),.sl false (d.body.map Sm.v),.int .i64 0,.sl true [],.int .i64 0,.int .i64 0,.int .i64 0,.int .i64 0,.int .i64 0,.str ⟨⟨[]⟩⟩,.sl true []]
def rawE(e:El):V:=.agg [.int .i64 3,.sl true [],.int .i64 0,.str ⟨⟨[]⟩⟩,.sl true [],.sl true [],.sl true [],.sl true [],.sl true [],.int .i64 0,.bool false,.int .i64 0,.sl true [],.sl true [],.sl true [],.sl true [],.int .i64 e.kind,.sl false (e.exps.map Ex.v),.int .i64 0,.int .i64 0,.int .i64 0,.int .i64 0,.int .i64 0,.str ⟨⟨[]⟩⟩,.sl true []]
def rawX(x:Ex):V:=.agg [.int .i64 4,.sl true [],.int .i64 0,.str ⟨⟨[]⟩⟩,.sl true [],.sl true [],.sl true [],.sl true [],.sl true [],.int .i64 0,.bool false,.int .i64 0,.sl true [],.sl true [],.sl true [],.sl true [],.int .i64 0,.sl true [],.int .i64 x.kind,.int .i64 x.op,.int .i64 x.n,.int .i64 x.man,.int .i64 x.exp,.str x.text,.sl false (x.args.map Ex.v)]
def Pa.raw:Pa→V
 | .st s=>rawS s
 | .de d=>rawD d
 | .el e=>rawE e
 | .ex x=>rawX x
theorem Pa.raw_weak(p:Pa):p.raw.weak=p.v:=by
 cases p <;> simp only[Pa.raw,rawS,rawD,rawE,rawX,V.weak,V.weakL,wEx,wEl,wFo,wStr,wDe,wSm] <;> rfl
theorem qcw(p:Pa):fits 25 [p.raw]=true:=by cases p <;> rfl
theorem qfn(s:Sm):∀S,Fn prog 113 [s.v] S (Pa.st s).v:=by
 refine Pu.intro (R:=fun v=>v=(Pa.st s).v) func113 ok113 (by simp[c113]) (by simp[V.under]) (by rintro v rfl;simp) ?_;simp[c113,boxS,ldS,stS,qbs,qah,qal];refine qcj rfl ?_ ?_
 ·simp only[retV,V.weak,V.weakL,wEx,wEl,wFo,wStr,wDe,wSm];rfl
 ·simp[retV,V.weak,V.weakL,V.under,V.underL]
theorem qlf(s:De):∀S,Fn prog 135 [s.v] S (Pa.de s).v:=by
 refine Pu.intro (R:=fun v=>v=(Pa.de s).v) func135 ok135 (by simp[c135]) (by simp[V.under]) (by rintro v rfl;simp) ?_;simp[c135,boxS,ldS,stS,qbs,qah,qal];refine qcj rfl ?_ ?_
 ·simp only[retV,V.weak,V.weakL,wEx,wEl,wFo,wStr,wDe,wSm];rfl
 ·simp[retV,V.weak,V.weakL,V.under,V.underL]
theorem qlL(s:Ex):∀S,Fn prog 141 [s.v] S (Pa.ex s).v:=by
 refine Pu.intro (R:=fun v=>v=(Pa.ex s).v) func141 ok141 (by simp[c141]) (by simp[V.under]) (by rintro v rfl;simp) ?_;simp[c141,boxS,ldS,stS,qbs,qah,qal];refine qcj rfl ?_ ?_
 ·simp only[retV,V.weak,V.weakL,wEx,wEl,wFo,wStr,wDe,wSm];rfl
 ·simp[retV,V.weak,V.weakL,V.under,V.underL]
theorem qma(p:Pa)(hp:p.ok):∀S,Fn prog 200 [p.v] S (.int .i64 p.own):=by
 refine Pu.ib func200 ok200 (by simp[c200]) (by simp) rfl ?_;have h1:=Pa.own_le hp;unfold B50 at h1
 cases p with
 | st s=>
  simp only[Pa.own] at h1;simp[c200,boxS,ldS,Pa.v,Pa.kind,Pa.toS,Pa.own,qaz (n:=1+(s.labels.length:Int)) (by omega) (by omega)];exact qaa rfl rfl rfl
 | de d=>
  simp only[Pa.own] at h1;simp[c200,boxS,ldS,Pa.v,Pa.kind,Pa.toD,Pa.own,qaz (n:=1+(d.names.length:Int)) (by omega) (by omega),qaz (n:=1+(d.names.length:Int)+d.formals.length) (by omega) (by omega)];exact qaa rfl rfl rfl
 | el e=>
  simp[c200,boxS,ldS,Pa.v,Pa.kind,Pa.own];exact qaa rfl rfl rfl
 | ex x=>
  simp[c200,boxS,ldS,Pa.v,Pa.kind,Pa.own];exact qaa rfl rfl rfl
theorem qp1(p:Pa)(hp:p.ok):∀S,Fn prog 201 [p.v] S (.int .i64 p.kids.length):=by
 refine Pu.ib func201 ok201 (by simp[c201]) (by simp) rfl ?_;rw[qdv]
 cases p with
 | st s=>
  have o:=(Sm.ok_iff s).1 hp;have o1:=o.targets.1;have o2:=o.exps.1;have o3:=o.elems.1;have o4:=o.decls.1;have o5:=o.body.1;unfold B50 at o1 o2 o3 o4 o5;simp[c201,boxS,ldS,stS,qac,Pa.v,Pa.kind,Pa.toS,qaz (n:=(s.targets.length:Int)+s.exps.length) (by omega) (by omega),qaz (n:=(s.targets.length:Int)+s.exps.length+s.elems.length) (by omega) (by omega),
   qaz (n:=(s.targets.length:Int)+s.exps.length+s.elems.length+s.decls.length) (by omega) (by omega),qaz (n:=(s.targets.length:Int)+s.exps.length+s.elems.length+s.decls.length+s.body.length) (by omega) (by omega)]
  exact qaa rfl (by simp[retV];omega) rfl
 | de d=>
  have o:=(De.ok_iff d).1 hp;have o1:=o.exps.1;have o2:=o.body.1;unfold B50 at o1 o2;simp[c201,boxS,ldS,Pa.v,Pa.kind,Pa.toD,qaz (n:=(d.exps.length:Int)+d.body.length) (by omega) (by omega)];exact qaa rfl rfl rfl
 | el e=>
  simp[c201,boxS,ldS,Pa.v,Pa.kind,Pa.toE];exact qaa rfl rfl rfl
 | ex x=>
  simp[c201,boxS,ldS,Pa.v,Pa.kind,Pa.toX];exact qaa rfl rfl rfl
def grV(n:Nat)(xs:List V):V:=match xs with
 | []=>.sl true []
 | _::_=>.arr n 0 xs.length xs.length
def grS(S:St)(xs:List V):St:=match xs with
 | []=>S
 | _::_=>S++[.arr xs 25 1]
theorem qo7{n:Nat}{xs:List V}(h:xs≠[]):grV n xs=.arr n 0 xs.length xs.length:=by
 cases xs with
 | nil=>exact absurd rfl h
 | cons=>rfl
theorem qo8{S:St}{xs:List V}(h:xs≠[]):grS S xs=S++[.arr xs 25 1]:=by
 cases xs with
 | nil=>exact absurd rfl h
 | cons=>rfl
theorem qnz{S:St}{xs:List V}{y:V}(hy:fits 25 [y]=true)(hl:xs.length≤1000000):appS (grS S xs) 25 408 (grV S.length xs) (.sl true [y])=some (grV S.length (xs++[y]),grS S (xs++[y])):=by
 rw[qo7 (xs:=xs++[y]) (by simp),qo8 (xs:=xs++[y]) (by simp)]
 cases xs with
 | nil=>
  simp only[grS,grV,appS,elems];rw[if_neg (by simp),if_pos ⟨trivial,hy,rfl,by simp⟩];simp
 | cons x xs=>
  rw[qo7 (by simp),qo8 (by simp)];simp only[appS,elems];have hg:(S++[Ob.arr (x::xs) 25 1])[S.length]?=some (.arr (x::xs) 25 1):=by simp
  rw[hg];simp only;rw[if_pos ⟨trivial,trivial,trivial,trivial,hy,by simp at hl ⊢;omega⟩];simp
theorem qtb{S:St}{xs:List V}{l:Nat}{o:Ob}(h:S[l]?=some o):(grS S xs)[l]?=some o:=by
 cases xs with
 | nil=>exact h
 | cons=>exact gp h
theorem qfb(S:St)(xs:List V)(l:List Ex)(hl:xs.length+l.length≤1000000):
  Spec prog 228 [grV S.length xs,.sl false (l.map Ex.v)] (grS S xs) (fun r U=>r=grV S.length (xs++l.map rawX)∧U=grS S (xs++l.map rawX)):=by
 refine Spec.intro func228 ok228 (by simp[c228]) ?_;simp only[c228];simp;refine qap (fun j e S'=>∃i:Nat,j=l.length - i∧i≤l.length∧S'=grS S (xs++(l.map rawX).take i)∧
  e=[(5,.int .i64 i),(0,grV S.length (xs++(l.map rawX).take i)),(1,.sl false (l.map Ex.v))]) l.length _ ?_ ⟨0,by simp,by omega,by simp,rfl⟩ ?_
 ·exact Env.so (by simp)
 rintro j e S' ⟨i,rfl,hi,rfl,rfl⟩;by_cases h:i<l.length
 ·have ha:=qnz (S:=S) (xs:=xs++(l.map rawX).take i) (y:=rawX l[i]) (qcw (.ex l[i])) (by simp;omega)
  have hn:xs++(l.map rawX).take i++[rawX l[i]]=xs++(l.map rawX).take (i+1):=by
   rw[qtQ,qtV,qtF h,qtU,qug,qt1]
  rw[hn] at ha;have hf:fits 25 [rawX l[i]]=true:=qcw (.ex l[i]);generalize hr:rawX l[i]=y at ha hf;have hb:qal (.agg [.int .i64 0,.sl true [],.int .i64 0,.str ⟨⟨[]⟩⟩,.sl true [],.sl true [],.sl true [],.sl true [],.sl true [],.int .i64 0,.bool false,.int .i64 0,.sl true [],.sl true [],.sl true [],.sl true [],.int .i64 0,.sl true [],.int .i64 0,.int .i64 0,.int .i64 0,.int .i64 0,.int .i64 0,.str ⟨⟨[]⟩⟩,.sl true []]) [(0,1,.int .i64 4),(18,7,l[i].v)]=some y:=by rw[←hr];simp[qal,qac,rawX]
  simp[h,iaEx,qah,hb,hf,ha,qaK (n:=(i:Int)+1)];refine ⟨_,?_,_,?_,i+1,rfl,by omega,rfl,rfl⟩
  ·omega
  ·exact Env.so (by simp)
 ·have:i=l.length:=by omega
  subst this;simp[h];refine qaj rfl ⟨?_,?_⟩
  ·simp only[retV];rw[qud (by simp)]
  ·rw[qud (by simp)]
theorem qli(S:St)(xs:List V)(l:List Sm)(hl:xs.length+l.length≤1000000):
  Spec prog 229 [grV S.length xs,.sl false (l.map Sm.v)] (grS S xs) (fun r U=>r=grV S.length (xs++l.map rawS)∧U=grS S (xs++l.map rawS)):=by
 refine Spec.intro func229 ok229 (by simp[c229]) ?_;simp only[c229];simp;refine qap (fun j e S'=>∃i:Nat,j=l.length - i∧i≤l.length∧S'=grS S (xs++(l.map rawS).take i)∧
  e=[(5,.int .i64 i),(0,grV S.length (xs++(l.map rawS).take i)),(1,.sl false (l.map Sm.v))]) l.length _ ?_ ⟨0,by simp,by omega,by simp,rfl⟩ ?_
 ·exact Env.so (by simp)
 rintro j e S' ⟨i,rfl,hi,rfl,rfl⟩;by_cases h:i<l.length
 ·have ha:=qnz (S:=S) (xs:=xs++(l.map rawS).take i) (y:=rawS l[i]) (qcw (.st l[i])) (by simp;omega)
  have hn:xs++(l.map rawS).take i++[rawS l[i]]=xs++(l.map rawS).take (i+1):=by
   rw[qtQ,qtV,qtF h,qtU,qug,qt1]
  rw[hn] at ha;have hf:fits 25 [rawS l[i]]=true:=qcw (.st l[i]);generalize hr:rawS l[i]=y at ha hf;have hb:qal (.agg [.int .i64 0,.sl true [],.int .i64 0,.str ⟨⟨[]⟩⟩,.sl true [],.sl true [],.sl true [],.sl true [],.sl true [],.int .i64 0,.bool false,.int .i64 0,.sl true [],.sl true [],.sl true [],.sl true [],.int .i64 0,.sl true [],.int .i64 0,.int .i64 0,.int .i64 0,.int .i64 0,.int .i64 0,.str ⟨⟨[]⟩⟩,.sl true []]) [(0,1,.int .i64 1),(1,8,l[i].v)]=some y:=by rw[←hr];simp[qal,qac,rawS]
  simp[h,iaSm,qah,hb,hf,ha,qaK (n:=(i:Int)+1)];refine ⟨_,?_,_,?_,i+1,rfl,by omega,rfl,rfl⟩
  ·omega
  ·exact Env.so (by simp)
 ·have:i=l.length:=by omega
  subst this;simp[h];refine qaj rfl ⟨?_,?_⟩
  ·simp only[retV];rw[qud (by simp)]
  ·rw[qud (by simp)]
theorem grGr(S:St)(xs:List V):Gr 25 0 xs (grV S.length xs) (grS S xs):=by
 cases xs with
 | nil=>exact .inl ⟨rfl,rfl⟩
 | cons x xs=>exact .inr ⟨S.length,1,quj _,rfl,by simp[grS],by simp⟩
theorem qlN(l:List Pa):(l.map Pa.raw).map V.weak=l.map Pa.v:=by
 rw[qvm];exact quC fun p _=>Pa.raw_weak p
theorem qd3{rs:List RV}{e:Env}{S:St}{l:List Pa}(h:rvs e (grS S (l.map Pa.raw)) rs=some [grV S.length (l.map Pa.raw)]):
  endp rs 0 (fun v U=>v=.sl false (l.map Pa.v)∧U=[]) .ret e (grS S (l.map Pa.raw)):=
 qqe (R:=fun v=>v=.sl false (l.map Pa.v)) h (grGr S _) (fun x hx=>by
  obtain ⟨p,_,rfl⟩:=qt3.1 hx;rw[Pa.raw_weak];simp) (by rw[qlN])
theorem mapX(l:List Ex):l.map rawX=(l.map Pa.ex).map Pa.raw:=by rw[qvm];rfl
theorem mapS(l:List Sm):l.map rawS=(l.map Pa.st).map Pa.raw:=by rw[qvm];rfl
theorem mapE(l:List El):l.map rawE=(l.map Pa.el).map Pa.raw:=by rw[qvm];rfl
theorem mapD(l:List De):l.map rawD=(l.map Pa.de).map Pa.raw:=by rw[qvm];rfl
@[simp] theorem uPa(l:List Pa):V.underL 0 (l.map Pa.v)=true:=qaI fun x _=>Pa.v_under x
theorem qfE(p:Pa)(hp:p.ok)(hl:p.kids.length≤2000):∀S,Fn prog 193 [p.v] S (.sl false (p.kids.map Pa.v)):=by
 refine Pu.intro (R:=fun v=>v=.sl false (p.kids.map Pa.v)) func193 ok193 (by simp[c193]) (by simp) (by rintro v rfl;simp[V.under]) ?_;rw[qdv] at hl
 cases p with
 | el e=>
  simp only at hl;simp[c193,boxS,ldS];simp only[Pa.v,Pa.kind,Pa.toS,Pa.toD,Pa.toE,Pa.toX];simp[ldS];refine qan (qfb [.arr [(Pa.el e).v] 25 1] [] e.exps (by simp;omega)) ?_;rintro v U ⟨rfl,rfl⟩;simp;rw[mapX];exact qd3 rfl
 | ex x=>
  simp only at hl;simp[c193,boxS,ldS];simp only[Pa.v,Pa.kind,Pa.toS,Pa.toD,Pa.toE,Pa.toX];simp[ldS];refine qan (qfb [.arr [(Pa.ex x).v] 25 1] [] x.args (by simp;omega)) ?_;rintro v U ⟨rfl,rfl⟩;simp;rw[mapX];exact qd3 rfl
 | de d=>
  simp only at hl;simp[c193,boxS,ldS];simp only[Pa.v,Pa.kind,Pa.toS,Pa.toD,Pa.toE,Pa.toX];simp[ldS];refine qd9 (qfb [.arr [(Pa.de d).v] 25 1] [] d.exps (by simp;omega)) ?_;have h0:(grS [Ob.arr [(Pa.de d).v] 25 1] ([]++d.exps.map rawX))[0]?=some (.arr [(Pa.de d).v] 25 1):=qtb rfl;simp only[qt4] at h0 ⊢;simp only[Pa.v,Pa.kind,Pa.toS,Pa.toD,Pa.toE,Pa.toX] at h0 ⊢;simp[ldS,h0];refine qd9 (qli _ (d.exps.map rawX) d.body (by simp;omega)) ?_;simp[dend,qbe,qbj,ldS,h0];rw[mapX,mapS,←qtX];exact qd3 rfl
 | st s=>
  simp only at hl;simp[c193,boxS,ldS,stS,qac];simp only[Pa.v,Pa.kind,Pa.toS,Pa.toD,Pa.toE,Pa.toX];simp[ldS,stS,qac,boxS];obtain ⟨B,hB⟩:∃B:St,B=[.arr [paV 1 s De.z El.z Ex.z] 25 1,.arr [s.v] 8 1]:=⟨_,rfl⟩;have hBl:B.length=2:=by rw[hB];rfl
  have hB1:B[1]?=some (.arr [s.v] 8 1):=by rw[hB];rfl
  have c1:=qfb B [] s.targets (by simp;omega);have c2:=qfb B (s.targets.map rawX) s.exps (by simp;omega);rw[hBl] at c1 c2;simp only[qt4] at c1;have hb1:∀xs,(grS B xs)[1]?=some (.arr [s.v] 8 1):=fun xs=>qtb hB1
  have c1':Spec prog 228 [.sl true [],.sl false (s.targets.map Ex.v)] B (fun r U=>r=grV 2 (s.targets.map rawX)∧U=grS B (s.targets.map rawX)):=c1;simp only[hB] at c1';refine qan c1' ?_;rintro v U ⟨rfl,rfl⟩;simp only[←hB];simp[ldS,hb1];refine qan c2 ?_;rintro v U ⟨rfl,rfl⟩;generalize hxs:s.targets.map rawX++s.exps.map rawX=xs;have hxl:xs.length=s.targets.length+s.exps.length:=by rw[←hxs];simp
  simp;refine qaC (fun e U=>e.get 4=some (grV 2 (xs++s.elems.map rawE))∧e.get 3=some (.ptr 1 0 0 1)∧U=grS B (xs++s.elems.map rawE)) ?_ ?_
  ·refine qap (fun j e S'=>∃i:Nat,j=s.elems.length - i∧i≤s.elems.length∧S'=grS B (xs++(s.elems.map rawE).take i)∧
    e=[(5,.int .i64 i),(4,grV 2 (xs++(s.elems.map rawE).take i)),(3,.ptr 1 0 0 1)]) s.elems.length _ ?_ ⟨0,by simp,by omega,by simp,rfl⟩ ?_
   ·exact Env.so (by simp)
   rintro j e S' ⟨i,rfl,hi,rfl,rfl⟩;by_cases h:i<s.elems.length
   ·have ha:=qnz (S:=B) (xs:=xs++(s.elems.map rawE).take i) (y:=rawE s.elems[i]) (qcw (.el s.elems[i])) (by simp;omega)
    have hn:xs++(s.elems.map rawE).take i++[rawE s.elems[i]]=xs++(s.elems.map rawE).take (i+1):=by
     rw[qtQ,qtV,qtF h,qtU,qug,qt1]
    rw[hn,hBl] at ha;have hf:fits 25 [rawE s.elems[i]]=true:=qcw (.el s.elems[i]);generalize hr:rawE s.elems[i]=y at ha hf;have hb:qal (.agg [.int .i64 0,.sl true [],.int .i64 0,.str ⟨⟨[]⟩⟩,.sl true [],.sl true [],.sl true [],.sl true [],.sl true [],.int .i64 0,.bool false,.int .i64 0,.sl true [],.sl true [],.sl true [],.sl true [],.int .i64 0,.sl true [],.int .i64 0,.int .i64 0,.int .i64 0,.int .i64 0,.int .i64 0,.str ⟨⟨[]⟩⟩,.sl true []]) [(0,1,.int .i64 3),(16,2,s.elems[i].v)]=some y:=by rw[←hr];simp[qal,qac,rawE]
    simp[h,ldS,hb1,iaEl,qah,hb,hf,ha,qaK (n:=(i:Int)+1)];refine ⟨_,?_,_,?_,i+1,rfl,by omega,rfl,rfl⟩
    ·omega
    ·exact Env.so (by simp)
   ·have:i=s.elems.length:=by omega
    subst this;simp[ldS,hb1];rw[qud (by simp)];exact ⟨rfl,rfl⟩
  rintro e U ⟨g4,g3,rfl⟩;generalize hxs2:xs++s.elems.map rawE=ys at *;have hyl:ys.length=s.targets.length+s.exps.length+s.elems.length:=by rw[←hxs2];simp;omega
  simp[g3,g4];refine qaC (fun e U=>e.get 4=some (grV 2 (ys++s.decls.map rawD))∧e.get 3=some (.ptr 1 0 0 1)∧U=grS B (ys++s.decls.map rawD)) ?_ ?_
  ·refine qap (fun j e S'=>∃i:Nat,j=s.decls.length - i∧i≤s.decls.length∧S'=grS B (ys++(s.decls.map rawD).take i)∧
    e=[(6,.int .i64 i),(4,grV 2 (ys++(s.decls.map rawD).take i)),(3,.ptr 1 0 0 1)]) s.decls.length _ ?_ ⟨0,by simp,by omega,by simp,rfl⟩ ?_
   ·repeat' first|exact Env.sub_nil _|refine Env.sub_cons (by simp[g3,g4]) ?_
   rintro j e S' ⟨i,rfl,hi,rfl,rfl⟩;by_cases h:i<s.decls.length
   ·have ha:=qnz (S:=B) (xs:=ys++(s.decls.map rawD).take i) (y:=rawD s.decls[i]) (qcw (.de s.decls[i])) (by simp;omega)
    have hn:ys++(s.decls.map rawD).take i++[rawD s.decls[i]]=ys++(s.decls.map rawD).take (i+1):=by
     rw[qtQ,qtV,qtF h,qtU,qug,qt1]
    rw[hn,hBl] at ha;have hf:fits 25 [rawD s.decls[i]]=true:=qcw (.de s.decls[i]);generalize hr:rawD s.decls[i]=y at ha hf;have hb:qal (.agg [.int .i64 0,.sl true [],.int .i64 0,.str ⟨⟨[]⟩⟩,.sl true [],.sl true [],.sl true [],.sl true [],.sl true [],.int .i64 0,.bool false,.int .i64 0,.sl true [],.sl true [],.sl true [],.sl true [],.int .i64 0,.sl true [],.int .i64 0,.int .i64 0,.int .i64 0,.int .i64 0,.int .i64 0,.str ⟨⟨[]⟩⟩,.sl true []]) [(0,1,.int .i64 2),(9,7,s.decls[i].v)]=some y:=by rw[←hr];simp[qal,qac,rawD]
    simp[h,ldS,hb1,iaDe,qah,hb,hf,ha,qaK (n:=(i:Int)+1)];refine ⟨_,?_,_,?_,i+1,rfl,by omega,rfl,rfl⟩
    ·omega
    ·exact Env.so (by simp)
   ·have:i=s.decls.length:=by omega
    subst this;simp[ldS,hb1];rw[qud (by simp)];exact ⟨rfl,rfl⟩
  clear g3 g4;rintro e U ⟨g4,g3,rfl⟩;have c3:=qli B (ys++s.decls.map rawD) s.body (by simp;omega);rw[hBl] at c3;simp[g3,g4,ldS,hb1];refine qan c3 ?_;rintro v U ⟨rfl,rfl⟩;simp
  have hz:ys++s.decls.map rawD++s.body.map rawS=(Pa.st s).kids.map Pa.raw:=by
   rw[←hxs2,←hxs,mapX,mapX,mapE,mapD,mapS];simp only[Pa.kids,qtX,qt1]
  rw[←qt1,hz,←hBl];exact qd3 (by simp)
theorem iaPa{l:List Pa}{i:Nat}(h:i<l.length)(b:Bool)(S:St):iaS S 25 (.sl b (l.map Pa.v)) i=some (.iptr (Pa.v l[i]) 0):=qik (f:=Pa.v) (fun _=>rfl) h b S
theorem qdh:∀l:List Pa,(∀p,p∈l→p.depth≤p.size)→qbl l≤qaD l
 | [],_=>qtH _
 | p::l,h=>by
  have h1:=h p (by simp);have h2:=qdh l fun q hq=>h q (by simp[hq])
  rw[depths_cons,sizes_cons];omega
theorem qg2:∀(k:Nat) (p:Pa),p.wt≤k→p.depth≤p.size:=by
 intro k
 induction k with
 | zero=>intro p h;exfalso;cases p with
  | st s=>cases s;simp[Pa.wt] at h
  | de s=>cases s;simp[Pa.wt] at h
  | el s=>cases s;simp[Pa.wt] at h
  | ex s=>cases s;simp[Pa.wt] at h
 | succ k ih=>
  intro p hw;rw[Pa.depth_eq,Pa.size_eq];have:=qdh p.kids fun q hq=>ih q (by have:=Pa.kid_lt hq;omega)
  have:=p.own_pos;omega
def qc1(z:Nat)(n:Int):Int:=if (z:Int)≤n then n - z else -1
theorem qqq:∀(k:Nat) (p:Pa),p.wt≤k→p.ok→∀n:Int,0≤n→n≤2000→∀S,Fn prog 174 [p.v,.int .i64 n] S (.int .i64 (qc1 p.size n)):=by
 intro k
 induction k with
 | zero=>intro p h;exfalso;cases p with
  | st s=>cases s;simp[Pa.wt] at h
  | de s=>cases s;simp[Pa.wt] at h
  | el s=>cases s;simp[Pa.wt] at h
  | ex s=>cases s;simp[Pa.wt] at h
 | succ k ih=>
  intro p hw hp n hn0 hn1;refine Pu.ib func174 ok174 (by simp[c174]) (by simp[V.under]) rfl ?_;have ho:=Pa.own_le hp;have hs:=p.size_eq;have hlen:=qaR p.kids;unfold B50 at ho
  have hkl:p.kids.length≤9007199254740992:=by
   rw[qdv]
   cases p with
   | st s=>
    have o:=(Sm.ok_iff s).1 hp;have o1:=o.targets.1;have o2:=o.exps.1;have o3:=o.elems.1;have o4:=o.decls.1;have o5:=o.body.1;unfold B50 at o1 o2 o3 o4 o5;simp only;omega
   | de d=>
    have o:=(De.ok_iff d).1 hp;have o1:=o.exps.1;have o2:=o.body.1;unfold B50 at o1 o2;simp only;omega
   | el e=>have:=hp.1;unfold B50 at this;simp only;omega
   | ex x=>have:=(Ex.ok_args hp).1;unfold B50 at this;simp only;omega
  have w1:IntKind.i64.wrap ((p.own:Int)+p.kids.length)=(p.own:Int)+p.kids.length:=qaz (by omega) (by omega);have w2:IntKind.i64.wrap (n - p.own)=n - p.own:=qaz (by omega) (by omega);simp[c174,boxS,ldS];refine qa6 (qma p hp _) ?_;simp[ldS];refine qa6 (qp1 p hp _) ?_;simp[dend,qbe,qbj,ldS,w1];by_cases hbig:n<(p.own:Int)+p.kids.length
  ·simp[hbig];refine qaa rfl ?_ rfl;unfold qc1;rw[if_neg (by omega)];rfl
  simp[hbig,ldS];refine qag (qma p hp _) ?_;simp[ldS,w2];refine qag (qfE p hp (by omega) _) ?_;simp;refine qaC (fun e U=>e.get 1=some (.int .i64 (qc1 p.size n))) ?_ ?_
  ·refine qap (fun j e S'=>∃i:Nat,j=p.kids.length - i∧i≤p.kids.length∧
    e=[(6,.int .i64 i),(5,.sl false (p.kids.map Pa.v)),(1,.int .i64 (qc1 (qaD (p.kids.take i)) (n - p.own)))]) p.kids.length _ ?_ ⟨0,by simp,by omega,rfl⟩ ?_
   ·have hz:qc1 0 (n - p.own)=n - p.own:=by unfold qc1;rw[if_pos (by omega)];omega
    repeat' first|exact Env.sub_nil _|refine Env.sub_cons (by simp[hz]) ?_
   rintro j e S' ⟨i,rfl,hi,rfl⟩;by_cases h:i<p.kids.length
   ·have hq:p.kids[i]?=some p.kids[i]:=by simp[h]
    have q1:=qco hq;have q2:=qaV hq;by_cases h0:(qaD (p.kids.take i):Int)≤n - p.own
    ·have hm:qc1 (qaD (p.kids.take i)) (n - p.own)=n - p.own - qaD (p.kids.take i):=by unfold qc1;rw[if_pos h0]
     have hk:=Pa.kid_lt (qtM h);simp[h,hm,show (qaD (p.kids.take i):Int)≤n - p.own by omega,iaPa];refine qag (ih p.kids[i] (by omega) (Pa.kid_ok hp (qtM h)) _ (by omega) (by omega) _) ?_;simp[qaK (n:=(i:Int)+1)];refine ⟨_,?_,_,?_,i+1,rfl,by omega,rfl⟩
     ·omega
     ·exact Env.sub_cons (k:=6) (v:=.int .i64 (i+1:Nat)) (by simp) (Env.sub_cons (k:=5) (v:=.sl false (p.kids.map Pa.v)) (by simp) (Env.sub_cons (k:=1) (v:=.int .i64 (qc1 (qaD (p.kids.take (i+1))) (n - p.own))) (by
      simp;rw[q1];unfold qc1;split <;> split <;> omega) (Env.sub_nil _)))
    ·have hm:qc1 (qaD (p.kids.take i)) (n - p.own)=-1:=by unfold qc1;rw[if_neg h0]
     simp[h,hm];unfold qc1;rw[if_neg (by omega)]
   ·have:i=p.kids.length:=by omega
    subst this;simp;unfold qc1;split <;> split <;> omega
  ·rintro e U g;simp[g];exact qaa (vs:=[.int .i64 (qc1 p.size n)]) (by simp) rfl rfl
theorem qqh:∀(k:Nat) (p:Pa),p.wt≤k→p.ok→p.size≤2000→∀S,Fn prog 188 [p.v] S (.int .i64 p.depth):=by
 intro k
 induction k with
 | zero=>intro p h;exfalso;cases p with
  | st s=>cases s;simp[Pa.wt] at h
  | de s=>cases s;simp[Pa.wt] at h
  | el s=>cases s;simp[Pa.wt] at h
  | ex s=>cases s;simp[Pa.wt] at h
 | succ k ih=>
  intro p hw hp hsz;refine Pu.ib func188 ok188 (by simp[c188]) (by simp) rfl ?_;have hs:=p.size_eq;have hlen:=qaR p.kids;have hown:=p.own_pos;have hd:=p.depth_eq;have hds:=qg2 _ p (qtH _);simp[c188,boxS,ldS];refine qag (qfE p hp (by omega) _) ?_;simp;refine qaC (fun e U=>e.get 3=some (.int .i64 (qbl p.kids))) ?_ ?_
  ·refine qap (fun j e S'=>∃i:Nat,j=p.kids.length - i∧i≤p.kids.length∧
    e=[(5,.int .i64 i),(4,.sl false (p.kids.map Pa.v)),(3,.int .i64 (qbl (p.kids.take i)))]) p.kids.length _ ?_ ⟨0,by simp,by omega,rfl⟩ ?_
   ·exact Env.so (by simp)
   rintro j e S' ⟨i,rfl,hi,rfl⟩;by_cases h:i<p.kids.length
   ·have hq:p.kids[i]?=some p.kids[i]:=by simp[h]
    have q1:=qb8 hq;have q2:=qaV hq;have hk:=Pa.kid_lt (qtM h);simp[h,iaPa];refine qag (ih p.kids[i] (by omega) (Pa.kid_ok hp (qtM h)) (by omega) _) ?_;simp[evX,mmV,qaK (n:=(i:Int)+1)];refine ⟨_,?_,_,?_,i+1,rfl,by omega,rfl⟩
    ·omega
    ·exact Env.sub_cons (k:=5) (v:=.int .i64 (i+1:Nat)) (by simp) (Env.sub_cons (k:=4) (v:=.sl false (p.kids.map Pa.v)) (by simp) (Env.sub_cons (k:=3) (v:=.int .i64 (qbl (p.kids.take (i+1)))) (by
     simp;rw[q1];split <;> omega) (Env.sub_nil _)))
   ·have:i=p.kids.length:=by omega
    subst this;simp
  ·rintro e U g;simp[g,qaz (n:=1+(qbl p.kids:Int)) (by omega) (by omega)];exact qaa (vs:=[.int .i64 (1+qbl p.kids)]) (by simp) (by simp[retV,hd]) rfl
theorem qid(p:Pa)(hp:p.ok):∀S,Fn prog 159 [p.v] S (.bool (decide p.fits)):=by
 refine Pu.ib func159 ok159 (by simp[c159]) (by simp) rfl ?_;simp[c159,boxS,ldS];refine qag (qqq _ p (qtH _) hp 2000 (by omega) (by omega) _) ?_;by_cases h:p.size≤2000
 ·have hm:qc1 p.size 2000=2000 - p.size:=by unfold qc1;rw[if_pos (by omega)]
  simp[hm,show (p.size:Int)≤2000 by omega,ldS];refine qag (qqh _ p (qtH _) hp h _) ?_;simp;exact qaa rfl (by simp[retV,Pa.fits,h];omega) rfl
 ·have hm:qc1 p.size 2000=-1:=by unfold qc1;rw[if_neg (by omega)]
  simp[hm];exact qaa rfl (by simp[retV,Pa.fits,h]) rfl
theorem qaA{P:Program}{a b:C'}{Q:Post}{e:Env}{S:St}(M:Env→St→Prop)(h1:WP P a (qdQ M Q) e S)(h2:∀e S,M e S→WP P b Q e S):WP P (.seq a b) Q e S:=by
 rw[qjg];exact qo3 M h1 h2
def qo1(l m:List ByteArray)(i:Nat):Prop:=∀j,j<i→l[j]?=m[j]?
theorem qjY{l m:List ByteArray}(hl:l.length=m.length)(h:qo1 l m l.length):l=m:=by
 apply quQ;intro i;by_cases hi:i<l.length
 ·exact h i hi
 ·rw[qur (by omega),qur (by omega)]
theorem qmy(l m:List ByteArray)(hl:l.length≤B50):∀S,Fn prog 233 [.sl false (l.map .str),.sl false (m.map .str)] S (.bool (decide (l=m))):=by
 refine Pu.ib func233 ok233 (by simp[c233]) (by simp[V.under]) rfl ?_;unfold B50 at hl;by_cases hlen:l.length=m.length
 case neg=>
  have hne:¬ l=m:=fun h=>hlen (by rw[h])
  simp only[decide_eq_false hne];simp[c233,show ¬ ((l.length:Int)=m.length) by omega];exact qaa rfl rfl rfl
 generalize hd:decide (l=m)=b;simp only[c233];simp[hlen];refine qap (fun j e S'=>∃i:Nat,j=l.length - i∧i≤l.length∧qo1 l m i∧
  e=[(5,.int .i64 i),(0,.sl false (l.map .str)),(1,.sl false (m.map .str))]) l.length _ ?_ ⟨0,by simp,by omega,fun j hj=>by omega,rfl⟩ ?_
 ·exact Env.so (by simp)
 rintro j e S' ⟨i,rfl,hi,hq,rfl⟩;by_cases h:i<l.length
 ·have h':i<m.length:=by omega
  by_cases hx:l[i]=m[i]
  ·simp[h,h',qdp,dend,qbe,qbj,hx,qaK (n:=(i:Int)+1)];refine ⟨_,?_,_,?_,i+1,rfl,by omega,?_,rfl⟩
   ·omega
   ·exact Env.so (by simp)
   ·intro j hj;by_cases hji:j=i
    ·subst hji;simp[h,h',hx]
    ·exact hq j (by omega)
  ·simp[h,h',qdp,dend,qbe,qbj,hx];refine qaa rfl ?_ rfl;rw[←hd];have:¬ l=m:=fun hh=>hx (by simp[hh])
   simp[retV,this]
 ·have:i=l.length:=by omega
  subst this;simp;refine qaa rfl ?_ rfl;rw[←hd,decide_eq_true (qjY hlen hq)];rfl
open Classical in
theorem eqFo(f g:Fo):qbh [.str f.name,.bool f.value,.int .i64 f.spec,.int .i64 f.type] [.str g.name,.bool g.value,.int .i64 g.spec,.int .i64 g.type] [(0,.s),(1,.b),(2,.i),(3,.i)]=some (decide (f=g)):=by
 by_cases h1:f.name=g.name
 ·by_cases h2:f.value=g.value
  ·by_cases h3:f.spec=g.spec
   ·by_cases h4:f.type=g.type
    ·have:f=g:=by cases f;cases g;simp at *;exact ⟨h1,h2,h3,h4⟩
     simp[qbh,qcK,this]
    ·have hb:(f.type==g.type)=false:=by simpa using h4
     have:¬ f=g:=fun h=>h4 (by rw[h])
     simp[qbh,qcK,h1,h2,h3,hb,this]
   ·have hb:(f.spec==g.spec)=false:=by simpa using h3
    have:¬ f=g:=fun h=>h3 (by rw[h])
    simp[qbh,qcK,h1,h2,hb,this]
  ·have hb:(f.value==g.value)=false:=by simpa using h2
   have:¬ f=g:=fun h=>h2 (by rw[h])
   simp[qbh,qcK,h1,hb,this]
 ·have hb:(f.name.data.toList==g.name.data.toList)=false:=by
   rw[beq_eq_false_iff_ne];intro hh;exact h1 (ByteArray.ext (Array.ext' hh))
  have:¬ f=g:=fun h=>h1 (by rw[h])
  simp[qbh,qcK,hb,this]
def EqL1(s t:Sm):Prop:=s.targets.length=t.targets.length∧s.exps.length=t.exps.length∧s.elems.length=t.elems.length∧s.decls.length=t.decls.length∧s.body.length=t.body.length
def EqL2(c d:De)(e f:El)(x y:Ex):Prop:=c.exps.length=d.exps.length∧c.body.length=d.body.length∧e.exps.length=f.exps.length∧x.args.length=y.args.length
def EqS(s t:Sm):Prop:=s.kind=t.kind∧s.text=t.text∧s.labels=t.labels
def EqD(c d:De):Prop:=c.kind=d.kind∧c.own=d.own∧c.type=d.type∧c.names=d.names
def EqX(x y:Ex):Prop:=x.kind=y.kind∧x.op=y.op∧x.n=y.n∧(x.man=y.man∧x.exp=y.exp)∧x.text=y.text
def EqP(k k':Int)(s t:Sm)(c d:De)(e f:El)(x y:Ex):Prop:=(k=k'∧c.formals=d.formals)∧(EqL1 s t∧EqL2 c d e f x y)∧EqS s t∧EqD c d∧e.kind=f.kind∧EqX x y
structure G195(e:Env):Prop where
 g2:e.get 2=some (.ptr 0 0 0 1)
 g3:e.get 3=some (.ptr 1 0 0 1)
 g5:e.get 5=some (.ptr 2 0 0 1)
 g6:e.get 6=some (.ptr 3 0 0 1)
 g7:e.get 7=some (.ptr 4 0 0 1)
 g8:e.get 8=some (.ptr 5 0 0 1)
structure H195(e:Env):Prop where
 g:G195 e
 g10:e.get 10=some (.ptr 6 0 0 1)
 g11:e.get 11=some (.ptr 7 0 0 1)
def qsW(l m:List Fo)(i:Nat):Prop:=∀j,j<i→l[j]?=m[j]?
theorem qlr{l m:List Fo}(hl:l.length=m.length)(h:qsW l m l.length):l=m:=by
 apply quQ;intro i;by_cases hi:i<l.length
 ·exact h i hi
 ·rw[qur (by omega),qur (by omega)]
open Classical in
theorem qgy(k k':Int)(s t:Sm)(c d:De)(e f:El)(x y:Ex)(hs:s.ok)(hc:c.ok):∀S,Fn prog 195 [paV k s c e x,paV k' t d f y] S (.bool (decide (EqP k k' s t c d e f x y))):=by
 refine Pu.ib func195 ok195 (by simp[c195]) (by simp) rfl ?_;have hO:=(Sm.ok_iff s).1 hs;have hP:=(De.ok_iff c).1 hc;have hfl:=hP.formals.1;unfold B50 at hfl;obtain ⟨S6,hS6⟩:∃S6:St,S6=[.arr [paV k s c e x] 25 1,.arr [paV k' t d f y] 25 1,.arr [s.v] 8 1,.arr [t.v] 8 1,.arr [c.v] 7 1,.arr [d.v] 7 1]:=⟨_,rfl⟩;obtain ⟨S8,hS8⟩:∃S8:St,S8=[.arr [paV k s c e x] 25 1,.arr [paV k' t d f y] 25 1,.arr [s.v] 8 1,.arr [t.v] 8 1,.arr [c.v] 7 1,.arr [d.v] 7 1,.arr [x.v] 7 1,.arr [y.v] 7 1]:=⟨_,rfl⟩;have h60:S6[0]?=some (.arr [paV k s c e x] 25 1):=by rw[hS6];rfl
 have h61:S6[1]?=some (.arr [paV k' t d f y] 25 1):=by rw[hS6];rfl
 have h64:S6[4]?=some (.arr [c.v] 7 1):=by rw[hS6];rfl
 have h65:S6[5]?=some (.arr [d.v] 7 1):=by rw[hS6];rfl
 have h80:S8[0]?=some (.arr [paV k s c e x] 25 1):=by rw[hS8];rfl
 have h81:S8[1]?=some (.arr [paV k' t d f y] 25 1):=by rw[hS8];rfl
 have h82:S8[2]?=some (.arr [s.v] 8 1):=by rw[hS8];rfl
 have h83:S8[3]?=some (.arr [t.v] 8 1):=by rw[hS8];rfl
 have h84:S8[4]?=some (.arr [c.v] 7 1):=by rw[hS8];rfl
 have h85:S8[5]?=some (.arr [d.v] 7 1):=by rw[hS8];rfl
 have h86:S8[6]?=some (.arr [x.v] 7 1):=by rw[hS8];rfl
 have h87:S8[7]?=some (.arr [y.v] 7 1):=by rw[hS8];rfl
 have hX:∀z:Ex,z.v=.agg [.int .i64 z.kind,.int .i64 z.op,.int .i64 z.n,.int .i64 z.man,.int .i64 z.exp,.str z.text,.sl false (z.args.map Ex.v)]:=Ex.v_eq;generalize hres:decide (EqP k k' s t c d e f x y)=res;simp only[c195];refine qaA (fun E U=>E.get 2=some (.ptr 0 0 0 1)∧E.get 3=some (.ptr 1 0 0 1)∧U=[.arr [paV k s c e x] 25 1,.arr [paV k' t d f y] 25 1]) (by simp[boxS,qbB]) ?_;rintro E U ⟨g2,g3,rfl⟩;refine qaA (fun E U=>E.get 2=some (.ptr 0 0 0 1)∧E.get 3=some (.ptr 1 0 0 1)∧E.get 5=some (.ptr 2 0 0 1)∧E.get 6=some (.ptr 3 0 0 1)∧U=[.arr [paV k s c e x] 25 1,.arr [paV k' t d f y] 25 1,.arr [s.v] 8 1,.arr [t.v] 8 1]) ?_ ?_
 ·simp[g2,g3,phs,ldS,stS,qac,dend,qbe,qbj]
 clear g2 g3 E;rintro E U ⟨g2,g3,g5,g6,rfl⟩;refine qaA (fun E U=>G195 E∧U=S6) ?_ ?_
 ·simp[g2,g3,phs,ldS,stS,qac,dend,qbe,qbj];exact ⟨⟨by simp[g2],by simp[g3],by simp[g5],by simp[g6],by simp,by simp⟩,hS6.symm⟩
 clear g2 g3 g5 g6 E;rintro E U ⟨⟨g2,g3,g5,g6,g7,g8⟩,hU⟩;rw[hU];clear hU U;refine qaA (fun E U=>G195 E∧U=S6∧k=k'∧c.formals.length=d.formals.length) ?_ ?_
 ·by_cases hk:k=k'
  case neg=>
   simp[g2,g3,g7,g8,ldS,h60,h61,h64,h65,hk];refine qaa rfl ?_ rfl;rw[←hres,decide_eq_false (fun h=>hk h.1.1)];rfl
  by_cases hf:c.formals.length=d.formals.length
  case neg=>
   simp[g2,g3,g7,g8,ldS,h60,h61,h64,h65,hk,show ¬ ((c.formals.length:Int)=d.formals.length) by omega];refine qaa rfl ?_ rfl;rw[←hres,decide_eq_false (fun h=>hf (by rw[h.1.2]))];rfl
  simp[g2,g3,g7,g8,ldS,h60,h61,h64,h65,hk,hf];exact ⟨by simp[g2],by simp[g3],by simp[g5],by simp[g6],by simp[g7],by simp[g8]⟩
 clear g2 g3 g5 g6 g7 g8 E;rintro E U ⟨⟨g2,g3,g5,g6,g7,g8⟩,hU,hkk,hff⟩;rw[hU];clear hU U;refine qaA (fun E U=>G195 E∧U=S6∧c.formals=d.formals) ?_ ?_
 ·simp;refine qaC (fun E U=>G195 E∧U=S6∧c.formals=d.formals) ?_ (fun E U h=>h);refine qap (fun j E U=>∃i:Nat,j=c.formals.length - i∧i≤c.formals.length∧qsW c.formals d.formals i∧U=S6∧
   E=[(9,.int .i64 i),(2,.ptr 0 0 0 1),(3,.ptr 1 0 0 1),(5,.ptr 2 0 0 1),(6,.ptr 3 0 0 1),(7,.ptr 4 0 0 1),(8,.ptr 5 0 0 1)]) c.formals.length _ ?_ ⟨0,by simp,by omega,fun j hj=>by omega,rfl,rfl⟩ ?_
  ·repeat' first|exact Env.sub_nil _|refine Env.sub_cons (by simp[g2,g3,g5,g6,g7,g8]) ?_
  rintro j E' U ⟨i,rfl,hi,hq,hU,rfl⟩;rw[hU];clear hU U;by_cases h:i<c.formals.length
  ·have h':i<d.formals.length:=by omega
   have hef:=eqFo c.formals[i] d.formals[i];by_cases hx:c.formals[i]=d.formals[i]
   ·rw[decide_eq_true hx] at hef;simp[h,h',ldS,h64,h65,iaFo,evX,Fo.v,qaf,hef,dend,qbe,qbj,qaK (n:=(i:Int)+1)];refine ⟨_,?_,_,?_,i+1,rfl,by omega,?_,rfl⟩
    ·omega
    ·exact Env.so (by simp)
    ·intro j hj;by_cases hji:j=i
     ·subst hji;simp[h,h',hx]
     ·exact hq j (by omega)
   ·rw[decide_eq_false hx] at hef;simp[h,h',ldS,h64,h65,iaFo,evX,Fo.v,qaf,hef,dend,qbe,qbj];refine qaa rfl ?_ rfl;rw[←hres,decide_eq_false (fun hh=>hx (by simp[hh.1.2]))];rfl
  ·have:i=c.formals.length:=by omega
   subst this;simp[h,ldS,h64,h65];exact ⟨⟨by simp,by simp,by simp,by simp,by simp,by simp⟩,qlr hff hq⟩
 clear g2 g3 g5 g6 g7 g8 E;rintro E U ⟨⟨g2,g3,g5,g6,g7,g8⟩,hU,hfo⟩;rw[hU];clear hU U;refine qaA (fun E U=>H195 E∧U=S8) ?_ ?_
 ·simp only[hS6];simp[g2,g3,phs,ldS,stS,qac,dend,qbe,qbj];exact ⟨⟨⟨by simp[g2],by simp[g3],by simp[g5],by simp[g6],by simp[g7],by simp[g8]⟩,by simp,by simp⟩,hS8.symm⟩
 clear g2 g3 g5 g6 g7 g8 E;rintro E U ⟨⟨⟨g2,g3,g5,g6,g7,g8⟩,g10,g11⟩,hU⟩;rw[hU];clear hU U;refine qaA (fun E U=>H195 E∧E.get 12=some (.bool (decide (EqL1 s t)))∧U=S8) ?_ ?_
 ·generalize hv:decide (EqL1 s t)=v;by_cases a0:s.targets.length=t.targets.length
  case neg=>
   simp[g2,g3,g5,g6,g7,g8,g10,g11,ldS,h80,h81,h82,h83,h84,h85,h86,h87,show ¬ ((s.targets.length:Int)=t.targets.length) by omega];refine ⟨⟨⟨by simp[g2],by simp[g3],by simp[g5],by simp[g6],by simp[g7],by simp[g8]⟩,by simp[g10],by simp[g11]⟩,by rw[←hv,decide_eq_false (fun hh:EqL1 s t=>a0 hh.1)]⟩
  by_cases a1:s.exps.length=t.exps.length
  case neg=>
   simp[g2,g3,g5,g6,g7,g8,g10,g11,ldS,h80,h81,h82,h83,h84,h85,h86,h87,a0,show ¬ ((s.exps.length:Int)=t.exps.length) by omega];refine ⟨⟨⟨by simp[g2],by simp[g3],by simp[g5],by simp[g6],by simp[g7],by simp[g8]⟩,by simp[g10],by simp[g11]⟩,by rw[←hv,decide_eq_false (fun hh:EqL1 s t=>a1 hh.2.1)]⟩
  by_cases a2:s.elems.length=t.elems.length
  case neg=>
   simp[g2,g3,g5,g6,g7,g8,g10,g11,ldS,h80,h81,h82,h83,h84,h85,h86,h87,a0,a1,show ¬ ((s.elems.length:Int)=t.elems.length) by omega];refine ⟨⟨⟨by simp[g2],by simp[g3],by simp[g5],by simp[g6],by simp[g7],by simp[g8]⟩,by simp[g10],by simp[g11]⟩,by rw[←hv,decide_eq_false (fun hh:EqL1 s t=>a2 hh.2.2.1)]⟩
  by_cases a3:s.decls.length=t.decls.length
  case neg=>
   simp[g2,g3,g5,g6,g7,g8,g10,g11,ldS,h80,h81,h82,h83,h84,h85,h86,h87,a0,a1,a2,show ¬ ((s.decls.length:Int)=t.decls.length) by omega];refine ⟨⟨⟨by simp[g2],by simp[g3],by simp[g5],by simp[g6],by simp[g7],by simp[g8]⟩,by simp[g10],by simp[g11]⟩,by rw[←hv,decide_eq_false (fun hh:EqL1 s t=>a3 hh.2.2.2.1)]⟩
  by_cases a4:s.body.length=t.body.length
  case neg=>
   simp[g2,g3,g5,g6,g7,g8,g10,g11,ldS,h80,h81,h82,h83,h84,h85,h86,h87,a0,a1,a2,a3,show ¬ ((s.body.length:Int)=t.body.length) by omega];refine ⟨⟨⟨by simp[g2],by simp[g3],by simp[g5],by simp[g6],by simp[g7],by simp[g8]⟩,by simp[g10],by simp[g11]⟩,by rw[←hv,decide_eq_false (fun hh:EqL1 s t=>a4 hh.2.2.2.2)]⟩
  simp[g2,g3,g5,g6,g7,g8,g10,g11,ldS,h80,h81,h82,h83,h84,h85,h86,h87,a0,a1,a2,a3,a4];refine ⟨⟨⟨by simp[g2],by simp[g3],by simp[g5],by simp[g6],by simp[g7],by simp[g8]⟩,by simp[g10],by simp[g11]⟩,by rw[←hv,decide_eq_true ⟨a0,a1,a2,a3,a4⟩]⟩
 clear g2 g3 g5 g6 g7 g8 g10 g11 E;rintro E U ⟨⟨⟨g2,g3,g5,g6,g7,g8⟩,g10,g11⟩,g12,hU⟩;rw[hU];clear hU U;refine qaA (fun E U=>H195 E∧E.get 12=some (.bool (decide (EqL1 s t∧EqL2 c d e f x y)))∧U=S8) ?_ ?_
 ·generalize hv:decide (EqL1 s t∧EqL2 c d e f x y)=v;by_cases b0:EqL1 s t
  case neg=>
   rw[decide_eq_false b0] at g12;simp[g2,g3,g5,g6,g7,g8,g10,g11,ldS,h80,h81,h82,h83,h84,h85,h86,h87,g12];refine ⟨⟨⟨by simp[g2],by simp[g3],by simp[g5],by simp[g6],by simp[g7],by simp[g8]⟩,by simp[g10],by simp[g11]⟩,by rw[←hv,decide_eq_false (fun hh=>b0 hh.1)]⟩
  rw[decide_eq_true b0] at g12;by_cases a0:c.exps.length=d.exps.length
  case neg=>
   simp[g2,g3,g5,g6,g7,g8,g10,g11,ldS,h80,h81,h82,h83,h84,h85,h86,h87,g12,show ¬ ((c.exps.length:Int)=d.exps.length) by omega];refine ⟨⟨⟨by simp[g2],by simp[g3],by simp[g5],by simp[g6],by simp[g7],by simp[g8]⟩,by simp[g10],by simp[g11]⟩,by rw[←hv,decide_eq_false (fun hh:EqL1 s t∧EqL2 c d e f x y=>a0 hh.2.1)]⟩
  by_cases a1:c.body.length=d.body.length
  case neg=>
   simp[g2,g3,g5,g6,g7,g8,g10,g11,ldS,h80,h81,h82,h83,h84,h85,h86,h87,a0,g12,show ¬ ((c.body.length:Int)=d.body.length) by omega];refine ⟨⟨⟨by simp[g2],by simp[g3],by simp[g5],by simp[g6],by simp[g7],by simp[g8]⟩,by simp[g10],by simp[g11]⟩,by rw[←hv,decide_eq_false (fun hh:EqL1 s t∧EqL2 c d e f x y=>a1 hh.2.2.1)]⟩
  by_cases a2:e.exps.length=f.exps.length
  case neg=>
   simp[g2,g3,g5,g6,g7,g8,g10,g11,ldS,h80,h81,h82,h83,h84,h85,h86,h87,a0,a1,g12,show ¬ ((e.exps.length:Int)=f.exps.length) by omega];refine ⟨⟨⟨by simp[g2],by simp[g3],by simp[g5],by simp[g6],by simp[g7],by simp[g8]⟩,by simp[g10],by simp[g11]⟩,by rw[←hv,decide_eq_false (fun hh:EqL1 s t∧EqL2 c d e f x y=>a2 hh.2.2.2.1)]⟩
  by_cases a3:x.args.length=y.args.length
  case neg=>
   simp[g2,g3,g5,g6,g7,g8,g10,g11,ldS,h80,h81,h82,h83,h84,h85,h86,h87,a0,a1,a2,g12,show ¬ ((x.args.length:Int)=y.args.length) by omega];refine ⟨⟨⟨by simp[g2],by simp[g3],by simp[g5],by simp[g6],by simp[g7],by simp[g8]⟩,by simp[g10],by simp[g11]⟩,by rw[←hv,decide_eq_false (fun hh:EqL1 s t∧EqL2 c d e f x y=>a3 hh.2.2.2.2)]⟩
  simp[g2,g3,g5,g6,g7,g8,g10,g11,ldS,h80,h81,h82,h83,h84,h85,h86,h87,a0,a1,a2,a3,g12];refine ⟨⟨⟨by simp[g2],by simp[g3],by simp[g5],by simp[g6],by simp[g7],by simp[g8]⟩,by simp[g10],by simp[g11]⟩,by rw[←hv,decide_eq_true ⟨b0,a0,a1,a2,a3⟩]⟩
 clear g2 g3 g5 g6 g7 g8 g10 g11 g12 E;rintro E U ⟨⟨⟨g2,g3,g5,g6,g7,g8⟩,g10,g11⟩,g12,hU⟩;rw[hU];clear hU U;refine qaA (fun E U=>H195 E∧E.get 12=some (.bool (decide (EqL1 s t∧EqL2 c d e f x y)))∧E.get 13=some (.bool (decide (EqS s t)))∧U=S8) ?_ ?_
 ·generalize hv:decide (EqS s t)=v;generalize decide (EqL1 s t∧EqL2 c d e f x y)=v12 at *;by_cases a0:s.kind=t.kind
  case neg=>
   simp[g2,g3,g5,g6,g7,g8,g10,g11,ldS,h80,h81,h82,h83,h84,h85,h86,h87,a0];refine ⟨⟨⟨by simp[g2],by simp[g3],by simp[g5],by simp[g6],by simp[g7],by simp[g8]⟩,by simp[g10],by simp[g11]⟩,by simp[g12],by rw[←hv,decide_eq_false (fun hh:EqS s t=>a0 hh.1)]⟩
  by_cases a1:s.text=t.text
  case neg=>
   simp[g2,g3,g5,g6,g7,g8,g10,g11,ldS,h80,h81,h82,h83,h84,h85,h86,h87,a0,a1];refine ⟨⟨⟨by simp[g2],by simp[g3],by simp[g5],by simp[g6],by simp[g7],by simp[g8]⟩,by simp[g10],by simp[g11]⟩,by simp[g12],by rw[←hv,decide_eq_false (fun hh:EqS s t=>a1 hh.2.1)]⟩
  simp[g2,g3,g5,g6,g7,g8,g10,g11,ldS,h80,h81,h82,h83,h84,h85,h86,h87,a0,a1];refine qag (qmy s.labels t.labels hO.labels.1 _) ?_;by_cases a2:s.labels=t.labels
  case neg=>
   simp[a2];refine ⟨⟨⟨by simp[g2],by simp[g3],by simp[g5],by simp[g6],by simp[g7],by simp[g8]⟩,by simp[g10],by simp[g11]⟩,by simp[g12],by rw[←hv,decide_eq_false (fun hh:EqS s t=>a2 hh.2.2)]⟩
  simp[g2,g3,g5,g6,g7,g8,g10,g11,ldS,h80,h81,h82,h83,h84,h85,h86,h87,a0,a1,a2];refine ⟨⟨⟨by simp[g2],by simp[g3],by simp[g5],by simp[g6],by simp[g7],by simp[g8]⟩,by simp[g10],by simp[g11]⟩,by simp[g12],by rw[←hv,decide_eq_true ⟨a0,a1,a2⟩]⟩
 clear g2 g3 g5 g6 g7 g8 g10 g11 g12 E;rintro E U ⟨⟨⟨g2,g3,g5,g6,g7,g8⟩,g10,g11⟩,g12,g13,hU⟩;rw[hU];clear hU U;refine qaA (fun E U=>H195 E∧E.get 12=some (.bool (decide (EqL1 s t∧EqL2 c d e f x y)))∧E.get 13=some (.bool (decide (EqS s t)))∧E.get 14=some (.bool (decide (EqD c d)))∧U=S8) ?_ ?_
 ·generalize hv:decide (EqD c d)=v;generalize decide (EqL1 s t∧EqL2 c d e f x y)=v12 at *;generalize decide (EqS s t)=v13 at *;by_cases a0:c.kind=d.kind
  case neg=>
   simp[g2,g3,g5,g6,g7,g8,g10,g11,ldS,h80,h81,h82,h83,h84,h85,h86,h87,eqOk,eqV,a0];refine ⟨⟨⟨by simp[g2],by simp[g3],by simp[g5],by simp[g6],by simp[g7],by simp[g8]⟩,by simp[g10],by simp[g11]⟩,by simp[g12],by simp[g13],by rw[←hv,decide_eq_false (fun hh:EqD c d=>a0 hh.1)]⟩
  by_cases a1:c.own=d.own
  case neg=>
   simp[g2,g3,g5,g6,g7,g8,g10,g11,ldS,h80,h81,h82,h83,h84,h85,h86,h87,a0,eqOk,eqV,eqOk,eqV,show (c.own==d.own)=false by simpa using a1];refine ⟨⟨⟨by simp[g2],by simp[g3],by simp[g5],by simp[g6],by simp[g7],by simp[g8]⟩,by simp[g10],by simp[g11]⟩,by simp[g12],by simp[g13],by rw[←hv,decide_eq_false (fun hh:EqD c d=>a1 hh.2.1)]⟩
  by_cases a2:c.type=d.type
  case neg=>
   simp[g2,g3,g5,g6,g7,g8,g10,g11,ldS,h80,h81,h82,h83,h84,h85,h86,h87,a0,a1,eqOk,eqV,eqOk,eqV,a2];refine ⟨⟨⟨by simp[g2],by simp[g3],by simp[g5],by simp[g6],by simp[g7],by simp[g8]⟩,by simp[g10],by simp[g11]⟩,by simp[g12],by simp[g13],by rw[←hv,decide_eq_false (fun hh:EqD c d=>a2 hh.2.2.1)]⟩
  simp[g2,g3,g5,g6,g7,g8,g10,g11,ldS,h80,h81,h82,h83,h84,h85,h86,h87,a0,a1,a2,eqOk,eqV];refine qag (qmy c.names d.names hP.names.1 _) ?_;by_cases a3:c.names=d.names
  case neg=>
   simp[a3];refine ⟨⟨⟨by simp[g2],by simp[g3],by simp[g5],by simp[g6],by simp[g7],by simp[g8]⟩,by simp[g10],by simp[g11]⟩,by simp[g12],by simp[g13],by rw[←hv,decide_eq_false (fun hh:EqD c d=>a3 hh.2.2.2)]⟩
  simp[g2,g3,g5,g6,g7,g8,g10,g11,ldS,h80,h81,h82,h83,h84,h85,h86,h87,a0,a1,a2,a3,eqOk,eqV];refine ⟨⟨⟨by simp[g2],by simp[g3],by simp[g5],by simp[g6],by simp[g7],by simp[g8]⟩,by simp[g10],by simp[g11]⟩,by simp[g12],by simp[g13],by rw[←hv,decide_eq_true ⟨a0,a1,a2,a3⟩]⟩
 clear g2 g3 g5 g6 g7 g8 g10 g11 g12 g13 E;rintro E U ⟨⟨⟨g2,g3,g5,g6,g7,g8⟩,g10,g11⟩,g12,g13,g14,hU⟩;rw[hU];clear hU U;refine qaA (fun E U=>H195 E∧E.get 12=some (.bool (decide (EqL1 s t∧EqL2 c d e f x y)))∧E.get 13=some (.bool (decide (EqS s t)))∧E.get 14=some (.bool (decide (EqD c d)))∧E.get 15=some (.bool (decide (EqX x y)))∧U=S8) ?_ ?_
 ·generalize hv:decide (EqX x y)=v;generalize decide (EqL1 s t∧EqL2 c d e f x y)=v12 at *;generalize decide (EqS s t)=v13 at *;generalize decide (EqD c d)=v14 at *;by_cases a0:x.kind=y.kind
  case neg=>
   simp[g2,g3,g5,g6,g7,g8,g10,g11,ldS,h80,h81,h82,h83,h84,h85,h86,h87,evX,qa3,a0];refine ⟨⟨⟨by simp[g2],by simp[g3],by simp[g5],by simp[g6],by simp[g7],by simp[g8]⟩,by simp[g10],by simp[g11]⟩,by simp[g12],by simp[g13],by simp[g14],by rw[←hv,decide_eq_false (fun hh:EqX x y=>a0 hh.1)]⟩
  by_cases a1:x.op=y.op
  case neg=>
   simp[g2,g3,g5,g6,g7,g8,g10,g11,ldS,h80,h81,h82,h83,h84,h85,h86,h87,a0,evX,qa3,a1];refine ⟨⟨⟨by simp[g2],by simp[g3],by simp[g5],by simp[g6],by simp[g7],by simp[g8]⟩,by simp[g10],by simp[g11]⟩,by simp[g12],by simp[g13],by simp[g14],by rw[←hv,decide_eq_false (fun hh:EqX x y=>a1 hh.2.1)]⟩
  by_cases a2:x.n=y.n
  case neg=>
   simp[g2,g3,g5,g6,g7,g8,g10,g11,ldS,h80,h81,h82,h83,h84,h85,h86,h87,a0,a1,evX,qa3,a2];refine ⟨⟨⟨by simp[g2],by simp[g3],by simp[g5],by simp[g6],by simp[g7],by simp[g8]⟩,by simp[g10],by simp[g11]⟩,by simp[g12],by simp[g13],by simp[g14],by rw[←hv,decide_eq_false (fun hh:EqX x y=>a2 hh.2.2.1)]⟩
  by_cases a3:x.man=y.man∧x.exp=y.exp
  case neg=>
   simp[g2,g3,g5,g6,g7,g8,g10,g11,ldS,h80,h81,h82,h83,h84,h85,h86,h87,a0,a1,a2,evX,qa3,evX,qa3,a3];refine ⟨⟨⟨by simp[g2],by simp[g3],by simp[g5],by simp[g6],by simp[g7],by simp[g8]⟩,by simp[g10],by simp[g11]⟩,by simp[g12],by simp[g13],by simp[g14],by rw[←hv,decide_eq_false (fun hh:EqX x y=>a3 hh.2.2.2.1)]⟩
  by_cases a4:x.text=y.text
  case neg=>
   simp[g2,g3,g5,g6,g7,g8,g10,g11,ldS,h80,h81,h82,h83,h84,h85,h86,h87,a0,a1,a2,a3,evX,qa3,evX,qa3,a4];refine ⟨⟨⟨by simp[g2],by simp[g3],by simp[g5],by simp[g6],by simp[g7],by simp[g8]⟩,by simp[g10],by simp[g11]⟩,by simp[g12],by simp[g13],by simp[g14],by rw[←hv,decide_eq_false (fun hh:EqX x y=>a4 hh.2.2.2.2)]⟩
  simp[g2,g3,g5,g6,g7,g8,g10,g11,ldS,h80,h81,h82,h83,h84,h85,h86,h87,a0,a1,a2,a3,a4,evX,qa3];refine ⟨⟨⟨by simp[g2],by simp[g3],by simp[g5],by simp[g6],by simp[g7],by simp[g8]⟩,by simp[g10],by simp[g11]⟩,by simp[g12],by simp[g13],by simp[g14],by rw[←hv,decide_eq_true ⟨a0,a1,a2,a3,a4⟩]⟩
 clear g2 g3 g5 g6 g7 g8 g10 g11 g12 g13 g14 E;rintro E U ⟨⟨⟨g2,g3,g5,g6,g7,g8⟩,g10,g11⟩,g12,g13,g14,g15,hU⟩;rw[hU];clear hU U
 have hfin:res=(decide (EqL1 s t∧EqL2 c d e f x y) && decide (EqS s t) && decide (EqD c d) && decide (e.kind=f.kind) && decide (EqX x y)):=by
  rw[←hres,qui];rw[decide_eq_true_eq,qtJ,qtJ,qtJ,qtJ,decide_eq_true_eq,decide_eq_true_eq,decide_eq_true_eq,decide_eq_true_eq,decide_eq_true_eq];unfold EqP;constructor
  ·rintro ⟨_,h2,h3,h4,h5,h6⟩;exact ⟨⟨⟨⟨h2,h3⟩,h4⟩,h5⟩,h6⟩
  ·rintro ⟨⟨⟨⟨h2,h3⟩,h4⟩,h5⟩,h6⟩;exact ⟨⟨hkk,hfo⟩,h2,h3,h4,h5,h6⟩
 generalize decide (EqL1 s t∧EqL2 c d e f x y)=v12 at *;generalize decide (EqS s t)=v13 at *;generalize decide (EqD c d)=v14 at *;generalize decide (EqX x y)=v15 at *
 cases v12 with
 | false=>simp[g12];exact qaa rfl (by rw[hfin];rfl) rfl
 | true=>
  cases v13 with
  | false=>simp[g12,g13];exact qaa rfl (by rw[hfin];rfl) rfl
  | true=>
   cases v14 with
   | false=>simp[g12,g13,g14];exact qaa rfl (by rw[hfin];rfl) rfl
   | true=>
    by_cases he:e.kind=f.kind
    ·simp[g2,g3,ldS,h80,h81,g12,g13,g14,g15,he];exact qaa rfl (by rw[hfin];simp[retV,he]) rfl
    ·simp[g2,g3,ldS,h80,h81,g12,g13,g14,g15,he];exact qaa rfl (by rw[hfin];simp[retV,he]) rfl
theorem qrQ(m e:Int):∀S,Fn prog 226 [.agg [.int .i64 m,.int .i64 e]] S (.bool (rvOk m e)):=by
 refine Pu.intro (R:=fun v=>v=.bool (rvOk m e)) func226 ok226 (by simp[c226]) (by simp[V.under,V.underL]) (by rintro v rfl;rfl) ?_;have hr:rvOk m e=(decide (m=0∧e=0) || (decide (1≤mag m∧mag m<16777216) && (decide (e=-150) || (decide (8388608≤mag m) && decide (-150<e∧e≤150))))):=rfl;generalize hres:rvOk m e=r at hr ⊢
 have fin:∀a:Int,mag m=a→¬ a=0→r=(decide (1≤a∧a<16777216) && (decide (e=-150) || (decide (8388608≤a) && decide (-150<e∧e≤150)))):=fun a ha h0=>by
  have hm:¬ (m=0∧e=0):=fun h=>h0 (by rw[←ha,h.1];rfl)
  rw[hr,decide_eq_false hm,ha];rfl
 have key:∀(E:Env) (S:St) (a:Int),mag m=a→E.get 3=some (.int .i64 a)→E.get 1=some (.ptr 0 0 0 1)→S=[.arr [.agg [.int .i64 m,.int .i64 e]] 2 1]→
   WP prog (match c226.body with|.seq _ (.seq _ (.seq _ b))=>b|x=>x) (endp [.t 2] 0 fun v U=>v=.bool r∧U=[]) E S:=by
  rintro E S a ha g3 g1 rfl;by_cases h0:a=0
  ·have hr0:r=decide (m=0∧e=0):=by
    rw[hr,ha,h0];simp
   by_cases hm:m=0
   ·simp[c226,g3,g1,h0,ldS,hm];exact qaa rfl (by rw[hr0];simp[retV,hm]) rfl
   ·simp[c226,g3,g1,h0,ldS,hm];exact qaa rfl (by rw[hr0];simp[retV,hm]) rfl
  have hf:=fin a ha h0;by_cases h1:a<0
  ·simp[c226,g3,g1,h0,h1,ldS];exact qaa rfl (by rw[hf];simp[retV];omega) rfl
  by_cases h2:16777216≤a
  ·simp[c226,g3,g1,h0,h1,h2,ldS];exact qaa rfl (by rw[hf];simp[retV];omega) rfl
  by_cases h3:e< -150
  ·simp[c226,g3,g1,h0,h1,h2,h3,ldS];exact qaa rfl (by rw[hf];simp[retV];omega) rfl
  by_cases h4:150<e
  ·simp[c226,g3,g1,h0,h1,h2,h3,h4,ldS];exact qaa rfl (by rw[hf];simp[retV];omega) rfl
  by_cases h5:8388608≤a
  ·simp[c226,g3,g1,h0,h1,h2,h3,h4,h5,ldS];exact qaa rfl (by rw[hf];simp[retV];omega) rfl
  ·simp[c226,g3,g1,h0,h1,h2,h3,h4,h5,ldS];refine qaa rfl ?_ rfl;rw[hf];simp only[retV,V.bool.injEq];rw[qui];simp;omega
 by_cases hm:m<0
 ·have ha:mag m=IntKind.i64.wrap (-m):=by unfold mag;rw[if_pos hm]
  have k:=fun E S=>key E S _ ha
  simp only[c226] at k ⊢;refine qaA (fun E S=>E.get 1=some (.ptr 0 0 0 1)∧S=[.arr [.agg [.int .i64 m,.int .i64 e]] 2 1]) (by simp[boxS,qbB]) ?_;rintro E S ⟨g1,rfl⟩;refine qaA (fun E S=>E.get 1=some (.ptr 0 0 0 1)∧E.get 3=some (.int .i64 m)∧S=[.arr [.agg [.int .i64 m,.int .i64 e]] 2 1]) (by simp[g1,ldS]) ?_;rintro E S ⟨g1,g3,rfl⟩;refine qaA (fun E S=>E.get 1=some (.ptr 0 0 0 1)∧E.get 3=some (.int .i64 (IntKind.i64.wrap (-m)))∧S=[.arr [.agg [.int .i64 m,.int .i64 e]] 2 1]) (by simp[g1,g3,hm]) ?_;rintro E S ⟨g1,g3,rfl⟩;exact k E _ g3 g1 rfl
 ·have ha:mag m=m:=by unfold mag;rw[if_neg hm]
  have k:=fun E S=>key E S _ ha
  simp only[c226] at k ⊢;refine qaA (fun E S=>E.get 1=some (.ptr 0 0 0 1)∧S=[.arr [.agg [.int .i64 m,.int .i64 e]] 2 1]) (by simp[boxS,qbB]) ?_;rintro E S ⟨g1,rfl⟩;refine qaA (fun E S=>E.get 1=some (.ptr 0 0 0 1)∧E.get 3=some (.int .i64 m)∧S=[.arr [.agg [.int .i64 m,.int .i64 e]] 2 1]) (by simp[g1,ldS]) ?_;rintro E S ⟨g1,g3,rfl⟩;refine qaA (fun E S=>E.get 1=some (.ptr 0 0 0 1)∧E.get 3=some (.int .i64 m)∧S=[.arr [.agg [.int .i64 m,.int .i64 e]] 2 1]) (by simp[g1,g3,hm]) ?_;rintro E S ⟨g1,g3,rfl⟩;exact k E _ g3 g1 rfl
theorem qpX(s:ByteArray)(hs:s.size≤B50):∀S,Fn prog 227 [.str s] S (.bool (qcD s)):=by
 refine Pu.ib func227 ok227 (by simp[c227]) (by simp[V.under]) rfl ?_;unfold B50 at hs;have hp:qcD s=(prB s.data.toList && decide (s.size≤80)):=rfl;generalize hpr:qcD s=pr at hp ⊢;simp only[c227];simp;refine qap (fun j e S'=>∃i:Nat,j=s.size - i∧i≤s.size∧prB (s.data.toList.take i)=true∧
  e=[(3,.int .i64 i),(0,.str s)]) s.size _ ?_ ⟨0,by simp,by omega,rfl,rfl⟩ ?_
 ·exact Env.so (by simp)
 rintro j e S' ⟨i,rfl,hi,hq,rfl⟩;by_cases h:i<s.size
 ·have hb:s.data.toList[i]?=some (s.data[i]'h):=by simp[h]
  generalize hx:s.data[i]'h=x at hb;have hi':idxV s i=some (.int .u8 x.toNat):=by rw[←hx];exact idxS h
  have hlt:=x.toNat_lt
  have hno:qdb x=false→pr=false:=fun hh=>by
   rw[hp,qu4];left
   cases ha:prB s.data.toList with
   | false=>rfl
   | true=>
    unfold prB at ha;rw[qtY] at ha;rw[ha x (qtP hb)] at hh;cases hh
  by_cases h1:(x.toNat:Int)<32
  ·simp[h,hi',h1];refine qaa rfl ?_ rfl;rw[hno (by unfold qdb;simp;omega)];rfl
  by_cases h2:(126:Int)<x.toNat
  ·simp[h,hi',h1,h2];refine qaa rfl ?_ rfl;rw[hno (by unfold qdb;simp;omega)];rfl
  by_cases h3:(x.toNat:Int)=34
  ·simp[h,hi',h3];refine qaa rfl ?_ rfl;rw[hno (by unfold qdb;simp;omega)];rfl
  simp[h,hi',h1,h2,h3,qaK (n:=(i:Int)+1)];refine ⟨_,?_,_,?_,i+1,rfl,by omega,?_,rfl⟩
  ·omega
  ·exact Env.so (by simp)
  ·unfold prB at *;rw[qtQ,List.all_append,hq,hb];simp[qdb];omega
 ·simp[h];have hsz:s.data.toList.length=s.size:=rfl;rw[qud (by omega)] at hq;refine qaa rfl ?_ rfl;rw[hp,hq];simp only[retV,V.bool.injEq,qvp,decide_eq_decide];omega
theorem qqy(x:Ex):∀S,Fn prog 257 [x.v] S (.bool x.tgt):=by
 refine Pu.ib func257 ok257 (by simp[c257]) (by simp[V.under]) rfl ?_;by_cases h6:x.kind=6
 ·simp[c257,boxS,ldS,h6];exact qaa rfl (by simp[retV,Ex.tgt,h6]) rfl
 ·simp[c257,boxS,ldS,h6];exact qaa rfl (by simp[retV,Ex.tgt,h6]) rfl
theorem qey(n lo hi:Int):∀S,Fn prog 224 [.int .i64 n,.int .i64 lo,.int .i64 hi] S (.bool (decide (lo≤n) && decide (n≤hi))):=by
 refine Pu.ib func224 ok224 (by simp[c224]) (by simp[V.under]) rfl ?_;by_cases h:lo≤n
 ·simp[c224,h];exact qaa rfl rfl rfl
 ·simp[c224,h];exact qaa rfl rfl rfl
def allQ{α:Type}(l:List α)(q:α→Bool):Bool:=l.all q
theorem qkW(l:List Ex)(hl:l.length≤B50):∀S,Fn prog 222 [.sl false (l.map Ex.v)] S (.bool (allQ l Ex.tgt && decide (0<l.length))):=by
 refine Pu.ib func222 ok222 (by simp[c222]) (by simp[V.under]) rfl ?_;unfold B50 at hl;simp only[c222];simp;refine qap (fun j e S'=>∃i:Nat,j=l.length - i∧i≤l.length∧allQ (l.take i) Ex.tgt=true∧
  e=[(3,.int .i64 i),(0,.sl false (l.map Ex.v))]) l.length _ ?_ ⟨0,by simp,by omega,rfl,rfl⟩ ?_
 ·exact Env.so (by simp)
 rintro j e S' ⟨i,rfl,hi,hq,rfl⟩;by_cases h:i<l.length
 ·simp[h,iaEx];refine qag (qqy l[i] _) ?_
  cases hx:Ex.tgt l[i] with
  | false=>
   simp;refine qaa rfl ?_ rfl
   have:allQ l Ex.tgt=false:=by
    cases ha:allQ l Ex.tgt with
    | false=>rfl
    | true=>
     unfold allQ at ha;rw[qtY] at ha;rw[ha _ (qtM h)] at hx;cases hx
   rw[this];rfl
  | true=>
   simp[qaK (n:=(i:Int)+1)];refine ⟨_,?_,_,?_,i+1,rfl,by omega,?_,rfl⟩
   ·omega
   ·exact Env.so (by simp)
   ·unfold allQ at *;rw[qtQ,qtF h,List.all_append,hq];simp[hx]
 ·simp[h];rw[qud (by omega)] at hq;refine qaa rfl ?_ rfl;rw[hq];simp[retV]
theorem qmA(l:List ByteArray)(hl:l.length≤B50):∀S,Fn prog 223 [.sl false (l.map V.str)] S (.bool (allQ l qab)):=by
 refine Pu.ib func223 ok223 (by simp[c223]) (by simp[V.under]) rfl ?_;unfold B50 at hl;simp only[c223];simp;refine qap (fun j e S'=>∃i:Nat,j=l.length - i∧i≤l.length∧allQ (l.take i) qab=true∧
  e=[(3,.int .i64 i),(0,.sl false (l.map V.str))]) l.length _ ?_ ⟨0,by simp,by omega,rfl,rfl⟩ ?_
 ·exact Env.so (by simp)
 rintro j e S' ⟨i,rfl,hi,hq,rfl⟩;by_cases h:i<l.length
 ·simp[h,qdp];refine qag (qcu l[i] _) ?_
  cases hx:qab l[i] with
  | false=>
   simp;refine qaa rfl ?_ rfl
   have:allQ l qab=false:=by
    cases ha:allQ l qab with
    | false=>rfl
    | true=>
     unfold allQ at ha;rw[qtY] at ha;rw[ha _ (qtM h)] at hx;cases hx
   rw[this];rfl
  | true=>
   simp[qaK (n:=(i:Int)+1)];refine ⟨_,?_,_,?_,i+1,rfl,by omega,?_,rfl⟩
   ·omega
   ·exact Env.so (by simp)
   ·unfold allQ at *;rw[qtQ,qtF h,List.all_append,hq];simp[hx]
 ·simp[h];rw[qud (by omega)] at hq;refine qaa rfl ?_ rfl;rw[hq];rfl
theorem qri(f:Fo):∀S,Fn prog 258 [f.v] S (.bool (f.vOwn qab)):=by
 refine Pu.ib func258 ok258 (by simp[c258]) (by simp[V.under]) rfl ?_;have hv:f.vOwn qab=((if f.spec=0∨f.spec=3∨f.spec=4∨f.spec=5 then decide (f.type=0) && !f.value
   else if f.spec=1 then decide (1≤f.type∧f.type≤3)
   else if f.spec=2 then decide (0≤f.type∧f.type≤3) && (!f.value || decide (f.type≠0))
   else if f.spec=6 then decide (0≤f.type∧f.type≤3) && !f.value
   else false) && qab f.name):=by unfold Fo.vOwn;rw[qt2]
 generalize f.vOwn qab=r at hv ⊢;by_cases h0:f.spec=0
 ·simp only[h0] at hv;by_cases ht:f.type=0
  case neg=>
   cases hval:f.value
   case false=>
    simp[c258,boxS,ldS,h0,ht,hval];exact qaa rfl (by rw[hv];simp[retV,ht]) rfl
   simp[c258,boxS,ldS,h0,ht,hval];exact qaa rfl (by rw[hv];simp[retV,ht]) rfl
  cases hval:f.value
  case true=>
   simp[c258,boxS,ldS,h0,ht,hval];exact qaa rfl (by rw[hv];simp[retV,hval]) rfl
  simp[c258,boxS,ldS,h0,ht,hval];refine qag (qcu f.name _) ?_;cases hn:qab f.name
  case false=>
   simp;exact qaa rfl (by rw[hv];simp[retV,hn]) rfl
  simp;exact qaa rfl (by rw[hv];simp[retV,hn,ht,hval]) rfl
 by_cases h3:f.spec=3
 ·simp only[h3] at hv;by_cases ht:f.type=0
  case neg=>
   cases hval:f.value
   case false=>
    simp[c258,boxS,ldS,h3,ht,hval];exact qaa rfl (by rw[hv];simp[retV,ht]) rfl
   simp[c258,boxS,ldS,h3,ht,hval];exact qaa rfl (by rw[hv];simp[retV,ht]) rfl
  cases hval:f.value
  case true=>
   simp[c258,boxS,ldS,h3,ht,hval];exact qaa rfl (by rw[hv];simp[retV,hval]) rfl
  simp[c258,boxS,ldS,h3,ht,hval];refine qag (qcu f.name _) ?_;cases hn:qab f.name
  case false=>
   simp;exact qaa rfl (by rw[hv];simp[retV,hn]) rfl
  simp;exact qaa rfl (by rw[hv];simp[retV,hn,ht,hval]) rfl
 by_cases h4:f.spec=4
 ·simp only[h4] at hv;by_cases ht:f.type=0
  case neg=>
   cases hval:f.value
   case false=>
    simp[c258,boxS,ldS,h4,ht,hval];exact qaa rfl (by rw[hv];simp[retV,ht]) rfl
   simp[c258,boxS,ldS,h4,ht,hval];exact qaa rfl (by rw[hv];simp[retV,ht]) rfl
  cases hval:f.value
  case true=>
   simp[c258,boxS,ldS,h4,ht,hval];exact qaa rfl (by rw[hv];simp[retV,hval]) rfl
  simp[c258,boxS,ldS,h4,ht,hval];refine qag (qcu f.name _) ?_;cases hn:qab f.name
  case false=>
   simp;exact qaa rfl (by rw[hv];simp[retV,hn]) rfl
  simp;exact qaa rfl (by rw[hv];simp[retV,hn,ht,hval]) rfl
 by_cases h5:f.spec=5
 ·simp only[h5] at hv;by_cases ht:f.type=0
  case neg=>
   cases hval:f.value
   case false=>
    simp[c258,boxS,ldS,h5,ht,hval];exact qaa rfl (by rw[hv];simp[retV,ht]) rfl
   simp[c258,boxS,ldS,h5,ht,hval];exact qaa rfl (by rw[hv];simp[retV,ht]) rfl
  cases hval:f.value
  case true=>
   simp[c258,boxS,ldS,h5,ht,hval];exact qaa rfl (by rw[hv];simp[retV,hval]) rfl
  simp[c258,boxS,ldS,h5,ht,hval];refine qag (qcu f.name _) ?_;cases hn:qab f.name
  case false=>
   simp;exact qaa rfl (by rw[hv];simp[retV,hn]) rfl
  simp;exact qaa rfl (by rw[hv];simp[retV,hn,ht,hval]) rfl
 by_cases h1:f.spec=1
 ·simp only[h1] at hv;simp[c258,boxS,ldS,h1];refine qag (qey _ _ _ _) ?_;by_cases ht:1≤f.type∧f.type≤3
  case neg=>
   rw[qaH ht];cases hval:f.value
   case false=>
    simp[ldS,hval];exact qaa rfl (by rw[hv];simp[retV,ht]) rfl
   simp[ldS,hval];exact qaa rfl (by rw[hv];simp[retV,ht]) rfl
  rw[qaM ht];cases hval:f.value
  case false=>
   simp[ldS,hval];refine qag (qcu f.name _) ?_;cases hn:qab f.name
   case false=>
    simp;exact qaa rfl (by rw[hv];simp[retV,hn]) rfl
   simp;exact qaa rfl (by rw[hv];simp[retV,hn,ht]) rfl
  simp[ldS,hval,h1,show ¬ f.type=0 by omega];refine qag (qcu f.name _) ?_;cases hn:qab f.name
  case false=>
   simp;exact qaa rfl (by rw[hv];simp[retV,hn]) rfl
  simp;exact qaa rfl (by rw[hv];simp[retV,hn,ht]) rfl
 by_cases h2:f.spec=2
 ·simp only[h2] at hv;simp[c258,boxS,ldS,h2];refine qag (qey _ _ _ _) ?_;by_cases ht:0≤f.type∧f.type≤3
  case neg=>
   rw[qaH ht];cases hval:f.value
   case false=>
    simp[ldS,hval];exact qaa rfl (by rw[hv];simp[retV,ht]) rfl
   simp[ldS,hval];exact qaa rfl (by rw[hv];simp[retV,ht]) rfl
  rw[qaM ht];cases hval:f.value
  case false=>
   simp[ldS,hval];refine qag (qcu f.name _) ?_;cases hn:qab f.name
   case false=>
    simp;exact qaa rfl (by rw[hv];simp[retV,hn]) rfl
   simp;exact qaa rfl (by rw[hv];simp[retV,hn,ht,hval]) rfl
  by_cases ht0:f.type=0
  case pos=>
   simp[ldS,hval,h2,ht0];exact qaa rfl (by rw[hv];simp[retV,hval,ht0]) rfl
  simp[ldS,hval,h2,ht0];refine qag (qcu f.name _) ?_;cases hn:qab f.name
  case false=>
   simp;exact qaa rfl (by rw[hv];simp[retV,hn]) rfl
  simp;exact qaa rfl (by rw[hv];simp[retV,hn,ht,hval,ht0]) rfl
 by_cases h6:f.spec=6
 ·simp only[h6] at hv;simp[c258,boxS,ldS,h6];refine qag (qey _ _ _ _) ?_;by_cases ht:0≤f.type∧f.type≤3
  case neg=>
   rw[qaH ht];cases hval:f.value
   case false=>
    simp[ldS,hval];exact qaa rfl (by rw[hv];simp[retV,ht]) rfl
   simp[ldS,hval];exact qaa rfl (by rw[hv];simp[retV,ht]) rfl
  rw[qaM ht];cases hval:f.value
  case false=>
   simp[ldS,hval];refine qag (qcu f.name _) ?_;cases hn:qab f.name
   case false=>
    simp;exact qaa rfl (by rw[hv];simp[retV,hn]) rfl
   simp;exact qaa rfl (by rw[hv];simp[retV,hn,ht,hval]) rfl
  simp[ldS,hval,h6];exact qaa rfl (by rw[hv];simp[retV,hval]) rfl
 have hv':r=false:=by rw[hv];simp[h0,h1,h2,h3,h4,h5,h6]
 cases hval:f.value
 case false=>
  simp[c258,boxS,ldS,hval,h0,h1,h2,h3,h4,h5,h6];exact qaa rfl (by rw[hv'];rfl) rfl
 simp[c258,boxS,ldS,hval,h0,h1,h2,h3,h4,h5,h6];exact qaa rfl (by rw[hv'];rfl) rfl
def qsv(l:List Fo)(i k:Nat):Prop:=∀(j:Nat) (x y:Fo),j<k→l[j]?=some x→l[i]?=some y→¬ x.name=y.name
theorem qpm(l:List Fo)(hl:l.length≤B50):∀S,Fn prog 225 [.sl false (l.map Fo.v)] S (.bool (qbv qab l [] && decide (l.length≤8))):=by
 refine Pu.ib func225 ok225 (by simp[c225]) (by simp[V.under]) rfl ?_;unfold B50 at hl;generalize hr:(qbv qab l [] && decide (l.length≤8))=r;have hno:qbv qab l []=false→r=false:=fun h=>by rw[←hr,h];rfl
 simp only[c225];simp;refine qaC (fun e S=>qbv qab l []=true∧e.get 0=some (.sl false (l.map Fo.v))) ?_ ?_;rotate_left
 ·rintro e S ⟨h1,g0⟩;simp[g0];refine qaa rfl ?_ rfl;rw[←hr,h1];simp only[retV,V.bool.injEq,qvp,decide_eq_decide];omega
 refine qap (fun j e S'=>∃i:Nat,j=l.length - i∧i≤l.length∧qbv qab (l.take i) []=true∧
  e=[(3,.int .i64 i),(0,.sl false (l.map Fo.v))]) l.length _ ?_ ⟨0,by simp,by omega,rfl,rfl⟩ ?_
 ·exact Env.so (by simp)
 rintro j e S' ⟨i,rfl,hi,hq,rfl⟩;by_cases h:i<l.length
 case neg=>
  rw[qud (by omega)] at hq;simp[h,hq]
 have hnext:qbv qab (l.take (i+1)) []=(l[i].vOwn qab && !((l.take i).map Fo.name).any fun x=>decide (x=l[i].name)):=by
  rw[qtQ,qtF h,qug,qb3,hq];simp[qbv]
 have hall:qbv qab l []=true→qbv qab (l.take (i+1)) []=true:=fun hh=>by
  rw[←qul (i+1) l,qb3,qtJ] at hh;exact hh.1
 simp[h];refine qaC (fun e S=>qsv l i i∧e.get 3=some (.int .i64 i)∧e.get 0=some (.sl false (l.map Fo.v))) ?_ ?_
 ·refine qap (fun j e S'=>∃k:Nat,j=i - k∧k≤i∧qsv l i k∧
   e=[(4,.int .i64 k),(3,.int .i64 i),(0,.sl false (l.map Fo.v))]) i _ ?_ ⟨0,by simp,by omega,fun j x y hj=>by omega,rfl⟩ ?_
  ·exact Env.so (by simp)
  rintro j e S' ⟨k,rfl,hk,hd,rfl⟩;by_cases g:k<i
  case neg=>
   have:k=i:=by omega
   subst this;simp[hd]
  have gl:k<l.length:=by omega
  by_cases hx:l[k].name=l[i].name
  ·simp[g,gl,h,iaFo,hx,dend,qbe,qbj];refine qaa rfl ?_ rfl;rw[hno]
   ·rfl
   ·cases hh:qbv qab l [] with
    | false=>rfl
    | true=>
     have h2:=hall hh;rw[hnext,qtJ,Bool.not_eq_true'] at h2
     have:(((l.take i).map Fo.name).any fun x=>decide (x=l[i].name))=true:=by
      rw[qvb];refine ⟨l[k].name,qt3.2 ⟨l[k],?_,rfl⟩,by simp[hx]⟩;exact List.mem_iff_getElem?.2 ⟨k,by rw[qvs,if_pos g];simp⟩
     rw[this] at h2;cases h2.2
  ·simp[g,gl,h,iaFo,hx,dend,qbe,qbj,qaK (n:=(k:Int)+1)];refine ⟨_,?_,_,?_,k+1,rfl,by omega,?_,rfl⟩
   ·omega
   ·exact Env.so (by simp)
   ·intro j x y hj h1 h2;by_cases hjk:j=k
    ·subst hjk;rw[qtF gl] at h1;cases h1;rw[qtF h] at h2;cases h2;exact hx
    ·exact hd j x y (by omega) h1 h2
 rintro e U ⟨hd,g3,g0⟩
 have hany:(((l.take i).map Fo.name).any fun x=>decide (x=l[i].name))=false:=by
  cases hh:(((l.take i).map Fo.name).any fun x=>decide (x=l[i].name)) with
  | false=>rfl
  | true=>
   rw[qvb] at hh;obtain ⟨x,h1,h2⟩:=hh;obtain ⟨f,h3,rfl⟩:=qt3.1 h1;obtain ⟨j,hj⟩:=List.mem_iff_getElem?.1 h3;rw[qvs] at hj;split at hj
   ·exact absurd (by simpa using h2) (hd j f l[i] (by assumption) hj (by simp[h]))
   ·cases hj
 rw[hany] at hnext;simp[g3,g0,h,iaFo];refine qag (qri l[i] _) ?_
 cases hv:l[i].vOwn qab with
 | false=>
  rw[hv] at hnext;simp;refine qaa rfl ?_ rfl;rw[hno]
  ·rfl
  ·cases hh:qbv qab l [] with
   | false=>rfl
   | true=>rw[hall hh] at hnext;cases hnext
 | true=>
  rw[hv] at hnext;simp[g3,qaK (n:=(i:Int)+1)];refine ⟨_,?_,_,?_,i+1,rfl,by omega,hnext,rfl⟩
  ·omega
  ·repeat' first|exact Env.sub_nil _|refine Env.sub_cons (by simp[g0]) ?_
noncomputable def qir:C':=(.seq (.reg [.f 148 6 1,
 .l 149 148,
 .f 150 6 3,
 .s 1 150 149])
 (.seq (.draw [⟨.m 151 5,false,none,false,[],0,0⟩,
 ⟨.m 152 151,false,none,false,[0],0,0⟩,
 ⟨.v 153 152 true (.ld (some 7) (.t 1)),false,none,false,[1,0],0,0⟩,
 ⟨.v 154 152 true (.call (.f 141) [(.t 153)]),true,none,false,[2,1,0],0,0⟩,
 ⟨.v 155 152 true (.ld (some 7) (.t 3)),false,none,true,[1,0],0,1⟩,
 ⟨.v 156 152 true (.call (.f 141) [(.t 155)]),true,none,false,[4,3,2,1,0],1,1⟩,
 ⟨.v 157 152 true (.call (.f 195) [(.t 154),(.t 156)]),true,none,false,[5,4,3,2,1,0],2,2⟩,
 ⟨.y 158 152 157,false,none,false,[6,5,4,3,2,1,0],3,3⟩,
 ⟨.m 2 158,false,none,false,[7,6,5,4,3,2,1,0],3,3⟩] [])
 (.ret)))
theorem qbg:qir=(.seq (.reg [.f 148 6 1,
 .l 149 148,
 .f 150 6 3,
 .s 1 150 149])
 (.seq (.draw [⟨.m 151 5,false,none,false,[],0,0⟩,
 ⟨.m 152 151,false,none,false,[0],0,0⟩,
 ⟨.v 153 152 true (.ld (some 7) (.t 1)),false,none,false,[1,0],0,0⟩,
 ⟨.v 154 152 true (.call (.f 141) [(.t 153)]),true,none,false,[2,1,0],0,0⟩,
 ⟨.v 155 152 true (.ld (some 7) (.t 3)),false,none,true,[1,0],0,1⟩,
 ⟨.v 156 152 true (.call (.f 141) [(.t 155)]),true,none,false,[4,3,2,1,0],1,1⟩,
 ⟨.v 157 152 true (.call (.f 195) [(.t 154),(.t 156)]),true,none,false,[5,4,3,2,1,0],2,2⟩,
 ⟨.y 158 152 157,false,none,false,[6,5,4,3,2,1,0],3,3⟩,
 ⟨.m 2 158,false,none,false,[7,6,5,4,3,2,1,0],3,3⟩] [])
 (.ret))):=rfl
theorem qas(t:ByteArray):decide (t=⟨⟨[]⟩⟩)=qbf t:=by
 unfold qbf;rw[decide_eq_decide];exact qed
open Classical in
theorem qty(x y:Ex):EqP 4 4 Sm.z Sm.z De.z De.z El.z El.z x y↔EqX x y∧x.args.length=y.args.length:=by
 unfold EqP EqL1 EqL2 EqS EqD;simp;exact And.comm
theorem Ex.z_ok:Sm.z.ok:=by simp[Sm.z,Sm.ok,okS,Ex.okL,De.okL,Sm.okL];decide
theorem De.z_ok:De.z.ok:=by simp[De.z,De.ok,okS,Ex.okL,Sm.okL]
open Classical in
theorem qat(x:Ex)(ok:Bool)(o n m e:Int)(t:ByteArray)(r:Bool)(E:Env)(S:St)(g1:E.get 1=some (.ptr 0 0 0 1))(g3:E.get 3=some (.ptr 1 0 0 1))(g5:E.get 5=some (.bool ok))
  (hS:S=[.arr [x.v] 7 1,.arr [.agg [.int .i64 x.kind,.int .i64 o,.int .i64 n,.int .i64 m,.int .i64 e,.str t,.sl true []]] 7 1])
  (hr:r=(ok && (decide (x.op=o) && decide (x.n=n) && (decide (x.man=m) && decide (x.exp=e)) && decide (x.text=t)))):WP prog qir (endp [.t 2] 0 fun v U=>v=.bool r∧U=[]) E S:=by
 subst hS;have hy:(Ex.mk x.kind o n m e t x.args).v=.agg [.int .i64 x.kind,.int .i64 o,.int .i64 n,.int .i64 m,.int .i64 e,.str t,.sl false (x.args.map Ex.v)]:=Ex.v_eq _;generalize hyy:Ex.mk x.kind o n m e t x.args=y at hy;simp only[qir]
 cases ok with
 | false=>
  simp[g1,g3,g5,ldS,stS,qac,dend,qbe,qbj];exact qaa rfl (by rw[hr];rfl) rfl
 | true=>
  simp[g1,g3,g5,ldS,stS,qac,qaf];refine qa6 (qlL x _) ?_;simp[g3,ldS,qaf];have h2:=qlL y [.arr [x.v] 7 1,.arr [.agg [.int .i64 x.kind,.int .i64 o,.int .i64 n,.int .i64 m,.int .i64 e,.str t,.sl false (x.args.map Ex.v)]] 7 1];rw[hy] at h2;refine qa6 h2 ?_;simp;refine qa6 (qgy 4 4 Sm.z Sm.z De.z De.z El.z El.z x y Ex.z_ok De.z_ok _) ?_;simp[dend,qbe,qbj,g3,ldS,qaf];refine qaa rfl ?_ rfl;rw[hr];simp only[retV,V.bool.injEq,qvp];rw[qui,decide_eq_true_eq,qty,←hyy];rw[qtJ,qtJ,qtJ,qtJ,decide_eq_true_eq,decide_eq_true_eq,decide_eq_true_eq,decide_eq_true_eq,decide_eq_true_eq];unfold EqX;constructor
  ·rintro ⟨⟨_,h2,h3,h4,h5⟩,_⟩;exact ⟨⟨⟨h2,h3⟩,h4⟩,h5⟩
  ·rintro ⟨⟨⟨h2,h3⟩,h4⟩,h5⟩;exact ⟨⟨rfl,h2,h3,h4,h5⟩,rfl⟩
theorem qmt(x:Ex)(hx:x.ok)(hk:x.kind=1):∀S,Fn prog 192 [x.v] S (.bool (x.vOwn qab)):=by
 refine Pu.ib func192 ok192 (by simp[c192]) (by simp[V.under]) rfl ?_;have hv:=Ex.vOwn_eq qab x;have hle:x.args.length≤B50:=(Ex.ok_args hx).1;unfold B50 at hle;generalize x.vOwn qab=r at hv ⊢;simp only[c192,←qbg];simp only[hk] at hv;simp at hv;by_cases c1:0≤x.n
 case neg=>
  simp[boxS,ldS,stS,qac,qaf,qal,qah,hk,c1];exact qat x false 0 x.n 0 0 ⟨⟨[]⟩⟩ r _ _ (by simp) (by simp) (by simp) (by simp[hk]) (by rw[hv];simp[qas,c1])
 by_cases c2:x.n≤2147483647
 case neg=>
  simp[boxS,ldS,stS,qac,qaf,qal,qah,hk,c1,c2];exact qat x false 0 x.n 0 0 ⟨⟨[]⟩⟩ r _ _ (by simp) (by simp) (by simp) (by simp[hk]) (by rw[hv];simp[qas,c1,c2])
 by_cases hl:x.args=[]
 case neg=>
  simp[boxS,ldS,stS,qac,qaf,qal,qah,hk,c1,c2,hl];exact qat x false 0 x.n 0 0 ⟨⟨[]⟩⟩ r _ _ (by simp) (by simp) (by simp) (by simp[hk]) (by rw[hv];simp[qas,c1,c2,hl])
 simp[boxS,ldS,stS,qac,qaf,qal,qah,hk,c1,c2,hl];exact qat x true 0 x.n 0 0 ⟨⟨[]⟩⟩ r _ _ (by simp) (by simp) (by simp) (by simp[hk]) (by rw[hv];simp[qas,c1,c2,hl])
theorem qmh(x:Ex)(hx:x.ok)(hk:x.kind=2):∀S,Fn prog 192 [x.v] S (.bool (x.vOwn qab)):=by
 refine Pu.ib func192 ok192 (by simp[c192]) (by simp[V.under]) rfl ?_;have hv:=Ex.vOwn_eq qab x;have hle:x.args.length≤B50:=(Ex.ok_args hx).1;unfold B50 at hle;generalize x.vOwn qab=r at hv ⊢;simp only[c192,←qbg];simp only[hk] at hv;simp at hv;simp[boxS,ldS,stS,qac,qaf,qal,qah,hk];refine qag (qrQ _ _ _) ?_;cases hc:rvOk x.man x.exp
 case false=>
  simp[boxS,ldS,stS,qac,qaf,qal,qah];exact qat x false 0 0 x.man x.exp ⟨⟨[]⟩⟩ r _ _ (by simp) (by simp) (by simp) (by simp[hk]) (by rw[hv];simp[qas,hc])
 by_cases c1:0≤x.man
 case neg=>
  simp[boxS,ldS,stS,qac,qaf,qal,qah,c1];exact qat x false 0 0 x.man x.exp ⟨⟨[]⟩⟩ r _ _ (by simp) (by simp) (by simp) (by simp[hk]) (by rw[hv];simp[qas,hc,c1])
 by_cases hl:x.args=[]
 case neg=>
  simp[boxS,ldS,stS,qac,qaf,qal,qah,c1,hl];exact qat x false 0 0 x.man x.exp ⟨⟨[]⟩⟩ r _ _ (by simp) (by simp) (by simp) (by simp[hk]) (by rw[hv];simp[qas,hc,c1,hl])
 simp[boxS,ldS,stS,qac,qaf,qal,qah,c1,hl];exact qat x true 0 0 x.man x.exp ⟨⟨[]⟩⟩ r _ _ (by simp) (by simp) (by simp) (by simp[hk]) (by rw[hv];simp[qas,hc,c1,hl])
theorem qms(x:Ex)(hx:x.ok)(hk:x.kind=3):∀S,Fn prog 192 [x.v] S (.bool (x.vOwn qab)):=by
 refine Pu.ib func192 ok192 (by simp[c192]) (by simp[V.under]) rfl ?_;have hv:=Ex.vOwn_eq qab x;have hle:x.args.length≤B50:=(Ex.ok_args hx).1;unfold B50 at hle;generalize x.vOwn qab=r at hv ⊢;simp only[c192,←qbg];simp only[hk] at hv;simp at hv;by_cases hl:x.args=[]
 case neg=>
  simp[boxS,ldS,stS,qac,qaf,qal,qah,hk,hl];exact qat x false 0 0 0 0 ⟨⟨[]⟩⟩ r _ _ (by simp) (by simp) (by simp) (by simp[hk]) (by rw[hv];simp[qas,hl])
 simp[boxS,ldS,stS,qac,qaf,qal,qah,hk,hl];exact qat x true 0 0 0 0 ⟨⟨[]⟩⟩ r _ _ (by simp) (by simp) (by simp) (by simp[hk]) (by rw[hv];simp[qas,hl])
theorem qmT(x:Ex)(hx:x.ok)(hk:x.kind=4):∀S,Fn prog 192 [x.v] S (.bool (x.vOwn qab)):=by
 refine Pu.ib func192 ok192 (by simp[c192]) (by simp[V.under]) rfl ?_;have hv:=Ex.vOwn_eq qab x;have hle:x.args.length≤B50:=(Ex.ok_args hx).1;unfold B50 at hle;generalize x.vOwn qab=r at hv ⊢;simp only[c192,←qbg];simp only[hk] at hv;simp at hv;by_cases hl:x.args=[]
 case neg=>
  simp[boxS,ldS,stS,qac,qaf,qal,qah,hk,hl];exact qat x false 0 0 0 0 ⟨⟨[]⟩⟩ r _ _ (by simp) (by simp) (by simp) (by simp[hk]) (by rw[hv];simp[qas,hl])
 simp[boxS,ldS,stS,qac,qaf,qal,qah,hk,hl];exact qat x true 0 0 0 0 ⟨⟨[]⟩⟩ r _ _ (by simp) (by simp) (by simp) (by simp[hk]) (by rw[hv];simp[qas,hl])
theorem qlU(x:Ex)(hx:x.ok)(hk:x.kind=5):∀S,Fn prog 192 [x.v] S (.bool (x.vOwn qab)):=by
 refine Pu.ib func192 ok192 (by simp[c192]) (by simp[V.under]) rfl ?_;have hv:=Ex.vOwn_eq qab x;have hle:x.args.length≤B50:=(Ex.ok_args hx).1;unfold B50 at hle;generalize x.vOwn qab=r at hv ⊢;simp only[c192,←qbg];simp only[hk] at hv;simp at hv;simp[boxS,ldS,stS,qac,qaf,qal,qah,hk];refine qag (qpX _ (Ex.ok_text hx) _) ?_;cases hc:qcD x.text
 case false=>
  simp[boxS,ldS,stS,qac,qaf,qal,qah];exact qat x false 0 0 0 0 x.text r _ _ (by simp) (by simp) (by simp) (by simp[hk]) (by rw[hv];simp[qas,hc])
 by_cases hl:x.args=[]
 case neg=>
  simp[boxS,ldS,stS,qac,qaf,qal,qah,hl];exact qat x false 0 0 0 0 x.text r _ _ (by simp) (by simp) (by simp) (by simp[hk]) (by rw[hv];simp[qas,hc,hl])
 simp[boxS,ldS,stS,qac,qaf,qal,qah,hl];exact qat x true 0 0 0 0 x.text r _ _ (by simp) (by simp) (by simp) (by simp[hk]) (by rw[hv];simp[qas,hc,hl])
theorem qkN(x:Ex)(hx:x.ok)(hk:x.kind=6):∀S,Fn prog 192 [x.v] S (.bool (x.vOwn qab)):=by
 refine Pu.ib func192 ok192 (by simp[c192]) (by simp[V.under]) rfl ?_;have hv:=Ex.vOwn_eq qab x;have hle:x.args.length≤B50:=(Ex.ok_args hx).1;unfold B50 at hle;generalize x.vOwn qab=r at hv ⊢;simp only[c192,←qbg];simp only[hk] at hv;simp at hv;simp[boxS,ldS,stS,qac,qaf,qal,qah,hk];refine qag (qcu _ _) ?_;cases hc:qab x.text
 case false=>
  simp[boxS,ldS,stS,qac,qaf,qal,qah];exact qat x false 0 0 0 0 x.text r _ _ (by simp) (by simp) (by simp) (by simp[hk]) (by rw[hv];simp[qas,hc])
 by_cases hl:x.args=[]
 case neg=>
  simp[boxS,ldS,stS,qac,qaf,qal,qah,hl];exact qat x false 0 0 0 0 x.text r _ _ (by simp) (by simp) (by simp) (by simp[hk]) (by rw[hv];simp[qas,hc,hl])
 simp[boxS,ldS,stS,qac,qaf,qal,qah,hl];exact qat x true 0 0 0 0 x.text r _ _ (by simp) (by simp) (by simp) (by simp[hk]) (by rw[hv];simp[qas,hc,hl])
theorem qmY(x:Ex)(hx:x.ok)(hk:x.kind=7):∀S,Fn prog 192 [x.v] S (.bool (x.vOwn qab)):=by
 refine Pu.ib func192 ok192 (by simp[c192]) (by simp[V.under]) rfl ?_;have hv:=Ex.vOwn_eq qab x;have hle:x.args.length≤B50:=(Ex.ok_args hx).1;unfold B50 at hle;generalize x.vOwn qab=r at hv ⊢;simp only[c192,←qbg];simp only[hk] at hv;simp at hv;simp[boxS,ldS,stS,qac,qaf,qal,qah,hk];refine qag (qcu _ _) ?_;cases hc:qab x.text
 case false=>
  simp[boxS,ldS,stS,qac,qaf,qal,qah];exact qat x false 0 0 0 0 x.text r _ _ (by simp) (by simp) (by simp) (by simp[hk]) (by rw[hv];simp[qas,hc])
 by_cases hl1:1≤x.args.length
 case neg=>
  simp[boxS,ldS,stS,qac,qaf,qal,qah,show ¬ ((1:Int)≤x.args.length) by omega];exact qat x false 0 0 0 0 x.text r _ _ (by simp) (by simp) (by simp) (by simp[hk]) (by rw[hv];simp[qas,hc,hl1])
 by_cases hl2:x.args.length≤4
 case neg=>
  simp[boxS,ldS,stS,qac,qaf,qal,qah,show (1:Int)≤x.args.length by omega,show ¬ ((x.args.length:Int)≤4) by omega];exact qat x false 0 0 0 0 x.text r _ _ (by simp) (by simp) (by simp) (by simp[hk]) (by rw[hv];simp[qas,hc,hl1,hl2])
 simp[boxS,ldS,stS,qac,qaf,qal,qah,show (1:Int)≤x.args.length by omega,show (x.args.length:Int)≤4 by omega];exact qat x true 0 0 0 0 x.text r _ _ (by simp) (by simp) (by simp) (by simp[hk]) (by rw[hv];simp[qas,hc,hl1,hl2])
theorem qlA(x:Ex)(hx:x.ok)(hk:x.kind=8):∀S,Fn prog 192 [x.v] S (.bool (x.vOwn qab)):=by
 refine Pu.ib func192 ok192 (by simp[c192]) (by simp[V.under]) rfl ?_;have hv:=Ex.vOwn_eq qab x;have hle:x.args.length≤B50:=(Ex.ok_args hx).1;unfold B50 at hle;generalize x.vOwn qab=r at hv ⊢;simp only[c192,←qbg];simp only[hk] at hv;simp at hv;simp[boxS,ldS,stS,qac,qaf,qal,qah,hk];refine qag (qcu _ _) ?_;cases hc:qab x.text
 case false=>
  simp[boxS,ldS,stS,qac,qaf,qal,qah];exact qat x false 0 0 0 0 x.text r _ _ (by simp) (by simp) (by simp) (by simp[hk]) (by rw[hv];simp[qas,hc])
 by_cases hl1:1≤x.args.length
 case neg=>
  simp[boxS,ldS,stS,qac,qaf,qal,qah,show ¬ ((1:Int)≤x.args.length) by omega];exact qat x false 0 0 0 0 x.text r _ _ (by simp) (by simp) (by simp) (by simp[hk]) (by rw[hv];simp[qas,hc,hl1])
 by_cases hl2:x.args.length≤8
 case neg=>
  simp[boxS,ldS,stS,qac,qaf,qal,qah,show (1:Int)≤x.args.length by omega,show ¬ ((x.args.length:Int)≤8) by omega];exact qat x false 0 0 0 0 x.text r _ _ (by simp) (by simp) (by simp) (by simp[hk]) (by rw[hv];simp[qas,hc,hl1,hl2])
 simp[boxS,ldS,stS,qac,qaf,qal,qah,show (1:Int)≤x.args.length by omega,show (x.args.length:Int)≤8 by omega];exact qat x true 0 0 0 0 x.text r _ _ (by simp) (by simp) (by simp) (by simp[hk]) (by rw[hv];simp[qas,hc,hl1,hl2])
theorem qk9(x:Ex)(hx:x.ok)(hk:x.kind=9):∀S,Fn prog 192 [x.v] S (.bool (x.vOwn qab)):=by
 refine Pu.ib func192 ok192 (by simp[c192]) (by simp[V.under]) rfl ?_;have hv:=Ex.vOwn_eq qab x;have hle:x.args.length≤B50:=(Ex.ok_args hx).1;unfold B50 at hle;generalize x.vOwn qab=r at hv ⊢;simp only[c192,←qbg];simp only[hk] at hv;simp at hv;by_cases hl:x.args.length=1
 case pos=>
  by_cases c1:x.op=1
  case pos=>
   simp[boxS,ldS,stS,qac,qaf,qal,qah,hk,c1,show (x.args.length:Int)=1 by omega];exact qat x true 1 0 0 0 ⟨⟨[]⟩⟩ r _ _ (by simp) (by simp) (by simp) (by simp[hk]) (by rw[hv];simp[qas,c1,hl])
  by_cases c2:x.op=2
  case pos=>
   simp[boxS,ldS,stS,qac,qaf,qal,qah,hk,c2,show (x.args.length:Int)=1 by omega];exact qat x true 2 0 0 0 ⟨⟨[]⟩⟩ r _ _ (by simp) (by simp) (by simp) (by simp[hk]) (by rw[hv];simp[qas,c2,hl])
  simp[boxS,ldS,stS,qac,qaf,qal,qah,hk,c1,c2];exact qat x false x.op 0 0 0 ⟨⟨[]⟩⟩ r _ _ (by simp) (by simp) (by simp) (by simp[hk]) (by rw[hv];simp[qas,c1,c2])
 case neg=>
  by_cases c1:x.op=1
  case pos=>
   simp[boxS,ldS,stS,qac,qaf,qal,qah,hk,c1,show ¬ ((x.args.length:Int)=1) by omega];exact qat x false 1 0 0 0 ⟨⟨[]⟩⟩ r _ _ (by simp) (by simp) (by simp) (by simp[hk]) (by rw[hv];simp[qas,c1,hl])
  by_cases c2:x.op=2
  case pos=>
   simp[boxS,ldS,stS,qac,qaf,qal,qah,hk,c2,show ¬ ((x.args.length:Int)=1) by omega];exact qat x false 2 0 0 0 ⟨⟨[]⟩⟩ r _ _ (by simp) (by simp) (by simp) (by simp[hk]) (by rw[hv];simp[qas,c2,hl])
  simp[boxS,ldS,stS,qac,qaf,qal,qah,hk,c1,c2];exact qat x false x.op 0 0 0 ⟨⟨[]⟩⟩ r _ _ (by simp) (by simp) (by simp) (by simp[hk]) (by rw[hv];simp[qas,c1,c2])
theorem qjJ(x:Ex)(hx:x.ok)(hk:x.kind=10):∀S,Fn prog 192 [x.v] S (.bool (x.vOwn qab)):=by
 refine Pu.ib func192 ok192 (by simp[c192]) (by simp[V.under]) rfl ?_;have hv:=Ex.vOwn_eq qab x;have hle:x.args.length≤B50:=(Ex.ok_args hx).1;unfold B50 at hle;generalize x.vOwn qab=r at hv ⊢;simp only[c192,←qbg];simp only[hk] at hv;simp at hv;by_cases c1:3≤x.op
 case neg=>
  simp[boxS,ldS,stS,qac,qaf,qal,qah,hk,c1];exact qat x false x.op 0 0 0 ⟨⟨[]⟩⟩ r _ _ (by simp) (by simp) (by simp) (by simp[hk]) (by rw[hv];simp[qas,c1])
 by_cases c2:x.op≤18
 case neg=>
  simp[boxS,ldS,stS,qac,qaf,qal,qah,hk,c1,c2];exact qat x false x.op 0 0 0 ⟨⟨[]⟩⟩ r _ _ (by simp) (by simp) (by simp) (by simp[hk]) (by rw[hv];simp[qas,c1,c2])
 by_cases hl:x.args.length=2
 case neg=>
  simp[boxS,ldS,stS,qac,qaf,qal,qah,hk,c1,c2,show ¬ ((x.args.length:Int)=2) by omega];exact qat x false x.op 0 0 0 ⟨⟨[]⟩⟩ r _ _ (by simp) (by simp) (by simp) (by simp[hk]) (by rw[hv];simp[qas,c1,c2,hl])
 simp[boxS,ldS,stS,qac,qaf,qal,qah,hk,c1,c2,show (x.args.length:Int)=2 by omega];exact qat x true x.op 0 0 0 ⟨⟨[]⟩⟩ r _ _ (by simp) (by simp) (by simp) (by simp[hk]) (by rw[hv];simp[qas,c1,c2,hl])
theorem qky(x:Ex)(hx:x.ok)(hk:x.kind=11):∀S,Fn prog 192 [x.v] S (.bool (x.vOwn qab)):=by
 refine Pu.ib func192 ok192 (by simp[c192]) (by simp[V.under]) rfl ?_;have hv:=Ex.vOwn_eq qab x;have hle:x.args.length≤B50:=(Ex.ok_args hx).1;unfold B50 at hle;generalize x.vOwn qab=r at hv ⊢;simp only[c192,←qbg];simp only[hk] at hv;simp at hv;by_cases hl:x.args.length=3
 case neg=>
  simp[boxS,ldS,stS,qac,qaf,qal,qah,hk,show ¬ ((x.args.length:Int)=3) by omega];exact qat x false 0 0 0 0 ⟨⟨[]⟩⟩ r _ _ (by simp) (by simp) (by simp) (by simp[hk]) (by rw[hv];simp[qas,hl])
 simp[boxS,ldS,stS,qac,qaf,qal,qah,hk,show (x.args.length:Int)=3 by omega];exact qat x true 0 0 0 0 ⟨⟨[]⟩⟩ r _ _ (by simp) (by simp) (by simp) (by simp[hk]) (by rw[hv];simp[qas,hl])
theorem qkA(x:Ex)(hx:x.ok)(h1:¬ x.kind=1)(h2:¬ x.kind=2)(h3:¬ x.kind=3)(h4:¬ x.kind=4)(h5:¬ x.kind=5)(h6:¬ x.kind=6)(h7:¬ x.kind=7)(h8:¬ x.kind=8)(h9:¬ x.kind=9)(h10:¬ x.kind=10)(h11:¬ x.kind=11):∀S,Fn prog 192 [x.v] S (.bool (x.vOwn qab)):=by
 refine Pu.ib func192 ok192 (by simp[c192]) (by simp[V.under]) rfl ?_;have hv:=Ex.vOwn_eq qab x;have hle:x.args.length≤B50:=(Ex.ok_args hx).1;unfold B50 at hle;generalize x.vOwn qab=r at hv ⊢;simp only[c192,←qbg];have hv':r=false:=by rw[hv];simp[h1,h2,h3,h4,h5,h6,h7,h8,h9,h10,h11]
 simp[boxS,ldS,stS,qac,qaf,qal,qah,h1,h2,h3,h4,h5,h6,h7,h8,h9,h10,h11];exact qat x false 0 0 0 0 ⟨⟨[]⟩⟩ r _ _ (by simp) (by simp) (by simp) (by simp) (by rw[hv'];rfl)
theorem qpz(x:Ex)(hx:x.ok):∀S,Fn prog 192 [x.v] S (.bool (x.vOwn qab)):=by
 by_cases h1:x.kind=1
 ·exact qmt x hx h1
 by_cases h2:x.kind=2
 ·exact qmh x hx h2
 by_cases h3:x.kind=3
 ·exact qms x hx h3
 by_cases h4:x.kind=4
 ·exact qmT x hx h4
 by_cases h5:x.kind=5
 ·exact qlU x hx h5
 by_cases h6:x.kind=6
 ·exact qkN x hx h6
 by_cases h7:x.kind=7
 ·exact qmY x hx h7
 by_cases h8:x.kind=8
 ·exact qlA x hx h8
 by_cases h9:x.kind=9
 ·exact qk9 x hx h9
 by_cases h10:x.kind=10
 ·exact qjJ x hx h10
 by_cases h11:x.kind=11
 ·exact qky x hx h11
 exact qkA x hx h1 h2 h3 h4 h5 h6 h7 h8 h9 h10 h11
noncomputable def qh6:C':=(.seq (.draw [⟨.m 146 6,false,none,false,[],0,0⟩,
 ⟨.m 147 146,false,none,false,[0],0,0⟩,
 ⟨.v 148 147 true (.fa 0 (.t 1)),false,none,false,[1,0],0,0⟩,
 ⟨.v 149 147 true (.ld none (.t 148)),false,none,false,[2,1,0],0,0⟩,
 ⟨.v 150 147 true (.call (.f 223) [(.t 149)]),true,none,false,[3,2,1,0],0,0⟩,
 ⟨.y 151 147 150,false,none,false,[4,3,2,1,0],1,1⟩,
 ⟨.m 152 151,false,none,false,[5,4,3,2,1,0],1,1⟩,
 ⟨.v 153 152 true (.ld (some 8) (.t 1)),false,none,false,[6,5,4,3,2,1,0],1,1⟩,
 ⟨.v 154 152 true (.call (.f 113) [(.t 153)]),true,none,false,[7,6,5,4,3,2,1,0],1,1⟩,
 ⟨.v 155 152 true (.ld (some 8) (.t 3)),false,none,true,[6,5,4,3,2,1,0],1,2⟩,
 ⟨.v 156 152 true (.call (.f 113) [(.t 155)]),true,none,false,[9,8,7,6,5,4,3,2,1,0],2,2⟩,
 ⟨.v 157 152 true (.call (.f 195) [(.t 154),(.t 156)]),true,none,false,[10,9,8,7,6,5,4,3,2,1,0],3,3⟩,
 ⟨.y 158 152 157,false,none,false,[11,10,9,8,7,6,5,4,3,2,1,0],4,4⟩,
 ⟨.m 2 158,false,none,false,[12,11,10,9,8,7,6,5,4,3,2,1,0],4,4⟩] [])
 (.ret))
theorem qbx:qh6=(.seq (.draw [⟨.m 146 6,false,none,false,[],0,0⟩,
 ⟨.m 147 146,false,none,false,[0],0,0⟩,
 ⟨.v 148 147 true (.fa 0 (.t 1)),false,none,false,[1,0],0,0⟩,
 ⟨.v 149 147 true (.ld none (.t 148)),false,none,false,[2,1,0],0,0⟩,
 ⟨.v 150 147 true (.call (.f 223) [(.t 149)]),true,none,false,[3,2,1,0],0,0⟩,
 ⟨.y 151 147 150,false,none,false,[4,3,2,1,0],1,1⟩,
 ⟨.m 152 151,false,none,false,[5,4,3,2,1,0],1,1⟩,
 ⟨.v 153 152 true (.ld (some 8) (.t 1)),false,none,false,[6,5,4,3,2,1,0],1,1⟩,
 ⟨.v 154 152 true (.call (.f 113) [(.t 153)]),true,none,false,[7,6,5,4,3,2,1,0],1,1⟩,
 ⟨.v 155 152 true (.ld (some 8) (.t 3)),false,none,true,[6,5,4,3,2,1,0],1,2⟩,
 ⟨.v 156 152 true (.call (.f 113) [(.t 155)]),true,none,false,[9,8,7,6,5,4,3,2,1,0],2,2⟩,
 ⟨.v 157 152 true (.call (.f 195) [(.t 154),(.t 156)]),true,none,false,[10,9,8,7,6,5,4,3,2,1,0],3,3⟩,
 ⟨.y 158 152 157,false,none,false,[11,10,9,8,7,6,5,4,3,2,1,0],4,4⟩,
 ⟨.m 2 158,false,none,false,[12,11,10,9,8,7,6,5,4,3,2,1,0],4,4⟩] [])
 (.ret)):=rfl
noncomputable def qit:C':=(.seq (.draw [⟨.m 110 5,false,none,false,[],0,0⟩,
 ⟨.m 111 110,false,none,false,[0],0,0⟩,
 ⟨.v 112 111 true (.fa 3 (.t 1)),false,none,false,[1,0],0,0⟩,
 ⟨.v 113 111 true (.ld none (.t 112)),false,none,false,[2,1,0],0,0⟩,
 ⟨.v 114 111 true (.call (.f 223) [(.t 113)]),true,none,false,[3,2,1,0],0,0⟩,
 ⟨.y 115 111 114,false,none,false,[4,3,2,1,0],1,1⟩,
 ⟨.m 116 115,false,none,false,[5,4,3,2,1,0],1,1⟩,
 ⟨.v 117 116 true (.ld (some 7) (.t 1)),false,none,false,[6,5,4,3,2,1,0],1,1⟩,
 ⟨.v 118 116 true (.call (.f 135) [(.t 117)]),true,none,false,[7,6,5,4,3,2,1,0],1,1⟩,
 ⟨.v 119 116 true (.ld (some 7) (.t 3)),false,none,true,[6,5,4,3,2,1,0],1,2⟩,
 ⟨.v 120 116 true (.call (.f 135) [(.t 119)]),true,none,false,[9,8,7,6,5,4,3,2,1,0],2,2⟩,
 ⟨.v 121 116 true (.call (.f 195) [(.t 118),(.t 120)]),true,none,false,[10,9,8,7,6,5,4,3,2,1,0],3,3⟩,
 ⟨.y 122 116 121,false,none,false,[11,10,9,8,7,6,5,4,3,2,1,0],4,4⟩,
 ⟨.m 2 122,false,none,false,[12,11,10,9,8,7,6,5,4,3,2,1,0],4,4⟩] [])
 (.ret))
theorem qcP:qit=(.seq (.draw [⟨.m 110 5,false,none,false,[],0,0⟩,
 ⟨.m 111 110,false,none,false,[0],0,0⟩,
 ⟨.v 112 111 true (.fa 3 (.t 1)),false,none,false,[1,0],0,0⟩,
 ⟨.v 113 111 true (.ld none (.t 112)),false,none,false,[2,1,0],0,0⟩,
 ⟨.v 114 111 true (.call (.f 223) [(.t 113)]),true,none,false,[3,2,1,0],0,0⟩,
 ⟨.y 115 111 114,false,none,false,[4,3,2,1,0],1,1⟩,
 ⟨.m 116 115,false,none,false,[5,4,3,2,1,0],1,1⟩,
 ⟨.v 117 116 true (.ld (some 7) (.t 1)),false,none,false,[6,5,4,3,2,1,0],1,1⟩,
 ⟨.v 118 116 true (.call (.f 135) [(.t 117)]),true,none,false,[7,6,5,4,3,2,1,0],1,1⟩,
 ⟨.v 119 116 true (.ld (some 7) (.t 3)),false,none,true,[6,5,4,3,2,1,0],1,2⟩,
 ⟨.v 120 116 true (.call (.f 135) [(.t 119)]),true,none,false,[9,8,7,6,5,4,3,2,1,0],2,2⟩,
 ⟨.v 121 116 true (.call (.f 195) [(.t 118),(.t 120)]),true,none,false,[10,9,8,7,6,5,4,3,2,1,0],3,3⟩,
 ⟨.y 122 116 121,false,none,false,[11,10,9,8,7,6,5,4,3,2,1,0],4,4⟩,
 ⟨.m 2 122,false,none,false,[12,11,10,9,8,7,6,5,4,3,2,1,0],4,4⟩] [])
 (.ret)):=rfl
open Classical in
theorem qtm(s t:Sm):EqP 1 1 s t De.z De.z El.z El.z Ex.z Ex.z↔EqL1 s t∧EqS s t:=by
 unfold EqP EqL2 EqD EqX;simp
open Classical in
theorem qtq(c d:De):EqP 2 2 Sm.z Sm.z c d El.z El.z Ex.z Ex.z↔c.formals=d.formals∧(c.exps.length=d.exps.length∧c.body.length=d.body.length)∧EqD c d:=by
 unfold EqP EqL1 EqL2 EqS EqX;simp
theorem qbw{α:Type}{l:List α}(q:α→Bool)(h:l.length=0):l.all q=true:=by
 rw[qt6 h];rfl
open Classical in
theorem qaE(s:Sm)(hs:s.ok)(ok:Bool)(t:ByteArray)(b3 b4 b5 b6 b7:Bool)(g e:List Ex)(f:List El)(d:List De)(b:List Sm)(r:Bool)(E:Env)(S:St)
  (g1:E.get 1=some (.ptr 0 0 0 1)) (g3:E.get 3=some (.ptr 1 0 0 1)) (g6:E.get 6=some (.bool ok))
  (hS:S=[.arr [s.v] 8 1,.arr [.agg [.sl false (s.labels.map .str),.int .i64 s.kind,.str t,.sl b3 (g.map Ex.v),.sl b4 (e.map Ex.v),.sl b5 (f.map El.v),.sl b6 (d.map De.v),.sl b7 (b.map Sm.v)]] 8 1])
  (hr:r=(ok && (s.labels.all qab && (decide (s.targets.length=g.length) && decide (s.exps.length=e.length) && decide (s.elems.length=f.length) && decide (s.decls.length=d.length) && decide (s.body.length=b.length) && decide (s.text=t))))):
  WP prog qh6 (endp [.t 2] 0 fun v U=>v=.bool r∧U=[]) E S:=by
 subst hS;have hO:=(Sm.ok_iff s).1 hs
 have hy:V.weakL [V.agg [.sl false (s.labels.map .str),.int .i64 s.kind,.str t,.sl b3 (g.map Ex.v),.sl b4 (e.map Ex.v),.sl b5 (f.map El.v),.sl b6 (d.map De.v),.sl b7 (b.map Sm.v)]]=[(Sm.mk s.labels s.kind t g e f d b).v]:=by
  simp only[V.weakL,V.weak,wEx,wEl,wDe,wSm,wStr];rw[Sm.v_eq];rfl
 have h113:=fun S=>Spec.weakA (args:=[V.agg [.sl false (s.labels.map .str),.int .i64 s.kind,.str t,.sl b3 (g.map Ex.v),.sl b4 (e.map Ex.v),.sl b5 (f.map El.v),.sl b6 (d.map De.v),.sl b7 (b.map Sm.v)]]) (by rw[hy];exact qfn (Sm.mk s.labels s.kind t g e f d b) S)
 generalize hyy:Sm.mk s.labels s.kind t g e f d b=y at hy h113;simp only[qh6]
 cases ok with
 | false=>
  simp[g1,g3,g6,ldS,dend,qbe,qbj];exact qaa rfl (by rw[hr];rfl) rfl
 | true=>
  simp[g1,g3,g6,ldS];refine qa6 (qmA s.labels hO.labels.1 _) ?_
  cases hn:allQ s.labels qab with
  | false=>
   unfold allQ at hn;simp[g1,g3,g6,ldS,dend,qbe,qbj];exact qaa rfl (by rw[hr,hn];rfl) rfl
  | true=>
   unfold allQ at hn;simp[g1,ldS];refine qa6 (qfn s _) ?_;simp[g3,ldS,qaf];refine qa6 (h113 _) ?_;simp;refine qa6 (qgy 1 1 s y De.z De.z El.z El.z Ex.z Ex.z hs De.z_ok _) ?_;simp[dend,qbe,qbj,g3,ldS,qaf];refine qaa rfl ?_ rfl;rw[hr,hn];simp only[retV,V.bool.injEq,qvp];rw[qui,decide_eq_true_eq,qtm,←hyy];rw[qtJ,qtJ,qtJ,qtJ,qtJ,decide_eq_true_eq,decide_eq_true_eq,decide_eq_true_eq,decide_eq_true_eq,decide_eq_true_eq,decide_eq_true_eq];unfold EqL1 EqS;constructor
   ·rintro ⟨⟨h1,h2,h3,h4,h5⟩,_,h6,_⟩;exact ⟨⟨⟨⟨⟨h1,h2⟩,h3⟩,h4⟩,h5⟩,h6⟩
   ·rintro ⟨⟨⟨⟨⟨h1,h2⟩,h3⟩,h4⟩,h5⟩,h6⟩;exact ⟨⟨h1,h2,h3,h4,h5⟩,rfl,h6,rfl⟩
open Classical in
theorem qaP(c:De)(hs:c.ok)(ok:Bool)(o:Bool)(t:Int)(b4 b5 b6:Bool)(e:List Ex)(f:List Fo)(b:List Sm)(r:Bool)(E:Env)(S:St)
  (g1:E.get 1=some (.ptr 0 0 0 1)) (g3:E.get 3=some (.ptr 1 0 0 1)) (g5:E.get 5=some (.bool ok))
  (hS:S=[.arr [c.v] 7 1,.arr [.agg [.int .i64 c.kind,.bool o,.int .i64 t,.sl false (c.names.map .str),.sl b4 (e.map Ex.v),.sl b5 (f.map Fo.v),.sl b6 (b.map Sm.v)]] 7 1])
  (hr:r=(ok && (c.names.all qab && (decide (c.formals=f) && decide (c.exps.length=e.length) && decide (c.body.length=b.length) && decide (c.own=o) && decide (c.type=t))))):
  WP prog qit (endp [.t 2] 0 fun v U=>v=.bool r∧U=[]) E S:=by
 subst hS;have hO:=(De.ok_iff c).1 hs
 have hy:V.weakL [V.agg [.int .i64 c.kind,.bool o,.int .i64 t,.sl false (c.names.map .str),.sl b4 (e.map Ex.v),.sl b5 (f.map Fo.v),.sl b6 (b.map Sm.v)]]=[(De.mk c.kind o t c.names e f b).v]:=by
  simp only[V.weakL,V.weak,wEx,wFo,wSm,wStr];rw[De.v_eq];rfl
 have h135:=fun S=>Spec.weakA (args:=[V.agg [.int .i64 c.kind,.bool o,.int .i64 t,.sl false (c.names.map .str),.sl b4 (e.map Ex.v),.sl b5 (f.map Fo.v),.sl b6 (b.map Sm.v)]]) (by rw[hy];exact qlf (De.mk c.kind o t c.names e f b) S)
 generalize hyy:De.mk c.kind o t c.names e f b=y at hy h135;simp only[qit]
 cases ok with
 | false=>
  simp[g1,g3,g5,ldS,dend,qbe,qbj];exact qaa rfl (by rw[hr];rfl) rfl
 | true=>
  simp[g1,g3,g5,ldS];refine qa6 (qmA c.names hO.names.1 _) ?_
  cases hn:allQ c.names qab with
  | false=>
   unfold allQ at hn;simp[g1,g3,g5,ldS,dend,qbe,qbj];exact qaa rfl (by rw[hr,hn];rfl) rfl
  | true=>
   unfold allQ at hn;simp[g1,ldS];refine qa6 (qlf c _) ?_;simp[g3,ldS,qaf];refine qa6 (h135 _) ?_;simp;refine qa6 (qgy 2 2 Sm.z Sm.z c y El.z El.z Ex.z Ex.z Ex.z_ok hs _) ?_;simp[dend,qbe,qbj,g3,ldS,qaf];refine qaa rfl ?_ rfl;rw[hr,hn];simp only[retV,V.bool.injEq,qvp];rw[qui,decide_eq_true_eq,qtq,←hyy];rw[qtJ,qtJ,qtJ,qtJ,decide_eq_true_eq,decide_eq_true_eq,decide_eq_true_eq,decide_eq_true_eq,decide_eq_true_eq];unfold EqD;constructor
   ·rintro ⟨h1,⟨h2,h3⟩,_,h4,h5,_⟩;exact ⟨⟨⟨⟨h1,h2⟩,h3⟩,h4⟩,h5⟩
   ·rintro ⟨⟨⟨⟨h1,h2⟩,h3⟩,h4⟩,h5⟩;exact ⟨h1,⟨h2,h3⟩,rfl,h4,h5,rfl⟩
theorem qrP(e:El):∀S,Fn prog 191 [e.v] S (.bool e.vOwn):=by
 refine Pu.ib func191 ok191 (by simp[c191]) (by simp[V.under]) rfl ?_;unfold El.vOwn;by_cases h1:e.kind=1
 ·by_cases hl:(e.exps.length:Int)=1
  ·simp[c191,boxS,ldS,h1,hl];exact qaa rfl (by simp[retV];omega) rfl
  ·simp[c191,boxS,ldS,h1,hl];exact qaa rfl (by simp[retV];omega) rfl
 by_cases h2:e.kind=2
 ·by_cases hl:(e.exps.length:Int)=3
  ·simp[c191,boxS,ldS,h2,hl];exact qaa rfl (by simp[retV];omega) rfl
  ·simp[c191,boxS,ldS,h2,hl];exact qaa rfl (by simp[retV];omega) rfl
 by_cases h3:e.kind=3
 ·simp[c191,boxS,ldS,h3];exact qaa rfl (by simp[retV];omega) rfl
 simp[c191,boxS,ldS,h1,h2,h3];exact qaa rfl rfl rfl
theorem qls(s:Sm)(hs:s.ok)(hk:s.kind=1):∀S,Fn prog 189 [s.v] S (.bool (s.vOwn qab)):=by
 refine Pu.ib func189 ok189 (by simp[c189]) (by simp[V.under]) rfl ?_;have hO:=(Sm.ok_iff s).1 hs;have hv:=Sm.vOwn_1 qab s hk;simp only[qaY,qba,qbb,qa7,qa9] at hv;have hnt:=qas s.text;generalize s.vOwn qab=r at hv ⊢;simp only[c189,←qbx];simp[boxS,ldS,stS,qac,qaf,qal,qah,hk]
 exact qaE s hs true ⟨⟨[]⟩⟩ true true true true true [] [] [] [] [] r _ _ (by simp) (by simp) (by simp) (by simp[hk]) (by
  rw[hv];by_cases ht0:s.targets.length=0
  ·rw[qbw Ex.tgt ht0];simp[hnt,true_and] <;> simp only[qt0,qt2,qtR]
  ·simp[hnt,show ¬ s.targets=[] from fun h=>ht0 (by rw[h];rfl),true_and])
theorem qlW(s:Sm)(hs:s.ok)(hk:s.kind=2):∀S,Fn prog 189 [s.v] S (.bool (s.vOwn qab)):=by
 refine Pu.ib func189 ok189 (by simp[c189]) (by simp[V.under]) rfl ?_;have hO:=(Sm.ok_iff s).1 hs;have hv:=Sm.vOwn_2 qab s hk;simp only[qaY,qba,qbb,qa7,qa9] at hv;have hnt:=qas s.text;generalize s.vOwn qab=r at hv ⊢;simp only[c189,←qbx];simp[boxS,ldS,stS,qac,qaf,qal,qah,hk];refine qag (qkW s.targets hO.targets.1 _) ?_;cases d1:allQ s.targets Ex.tgt && decide (0<s.targets.length)
 case false=>
  simp[boxS,ldS,stS,qac,qaf,qal,qah]
  exact qaE s hs false ⟨⟨[]⟩⟩ false false true true true s.targets s.exps [] [] [] r _ _ (by simp) (by simp) (by simp) (by simp[hk]) (by
   rw[hv];rw[qu4] at d1;rcases d1 with d1|d1
   ·unfold allQ at d1;simp[d1]
   ·have:s.targets.length=0:=by have:=of_decide_eq_false d1;omega
    simp[this])
 rw[qtJ,decide_eq_true_eq] at d1;obtain ⟨da,db⟩:=d1;unfold allQ at da;by_cases d2:s.exps.length=1
 case neg=>
  simp[boxS,ldS,stS,qac,qaf,qal,qah,show ¬ ((s.exps.length:Int)=1) by omega]
  exact qaE s hs false ⟨⟨[]⟩⟩ false false true true true s.targets s.exps [] [] [] r _ _ (by simp) (by simp) (by simp) (by simp[hk]) (by
   rw[hv];simp[hnt,da,db,show ¬ s.targets=[] from fun h=>by rw[h] at db;simp at db,show 1≤s.targets.length from db,d2,not_false_eq_true,true_and] <;> simp only[qt0,qt2,qtR];)
 simp[boxS,ldS,stS,qac,qaf,qal,qah,show (s.exps.length:Int)=1 by omega]
 exact qaE s hs true ⟨⟨[]⟩⟩ false false true true true s.targets s.exps [] [] [] r _ _ (by simp) (by simp) (by simp) (by simp[hk]) (by
  rw[hv];simp[hnt,da,db,show ¬ s.targets=[] from fun h=>by rw[h] at db;simp at db,show 1≤s.targets.length from db,d2,true_and] <;> simp only[qt0,qt2,qtR];)
theorem qlC(s:Sm)(hs:s.ok)(hk:s.kind=3):∀S,Fn prog 189 [s.v] S (.bool (s.vOwn qab)):=by
 refine Pu.ib func189 ok189 (by simp[c189]) (by simp[V.under]) rfl ?_;have hO:=(Sm.ok_iff s).1 hs;have hv:=Sm.vOwn_3 qab s hk;simp only[qaY,qba,qbb,qa7,qa9] at hv;have hnt:=qas s.text;generalize s.vOwn qab=r at hv ⊢;simp only[c189,←qbx];by_cases d1:s.exps.length=1
 case neg=>
  simp[boxS,ldS,stS,qac,qaf,qal,qah,hk,show ¬ ((s.exps.length:Int)=1) by omega]
  exact qaE s hs false ⟨⟨[]⟩⟩ true false true true true [] s.exps [] [] [] r _ _ (by simp) (by simp) (by simp) (by simp[hk]) (by
   rw[hv];by_cases ht0:s.targets.length=0
   ·rw[qbw Ex.tgt ht0];simp[hnt,d1,not_false_eq_true,true_and] <;> simp only[qt0,qt2,qtR]
   ·simp[hnt,show ¬ s.targets=[] from fun h=>ht0 (by rw[h];rfl),d1,not_false_eq_true,true_and])
 simp[boxS,ldS,stS,qac,qaf,qal,qah,hk,show (s.exps.length:Int)=1 by omega]
 exact qaE s hs true ⟨⟨[]⟩⟩ true false true true true [] s.exps [] [] [] r _ _ (by simp) (by simp) (by simp) (by simp[hk]) (by
  rw[hv];by_cases ht0:s.targets.length=0
  ·rw[qbw Ex.tgt ht0];simp[hnt,d1,true_and] <;> simp only[qt0,qt2,qtR]
  ·simp[hnt,show ¬ s.targets=[] from fun h=>ht0 (by rw[h];rfl),d1,true_and])
theorem qmX(s:Sm)(hs:s.ok)(hk:s.kind=4):∀S,Fn prog 189 [s.v] S (.bool (s.vOwn qab)):=by
 refine Pu.ib func189 ok189 (by simp[c189]) (by simp[V.under]) rfl ?_;have hO:=(Sm.ok_iff s).1 hs;have hv:=Sm.vOwn_4 qab s hk;simp only[qaY,qba,qbb,qa7,qa9] at hv;have hnt:=qas s.text;generalize s.vOwn qab=r at hv ⊢;simp only[c189,←qbx];by_cases d1:s.exps.length=1
 case neg=>
  simp[boxS,ldS,stS,qac,qaf,qal,qah,hk,show ¬ ((s.exps.length:Int)=1) by omega]
  exact qaE s hs false ⟨⟨[]⟩⟩ true false true true false [] s.exps [] [] s.body r _ _ (by simp) (by simp) (by simp) (by simp[hk]) (by
   rw[hv];by_cases ht0:s.targets.length=0
   ·rw[qbw Ex.tgt ht0];simp[hnt,d1,not_false_eq_true,true_and] <;> simp only[qt0,qt2,qtR]
   ·simp[hnt,show ¬ s.targets=[] from fun h=>ht0 (by rw[h];rfl),d1,not_false_eq_true,true_and])
 by_cases d2:1≤s.body.length
 case neg=>
  simp[boxS,ldS,stS,qac,qaf,qal,qah,hk,show (s.exps.length:Int)=1 by omega,show ¬ ((1:Int)≤(s.body.length:Int)) by omega]
  exact qaE s hs false ⟨⟨[]⟩⟩ true false true true false [] s.exps [] [] s.body r _ _ (by simp) (by simp) (by simp) (by simp[hk]) (by
   rw[hv];by_cases ht0:s.targets.length=0
   ·rw[qbw Ex.tgt ht0];simp[hnt,d1,d2,not_false_eq_true,true_and] <;> simp only[qt0,qt2,qtR]
   ·simp[hnt,show ¬ s.targets=[] from fun h=>ht0 (by rw[h];rfl),d1,d2,not_false_eq_true,true_and])
 by_cases d3:s.body.length≤2
 case neg=>
  simp[boxS,ldS,stS,qac,qaf,qal,qah,hk,show (s.exps.length:Int)=1 by omega,show (1:Int)≤(s.body.length:Int) by omega,show ¬ ((s.body.length:Int)≤2) by omega]
  exact qaE s hs false ⟨⟨[]⟩⟩ true false true true false [] s.exps [] [] s.body r _ _ (by simp) (by simp) (by simp) (by simp[hk]) (by
   rw[hv];by_cases ht0:s.targets.length=0
   ·rw[qbw Ex.tgt ht0];simp[hnt,d1,d2,d3,not_false_eq_true,true_and] <;> simp only[qt0,qt2,qtR]
   ·simp[hnt,show ¬ s.targets=[] from fun h=>ht0 (by rw[h];rfl),d1,d2,d3,not_false_eq_true,true_and])
 have hb0:0<s.body.length:=by omega
 have hno:=qlq hb0;by_cases d4:s.body[0].kind=4
 case pos=>
  simp[boxS,ldS,stS,qac,qaf,qal,qah,hk,show (s.exps.length:Int)=1 by omega,show (1:Int)≤(s.body.length:Int) by omega,show (s.body.length:Int)≤2 by omega,qkJ hb0,d4]
  exact qaE s hs false ⟨⟨[]⟩⟩ true false true true false [] s.exps [] [] s.body r _ _ (by simp) (by simp) (by simp) (by simp[hk]) (by
   rw[hv];by_cases ht0:s.targets.length=0
   ·rw[qbw Ex.tgt ht0];simp[hnt,d1,d2,d3,hno,d4,true_and] <;> simp only[qt0,qt2,qtR]
   ·simp[hnt,show ¬ s.targets=[] from fun h=>ht0 (by rw[h];rfl),d1,d2,d3,hno,d4,true_and])
 by_cases d5:s.body[0].kind=5
 case pos=>
  simp[boxS,ldS,stS,qac,qaf,qal,qah,hk,show (s.exps.length:Int)=1 by omega,show (1:Int)≤(s.body.length:Int) by omega,show (s.body.length:Int)≤2 by omega,qkJ hb0,d4,d5]
  exact qaE s hs false ⟨⟨[]⟩⟩ true false true true false [] s.exps [] [] s.body r _ _ (by simp) (by simp) (by simp) (by simp[hk]) (by
   rw[hv];by_cases ht0:s.targets.length=0
   ·rw[qbw Ex.tgt ht0];simp[hnt,d1,d2,d3,d4,hno,hno,d5,true_and] <;> simp only[qt0,qt2,qtR]
   ·simp[hnt,show ¬ s.targets=[] from fun h=>ht0 (by rw[h];rfl),d1,d2,d3,d4,hno,hno,d5,true_and])
 simp[boxS,ldS,stS,qac,qaf,qal,qah,hk,show (s.exps.length:Int)=1 by omega,show (1:Int)≤(s.body.length:Int) by omega,show (s.body.length:Int)≤2 by omega,qkJ hb0,d4,d5]
 exact qaE s hs true ⟨⟨[]⟩⟩ true false true true false [] s.exps [] [] s.body r _ _ (by simp) (by simp) (by simp) (by simp[hk]) (by
  rw[hv];by_cases ht0:s.targets.length=0
  ·rw[qbw Ex.tgt ht0];simp[hnt,d1,d2,d3,d4,hno,d5,true_and] <;> simp only[qt0,qt2,qtR]
  ·simp[hnt,show ¬ s.targets=[] from fun h=>ht0 (by rw[h];rfl),d1,d2,d3,d4,hno,d5,true_and])
theorem qkR(s:Sm)(hs:s.ok)(hk:s.kind=5):∀S,Fn prog 189 [s.v] S (.bool (s.vOwn qab)):=by
 refine Pu.ib func189 ok189 (by simp[c189]) (by simp[V.under]) rfl ?_;have hO:=(Sm.ok_iff s).1 hs;have hv:=Sm.vOwn_5 qab s hk;simp only[qaY,qba,qbb,qa7,qa9] at hv;have hnt:=qas s.text;generalize s.vOwn qab=r at hv ⊢;simp only[c189,←qbx];simp[boxS,ldS,stS,qac,qaf,qal,qah,hk];refine qag (qkW s.targets hO.targets.1 _) ?_;cases d1:allQ s.targets Ex.tgt && decide (0<s.targets.length)
 case false=>
  simp[boxS,ldS,stS,qac,qaf,qal,qah]
  exact qaE s hs false ⟨⟨[]⟩⟩ false true false true false s.targets [] s.elems [] s.body r _ _ (by simp) (by simp) (by simp) (by simp[hk]) (by
   rw[hv];rw[qu4] at d1;rcases d1 with d1|d1
   ·unfold allQ at d1;simp[d1]
   ·have:s.targets.length=0:=by have:=of_decide_eq_false d1;omega
    simp[this])
 rw[qtJ,decide_eq_true_eq] at d1;obtain ⟨da,db⟩:=d1;unfold allQ at da;by_cases d2:s.targets.length=1
 case neg=>
  simp[boxS,ldS,stS,qac,qaf,qal,qah,show ¬ ((s.targets.length:Int)=1) by omega]
  exact qaE s hs false ⟨⟨[]⟩⟩ false true false true false s.targets [] s.elems [] s.body r _ _ (by simp) (by simp) (by simp) (by simp[hk]) (by
   rw[hv];simp[hnt,da,db,show ¬ s.targets=[] from fun h=>by rw[h] at db;simp at db,show 1≤s.targets.length from db,d2,not_false_eq_true,true_and] <;> simp only[qt0,qt2,qtR];)
 by_cases d3:1≤s.elems.length
 case neg=>
  simp[boxS,ldS,stS,qac,qaf,qal,qah,show (s.targets.length:Int)=1 by omega,show ¬ ((1:Int)≤(s.elems.length:Int)) by omega]
  exact qaE s hs false ⟨⟨[]⟩⟩ false true false true false s.targets [] s.elems [] s.body r _ _ (by simp) (by simp) (by simp) (by simp[hk]) (by
   rw[hv];simp[hnt,da,db,show ¬ s.targets=[] from fun h=>by rw[h] at db;simp at db,show 1≤s.targets.length from db,d2,d3,not_false_eq_true,true_and] <;> simp only[qt0,qt2,qtR];)
 by_cases d4:s.body.length=1
 case neg=>
  simp[boxS,ldS,stS,qac,qaf,qal,qah,show (s.targets.length:Int)=1 by omega,show (1:Int)≤(s.elems.length:Int) by omega,show ¬ ((s.body.length:Int)=1) by omega]
  exact qaE s hs false ⟨⟨[]⟩⟩ false true false true false s.targets [] s.elems [] s.body r _ _ (by simp) (by simp) (by simp) (by simp[hk]) (by
   rw[hv];simp[hnt,da,db,show ¬ s.targets=[] from fun h=>by rw[h] at db;simp at db,show 1≤s.targets.length from db,d2,d3,d4,not_false_eq_true,true_and] <;> simp only[qt0,qt2,qtR];)
 simp[boxS,ldS,stS,qac,qaf,qal,qah,show (s.targets.length:Int)=1 by omega,show (1:Int)≤(s.elems.length:Int) by omega,show (s.body.length:Int)=1 by omega]
 exact qaE s hs true ⟨⟨[]⟩⟩ false true false true false s.targets [] s.elems [] s.body r _ _ (by simp) (by simp) (by simp) (by simp[hk]) (by
  rw[hv];simp[hnt,da,db,show ¬ s.targets=[] from fun h=>by rw[h] at db;simp at db,show 1≤s.targets.length from db,d2,d3,d4,true_and] <;> simp only[qt0,qt2,qtR];)
theorem qnn(s:Sm)(hs:s.ok)(hk:s.kind=6):∀S,Fn prog 189 [s.v] S (.bool (s.vOwn qab)):=by
 refine Pu.ib func189 ok189 (by simp[c189]) (by simp[V.under]) rfl ?_;have hO:=(Sm.ok_iff s).1 hs;have hv:=Sm.vOwn_6 qab s hk;simp only[qaY,qba,qbb,qa7,qa9] at hv;have hnt:=qas s.text;generalize s.vOwn qab=r at hv ⊢;simp only[c189,←qbx];simp[boxS,ldS,stS,qac,qaf,qal,qah,hk];refine qag (qcu s.text _) ?_;cases d1:qab s.text
 case false=>
  simp[boxS,ldS,stS,qac,qaf,qal,qah]
  exact qaE s hs false s.text true false true true true [] s.exps [] [] [] r _ _ (by simp) (by simp) (by simp) (by simp[hk]) (by
   rw[hv];by_cases ht0:s.targets.length=0
   ·rw[qbw Ex.tgt ht0];simp[hnt,d1,true_and] <;> simp only[qt0,qt2,qtR]
   ·simp[hnt,show ¬ s.targets=[] from fun h=>ht0 (by rw[h];rfl),d1,true_and])
 by_cases d2:s.exps.length≤8
 case neg=>
  simp[boxS,ldS,stS,qac,qaf,qal,qah,show ¬ ((s.exps.length:Int)≤8) by omega]
  exact qaE s hs false s.text true false true true true [] s.exps [] [] [] r _ _ (by simp) (by simp) (by simp) (by simp[hk]) (by
   rw[hv];by_cases ht0:s.targets.length=0
   ·rw[qbw Ex.tgt ht0];simp[hnt,d1,d2,not_false_eq_true,true_and] <;> simp only[qt0,qt2,qtR]
   ·simp[hnt,show ¬ s.targets=[] from fun h=>ht0 (by rw[h];rfl),d1,d2,not_false_eq_true,true_and])
 simp[boxS,ldS,stS,qac,qaf,qal,qah,show (s.exps.length:Int)≤8 by omega]
 exact qaE s hs true s.text true false true true true [] s.exps [] [] [] r _ _ (by simp) (by simp) (by simp) (by simp[hk]) (by
  rw[hv];by_cases ht0:s.targets.length=0
  ·rw[qbw Ex.tgt ht0];simp[hnt,d1,d2,true_and] <;> simp only[qt0,qt2,qtR]
  ·simp[hnt,show ¬ s.targets=[] from fun h=>ht0 (by rw[h];rfl),d1,d2,true_and])
theorem qll(s:Sm)(hs:s.ok)(hk:s.kind=7):∀S,Fn prog 189 [s.v] S (.bool (s.vOwn qab)):=by
 refine Pu.ib func189 ok189 (by simp[c189]) (by simp[V.under]) rfl ?_;have hO:=(Sm.ok_iff s).1 hs;have hv:=Sm.vOwn_7 qab s hk;simp only[qaY,qba,qbb,qa7,qa9] at hv;have hnt:=qas s.text;generalize s.vOwn qab=r at hv ⊢;simp only[c189,←qbx];by_cases d1:1≤s.decls.length
 case neg=>
  simp[boxS,ldS,stS,qac,qaf,qal,qah,hk,show ¬ ((1:Int)≤(s.decls.length:Int)) by omega]
  exact qaE s hs false ⟨⟨[]⟩⟩ true true true false false [] [] [] s.decls s.body r _ _ (by simp) (by simp) (by simp) (by simp[hk]) (by
   rw[hv];by_cases ht0:s.targets.length=0
   ·rw[qbw Ex.tgt ht0];simp[hnt,d1,not_false_eq_true,true_and] <;> simp only[qt0,qt2,qtR]
   ·simp[hnt,show ¬ s.targets=[] from fun h=>ht0 (by rw[h];rfl),d1,not_false_eq_true,true_and])
 by_cases d2:1≤s.body.length
 case neg=>
  simp[boxS,ldS,stS,qac,qaf,qal,qah,hk,show (1:Int)≤(s.decls.length:Int) by omega,show ¬ ((1:Int)≤(s.body.length:Int)) by omega]
  exact qaE s hs false ⟨⟨[]⟩⟩ true true true false false [] [] [] s.decls s.body r _ _ (by simp) (by simp) (by simp) (by simp[hk]) (by
   rw[hv];by_cases ht0:s.targets.length=0
   ·rw[qbw Ex.tgt ht0];simp[hnt,d1,d2,not_false_eq_true,true_and] <;> simp only[qt0,qt2,qtR]
   ·simp[hnt,show ¬ s.targets=[] from fun h=>ht0 (by rw[h];rfl),d1,d2,not_false_eq_true,true_and])
 simp[boxS,ldS,stS,qac,qaf,qal,qah,hk,show (1:Int)≤(s.decls.length:Int) by omega,show (1:Int)≤(s.body.length:Int) by omega]
 exact qaE s hs true ⟨⟨[]⟩⟩ true true true false false [] [] [] s.decls s.body r _ _ (by simp) (by simp) (by simp) (by simp[hk]) (by
  rw[hv];by_cases ht0:s.targets.length=0
  ·rw[qbw Ex.tgt ht0];simp[hnt,d1,d2,true_and] <;> simp only[qt0,qt2,qtR]
  ·simp[hnt,show ¬ s.targets=[] from fun h=>ht0 (by rw[h];rfl),d1,d2,true_and])
theorem qkL(s:Sm)(hs:s.ok)(hk:s.kind=8):∀S,Fn prog 189 [s.v] S (.bool (s.vOwn qab)):=by
 refine Pu.ib func189 ok189 (by simp[c189]) (by simp[V.under]) rfl ?_;have hO:=(Sm.ok_iff s).1 hs;have hv:=Sm.vOwn_8 qab s hk;simp only[qaY,qba,qbb,qa7,qa9] at hv;have hnt:=qas s.text;generalize s.vOwn qab=r at hv ⊢;simp only[c189,←qbx];by_cases d1:1≤s.body.length
 case neg=>
  simp[boxS,ldS,stS,qac,qaf,qal,qah,hk,show ¬ ((1:Int)≤(s.body.length:Int)) by omega]
  exact qaE s hs false ⟨⟨[]⟩⟩ true true true true false [] [] [] [] s.body r _ _ (by simp) (by simp) (by simp) (by simp[hk]) (by
   rw[hv];by_cases ht0:s.targets.length=0
   ·rw[qbw Ex.tgt ht0];simp[hnt,d1,not_false_eq_true,true_and] <;> simp only[qt0,qt2,qtR]
   ·simp[hnt,show ¬ s.targets=[] from fun h=>ht0 (by rw[h];rfl),d1,not_false_eq_true,true_and])
 simp[boxS,ldS,stS,qac,qaf,qal,qah,hk,show (1:Int)≤(s.body.length:Int) by omega]
 exact qaE s hs true ⟨⟨[]⟩⟩ true true true true false [] [] [] [] s.body r _ _ (by simp) (by simp) (by simp) (by simp[hk]) (by
  rw[hv];by_cases ht0:s.targets.length=0
  ·rw[qbw Ex.tgt ht0];simp[hnt,d1,true_and] <;> simp only[qt0,qt2,qtR]
  ·simp[hnt,show ¬ s.targets=[] from fun h=>ht0 (by rw[h];rfl),d1,true_and])
theorem qkn(s:Sm)(hs:s.ok)(h:¬ (1≤s.kind∧s.kind≤8)):∀S,Fn prog 189 [s.v] S (.bool (s.vOwn qab)):=by
 refine Pu.ib func189 ok189 (by simp[c189]) (by simp[V.under]) rfl ?_;have hO:=(Sm.ok_iff s).1 hs;have hv:=Sm.vOwn_no qab s h;have hnt:=qas s.text;generalize s.vOwn qab=r at hv ⊢;simp only[c189,←qbx];simp[boxS,ldS,stS,qac,qaf,qal,qah,show ¬ s.kind=1 by omega,show ¬ s.kind=2 by omega,show ¬ s.kind=3 by omega,show ¬ s.kind=4 by omega,show ¬ s.kind=5 by omega,show ¬ s.kind=6 by omega,show ¬ s.kind=7 by omega,show ¬ s.kind=8 by omega];exact qaE s hs false ⟨⟨[]⟩⟩ true true true true true [] [] [] [] [] r _ _ (by simp) (by simp) (by simp) (by simp) (by rw[hv];rfl)
theorem qre(s:Sm)(hs:s.ok):∀S,Fn prog 189 [s.v] S (.bool (s.vOwn qab)):=by
 by_cases h1:s.kind=1
 ·exact qls s hs h1
 by_cases h2:s.kind=2
 ·exact qlW s hs h2
 by_cases h3:s.kind=3
 ·exact qlC s hs h3
 by_cases h4:s.kind=4
 ·exact qmX s hs h4
 by_cases h5:s.kind=5
 ·exact qkR s hs h5
 by_cases h6:s.kind=6
 ·exact qnn s hs h6
 by_cases h7:s.kind=7
 ·exact qll s hs h7
 by_cases h8:s.kind=8
 ·exact qkL s hs h8
 exact qkn s hs (by omega)
theorem qlX(d:De)(hs:d.ok)(hk:d.kind=1):∀S,Fn prog 190 [d.v] S (.bool (d.vOwn qab)):=by
 refine Pu.ib func190 ok190 (by simp[c190]) (by simp[V.under]) rfl ?_;have hO:=(De.ok_iff d).1 hs;have hv:=De.vOwn_1 qab d hk;simp only[qaY,qba,qbb,qa7,qa9,qby] at hv;generalize d.vOwn qab=r at hv ⊢;simp only[c190,←qcP];simp[boxS,ldS,stS,qac,qaf,qal,qah,hk];refine qag (qey _ _ _ _) ?_;by_cases d1:1≤d.type∧d.type≤3
 case neg=>
  rw[qaH d1];simp[boxS,ldS,stS,qac,qaf,qal,qah]
  exact qaP d hs false d.own d.type true true true [] [] [] r _ _ (by simp) (by simp) (by simp) (by simp[hk]) (by
   rw[hv];simp[d1,true_and] <;> simp only[qt0,qt2,qtR])
 rw[qaM d1];by_cases d2:1≤d.names.length
 case neg=>
  simp[boxS,ldS,stS,qac,qaf,qal,qah,show ¬ ((1:Int)≤(d.names.length:Int)) by omega]
  exact qaP d hs false d.own d.type true true true [] [] [] r _ _ (by simp) (by simp) (by simp) (by simp[hk]) (by
   rw[hv];simp[d1,d2,not_false_eq_true,true_and] <;> simp only[qt0,qt2,qtR])
 simp[boxS,ldS,stS,qac,qaf,qal,qah,show (1:Int)≤(d.names.length:Int) by omega]
 exact qaP d hs true d.own d.type true true true [] [] [] r _ _ (by simp) (by simp) (by simp) (by simp[hk]) (by
  rw[hv];simp[d1,d2,true_and] <;> simp only[qt0,qt2,qtR])
theorem qm0(d:De)(hs:d.ok)(hk:d.kind=2):∀S,Fn prog 190 [d.v] S (.bool (d.vOwn qab)):=by
 refine Pu.ib func190 ok190 (by simp[c190]) (by simp[V.under]) rfl ?_;have hO:=(De.ok_iff d).1 hs;have hv:=De.vOwn_2 qab d hk;simp only[qaY,qba,qbb,qa7,qa9,qby] at hv;generalize d.vOwn qab=r at hv ⊢;simp only[c190,←qcP];simp[boxS,ldS,stS,qac,qaf,qal,qah,hk];refine qag (qey _ _ _ _) ?_;by_cases d1:1≤d.type∧d.type≤3
 case neg=>
  rw[qaH d1];simp[boxS,ldS,stS,qac,qaf,qal,qah]
  exact qaP d hs false d.own d.type false true true d.exps [] [] r _ _ (by simp) (by simp) (by simp) (by simp[hk]) (by
   rw[hv];simp[d1,true_and] <;> simp only[qt0,qt2,qtR])
 rw[qaM d1];by_cases d2:1≤d.names.length
 case neg=>
  simp[boxS,ldS,stS,qac,qaf,qal,qah,show ¬ ((1:Int)≤(d.names.length:Int)) by omega]
  exact qaP d hs false d.own d.type false true true d.exps [] [] r _ _ (by simp) (by simp) (by simp) (by simp[hk]) (by
   rw[hv];simp[d1,d2,not_false_eq_true,true_and] <;> simp only[qt0,qt2,qtR])
 by_cases d3:2≤d.exps.length
 case neg=>
  simp[boxS,ldS,stS,qac,qaf,qal,qah,show (1:Int)≤(d.names.length:Int) by omega,show ¬ ((2:Int)≤(d.exps.length:Int)) by omega]
  exact qaP d hs false d.own d.type false true true d.exps [] [] r _ _ (by simp) (by simp) (by simp) (by simp[hk]) (by
   rw[hv];simp[d1,d2,d3,not_false_eq_true,true_and] <;> simp only[qt0,qt2,qtR])
 have hmod:=modI d.exps.length;by_cases d4:d.exps.length % 2=0
 case neg=>
  simp[boxS,ldS,stS,qac,qaf,qal,qah,hmod,show (1:Int)≤(d.names.length:Int) by omega,show (2:Int)≤(d.exps.length:Int) by omega,show ¬ ((d.exps.length:Int) % 2=0) by omega]
  exact qaP d hs false d.own d.type false true true d.exps [] [] r _ _ (by simp) (by simp) (by simp) (by simp[hk]) (by
   rw[hv];simp[d1,d2,d3,d4,true_and] <;> simp only[qt0,qt2,qtR])
 by_cases d5:d.exps.length≤8
 case neg=>
  simp[boxS,ldS,stS,qac,qaf,qal,qah,show (1:Int)≤(d.names.length:Int) by omega,show (2:Int)≤(d.exps.length:Int) by omega,hmod,show (d.exps.length:Int) % 2=0 by omega,show ¬ ((d.exps.length:Int)≤8) by omega]
  exact qaP d hs false d.own d.type false true true d.exps [] [] r _ _ (by simp) (by simp) (by simp) (by simp[hk]) (by
   rw[hv];simp[d1,d2,d3,d4,d5,not_false_eq_true,true_and] <;> simp only[qt0,qt2,qtR])
 simp[boxS,ldS,stS,qac,qaf,qal,qah,show (1:Int)≤(d.names.length:Int) by omega,show (2:Int)≤(d.exps.length:Int) by omega,hmod,show (d.exps.length:Int) % 2=0 by omega,show (d.exps.length:Int)≤8 by omega]
 exact qaP d hs true d.own d.type false true true d.exps [] [] r _ _ (by simp) (by simp) (by simp) (by simp[hk]) (by
  rw[hv];simp[d1,d2,d3,d4,d5,true_and] <;> simp only[qt0,qt2,qtR])
theorem qnt(d:De)(hs:d.ok)(hk:d.kind=3):∀S,Fn prog 190 [d.v] S (.bool (d.vOwn qab)):=by
 refine Pu.ib func190 ok190 (by simp[c190]) (by simp[V.under]) rfl ?_;have hO:=(De.ok_iff d).1 hs;have hv:=De.vOwn_3 qab d hk;simp only[qaY,qba,qbb,qa7,qa9,qby] at hv;generalize d.vOwn qab=r at hv ⊢;simp only[c190,←qcP];by_cases d1:d.names.length=1
 case neg=>
  simp[boxS,ldS,stS,qac,qaf,qal,qah,hk,show ¬ ((d.names.length:Int)=1) by omega]
  exact qaP d hs false false 0 false true true d.exps [] [] r _ _ (by simp) (by simp) (by simp) (by simp[hk]) (by
   rw[hv];simp[d1,not_false_eq_true,true_and] <;> simp only[qt0,qt2,qtR])
 by_cases d2:1≤d.exps.length
 case neg=>
  simp[boxS,ldS,stS,qac,qaf,qal,qah,hk,show (d.names.length:Int)=1 by omega,show ¬ ((1:Int)≤(d.exps.length:Int)) by omega]
  exact qaP d hs false false 0 false true true d.exps [] [] r _ _ (by simp) (by simp) (by simp) (by simp[hk]) (by
   rw[hv];simp[d1,d2,not_false_eq_true,true_and] <;> simp only[qt0,qt2,qtR])
 simp[boxS,ldS,stS,qac,qaf,qal,qah,hk,show (d.names.length:Int)=1 by omega,show (1:Int)≤(d.exps.length:Int) by omega]
 exact qaP d hs true false 0 false true true d.exps [] [] r _ _ (by simp) (by simp) (by simp) (by simp[hk]) (by
  rw[hv];simp[d1,d2,true_and] <;> simp only[qt0,qt2,qtR])
theorem qmi(d:De)(hs:d.ok)(hk:d.kind=4):∀S,Fn prog 190 [d.v] S (.bool (d.vOwn qab)):=by
 refine Pu.ib func190 ok190 (by simp[c190]) (by simp[V.under]) rfl ?_;have hO:=(De.ok_iff d).1 hs;have hv:=De.vOwn_4 qab d hk;simp only[qaY,qba,qbb,qa7,qa9,qby] at hv;generalize d.vOwn qab=r at hv ⊢;simp only[c190,←qcP];simp[boxS,ldS,stS,qac,qaf,qal,qah,hk];refine qag (qey _ _ _ _) ?_;by_cases d1:0≤d.type∧d.type≤3
 case neg=>
  rw[qaH d1];simp[boxS,ldS,stS,qac,qaf,qal,qah]
  exact qaP d hs false false d.type true false false [] d.formals d.body r _ _ (by simp) (by simp) (by simp) (by simp[hk]) (by
   rw[hv];simp[d1,true_and] <;> simp only[qt0,qt2,qtR])
 rw[qaM d1];by_cases d2:d.names.length=1
 case neg=>
  simp[boxS,ldS,stS,qac,qaf,qal,qah,show ¬ ((d.names.length:Int)=1) by omega]
  exact qaP d hs false false d.type true false false [] d.formals d.body r _ _ (by simp) (by simp) (by simp) (by simp[hk]) (by
   rw[hv];simp[d1,d2,not_false_eq_true,true_and] <;> simp only[qt0,qt2,qtR])
 simp[boxS,ldS,stS,qac,qaf,qal,qah,show (d.names.length:Int)=1 by omega];refine qag (qpm d.formals hO.formals.1 _) ?_;cases d3:(qbv qab d.formals [] && decide (d.formals.length≤8))
 case false=>
  simp[boxS,ldS,stS,qac,qaf,qal,qah];rw[qu4] at d3;rcases d3 with d3|d3
  ·skip
   exact qaP d hs false false d.type true false false [] d.formals d.body r _ _ (by simp) (by simp) (by simp) (by simp[hk]) (by
    rw[hv];simp[d1,d2,d3,true_and] <;> simp only[qt0,qt2,qtR])
  ·have hf8:¬ d.formals.length≤8:=of_decide_eq_false d3
   exact qaP d hs false false d.type true false false [] d.formals d.body r _ _ (by simp) (by simp) (by simp) (by simp[hk]) (by
    rw[hv];simp[d1,d2,hf8,true_and] <;> simp only[qt0,qt2,qtR])
 rw[qtJ,decide_eq_true_eq] at d3;obtain ⟨da,db⟩:=d3;by_cases d4:d.body.length=1
 case neg=>
  simp[boxS,ldS,stS,qac,qaf,qal,qah,show ¬ ((d.body.length:Int)=1) by omega]
  exact qaP d hs false false d.type true false false [] d.formals d.body r _ _ (by simp) (by simp) (by simp) (by simp[hk]) (by
   rw[hv];simp[d1,d2,da,db,d4,not_false_eq_true,true_and] <;> simp only[qt0,qt2,qtR])
 simp[boxS,ldS,stS,qac,qaf,qal,qah,show (d.body.length:Int)=1 by omega]
 exact qaP d hs true false d.type true false false [] d.formals d.body r _ _ (by simp) (by simp) (by simp) (by simp[hk]) (by
  rw[hv];simp[d1,d2,da,db,d4,true_and] <;> simp only[qt0,qt2,qtR])
theorem qks(d:De)(hs:d.ok)(h:¬ (1≤d.kind∧d.kind≤4)):∀S,Fn prog 190 [d.v] S (.bool (d.vOwn qab)):=by
 refine Pu.ib func190 ok190 (by simp[c190]) (by simp[V.under]) rfl ?_;have hO:=(De.ok_iff d).1 hs;have hv:=De.vOwn_no qab d h;generalize d.vOwn qab=r at hv ⊢;simp only[c190,←qcP];simp[boxS,ldS,stS,qac,qaf,qal,qah,show ¬ d.kind=1 by omega,show ¬ d.kind=2 by omega,show ¬ d.kind=3 by omega,show ¬ d.kind=4 by omega];exact qaP d hs false false 0 true true true [] [] [] r _ _ (by simp) (by simp) (by simp) (by simp) (by rw[hv];rfl)
theorem qr2(d:De)(hs:d.ok):∀S,Fn prog 190 [d.v] S (.bool (d.vOwn qab)):=by
 by_cases h1:d.kind=1
 ·exact qlX d hs h1
 by_cases h2:d.kind=2
 ·exact qm0 d hs h2
 by_cases h3:d.kind=3
 ·exact qnt d hs h3
 by_cases h4:d.kind=4
 ·exact qmi d hs h4
 exact qks d hs (by omega)
theorem qpP:∀(k:Nat) (p:Pa),p.wt≤k→p.ok→p.size≤2000→∀S,Fn prog 160 [p.v] S (.bool (p.valid qab)):=by
 intro k
 induction k with
 | zero=>intro p h;exfalso;cases p with
  | st s=>cases s;simp[Pa.wt] at h
  | de s=>cases s;simp[Pa.wt] at h
  | el s=>cases s;simp[Pa.wt] at h
  | ex s=>cases s;simp[Pa.wt] at h
 | succ k ih=>
  intro p hw hp hsz;refine Pu.ib func160 ok160 (by simp[c160]) (by simp) rfl ?_;have hs:=p.size_eq;have hlen:=qaR p.kids;have hown:=p.own_pos;have hve:=Pa.valid_eq qab p;generalize hr:p.valid qab=r at hve ⊢;have rest:∀(E:Env) (S:St),E.get 3=some (.bool (p.vOwn qab))→E.get 1=some (.ptr 0 0 0 1)→S[0]?=some (.arr [p.v] 25 1)→
    WP prog (match c160.body with|.seq _ (.seq _ (.seq _ b))=>b|x=>x) (endp [.t 2] 0 fun v U=>v=.bool r∧U=[]) E S:=by
   intro E S g3 g1 h0;simp[c160,g1,ldS,h0];refine qag (qfE p hp (by omega) _) ?_;simp;refine qaC (fun e U=>e.get 3=some (.bool r)) ?_ ?_;rotate_left
   ·rintro e U g;simp[g];exact qaa (vs:=[.bool r]) (by simp) rfl rfl
   refine qap (fun j e S'=>∃i:Nat,j=p.kids.length - i∧i≤p.kids.length∧
    e=[(5,.int .i64 i),(4,.sl false (p.kids.map Pa.v)),(3,.bool (p.vOwn qab && allQ (p.kids.take i) (Pa.valid qab)))]) p.kids.length _ ?_ ⟨0,by simp,by omega,rfl⟩ ?_
   ·have hz:allQ [] (Pa.valid qab)=true:=rfl
    repeat' first|exact Env.sub_nil _|refine Env.sub_cons (by simp[g3,hz]) ?_
   rintro j e S' ⟨i,rfl,hi,rfl⟩
   have hrest:p.vOwn qab=true→allQ (p.kids.take i) (Pa.valid qab)=false→r=false:=fun _ h=>by
    rw[hve];unfold allQ at h
    cases ha:p.kids.all (Pa.valid qab) with
    | false=>simp
    | true=>
     rw[qtY] at ha;have:(p.kids.take i).all (Pa.valid qab)=true:=qtY.2 fun q hq=>ha q (List.mem_of_mem_take hq)
     rw[this] at h;cases h
   by_cases h:i<p.kids.length
   ·cases ho:p.vOwn qab with
    | false=>
     simp[h];rw[hve,ho];rfl
    | true=>
     cases hq:allQ (p.kids.take i) (Pa.valid qab) with
     | false=>
      simp[h];rw[hrest ho hq]
     | true=>
      have hk:=Pa.kid_lt (qtM h);have q2:=qaV (l:=p.kids) (i:=i) (q:=p.kids[i]) (by simp[h]);simp[h,iaPa];refine qag (ih p.kids[i] (by omega) (Pa.kid_ok hp (qtM h)) (by omega) _) ?_;simp[qaK (n:=(i:Int)+1)];refine ⟨_,?_,_,?_,i+1,rfl,by omega,rfl⟩
      ·omega
      ·have ha:allQ (p.kids.take (i+1)) (Pa.valid qab)=p.kids[i].valid qab:=by
        unfold allQ at *;rw[qtQ,qtF h,List.all_append,hq];simp
       exact Env.sub_cons (k:=5) (v:=.int .i64 (i+1:Nat)) (by simp) (Env.sub_cons (k:=4) (v:=.sl false (p.kids.map Pa.v)) (by simp) (Env.sub_cons (k:=3) (v:=.bool (true && allQ (p.kids.take (i+1)) (Pa.valid qab))) (by simp[ha]) (Env.sub_nil _)))
   ·have:i=p.kids.length:=by omega
    subst this;simp;rw[hve];unfold allQ;rfl
  cases p with
  | st s=>
   have hown':(Pa.st s).vOwn qab=s.vOwn qab:=rfl;simp only[c160] at rest ⊢;refine qaA (fun E U=>E.get 1=some (.ptr 0 0 0 1)∧U=[.arr [(Pa.st s).v] 25 1]) (by simp[boxS,qbB]) ?_;rintro E U ⟨g1,rfl⟩;refine qaA (fun E U=>E.get 1=some (.ptr 0 0 0 1)∧E.get 3=some (.bool false)∧U=[.arr [(Pa.st s).v] 25 1]) (by simp[g1]) ?_;rintro E U ⟨g1,g3,rfl⟩;refine qaA (fun E U=>E.get 1=some (.ptr 0 0 0 1)∧E.get 3=some (.bool ((Pa.st s).vOwn qab))∧U=[.arr [(Pa.st s).v] 25 1]) ?_ ?_
   ·simp only[Pa.v,Pa.kind,Pa.toS,Pa.toD,Pa.toE,Pa.toX];simp[g1,ldS];refine qag (qre s hp _) ?_;simp[g1,hown']
   rintro E U ⟨g1,g3,rfl⟩;exact rest E _ g3 g1 rfl
  | de d=>
   have hown':(Pa.de d).vOwn qab=d.vOwn qab:=rfl;simp only[c160] at rest ⊢;refine qaA (fun E U=>E.get 1=some (.ptr 0 0 0 1)∧U=[.arr [(Pa.de d).v] 25 1]) (by simp[boxS,qbB]) ?_;rintro E U ⟨g1,rfl⟩;refine qaA (fun E U=>E.get 1=some (.ptr 0 0 0 1)∧E.get 3=some (.bool false)∧U=[.arr [(Pa.de d).v] 25 1]) (by simp[g1]) ?_;rintro E U ⟨g1,g3,rfl⟩;refine qaA (fun E U=>E.get 1=some (.ptr 0 0 0 1)∧E.get 3=some (.bool ((Pa.de d).vOwn qab))∧U=[.arr [(Pa.de d).v] 25 1]) ?_ ?_
   ·simp only[Pa.v,Pa.kind,Pa.toS,Pa.toD,Pa.toE,Pa.toX];simp[g1,ldS];refine qag (qr2 d hp _) ?_;simp[g1,hown']
   rintro E U ⟨g1,g3,rfl⟩;exact rest E _ g3 g1 rfl
  | el e=>
   have hown':(Pa.el e).vOwn qab=e.vOwn:=rfl;simp only[c160] at rest ⊢;refine qaA (fun E U=>E.get 1=some (.ptr 0 0 0 1)∧U=[.arr [(Pa.el e).v] 25 1]) (by simp[boxS,qbB]) ?_;rintro E U ⟨g1,rfl⟩;refine qaA (fun E U=>E.get 1=some (.ptr 0 0 0 1)∧E.get 3=some (.bool false)∧U=[.arr [(Pa.el e).v] 25 1]) (by simp[g1]) ?_;rintro E U ⟨g1,g3,rfl⟩;refine qaA (fun E U=>E.get 1=some (.ptr 0 0 0 1)∧E.get 3=some (.bool ((Pa.el e).vOwn qab))∧U=[.arr [(Pa.el e).v] 25 1]) ?_ ?_
   ·simp only[Pa.v,Pa.kind,Pa.toS,Pa.toD,Pa.toE,Pa.toX];simp[g1,ldS];refine qag (qrP e _) ?_;simp[g1,hown']
   rintro E U ⟨g1,g3,rfl⟩;exact rest E _ g3 g1 rfl
  | ex x=>
   have hown':(Pa.ex x).vOwn qab=x.vOwn qab:=rfl;simp only[c160] at rest ⊢;refine qaA (fun E U=>E.get 1=some (.ptr 0 0 0 1)∧U=[.arr [(Pa.ex x).v] 25 1]) (by simp[boxS,qbB]) ?_;rintro E U ⟨g1,rfl⟩;refine qaA (fun E U=>E.get 1=some (.ptr 0 0 0 1)∧E.get 3=some (.bool false)∧U=[.arr [(Pa.ex x).v] 25 1]) (by simp[g1]) ?_;rintro E U ⟨g1,g3,rfl⟩;refine qaA (fun E U=>E.get 1=some (.ptr 0 0 0 1)∧E.get 3=some (.bool ((Pa.ex x).vOwn qab))∧U=[.arr [(Pa.ex x).v] 25 1]) ?_ ?_
   ·simp only[Pa.v,Pa.kind,Pa.toS,Pa.toD,Pa.toE,Pa.toX];simp[g1,ldS];refine qag (qpz x hp _) ?_;simp[g1,hown']
   rintro E U ⟨g1,g3,rfl⟩;exact rest E _ g3 g1 rfl
theorem qrC(p:Pa)(hp:p.ok):∀S,Fn prog 112 [p.v] S (.int .i64 (p.err qab)):=by
 refine Pu.ib func112 ok112 (by simp[c112]) (by simp) rfl ?_;simp[c112,boxS,ldS];refine qag (qid p hp _) ?_;unfold Pa.err;by_cases hf:p.fits
 ·simp[hf,ldS];refine qag (qpP _ p (qtH _) hp hf.1 _) ?_
  cases hv:p.valid qab with
  | true=>
   simp;exact qaa rfl rfl rfl
  | false=>
   simp;exact qaa rfl rfl rfl
 ·simp[hf,ldS];exact qaa rfl rfl rfl
theorem qsu(s:Sm)(hs:s.ok):∀S,Fn prog 63 [s.v] S (.int .i64 ((Pa.st s).err qab)):=by
 refine Pu.ib func63 ok63 (by simp[c63]) (by simp[V.under]) rfl ?_;simp[c63,boxS,ldS];refine qag (qfn s _) ?_;simp;refine qag (qrC (.st s) hs _) ?_;simp;exact qaa rfl rfl rfl
theorem qpb(s:Sm)(hs:s.ok):∀S,Fn prog 20 [s.v] S (.int .i64 ((Pa.st s).err qab)):=by
 refine Pu.ib func20 ok20 (by simp[c20]) (by simp[V.under]) rfl ?_;simp[c20,boxS,ldS];refine qag (qsu s hs _) ?_;simp;exact qaa rfl rfl rfl
def Pa.eqOwn(a b:Pa):Prop:=EqP a.kind b.kind a.toS b.toS a.toD b.toD a.toE b.toE a.toX b.toX
theorem Pa.eqOwn_refl(a:Pa):a.eqOwn a:=⟨⟨rfl,rfl⟩,⟨⟨rfl,rfl,rfl,rfl,rfl⟩,rfl,rfl,rfl,rfl⟩,⟨rfl,rfl,rfl⟩,⟨rfl,rfl,rfl,rfl⟩,rfl,rfl,rfl,rfl,⟨rfl,rfl⟩,rfl⟩
theorem Pa.eqOwn_kids{a b:Pa}(h:a.eqOwn b):a.kids.length=b.kids.length:=by
 obtain ⟨⟨hk,_⟩,⟨⟨h1,h2,h3,h4,h5⟩,h6,h7,h8,h9⟩,_⟩:=h;rw[qdv,qdv];cases a <;> cases b <;> simp only[Pa.kind,Pa.toS,Pa.toD,Pa.toE,Pa.toX] at * <;> omega
theorem qb1{α β:Type}{f:α→β}(hf:∀x y,f x=f y→x=y):∀{l m:List α},l.map f=m.map f→l=m
 | [],[],_=>rfl
 | [],_::_,h=>by simp at h
 | _::_,[],h=>by simp at h
 | x::l,y::m,h=>by
  simp only[qtW,List.cons.injEq] at h;rw[hf x y h.1,qb1 hf h.2]
theorem Pa.eq_of{a b:Pa}(h:a.eqOwn b)(hk:a.kids=b.kids):a=b:=by
 obtain ⟨⟨hk0,hf⟩,⟨⟨h1,h2,h3,h4,h5⟩,h6,h7,h8,h9⟩,⟨s1,s2,s3⟩,⟨d1,d2,d3,d4⟩,e1,x1,x2,x3,⟨x4,x5⟩,x6⟩:=h;have iX:∀x y,Pa.ex x=Pa.ex y→x=y:=fun x y h=>by cases h;rfl
 have iS:∀x y,Pa.st x=Pa.st y→x=y:=fun x y h=>by cases h;rfl
 have iE:∀x y,Pa.el x=Pa.el y→x=y:=fun x y h=>by cases h;rfl
 have iD:∀x y,Pa.de x=Pa.de y→x=y:=fun x y h=>by cases h;rfl
 cases a with
 | st s=>
  cases b with
  | st t=>
   simp only[Pa.kids,Pa.toS] at *;obtain ⟨k1,hk⟩:=List.append_inj hk (by simp[h1]);obtain ⟨k2,hk⟩:=List.append_inj hk (by simp[h2]);obtain ⟨k3,hk⟩:=List.append_inj hk (by simp[h3]);obtain ⟨k4,k5⟩:=List.append_inj hk (by simp[h4]);have k1:=qb1 iX k1;have k2:=qb1 iX k2;have k3:=qb1 iE k3;have k4:=qb1 iD k4;have k5:=qb1 iS k5;cases s;cases t;simp only[Sm.labels,Sm.kind,Sm.text,Sm.targets,Sm.exps,Sm.elems,Sm.decls,Sm.body] at *;subst k1 k2 k3 k4 k5 s1 s2 s3;rfl
  | _=>simp[Pa.kind] at hk0
 | de s=>
  cases b with
  | de t=>
   simp only[Pa.kids,Pa.toD] at *;obtain ⟨k1,k2⟩:=List.append_inj hk (by simp[h6]);have k1:=qb1 iX k1;have k2:=qb1 iS k2;cases s;cases t;simp only[De.names,De.kind,De.own,De.type,De.exps,De.formals,De.body] at *;subst k1 k2 d1 d2 d3 d4 hf;rfl
  | _=>simp[Pa.kind] at hk0
 | el s=>
  cases b with
  | el t=>
   simp only[Pa.kids,Pa.toE] at *;have k1:=qb1 iX hk;cases s;cases t;simp only at *;subst k1 e1;rfl
  | _=>simp[Pa.kind] at hk0
 | ex s=>
  cases b with
  | ex t=>
   simp only[Pa.kids,Pa.toX] at *;have k1:=qb1 iX hk;cases s;cases t;simp only[Ex.kind,Ex.op,Ex.n,Ex.man,Ex.exp,Ex.text,Ex.args] at *;subst k1 x1 x2 x3 x4 x5 x6;rfl
  | _=>simp[Pa.kind] at hk0
theorem Pa.toS_ok{p:Pa}(h:p.ok):p.toS.ok:=by cases p <;> first|exact h|exact Ex.z_ok
theorem Pa.toD_ok{p:Pa}(h:p.ok):p.toD.ok:=by cases p <;> first|exact h|exact De.z_ok
theorem qn5{l m:List Pa}(hl:l.length=m.length)(h:∀j,j<l.length→l[j]?=m[j]?):l=m:=by
 apply quQ;intro i;by_cases hi:i<l.length
 ·exact h i hi
 ·rw[qur (by omega),qur (by omega)]
def qsc(l m:List Pa)(i:Nat):Prop:=∀j,j<i→l[j]?=m[j]?
open Classical in
theorem qrU:∀(k:Nat) (a b:Pa),a.wt≤k→a.ok→b.ok→a.size≤2000→b.size≤2000→∀S,Fn prog 164 [a.v,b.v] S (.bool (decide (a=b))):=by
 intro k
 induction k with
 | zero=>intro p q h;exfalso;cases p with
  | st s=>cases s;simp[Pa.wt] at h
  | de s=>cases s;simp[Pa.wt] at h
  | el s=>cases s;simp[Pa.wt] at h
  | ex s=>cases s;simp[Pa.wt] at h
 | succ k ih=>
  intro a b hw ha hb hsa hsb;refine Pu.ib func164 ok164 (by simp[c164]) (by simp) rfl ?_;have la:=a.size_eq;have lb:=b.size_eq;have la':=qaR a.kids;have lb':=qaR b.kids;have oa:=a.own_pos;have ob:=b.own_pos;generalize hr:decide (a=b)=r;simp[c164,boxS,ldS];refine qag (qgy a.kind b.kind a.toS b.toS a.toD b.toD a.toE b.toE a.toX b.toX (Pa.toS_ok ha) (Pa.toD_ok ha) _) ?_;change qj7 prog _ _ _ _ (.bool (decide (a.eqOwn b))) _;by_cases he:a.eqOwn b
  case neg=>
   rw[decide_eq_false he];simp;refine qaa rfl ?_ rfl;rw[←hr,decide_eq_false (fun h=>he (by rw[h];exact Pa.eqOwn_refl b))];rfl
  rw[decide_eq_true he];have hkl:=Pa.eqOwn_kids he;simp[ldS];refine qag (qfE a ha (by omega) _) ?_;simp[ldS];refine qag (qfE b hb (by omega) _) ?_;simp;refine qap (fun j e S'=>∃i:Nat,j=a.kids.length - i∧i≤a.kids.length∧qsc a.kids b.kids i∧
   e=[(7,.int .i64 i),(5,.sl false (a.kids.map Pa.v)),(6,.sl false (b.kids.map Pa.v))]) a.kids.length _ ?_ ⟨0,by simp,by omega,fun j hj=>by omega,rfl⟩ ?_
  ·exact Env.so (by simp)
  rintro j e S' ⟨i,rfl,hi,hq,rfl⟩;by_cases h:i<a.kids.length
  ·have h':i<b.kids.length:=by omega
   have hk:=Pa.kid_lt (qtM h);have q1:=qaV (l:=a.kids) (i:=i) (q:=a.kids[i]) (by simp[h]);have q2:=qaV (l:=b.kids) (i:=i) (q:=b.kids[i]) (by simp[h']);simp[h,h',iaPa];refine qa6 (ih a.kids[i] b.kids[i] (by omega) (Pa.kid_ok ha (qtM h)) (Pa.kid_ok hb (qtM h')) (by omega) (by omega) _) ?_;by_cases hx:a.kids[i]=b.kids[i]
   ·rw[decide_eq_true hx];simp[dend,qbe,qbj,qaK (n:=(i:Int)+1)];refine ⟨_,?_,_,?_,i+1,rfl,by omega,?_,rfl⟩
    ·omega
    ·exact Env.so (by simp)
    ·intro j hj;by_cases hji:j=i
     ·subst hji;simp[h,h',hx]
     ·exact hq j (by omega)
   ·rw[decide_eq_false hx];simp[dend,qbe,qbj];refine qaa rfl ?_ rfl;rw[←hr,decide_eq_false (fun hh=>hx (by subst hh;rfl))];rfl
  ·have:i=a.kids.length:=by omega
   subst this;simp;refine qaa rfl ?_ rfl;rw[←hr,decide_eq_true (Pa.eq_of he (qn5 hkl hq))];rfl
open Classical in
theorem qrg(a b:Pa)(ha:a.ok)(hb:b.ok)(fa:a.fits)(fb:b.fits):∀S,Fn prog 118 [a.v,b.v] S (.bool (decide (a=b))):=by
 refine Pu.ib func118 ok118 (by simp[c118]) (by simp) rfl ?_;simp[c118,boxS,ldS];refine qag (qid a ha _) ?_;simp[fa,ldS];refine qag (qid b hb _) ?_;simp[fb,ldS];refine qag (qrU _ a b (qtH _) ha hb fa.1 fb.1 _) ?_;simp;exact qaa rfl rfl rfl
open Classical in
theorem qsk(a b:Sm)(ha:a.ok)(hb:b.ok)(fa:(Pa.st a).fits)(fb:(Pa.st b).fits):∀S,Fn prog 68 [a.v,b.v] S (.bool (decide (a=b))):=by
 refine Pu.ib func68 ok68 (by simp[c68]) (by simp[V.under]) rfl ?_;simp[c68,boxS,ldS];refine qa6 (qfn a _) ?_;simp[ldS];refine qa6 (qfn b _) ?_;simp;refine qa6 (qrg (.st a) (.st b) ha hb fa fb _) ?_;simp[dend,qbe,qbj,ldS];exact qaa rfl (by simp[retV]) rfl
open Classical in
theorem qtc(a b:Sm)(ha:a.ok)(hb:b.ok)(fa:(Pa.st a).fits)(fb:(Pa.st b).fits):∀S,Fn prog 23 [a.v,b.v] S (.bool (decide (a=b))):=by
 refine Pu.ib func23 ok23 (by simp[c23]) (by simp[V.under]) rfl ?_;simp[c23,boxS,ldS];refine qag (qsk a b ha hb fa fb _) ?_;simp;exact qaa rfl rfl rfl
set_option maxRecDepth 20000
def c122:F':=⟨17,[.t 4],
 .seq (.reg [.o 2 (.box (.t 0)),
 .o 3 (.box (.t 1)),
 .o 4 (.mv (.c (.bool false)))])
 (.seq (.reg [.f 5 0 2,
 .l 6 5,
 .f 7 0 3,
 .l 8 7,
 .b 9 .eql 6 8,
 .m 10 9,
 .v 11 10 true (.fa 1 (.t 2)),
 .v 12 10 true (.ld none (.t 11)),
 .v 13 10 true (.fa 1 (.t 3)),
 .v 14 10 true (.ld none (.t 13)),
 .v 15 10 true (.call (.f 123) [(.t 12),(.t 14)]),
 .y 16 10 15,
 .m 4 16])
 (.ret))⟩
theorem ok122:oF Tryz.f122 c122:=oI (by kernel_rfl)
def c256:F':=⟨47,[.cell 6 (some 7)],
 .seq (.reg [.o 4 (.box (.t 1)),
 .o 6 (.new zD)])
 (.seq (.reg [.m 10 0,
 .m 11 2,
 .j 12 7 4,
 .o 13 (.call (.f 272) [(.t 12)]),
 .o 14 (.call (.f 157) [(.t 10),(.t 11),(.t 13)]),
 .m 7 14])
 (.seq (.reg [.f 15 5 4,
 .l 16 15,
 .o 17 (.call (.f 273) [(.t 16)]),
 .m 8 17])
 (.seq (.seq (.reg [.m 18 8,
 .o 19 (.len false (.t 18)),
 .o 20 (.mv (.c (.int .i64 0)))])
 (.block 0 (.loop (.seq (.reg [.b 21 .lss 20 19])
 (.seq (.cond (.t 21)
 (.skip)
 (.exit 0))
 (.seq (.block 1 (.seq (.reg [.m 22 20,
 .m 9 22])
 (.reg [.m 23 8,
 .m 24 9,
 .m 25 7,
 .m 26 8,
 .m 27 9,
 .i 28 4 26 27,
 .f 29 0 28,
 .l 30 29,
 .o 31 (.call (.f 60) [(.t 25),(.t 30)]),
 .h 32 31,
 .f 33 2 32,
 .l 34 33,
 .i 35 4 23 24,
 .f 36 0 35,
 .s 1 36 34])))
 (.reg [.u 37 .add 20 1,
 .m 20 37])))))))
 (.seq (.reg [.m 38 8,
 .f 39 5 4,
 .s 1 39 38])
 (.seq (.reg [.m 40 0,
 .f 41 6 4,
 .l 42 41,
 .m 43 7,
 .o 44 (.call (.f 111) [(.t 40),(.t 42),(.t 43)]),
 .f 45 6 4,
 .s 1 45 44])
 (.seq (.reg [.j 46 7 4,
 .s 7 6 46])
 (.ret)))))))⟩
theorem ok256:oF Tryz.f256 c256:=oI (by kernel_rfl)
def c272:F':=⟨4,[.t 2],
 .seq (.reg [.o 1 (.box (.t 0)),
 .o 2 (.mv (.c .nilfn))])
 (.seq (.reg [.o 3 (.mkf 277 [] [(.t 1)]),
 .m 2 3])
 (.ret))⟩
theorem ok272:oF Tryz.f272 c272:=oI (by kernel_rfl)
def c273:F':=⟨8,[.t 2],
 .seq (.reg [.o 2 (.mv (.c (.sl true [])))])
 (.seq (.seq (.reg [.m 3 0,
 .o 4 (.ex (.eqn false (.t 3)))])
 (.cond (.t 4)
 (.seq (.reg [.o 2 (.mv (.c (.sl true [])))])
 (.ret))
 (.skip)))
 (.seq (.reg [.o 5 (.bsl 4 []),
 .m 6 0,
 .o 7 (.app 4 40 (.t 5) (.t 6)),
 .m 2 7])
 (.ret)))⟩
theorem ok273:oF Tryz.f273 c273:=oI (by kernel_rfl)
def c277:F':=⟨18,[],
 .seq (.reg [.f 5 5 1,
 .l 6 5,
 .o 7 (.len false (.t 6)),
 .o 8 (.mv (.c (.int .i64 0)))])
 (.block 0 (.loop (.seq (.reg [.b 9 .lss 8 7])
 (.seq (.cond (.t 9)
 (.skip)
 (.exit 0))
 (.seq (.block 1 (.seq (.reg [.i 10 4 6 8,
 .j 11 4 10,
 .o 4 (.new zF),
 .s 4 4 11])
 (.seq (.reg [.m 12 0,
 .f 13 0 4,
 .l 14 13,
 .o 15 (.call (.t 12) [(.t 14)]),
 .o 16 (.un .not (.t 15))])
 (.cond (.t 16)
 (.ret)
 (.skip)))))
 (.reg [.u 17 .add 8 1,
 .m 8 17]))))))⟩
theorem ok277:oF Tryz.f277 c277:=oI (by kernel_rfl)
theorem Ex.ext'{x y:Ex}(a:x.kind=y.kind)(b:x.op=y.op)(c:x.n=y.n)(d:x.man=y.man∧x.exp=y.exp)(e:x.text=y.text)(f:x.args=y.args):x=y:=by
 obtain ⟨d,d'⟩:=d;cases x;cases y;simp only[Ex.kind,Ex.op,Ex.n,Ex.man,Ex.exp,Ex.text,Ex.args] at *;subst a b c d d' e f;rfl
theorem De.ext'{x y:De}(a:x.kind=y.kind)(b:x.own=y.own)(c:x.type=y.type)(d:x.names=y.names)(e:x.exps=y.exps)(f:x.formals=y.formals)(g:x.body=y.body):x=y:=by
 cases x;cases y;simp only[De.kind,De.own,De.type,De.names,De.exps,De.formals,De.body] at *;subst a b c d e f g;rfl
theorem Sm.ext'{x y:Sm}(a:x.elems=y.elems)(b:x.decls=y.decls)(c:x.labels=y.labels)(d:x.kind=y.kind)(e:x.text=y.text)(f:x.targets=y.targets)(g:x.exps=y.exps)(h:x.body=y.body):x=y:=by
 cases x;cases y;simp only[Sm.labels,Sm.kind,Sm.text,Sm.targets,Sm.exps,Sm.elems,Sm.decls,Sm.body] at *;subst a b c d e f g h;rfl
def eqTo{α:Type}(l m:List α)(i:Nat):Prop:=∀j,j<i→l[j]?=m[j]?
theorem qdy{α:Type}{l m:List α}(hl:l.length=m.length)(h:eqTo l m l.length):l=m:=by
 apply quQ;intro i;by_cases hi:i<l.length
 ·exact h i hi
 ·rw[qur (by omega),qur (by omega)]
open Classical in
theorem qlk(l m:List ByteArray)(hl:l.length≤B50):∀S,Fn prog 126 [.sl false (l.map .str),.sl false (m.map .str)] S (.bool (decide (l=m))):=by
 refine Pu.ib func126 ok126 (by simp[c126]) (by simp[V.under]) rfl ?_;unfold B50 at hl;by_cases hlen:l.length=m.length
 case neg=>
  have hne:¬ l=m:=fun h=>hlen (by rw[h])
  simp only[decide_eq_false hne];simp[c126,show ¬ ((l.length:Int)=m.length) by omega];exact qaa rfl rfl rfl
 generalize hd:decide (l=m)=b;simp only[c126];simp[hlen];refine qap (fun j e S'=>∃i:Nat,j=l.length - i∧i≤l.length∧eqTo l m i∧
  e=[(13,.int .i64 i),(12,.int .i64 m.length),(0,.sl false (l.map .str)),(1,.sl false (m.map .str))]) l.length _ ?_ ⟨0,by simp,by omega,fun j hj=>by omega,rfl⟩ ?_
 ·repeat' first|exact Env.sub_nil _|refine Env.sub_cons (by simp[hlen]) ?_
 rintro j e S' ⟨i,rfl,hi,hq,rfl⟩;by_cases h:i<l.length
 ·have h':i<m.length:=by omega
  by_cases hx:l[i]=m[i]
  ·skip;simp[h,h',qdp,dend,qbe,qbj,hx,qaK (n:=(i:Int)+1)];refine ⟨_,?_,_,?_,i+1,rfl,by omega,?_,rfl⟩
   ·omega
   ·exact Env.so (by simp)
   ·intro j hj;by_cases hji:j=i
    ·subst hji;simp[h,h',hx]
    ·exact hq j (by omega)
  ·skip;simp[h,h',qdp,dend,qbe,qbj,hx];refine qaa rfl ?_ rfl;rw[←hd];have:¬ l=m:=fun hh=>hx (by subst hh;rfl)
   simp[retV,this]
 ·have:i=l.length:=by omega
  subst this;simp[hlen];refine qaa rfl ?_ rfl;rw[←hd,decide_eq_true (qdy hlen hq)];rfl
open Classical in
theorem qr0(l m:List Fo)(hl:l.length≤B50):∀S,Fn prog 127 [.sl false (l.map Fo.v),.sl false (m.map Fo.v)] S (.bool (decide (l=m))):=by
 refine Pu.ib func127 ok127 (by simp[c127]) (by simp[V.under]) rfl ?_;unfold B50 at hl;by_cases hlen:l.length=m.length
 case neg=>
  have hne:¬ l=m:=fun h=>hlen (by rw[h])
  simp only[decide_eq_false hne];simp[c127,show ¬ ((l.length:Int)=m.length) by omega];exact qaa rfl rfl rfl
 generalize hd:decide (l=m)=b;simp only[c127];simp[hlen];refine qap (fun j e S'=>∃i:Nat,j=l.length - i∧i≤l.length∧eqTo l m i∧
  e=[(13,.int .i64 i),(12,.int .i64 m.length),(0,.sl false (l.map Fo.v)),(1,.sl false (m.map Fo.v))]) l.length _ ?_ ⟨0,by simp,by omega,fun j hj=>by omega,rfl⟩ ?_
 ·repeat' first|exact Env.sub_nil _|refine Env.sub_cons (by simp[hlen]) ?_
 rintro j e S' ⟨i,rfl,hi,hq,rfl⟩;by_cases h:i<l.length
 ·have h':i<m.length:=by omega
  by_cases hx:l[i]=m[i]
  ·have hef:=eqFo l[i] m[i];rw[decide_eq_true hx] at hef;simp[h,h',iaFo,evX,Fo.v,qaf,hef,dend,qbe,qbj,qaK (n:=(i:Int)+1)];refine ⟨_,?_,_,?_,i+1,rfl,by omega,?_,rfl⟩
   ·omega
   ·exact Env.so (by simp)
   ·intro j hj;by_cases hji:j=i
    ·subst hji;simp[h,h',hx]
    ·exact hq j (by omega)
  ·have hef:=eqFo l[i] m[i];rw[decide_eq_false hx] at hef;simp[h,h',iaFo,evX,Fo.v,qaf,hef,dend,qbe,qbj];refine qaa rfl ?_ rfl;rw[←hd];have:¬ l=m:=fun hh=>hx (by subst hh;rfl)
   simp[retV,this]
 ·have:i=l.length:=by omega
  subst this;simp[hlen];refine qaa rfl ?_ rfl;rw[←hd,decide_eq_true (qdy hlen hq)];rfl
open Classical in
theorem qla(l m:List Ex)(hl:l.length≤B50)(g:Nat)(hg:∀x,x∈l→∀y S,Fn prog g [Ex.v x,Ex.v y] S (.bool (decide (x=y)))):∀S,Fn prog 165 [.sl false (l.map Ex.v),.sl false (m.map Ex.v),.fn (.func g) [] []] S (.bool (decide (l=m))):=by
 refine Pu.intro (R:=fun v=>v=.bool (decide (l=m))) func165 ok165 (by simp[c165]) (by simp[V.under,V.underL]) (by rintro v rfl;rfl) ?_;unfold B50 at hl;by_cases hlen:l.length=m.length
 case neg=>
  have hne:¬ l=m:=fun h=>hlen (by rw[h])
  simp only[decide_eq_false hne];simp[c165,show ¬ ((l.length:Int)=m.length) by omega];exact qaa rfl rfl rfl
 generalize hd:decide (l=m)=b;simp only[c165];simp[hlen];refine qap (fun j e S'=>∃i:Nat,j=l.length - i∧i≤l.length∧eqTo l m i∧
  e=[(17,.int .i64 i),(16,.int .i64 m.length),(15,.sl false (l.map Ex.v)),(1,.sl false (m.map Ex.v)),(2,.fn (.func g) [] [])]) l.length _ ?_ ⟨0,by simp,by omega,fun j hj=>by omega,rfl⟩ ?_
 ·repeat' first|exact Env.sub_nil _|refine Env.sub_cons (by simp[hlen]) ?_
 rintro j e S' ⟨i,rfl,hi,hq,rfl⟩;by_cases h:i<l.length
 ·have h':i<m.length:=by omega
  simp[h',iaEx,boxS,ldS,stS,qac,h];refine qag (hg l[i] (qtM h) m[i] _) ?_;by_cases hx:l[i]=m[i]
  ·rw[decide_eq_true hx];simp[qaK (n:=(i:Int)+1)];refine ⟨_,?_,_,?_,i+1,rfl,by omega,?_,rfl⟩
   ·omega
   ·exact Env.so (by simp)
   ·intro j hj;by_cases hji:j=i
    ·subst hji;simp[h,h',hx]
    ·exact hq j (by omega)
  ·rw[decide_eq_false hx];simp;refine qaa rfl ?_ rfl;rw[←hd];have:¬ l=m:=fun hh=>hx (by subst hh;rfl)
   simp[retV,this]
 ·have:i=l.length:=by omega
  subst this;simp[hlen];refine qaa rfl ?_ rfl;rw[←hd,decide_eq_true (qdy hlen hq)];rfl
open Classical in
theorem qrM(l m:List Sm)(hl:l.length≤B50)(g:Nat)(hg:∀x,x∈l→∀y S,Fn prog g [Sm.v x,Sm.v y] S (.bool (decide (x=y)))):∀S,Fn prog 119 [.sl false (l.map Sm.v),.sl false (m.map Sm.v),.fn (.func g) [] []] S (.bool (decide (l=m))):=by
 refine Pu.intro (R:=fun v=>v=.bool (decide (l=m))) func119 ok119 (by simp[c119]) (by simp[V.under,V.underL]) (by rintro v rfl;rfl) ?_;unfold B50 at hl;by_cases hlen:l.length=m.length
 case neg=>
  have hne:¬ l=m:=fun h=>hlen (by rw[h])
  simp only[decide_eq_false hne];simp[c119,show ¬ ((l.length:Int)=m.length) by omega];exact qaa rfl rfl rfl
 generalize hd:decide (l=m)=b;simp only[c119];simp[hlen];refine qap (fun j e S'=>∃i:Nat,j=l.length - i∧i≤l.length∧eqTo l m i∧
  e=[(17,.int .i64 i),(16,.int .i64 m.length),(15,.sl false (l.map Sm.v)),(1,.sl false (m.map Sm.v)),(2,.fn (.func g) [] [])]) l.length _ ?_ ⟨0,by simp,by omega,fun j hj=>by omega,rfl⟩ ?_
 ·repeat' first|exact Env.sub_nil _|refine Env.sub_cons (by simp[hlen]) ?_
 rintro j e S' ⟨i,rfl,hi,hq,rfl⟩;by_cases h:i<l.length
 ·have h':i<m.length:=by omega
  simp[h',iaSm,boxS,ldS,stS,qac,h];refine qag (hg l[i] (qtM h) m[i] _) ?_;by_cases hx:l[i]=m[i]
  ·rw[decide_eq_true hx];simp[qaK (n:=(i:Int)+1)];refine ⟨_,?_,_,?_,i+1,rfl,by omega,?_,rfl⟩
   ·omega
   ·exact Env.so (by simp)
   ·intro j hj;by_cases hji:j=i
    ·subst hji;simp[h,h',hx]
    ·exact hq j (by omega)
  ·rw[decide_eq_false hx];simp;refine qaa rfl ?_ rfl;rw[←hd];have:¬ l=m:=fun hh=>hx (by subst hh;rfl)
   simp[retV,this]
 ·have:i=l.length:=by omega
  subst this;simp[hlen];refine qaa rfl ?_ rfl;rw[←hd,decide_eq_true (qdy hlen hq)];rfl
open Classical in
theorem qqa(l m:List El)(hl:l.length≤B50)(g:Nat)(hg:∀x,x∈l→∀y S,Fn prog g [El.v x,El.v y] S (.bool (decide (x=y)))):∀S,Fn prog 121 [.sl false (l.map El.v),.sl false (m.map El.v),.fn (.func g) [] []] S (.bool (decide (l=m))):=by
 refine Pu.intro (R:=fun v=>v=.bool (decide (l=m))) func121 ok121 (by simp[c121]) (by simp[V.under,V.underL]) (by rintro v rfl;rfl) ?_;unfold B50 at hl;by_cases hlen:l.length=m.length
 case neg=>
  have hne:¬ l=m:=fun h=>hlen (by rw[h])
  simp only[decide_eq_false hne];simp[c121,show ¬ ((l.length:Int)=m.length) by omega];exact qaa rfl rfl rfl
 generalize hd:decide (l=m)=b;simp only[c121];simp[hlen];refine qap (fun j e S'=>∃i:Nat,j=l.length - i∧i≤l.length∧eqTo l m i∧
  e=[(17,.int .i64 i),(16,.int .i64 m.length),(15,.sl false (l.map El.v)),(1,.sl false (m.map El.v)),(2,.fn (.func g) [] [])]) l.length _ ?_ ⟨0,by simp,by omega,fun j hj=>by omega,rfl⟩ ?_
 ·repeat' first|exact Env.sub_nil _|refine Env.sub_cons (by simp[hlen]) ?_
 rintro j e S' ⟨i,rfl,hi,hq,rfl⟩;by_cases h:i<l.length
 ·have h':i<m.length:=by omega
  simp[h',iaEl,boxS,ldS,stS,qac,h];refine qag (hg l[i] (qtM h) m[i] _) ?_;by_cases hx:l[i]=m[i]
  ·rw[decide_eq_true hx];simp[qaK (n:=(i:Int)+1)];refine ⟨_,?_,_,?_,i+1,rfl,by omega,?_,rfl⟩
   ·omega
   ·exact Env.so (by simp)
   ·intro j hj;by_cases hji:j=i
    ·subst hji;simp[h,h',hx]
    ·exact hq j (by omega)
  ·rw[decide_eq_false hx];simp;refine qaa rfl ?_ rfl;rw[←hd];have:¬ l=m:=fun hh=>hx (by subst hh;rfl)
   simp[retV,this]
 ·have:i=l.length:=by omega
  subst this;simp[hlen];refine qaa rfl ?_ rfl;rw[←hd,decide_eq_true (qdy hlen hq)];rfl
open Classical in
theorem qqu(l m:List De)(hl:l.length≤B50)(g:Nat)(hg:∀x,x∈l→∀y S,Fn prog g [De.v x,De.v y] S (.bool (decide (x=y)))):∀S,Fn prog 124 [.sl false (l.map De.v),.sl false (m.map De.v),.fn (.func g) [] []] S (.bool (decide (l=m))):=by
 refine Pu.intro (R:=fun v=>v=.bool (decide (l=m))) func124 ok124 (by simp[c124]) (by simp[V.under,V.underL]) (by rintro v rfl;rfl) ?_;unfold B50 at hl;by_cases hlen:l.length=m.length
 case neg=>
  have hne:¬ l=m:=fun h=>hlen (by rw[h])
  simp only[decide_eq_false hne];simp[c124,show ¬ ((l.length:Int)=m.length) by omega];exact qaa rfl rfl rfl
 generalize hd:decide (l=m)=b;simp only[c124];simp[hlen];refine qap (fun j e S'=>∃i:Nat,j=l.length - i∧i≤l.length∧eqTo l m i∧
  e=[(17,.int .i64 i),(16,.int .i64 m.length),(15,.sl false (l.map De.v)),(1,.sl false (m.map De.v)),(2,.fn (.func g) [] [])]) l.length _ ?_ ⟨0,by simp,by omega,fun j hj=>by omega,rfl⟩ ?_
 ·repeat' first|exact Env.sub_nil _|refine Env.sub_cons (by simp[hlen]) ?_
 rintro j e S' ⟨i,rfl,hi,hq,rfl⟩;by_cases h:i<l.length
 ·have h':i<m.length:=by omega
  simp[h',iaDe,boxS,ldS,stS,qac,h];refine qag (hg l[i] (qtM h) m[i] _) ?_;by_cases hx:l[i]=m[i]
  ·rw[decide_eq_true hx];simp[qaK (n:=(i:Int)+1)];refine ⟨_,?_,_,?_,i+1,rfl,by omega,?_,rfl⟩
   ·omega
   ·exact Env.so (by simp)
   ·intro j hj;by_cases hji:j=i
    ·subst hji;simp[h,h',hx]
    ·exact hq j (by omega)
  ·rw[decide_eq_false hx];simp;refine qaa rfl ?_ rfl;rw[←hd];have:¬ l=m:=fun hh=>hx (by subst hh;rfl)
   simp[retV,this]
 ·have:i=l.length:=by omega
  subst this;simp[hlen];refine qaa rfl ?_ rfl;rw[←hd,decide_eq_true (qdy hlen hq)];rfl
open Classical in
theorem qh4:∀k:Nat,(∀x:Ex,SizeOf.sizeOf x≤k→x.ok→∀y S,Fn prog 166 [x.v,y.v] S (.bool (decide (x=y)))):=by
 intro k
 induction k with
 | zero=>intro x h;exfalso;cases x;simp at h
 | succ k ih=>
  intro x hx hok y;refine Pu.ib func166 ok166 (by simp[c166]) (by simp[V.under]) rfl ?_;have hargs:=Ex.ok_args hok
  have ih':∀z,z∈x.args→∀y S,Fn prog 166 [Ex.v z,Ex.v y] S (.bool (decide (z=y))):=fun z hz=>ih z (by
   have:=qus hz;cases x;simp only[Ex.args] at *;simp at hx;omega) (Ex.okL_mem hargs.2 z hz)
  have h123:∀S,Fn prog 123 [.sl false (x.args.map Ex.v),.sl false (y.args.map Ex.v)] S (.bool (decide (x.args=y.args))):=by
   refine Pu.ib func123 ok123 (by simp[c123]) (by simp[V.under]) rfl ?_;simp[c123];refine qag (qla x.args y.args hargs.1 166 ih' _) ?_;simp;exact qaa rfl rfl rfl
  generalize hr:decide (x=y)=r;simp[c166,boxS,ldS];by_cases a1:x.kind=y.kind
  case neg=>
   simp[ldS,eqOk,eqV,evX,qa3,a1];exact qaa rfl (by rw[←hr,decide_eq_false (fun hh=>a1 (by subst hh;first|rfl|exact ⟨rfl,rfl⟩))];rfl) rfl
  by_cases a2:x.op=y.op
  case neg=>
   simp[ldS,eqOk,eqV,evX,qa3,a1,a2];exact qaa rfl (by rw[←hr,decide_eq_false (fun hh=>a2 (by subst hh;first|rfl|exact ⟨rfl,rfl⟩))];rfl) rfl
  by_cases a3:x.n=y.n
  case neg=>
   simp[ldS,eqOk,eqV,evX,qa3,a1,a2,a3];exact qaa rfl (by rw[←hr,decide_eq_false (fun hh=>a3 (by subst hh;first|rfl|exact ⟨rfl,rfl⟩))];rfl) rfl
  by_cases a4:x.man=y.man∧x.exp=y.exp
  case neg=>
   simp[ldS,eqOk,eqV,evX,qa3,a1,a2,a3,a4];exact qaa rfl (by rw[←hr,decide_eq_false (fun hh=>a4 (by subst hh;first|rfl|exact ⟨rfl,rfl⟩))];rfl) rfl
  by_cases a5:x.text=y.text
  case neg=>
   simp[ldS,eqOk,eqV,evX,qa3,a1,a2,a3,a4,a5];exact qaa rfl (by rw[←hr,decide_eq_false (fun hh=>a5 (by subst hh;first|rfl|exact ⟨rfl,rfl⟩))];rfl) rfl
  simp[ldS,eqOk,eqV,evX,qa3,a1,a2,a3,a4,a5];refine qag (h123 _) ?_;by_cases a6:x.args=y.args
  case neg=>
   rw[decide_eq_false a6];simp;exact qaa rfl (by rw[←hr,decide_eq_false (fun hh=>a6 (by rw[hh]))];rfl) rfl
  rw[decide_eq_true a6];simp[ldS,eqOk,eqV,evX,qa3];exact qaa rfl (by rw[←hr,decide_eq_true (Ex.ext' a1 a2 a3 a4 a5 a6)];rfl) rfl
open Classical in
theorem qps(x:Ex)(h:x.ok)(y:Ex):∀S,Fn prog 166 [x.v,y.v] S (.bool (decide (x=y))):=qh4 _ x (qtH _) h y
open Classical in
theorem qgX(l m:List Ex)(hl:l.length≤B50)(hok:Ex.okL l):∀S,Fn prog 123 [.sl false (l.map Ex.v),.sl false (m.map Ex.v)] S (.bool (decide (l=m))):=by
 refine Pu.ib func123 ok123 (by simp[c123]) (by simp[V.under]) rfl ?_;simp[c123];refine qag (qla l m hl 166 (fun x hx y S=>qps x (Ex.okL_mem hok x hx) y S) _) ?_;simp;exact qaa rfl rfl rfl
open Classical in
theorem qqB(x:El)(h:x.ok)(y:El):∀S,Fn prog 122 [x.v,y.v] S (.bool (decide (x=y))):=by
 refine Pu.ib func122 ok122 (by simp[c122]) (by simp[V.under]) rfl ?_;generalize hr:decide (x=y)=r;simp[c122,boxS,ldS];by_cases a1:x.kind=y.kind
 case neg=>
  simp[ldS,eqOk,eqV,evX,qa3,a1];exact qaa rfl (by rw[←hr,decide_eq_false (fun hh=>a1 (by subst hh;first|rfl|exact ⟨rfl,rfl⟩))];rfl) rfl
 simp[ldS,eqOk,eqV,evX,qa3,a1];refine qag (qgX x.exps y.exps h.1 h.2 _) ?_;by_cases a2:x.exps=y.exps
 case neg=>
  rw[decide_eq_false a2];simp;exact qaa rfl (by rw[←hr,decide_eq_false (fun hh=>a2 (by rw[hh]))];rfl) rfl
 rw[decide_eq_true a2];simp[ldS,eqOk,eqV,evX,qa3];exact qaa rfl (by rw[←hr,decide_eq_true (by cases x;cases y;simp only at *;subst a1 a2;rfl)];rfl) rfl
open Classical in
theorem qfG{l m:List Sm}(hl:l.length≤B50)(h:∀x,x∈l→∀y S,Fn prog 120 [Sm.v x,Sm.v y] S (.bool (decide (x=y)))):∀S,Fn prog 69 [.sl false (l.map Sm.v),.sl false (m.map Sm.v)] S (.bool (decide (l=m))):=by
 refine Pu.ib func69 ok69 (by simp[c69]) (by simp[V.under]) rfl ?_;simp[c69];refine qag (qrM l m hl 120 h _) ?_;simp;exact qaa rfl rfl rfl
open Classical in
theorem qiB:∀k:Nat,(∀s:Sm,SizeOf.sizeOf s≤k→s.ok→∀t S,Fn prog 120 [s.v,t.v] S (.bool (decide (s=t))))∧(∀d:De,SizeOf.sizeOf d≤k→d.ok→∀e S,Fn prog 125 [d.v,e.v] S (.bool (decide (d=e)))):=by
 intro k
 induction k with
 | zero=>exact ⟨fun s h=>by exfalso;cases s;simp at h,fun s h=>by exfalso;cases s;simp at h⟩
 | succ k ih=>
  refine ⟨fun s hs hok t=>?_,fun d hd hok e=>?_⟩
  ·have O:=(Sm.ok_iff s).1 hok
   have ihb:∀z,z∈s.body→∀y S,Fn prog 120 [Sm.v z,Sm.v y] S (.bool (decide (z=y))):=fun z hz=>ih.1 z (by
    have:=qus hz;cases s;simp only[Sm.body] at *;simp at hs;omega) (Sm.okL_mem O.body.2 z hz)
   have ihd:∀z,z∈s.decls→∀y S,Fn prog 125 [De.v z,De.v y] S (.bool (decide (z=y))):=fun z hz=>ih.2 z (by
    have:=qus hz;cases s;simp only[Sm.decls] at *;simp at hs;omega) (De.okL_mem O.decls.2 z hz)
   refine Pu.ib func120 ok120 (by simp[c120]) (by simp[V.under]) rfl ?_;generalize hr:decide (s=t)=r;simp[c120,boxS,ldS];refine qag (qqa s.elems t.elems O.elems.1 122 (fun x hx y S=>qqB x (O.elems.2 x hx) y S) _) ?_;simp[ldS];refine qag (qqu s.decls t.decls O.decls.1 125 ihd _) ?_;by_cases a1:s.elems=t.elems
   case neg=>
    rw[decide_eq_false a1];simp;exact qaa rfl (by rw[←hr,decide_eq_false (fun hh=>a1 (by rw[hh]))];rfl) rfl
   rw[decide_eq_true a1];by_cases a2:s.decls=t.decls
   case neg=>
    rw[decide_eq_false a2];simp;exact qaa rfl (by rw[←hr,decide_eq_false (fun hh=>a2 (by rw[hh]))];rfl) rfl
   rw[decide_eq_true a2];simp[ldS,eqOk,eqV,evX,qa3];refine qag (qlk s.labels t.labels O.labels.1 _) ?_;by_cases a3:s.labels=t.labels
   case neg=>
    rw[decide_eq_false a3];simp;exact qaa rfl (by rw[←hr,decide_eq_false (fun hh=>a3 (by rw[hh]))];rfl) rfl
   rw[decide_eq_true a3];by_cases a4:s.kind=t.kind
   case neg=>
    simp[ldS,eqOk,eqV,evX,qa3,a4];exact qaa rfl (by rw[←hr,decide_eq_false (fun hh=>a4 (by subst hh;first|rfl|exact ⟨rfl,rfl⟩))];rfl) rfl
   by_cases a5:s.text=t.text
   case neg=>
    simp[ldS,eqOk,eqV,evX,qa3,a4,a5];exact qaa rfl (by rw[←hr,decide_eq_false (fun hh=>a5 (by subst hh;first|rfl|exact ⟨rfl,rfl⟩))];rfl) rfl
   simp[ldS,eqOk,eqV,evX,qa3,a4,a5];refine qag (qgX s.targets t.targets O.targets.1 O.targets.2 _) ?_;by_cases a6:s.targets=t.targets
   case neg=>
    rw[decide_eq_false a6];simp;exact qaa rfl (by rw[←hr,decide_eq_false (fun hh=>a6 (by rw[hh]))];rfl) rfl
   rw[decide_eq_true a6];simp[ldS,eqOk,eqV,evX,qa3];refine qag (qgX s.exps t.exps O.exps.1 O.exps.2 _) ?_;by_cases a7:s.exps=t.exps
   case neg=>
    rw[decide_eq_false a7];simp;exact qaa rfl (by rw[←hr,decide_eq_false (fun hh=>a7 (by rw[hh]))];rfl) rfl
   rw[decide_eq_true a7];simp[ldS,eqOk,eqV,evX,qa3];refine qag (qfG O.body.1 ihb _) ?_;by_cases a8:s.body=t.body
   case neg=>
    rw[decide_eq_false a8];simp;exact qaa rfl (by rw[←hr,decide_eq_false (fun hh=>a8 (by rw[hh]))];rfl) rfl
   rw[decide_eq_true a8];simp[ldS,eqOk,eqV,evX,qa3];exact qaa rfl (by rw[←hr,decide_eq_true (Sm.ext' a1 a2 a3 a4 a5 a6 a7 a8)];rfl) rfl
  ·have O:=(De.ok_iff d).1 hok
   have ihb:∀z,z∈d.body→∀y S,Fn prog 120 [Sm.v z,Sm.v y] S (.bool (decide (z=y))):=fun z hz=>ih.1 z (by
    have:=qus hz;cases d;simp only[De.body] at *;simp at hd;omega) (Sm.okL_mem O.body.2 z hz)
   refine Pu.ib func125 ok125 (by simp[c125]) (by simp[V.under]) rfl ?_;generalize hr:decide (d=e)=r;simp[c125,boxS,ldS];by_cases a1:d.kind=e.kind
   case neg=>
    simp[ldS,eqOk,eqV,evX,qa3,a1];exact qaa rfl (by rw[←hr,decide_eq_false (fun hh=>a1 (by subst hh;first|rfl|exact ⟨rfl,rfl⟩))];rfl) rfl
   by_cases a2:d.own=e.own
   case neg=>
    simp[ldS,eqOk,eqV,evX,qa3,a1,show (d.own==e.own)=false by simpa using a2];exact qaa rfl (by rw[←hr,decide_eq_false (fun hh=>a2 (by subst hh;first|rfl|exact ⟨rfl,rfl⟩))];rfl) rfl
   by_cases a3:d.type=e.type
   case neg=>
    simp[ldS,eqOk,eqV,evX,qa3,a1,a2,a3];exact qaa rfl (by rw[←hr,decide_eq_false (fun hh=>a3 (by subst hh;first|rfl|exact ⟨rfl,rfl⟩))];rfl) rfl
   simp[ldS,eqOk,eqV,evX,qa3,a1,a2,a3];refine qag (qlk d.names e.names O.names.1 _) ?_;by_cases a4:d.names=e.names
   case neg=>
    rw[decide_eq_false a4];simp;exact qaa rfl (by rw[←hr,decide_eq_false (fun hh=>a4 (by rw[hh]))];rfl) rfl
   rw[decide_eq_true a4];simp[ldS,eqOk,eqV,evX,qa3];refine qag (qgX d.exps e.exps O.exps.1 O.exps.2 _) ?_;by_cases a5:d.exps=e.exps
   case neg=>
    rw[decide_eq_false a5];simp;exact qaa rfl (by rw[←hr,decide_eq_false (fun hh=>a5 (by rw[hh]))];rfl) rfl
   rw[decide_eq_true a5];simp[ldS,eqOk,eqV,evX,qa3];refine qag (qr0 d.formals e.formals O.formals.1 _) ?_;by_cases a6:d.formals=e.formals
   case neg=>
    rw[decide_eq_false a6];simp;exact qaa rfl (by rw[←hr,decide_eq_false (fun hh=>a6 (by rw[hh]))];rfl) rfl
   rw[decide_eq_true a6];simp[ldS,eqOk,eqV,evX,qa3];refine qag (qfG O.body.1 ihb _) ?_;by_cases a7:d.body=e.body
   case neg=>
    rw[decide_eq_false a7];simp;exact qaa rfl (by rw[←hr,decide_eq_false (fun hh=>a7 (by rw[hh]))];rfl) rfl
   rw[decide_eq_true a7];simp[ldS,eqOk,eqV,evX,qa3];exact qaa rfl (by rw[←hr,decide_eq_true (De.ext' a1 a2 a3 a4 a5 a6 a7)];rfl) rfl
open Classical in
theorem qsC(l m:List Sm)(hl:l.length≤B50)(hok:Sm.okL l):∀S,Fn prog 69 [.sl false (l.map Sm.v),.sl false (m.map Sm.v)] S (.bool (decide (l=m))):=
 qfG hl fun x hx y S=>(qiB _).1 x (qtH _) (Sm.okL_mem hok x hx) y S
structure Pw where
 H:Type
 f:Nat→ByteArray→ByteArray
 nm:Option (Ex→Scs→Bool→Ex)
 cl:Option (ByteArray→Scs→ByteArray)
 ent:H→Nat→ByteArray→H
 nmH:H→Ex→Scs→Bool→H
 clH:H→ByteArray→Scs→H
def retp(p:Pw)(sc:Scs)(x:ByteArray):ByteArray:=match sc.at x with
 | some k=>p.f k x
 | none=>x
def qbC(p:Pw)(h:p.H)(s:Sco):p.H:=s.foldl (fun h e=>p.ent h e.2 e.1) h
def Pw.nmE(p:Pw)(sc:Scs)(tg:Bool)(x:Ex):Ex:=if Ex.named x.kind then match p.nm with
  | none=>.mk x.kind x.op x.n x.man x.exp (retp p sc x.text) x.args
  | some g=>g x sc tg
 else x
def Pw.nmS(p:Pw)(sc:Scs)(tg:Bool)(h:p.H)(x:Ex):p.H:=if Ex.named x.kind then match p.nm with
  | none=>h
  | some _=>p.nmH h x sc tg
 else h
mutual
def Ex.wr(p:Pw)(sc:Scs)(tg:Bool):Ex→Ex
 | .mk k o n m e t a=>p.nmE sc tg (.mk k o n m e t (Ex.wrl p sc false a))
def Ex.wrl(p:Pw)(sc:Scs)(tg:Bool):List Ex→List Ex
 | []=>[]
 | x::l=>Ex.wr p sc tg x::Ex.wrl p sc tg l
end
theorem Ex.wrl_map(p:Pw)(sc:Scs)(tg:Bool):∀l,Ex.wrl p sc tg l=l.map (Ex.wr p sc tg)
 | []=>rfl
 | x::l=>by rw[Ex.wrl,Ex.wrl_map p sc tg l];rfl
mutual
def Ex.hs(p:Pw)(sc:Scs)(tg:Bool)(h:p.H):Ex→p.H
 | .mk k o n m e t a=>p.nmS sc tg (Ex.hsl p sc false h a) (.mk k o n m e t (Ex.wrl p sc false a))
def Ex.hsl(p:Pw)(sc:Scs)(tg:Bool)(h:p.H):List Ex→p.H
 | []=>h
 | x::l=>Ex.hsl p sc tg (Ex.hs p sc tg h x) l
end
theorem Ex.hsl_append(p:Pw)(sc:Scs)(tg:Bool):∀(l m:List Ex) (h:p.H),Ex.hsl p sc tg h (l++m)=Ex.hsl p sc tg (Ex.hsl p sc tg h l) m
 | [],m,h=>rfl
 | x::l,m,h=>by simp only[qtO,Ex.hsl];exact Ex.hsl_append p sc tg l m _
def El.wr(p:Pw)(sc:Scs)(e:El):El:=⟨e.kind,Ex.wrl p sc false e.exps⟩
def El.hsl(p:Pw)(sc:Scs)(h:p.H)(l:List El):p.H:=l.foldl (fun h e=>Ex.hsl p sc false h e.exps) h
def Fo.wr(p:Pw)(sc:Scs)(x:Fo):Fo:=⟨retp p sc x.name,x.value,x.spec,x.type⟩
def Pw.clE(p:Pw)(sc:Scs)(k:Int)(t:ByteArray):ByteArray:=if k=6 then match p.cl with
  | none=>retp p sc t
  | some c=>c t sc
 else t
def Pw.clS(p:Pw)(sc:Scs)(k:Int)(h:p.H)(t:ByteArray):p.H:=if k=6 then match p.cl with
  | none=>h
  | some _=>p.clH h t sc
 else h
mutual
def Sm.wr(p:Pw)(sc:Scs)(n:Nat):Sm→Sm
 | .mk l k t g e h d b=>
  if k=7 then
   .mk (l.map (retp p sc)) k t (Ex.wrl p sc true g) e h (De.wrl p (qae (qai d b) n::sc) sc (n+(qae (qai d b) n).length) d) (Sm.wrl p (qae (qai d b) n::sc) (n+(qae (qai d b) n).length+De.nbl d) b)
  else if k=8 then
   .mk (l.map (retp p sc)) k t (Ex.wrl p sc true g) e h d (Sm.wrl p (qae (qak b) n::sc) (n+(qae (qak b) n).length) b)
  else .mk (l.map (retp p sc)) k (p.clE sc k t) (Ex.wrl p sc true g) (Ex.wrl p sc false e) (h.map (El.wr p sc)) d (Sm.wr1 p sc n b)
def De.wr(p:Pw)(own sc:Scs)(n:Nat):De→De
 | .mk k o t nm e fo b=>
  if k=4 then .mk k o t (nm.map (retp p own)) (Ex.wrl p own false e) (fo.map (Fo.wr p (qae (fo.map Fo.name) n::own))) (Sm.wr1 p (qae (fo.map Fo.name) n::own) (n+(qae (fo.map Fo.name) n).length) b)
  else .mk k o t (nm.map (retp p own)) (Ex.wrl p (if k=2 then sc else own) false e) fo b
def De.wrl(p:Pw)(own sc:Scs)(n:Nat):List De→List De
 | []=>[]
 | x::l=>De.wr p own sc n x::De.wrl p own sc (n+De.nb x) l
def Sm.wrl(p:Pw)(sc:Scs)(n:Nat):List Sm→List Sm
 | []=>[]
 | x::l=>Sm.wr p sc n x::Sm.wrl p sc (n+Sm.nb x) l
def Sm.wr1(p:Pw)(sc:Scs)(n:Nat):List Sm→List Sm
 | []=>[]
 | x::l=>Sm.wr p (qae x.labels n::sc) (n+(qae x.labels n).length) x::Sm.wr1 p sc (n+(qae x.labels n).length+Sm.nb x) l
end
mutual
def Sm.hs(p:Pw)(sc:Scs)(n:Nat)(h:p.H):Sm→p.H
 | .mk _ k t g e el d b=>
  if k=7 then
   Sm.hsl p (qae (qai d b) n::sc) (n+(qae (qai d b) n).length+De.nbl d) (De.hsl p (qae (qai d b) n::sc) sc (n+(qae (qai d b) n).length) (qbC p (Ex.hsl p sc true h g) (qae (qai d b) n)) d) b
  else if k=8 then
   Sm.hsl p (qae (qak b) n::sc) (n+(qae (qak b) n).length) (qbC p (Ex.hsl p sc true h g) (qae (qak b) n)) b
  else p.clS sc k (Sm.hs1 p sc n (El.hsl p sc (Ex.hsl p sc false (Ex.hsl p sc true h g) e) el) b) t
def De.hs(p:Pw)(own sc:Scs)(n:Nat)(h:p.H):De→p.H
 | .mk k _ _ _ e fo b=>
  if k=4 then Sm.hs1 p (qae (fo.map Fo.name) n::own) (n+(qae (fo.map Fo.name) n).length) (qbC p (Ex.hsl p own false h e) (qae (fo.map Fo.name) n)) b
  else Ex.hsl p (if k=2 then sc else own) false h e
def De.hsl(p:Pw)(own sc:Scs)(n:Nat)(h:p.H):List De→p.H
 | []=>h
 | x::l=>De.hsl p own sc (n+De.nb x) (De.hs p own sc n h x) l
def Sm.hsl(p:Pw)(sc:Scs)(n:Nat)(h:p.H):List Sm→p.H
 | []=>h
 | x::l=>Sm.hsl p sc (n+Sm.nb x) (Sm.hs p sc n h x) l
def Sm.hs1(p:Pw)(sc:Scs)(n:Nat)(h:p.H):List Sm→p.H
 | []=>h
 | x::l=>Sm.hs1 p sc (n+(qae x.labels n).length+Sm.nb x) (Sm.hs p (qae x.labels n::sc) (n+(qae x.labels n).length) (qbC p h (qae x.labels n)) x) l
end
def Sm.wholeR(p:Pw)(s:Sm):Sm:=s.wr p [qae s.labels 0] (qae s.labels 0).length
def Sm.wholeH(p:Pw)(h:p.H)(s:Sm):p.H:=s.hs p [qae s.labels 0] (qae s.labels 0).length (qbC p h (qae s.labels 0))
theorem Sm.nbl_append:∀(l m:List Sm),Sm.nbl (l++m)=Sm.nbl l+Sm.nbl m
 | [],m=>by simp[Sm.nbl]
 | x::l,m=>by simp only[qtO,Sm.nbl,Sm.nbl_append l m];omega
theorem De.nbl_append:∀(l m:List De),De.nbl (l++m)=De.nbl l+De.nbl m
 | [],m=>by simp[De.nbl]
 | x::l,m=>by simp only[qtO,De.nbl,De.nbl_append l m];omega
theorem Sm.nb1_append:∀(l m:List Sm),Sm.nb1 (l++m)=Sm.nb1 l+Sm.nb1 m
 | [],m=>by simp[Sm.nb1]
 | x::l,m=>by simp only[qtO,Sm.nb1,Sm.nb1_append l m];omega
theorem Sm.wrl_append(p:Pw)(sc:Scs):∀(l m:List Sm) (n:Nat),Sm.wrl p sc n (l++m)=Sm.wrl p sc n l++Sm.wrl p sc (n+Sm.nbl l) m
 | [],m,n=>by simp[Sm.wrl,Sm.nbl]
 | x::l,m,n=>by simp only[qtO,Sm.wrl,Sm.nbl,Sm.wrl_append p sc l m,quu]
theorem De.wrl_append(p:Pw)(own sc:Scs):∀(l m:List De) (n:Nat),De.wrl p own sc n (l++m)=De.wrl p own sc n l++De.wrl p own sc (n+De.nbl l) m
 | [],m,n=>by simp[De.wrl,De.nbl]
 | x::l,m,n=>by simp only[qtO,De.wrl,De.nbl,De.wrl_append p own sc l m,quu]
theorem Sm.hsl_append(p:Pw)(sc:Scs):∀(l m:List Sm) (n:Nat) (h:p.H),Sm.hsl p sc n h (l++m)=Sm.hsl p sc (n+Sm.nbl l) (Sm.hsl p sc n h l) m
 | [],m,n,h=>by simp[Sm.hsl,Sm.nbl]
 | x::l,m,n,h=>by simp only[qtO,Sm.hsl,Sm.nbl,Sm.hsl_append p sc l m,quu]
theorem De.hsl_append(p:Pw)(own sc:Scs):∀(l m:List De) (n:Nat) (h:p.H),De.hsl p own sc n h (l++m)=De.hsl p own sc (n+De.nbl l) (De.hsl p own sc n h l) m
 | [],m,n,h=>by simp[De.hsl,De.nbl]
 | x::l,m,n,h=>by simp only[qtO,De.hsl,De.nbl,De.hsl_append p own sc l m,quu]
theorem qcS(m:Nat):∀(l:List ByteArray) (s s':Sco) (n n':Nat),s.map (·.1)=s'.map (·.1)→(binds l s n).map (·.1)=(binds l s' n').map (·.1)
 | [],s,s',n,n',h=>h
 | x::l,s,s',n,n',h=>by
  have at_eq:∀(s s':Sco),s.map (·.1)=s'.map (·.1)→(s.at x).isSome=(s'.at x).isSome:=by
   intro s
   induction s with
   | nil=>intro s' h;cases s' with
    | nil=>rfl
    | cons e s'=>simp at h
   | cons e s ih=>
    intro s' h
    cases s' with
    | nil=>simp at h
    | cons e' s'=>
     simp only[qtW,List.cons.injEq] at h;have:=ih s' h.2;simp only[Sco.at,List.find?_cons,h.1] at this ⊢;by_cases hx:e'.1=x
     ·simp[hx]
     ·simp only[decide_eq_false hx];exact this
  simp only[binds];rw[at_eq s s' h];split
  ·exact qcS m l s s' n n' h
  ·exact qcS m l _ _ _ _ (by simp[h])
theorem qbc(l:List ByteArray)(n n':Nat):(qae l n).length=(qae l n').length:=by
 have:=congrArg List.length (qcS 0 l [] [] n n' rfl);rw[qtN,qtN] at this;exact this
abbrev Sct:=List (ByteArray×Nat×Nat)
def Sct.sco(t:Sct):Sco:=t.map fun e=>(e.1,e.2.1)
def entT(e:ByteArray×Nat×Nat):V×V:=(.str e.1,.ptr e.2.2 0 0 1)
def plc(x:ByteArray)(k:Nat)(y:ByteArray):Ob:=.arr [.agg [.int .i64 k,.str x,.str y]] 3 1
def ScR(p:Pw)(X:Nat→Prop)(S:St):V→List Sct→Prop
 | v,[]=>v=.nilp
 | v,t::r=>∃l lo lm v' bs ck,v=.ptr l 0 0 1∧(¬ X l∧¬ X lo∧¬ X lm)∧S[l]?=some (.arr [.agg [.ptr lo 0 0 1,.map lm]] 2 1)∧S[lo]?=some (.arr [.agg [v']] 1 1)∧S[lm]?=some (.map (t.map entT) bs ck)∧
  (∀e,e∈t→¬ X e.2.2∧S[e.2.2]?=some (plc e.1 e.2.1 (p.f e.2.1 e.1)))∧ScR p X S v' r
def Scx(ts:List Sct):Scs:=ts.map Sct.sco
def qdP:Sct→ByteArray→Option (Nat×Nat)
 | [],_=>none
 | e::t,x=>if e.1=x then some e.2 else qdP t x
def fnd:List Sct→ByteArray→Option (Nat×Nat)
 | [],_=>none
 | t::r,x=>match qdP t x with
  | some p=>some p
  | none=>fnd r x
def fndV(ts:List Sct)(x:ByteArray):V:=match fnd ts x with
 | some p=>.ptr p.2 0 0 1
 | none=>.nilp
theorem qgC:∀(t:Sct) (x:ByteArray),Sco.at t.sco x=(qdP t x).map (·.1)
 | [],_=>rfl
 | e::t,x=>by
  have ih:=qgC t x;simp only[Sco.at,Sct.sco,qtW,List.find?_cons,qdP] at *;by_cases h:e.1=x
  ·simp[h]
  ·simp only[decide_eq_false h,if_neg h];exact ih
theorem qhL:∀(ts:List Sct) (x:ByteArray),(Scx ts).at x=(fnd ts x).map (·.1)
 | [],_=>rfl
 | t::r,x=>by
  have ih:=qhL r x;simp only[Scx,qtW,Scs.at,fnd] at *;rw[qgC]
  cases qdP t x with
  | none=>exact ih
  | some p=>rfl
theorem qhg:∀{t:Sct} {x:ByteArray} {p:Nat×Nat},qdP t x=some p→(x,p.1,p.2)∈t
 | e::t,x,p,h=>by
  simp only[qdP] at h;split at h
  ·rename_i hx;cases h;subst hx;simp
  ·exact qvg _ (qhg h)
theorem ScR.fnd_get{p:Pw}{X:Nat→Prop}{S:St}:∀{ts:List Sct} {v:V} {x:ByteArray} {q:Nat×Nat},ScR p X S v ts→fnd ts x=some q→S[q.2]?=some (plc x q.1 (p.f q.1 x))
 | t::r,v,x,q,⟨l,lo,lm,v',bs,ck,_,_,_,_,_,h5,h6⟩,hf=>by
  simp only[fnd] at hf;split at hf
  ·rename_i q hq;cases hf;exact (h5 _ (qhg hq)).2
  ·exact ScR.fnd_get h6 hf
theorem qdK(x:ByteArray):∀(t:Sct) (i:Nat),∃j,qcq .str (.str x) (t.map entT) i=some ((qdP t x).map fun p=>(j,.ptr p.2 0 0 1))
 | [],i=>⟨0,rfl⟩
 | e::t,i=>by
  simp only[qtW,entT,qcq,qfY,qdP];by_cases h:x=e.1
  ·rw[show (x.data.toList==e.1.data.toList)=true by rw[h];simp,if_pos h.symm];exact ⟨i,rfl⟩
  ·rw[show (x.data.toList==e.1.data.toList)=false by
    rw[beq_eq_false_iff_ne];intro hh;exact h (ByteArray.ext (Array.ext' hh)),if_neg (Ne.symm h)]
   exact qdK x t (i+1)
theorem qlp{S:St}{lm:Nat}{t:Sct}{bs:List Nat}{ck:Nat}(x:ByteArray)(h:S[lm]?=some (.map (t.map entT) bs ck)):
  lkpV S .str .nilp true (.map lm) (.str x)=some (.tup [(match qdP t x with|some p=>.ptr p.2 0 0 1|none=>.nilp),.bool (qdP t x).isSome]):=by
 obtain ⟨j,hj⟩:=qdK x t 0;unfold lkpV;rw[if_pos (by rfl)];simp only[qnu,h,hj];cases qdP t x <;> rfl
theorem qjw{p:Pw}{X:Nat→Prop}{S:St}{ts:List Sct}{v:V}(h:ScR p X S v ts)(x:ByteArray):Fn prog 60 [v,.str x] S (fndV ts x):=by
 refine Spec.intro func60 ok60 (by simp[c60]) ?_;generalize hr:fndV ts x=r;simp only[c60];simp only[qiT,qjg,qmJ,qeV,qiO];refine qap (fun j e S'=>∃(ts':List Sct) (v':V),j=ts'.length∧ScR p X S v' ts'∧fndV ts' x=r∧S'=S∧e=[(0,v'),(1,.str x)]) ts.length _ ?_ ⟨ts,v,rfl,h,hr,rfl,rfl⟩ ?_
 ·exact Env.so (by simp)
 rintro j e S' ⟨ts',v',rfl,h',hr',rfl,rfl⟩
 cases ts' with
 | nil=>
  have h':v'=.nilp:=h';subst h';have:r=.nilp:=by rw[←hr'];rfl
  subst this;simp[eqOk,eqV,qeQ];exact qaj rfl ⟨rfl,rfl⟩
 | cons t r'=>
  obtain ⟨l,lo,lm,v'',bs,ck,rfl,_,h2,h3,h4,h5,h6⟩:=h';have hl:=qlp x h4;simp[eqOk,eqV,qbd,ldS,h2,evX,hl]
  cases hk:qdP t x with
  | some p=>
   have:r=.ptr p.2 0 0 1:=by rw[←hr'];simp[fndV,fnd,hk]
   subst this;simp[qeQ];exact qaj rfl ⟨rfl,rfl⟩
  | none=>
   simp[eqOk,eqV,qbd,ldS,h2,h3];refine ⟨_,?_,_,?_,r',rfl,v'',h6,?_,rfl⟩
   ·simp
   ·exact Env.so (by simp)
   ·rw[←hr'];simp[fndV,fnd,hk]
theorem ScR.mono{p:Pw}{X X':Nat→Prop}{S U:St}(hk:Kp X S U)(hX:∀l,X' l→X l∨S.length≤l):∀{ts:List Sct} {v:V},ScR p X S v ts→ScR p X' U v ts
 | [],_,h=>h
 | t::r,v,⟨l,lo,lm,v',bs,ck,h1,⟨x1,x2,x3⟩,h2,h3,h4,h5,h6⟩=>by
  have no:∀{l:Nat} {o:Ob},S[l]?=some o→¬ X l→¬ X' l:=fun ho hn hx=>(hX _ hx).elim hn fun hh=>by have:=(qtB.1 ho).1;omega
  exact ⟨l,lo,lm,v',bs,ck,h1,⟨no h2 x1,no h3 x2,no h4 x3⟩,hk.at h2 x1,hk.at h3 x2,hk.at h4 x3,fun e he=>⟨no (h5 e he).2 (h5 e he).1,hk.at (h5 e he).2 (h5 e he).1⟩,ScR.mono hk hX h6⟩
theorem ScR.sub{p:Pw}{X X':Nat→Prop}{S:St}{v:V}{ts:List Sct}(h:ScR p X S v ts)(hX:∀l,X' l→X l):ScR p X' S v ts:=h.mono (Kp.refl _ _) fun l hl=>.inl (hX l hl)
theorem ScR.more{p:Pw}{X X':Nat→Prop}{S:St}{v:V}{ts:List Sct}(h:ScR p X S v ts)(hX:∀l,X' l→X l∨S.length≤l):ScR p X' S v ts:=h.mono (Kp.refl _ _) hX
structure Cb extends Pw where
 fe:V
 fn:V
 fc:V
 I:H→(Nat→Prop)→(Nat→Prop)→St→Prop
def wkr(c:Cb)(n:Nat):Ob:=.arr [.agg [.int .i64 n,c.fe,c.fn,c.fc]] 4 1
def grow(S:St)(F F':Nat→Prop):Prop:=∀l,F' l→F l∨S.length≤l
theorem grow.refl(S:St)(F:Nat→Prop):grow S F F:=fun _ h=>.inl h
theorem grow.trans{S T:St}{F G K:Nat→Prop}(h:grow S F G)(g:grow T G K)(hl:S.length≤T.length):grow S F K:=fun l hk=>(g l hk).elim (h l) fun hh=>.inr (by omega)
structure Wk(c:Cb)(w n:Nat)(h:c.H)(F D:Nat→Prop)(S:St):Prop where
 tw:S[w]?=some (wkr c n)
 st:c.I h F D S
 nF:¬ F w
 nD:¬ D w
structure Stp(w:Nat)(F D:Nat→Prop)(S:St)(F' D':Nat→Prop)(U:St):Prop where
 k:Kp (fun l=>l=w∨F l) S U
 gF:grow S F F'
 gD:grow S D D'
theorem Stp.refl(w:Nat)(F D:Nat→Prop)(S:St):Stp w F D S F D S:=⟨Kp.refl _ _,grow.refl _ _,grow.refl _ _⟩
theorem Stp.trans{w:Nat}{F D F1 D1 F2 D2:Nat→Prop}{S T U:St}(h:Stp w F D S F1 D1 T)(g:Stp w F1 D1 T F2 D2 U):Stp w F D S F2 D2 U:=
 ⟨⟨quF h.k.len g.k.len,fun l hl hn=>by
  rw[g.k.get l (quk hl h.k.len) fun hh=>hn (hh.elim .inl fun hh=>(h.gF l hh).elim .inr fun hh=>by omega)];exact h.k.get l hl hn⟩,h.gF.trans g.gF h.k.len,h.gD.trans g.gD h.k.len⟩
structure Cb.Ok(c:Cb):Prop where
 lt:∀{h F D S},c.I h F D S→∀l,F l∨D l→l<S.length
 fr:∀{h F D S U M},c.I h F D S→Kp M S U→(∀l,M l→l<S.length→¬ F l∧¬ D l)→c.I h F D U
 lp:∀{h F D S},c.I h F D S→∀l o,S[l]?=some (.loop o)→¬ F l∧¬ D l
 real:∀{h F D S},c.I h F D S→∀h',∃F' D' U,c.I h' F' D' U∧Kp F S U∧grow S F F'∧grow S D D'
 en:(c.fe=.nilfn∧(∀k x,c.f k x=x)∧∀h k x,c.ent h k x=h)∨∃g cs,c.fe=.fn (.func g) [] cs∧∀(U:St) (p k:Nat) (x:ByteArray) (h:c.H) (F D:Nat→Prop),U[p]?=some (plc x k x)→¬ F p→¬ D p→k≤100000→c.I h F D U→
  Spec prog g ([.ptr p 0 0 1]++cs) U (fun _ U'=>∃F' D',c.I (c.ent h k x) F' D' U'∧U'[p]?=some (plc x k (c.f k x))∧Kp (fun l=>l=p∨F l) U U'∧(∀l,F' l→F l)∧∀l,D' l→D l∨l=p∨U.length≤l)
 nm:match c.nm with
  | none=>c.fn=.nilfn
  | some g=>∃k cs,c.fn=.fn (.func k) [] cs∧∀(U:St) (x:Ex) (v:V) (ts:List Sct) (tg:Bool) (w:Nat) (h:c.H) (F D:Nat→Prop),ScR c.toPw (fun l=>l=w∨F l) U v ts→c.I h F D U→
   Spec prog k ([x.v,v,.bool tg]++cs) U (fun r U'=>r=(g x (Scx ts) tg).v∧∃F' D',c.I (c.nmH h x (Scx ts) tg) F' D' U'∧Kp F U U'∧grow U F F'∧grow U D D')
 cl:match c.cl with
  | none=>c.fc=.nilfn
  | some g=>∃k cs,c.fc=.fn (.func k) [] cs∧∀(U:St) (x:ByteArray) (v:V) (ts:List Sct) (w:Nat) (h:c.H) (F D:Nat→Prop),ScR c.toPw (fun l=>l=w∨F l) U v ts→c.I h F D U→
   Spec prog k ([.str x,v]++cs) U (fun r U'=>r=.str (g x (Scx ts))∧∃F' D',c.I (c.clH h x (Scx ts)) F' D' U'∧Kp F U U'∧grow U F F'∧grow U D D')
theorem Wk.push{c:Cb}(ok:c.Ok){w n:Nat}{h:c.H}{F D:Nat→Prop}{S:St}(k:Wk c w n h F D S)(os:List Ob):Wk c w n h F D (S++os):=
 ⟨by rw[qtD (qtB.1 k.tw).1];exact k.tw,ok.fr (M:=fun _=>False) k.st ((Kp.refl _ _).push _) (fun _ h=>h.elim),k.nF,k.nD⟩
theorem Wk.set{c:Cb}(ok:c.Ok){w n:Nat}{h:c.H}{F D:Nat→Prop}{S:St}(k:Wk c w n h F D S){l:Nat}(o:Ob)(hw:l≠w)(hF:¬ F l)(hD:¬ D l):Wk c w n h F D (S.set l o):=
 ⟨by rw[qtG hw];exact k.tw,ok.fr (M:=fun x=>x=l) k.st ((Kp.refl _ _).set _ (.inl rfl)) (fun x hx _=>by rw[hx];exact ⟨hF,hD⟩),k.nF,k.nD⟩
theorem Wk.out{c:Cb}(ok:c.Ok){w n:Nat}{h:c.H}{F D:Nat→Prop}{S:St}(k:Wk c w n h F D S){l:Nat}(hl:S.length≤l):l≠w∧¬ F l∧¬ D l:=
 ⟨by rintro rfl;have:=(qtB.1 k.tw).1;omega,fun hf=>by have:=ok.lt k.st l (.inl hf);omega,fun hf=>by have:=ok.lt k.st l (.inr hf);omega⟩
def Off(w:Nat)(F D:Nat→Prop)(l:Nat):Prop:=l≠w∧¬ F l∧¬ D l
theorem Off.next{w:Nat}{F D F' D':Nat→Prop}{S U:St}{l:Nat}(h:Off w F D l)(hl:l<S.length)(s:Stp w F D S F' D' U):Off w F' D' l:=
 ⟨h.1,fun hf=>(s.gF l hf).elim h.2.1 (by omega),fun hf=>(s.gD l hf).elim h.2.2 (by omega)⟩
theorem Stp.at{w:Nat}{F D F' D':Nat→Prop}{S U:St}{l:Nat}{o:Ob}(s:Stp w F D S F' D' U)(h:Off w F D l)(ho:S[l]?=some o):U[l]?=some o:=s.k.at ho fun hh=>hh.elim h.1 h.2.1
theorem Stp.push{w:Nat}{F D F' D':Nat→Prop}{S U:St}(s:Stp w F D S F' D' U)(os:List Ob):Stp w F D S F' D' (U++os):=⟨s.k.push os,s.gF,s.gD⟩
theorem Stp.set{w:Nat}{F D F' D':Nat→Prop}{S U:St}(s:Stp w F D S F' D' U){l:Nat}(o:Ob)(hl:S.length≤l):Stp w F D S F' D' (U.set l o):=⟨s.k.set o (.inr hl),s.gF,s.gD⟩
theorem Stp.ofPush{w:Nat}{F D F' D':Nat→Prop}{S U:St}{os:List Ob}(s:Stp w F D (S++os) F' D' U):Stp w F D S F' D' U:=
 ⟨s.k.ofPush,fun l h=>(s.gF l h).imp id fun hh=>by simp at hh;omega,fun l h=>(s.gD l h).imp id fun hh=>by simp at hh;omega⟩
theorem ScR.step{p:Pw}{w:Nat}{F D F' D':Nat→Prop}{S U:St}{v:V}{ts:List Sct}(h:ScR p (fun l=>l=w∨F l) S v ts)(s:Stp w F D S F' D' U):ScR p (fun l=>l=w∨F' l) U v ts:=
 h.mono s.k fun l hh=>hh.elim (fun e=>.inl (.inl e)) fun e=>(s.gF l e).imp .inr id
theorem ScR.push{p:Pw}{X:Nat→Prop}{S:St}{v:V}{ts:List Sct}(h:ScR p X S v ts)(os:List Ob):ScR p X (S++os) v ts:=h.mono ((Kp.refl _ _).push _) fun _ hh=>.inl hh
def strA(l:List ByteArray):List (List V):=l.map fun x=>[.str x]
theorem qgG{l:List ByteArray}{i:Nat}{x:ByteArray}(h:l[i]?=some x):(strA l)[i]?=some [.str x]:=by simp[strA,h]
theorem qef(l:List ByteArray):(strA l).length=l.length:=by simp[strA]
theorem qj0{α β:Type}(g:α→List β){l:List α}{i:Nat}(h:i<l.length):l.flatMap g=(l.take i).flatMap g++(g l[i]++(l.drop (i+1)).flatMap g):=by
 have h1:l=l.take i++(l[i]::l.drop (i+1)):=by rw[←qu0 h,qul]
 conv=>lhs;rw[h1]
 rw[List.flatMap_append,quz]
theorem qi9{α β:Type}(g:α→List β){l:List α}{i j:Nat}{y:β}(h:i<l.length)(hj:(g l[i])[j]?=some y):(l.flatMap g)[((l.take i).flatMap g).length+j]?=some y:=by
 rw[qj0 g h,qtC (by omega),qvq,qtD (qtB.1 hj).1,hj]
theorem qje{α β:Type}(g:α→List β){l:List α}{i:Nat}(h:i<l.length):((l.take (i+1)).flatMap g).length=((l.take i).flatMap g).length+(g l[i]).length:=by
 rw[qtQ,qtF h,qug,List.flatMap_append,qtZ];simp
def qcn(d:List De):List ByteArray:=d.flatMap De.names
theorem qc4(d:List De)(b:List Sm):qai d b=qcn d++qak b:=rfl
theorem qiC(l:List Sm)(b:Bool)(S:St):Spec prog 158 [.sl b (l.map Sm.v)] S (fun v U=>v=.fn (.func 187) [] [.ptr S.length 0 0 1]∧U=S++[.arr [.sl false (l.map Sm.v)] 1 1]):=by
 refine Spec.weakA ?_;simp only[V.weakL,V.weak,wSm];refine Spec.intro func158 ok158 (by simp[c158]) ?_;simp[c158,boxS];exact qaj rfl ⟨rfl,rfl⟩
theorem qqR(s:Sm)(S:St):Spec prog 219 [s.v] S (fun v U=>v=.fn (.func 255) [] [.ptr S.length 0 0 1]∧U=S++[.arr [s.v] 8 1]):=by
 refine Spec.intro func219 ok219 (by simp[c219]) ?_;simp[c219,boxS];exact qaj rfl ⟨rfl,rfl⟩
theorem qqW(d:De)(S:St):Spec prog 272 [d.v] S (fun v U=>v=.fn (.func 277) [] [.ptr S.length 0 0 1]∧U=S++[.arr [d.v] 7 1]):=by
 refine Spec.intro func272 ok272 (by simp[c272]) ?_;simp[c272,boxS];exact qaj rfl ⟨rfl,rfl⟩
theorem qnc(d:De)(hl:d.formals.length≤B50)(c:Nat):qge prog 277 [] [.ptr c 0 0 1] (strA (d.formals.map Fo.name)) (fun U=>U[c]?=some (.arr [d.v] 7 1)):=by
 intro S l J D M hM hcap hJ hD _ _ hy h0;have hc:=hcap _ _ h0;unfold B50 at hl;rw[qef,qtN];refine Spec.intro func277 ok277 (by simp[c277]) ?_;simp[c277,ldS,hc];refine qap (fun j e S'=>∃i:Nat,j=d.formals.length - i∧i≤d.formals.length∧J i S'∧Kp M S S'∧
  e=[(8,.int .i64 i),(7,.int .i64 d.formals.length),(6,.sl false (d.formals.map Fo.v)),(0,.yld l)]) d.formals.length _ ?_ ⟨0,by simp,by omega,h0,Kp.refl _ _,rfl⟩ ?_
 ·exact Env.so (by simp)
 rintro j e S' ⟨i,rfl,hi,hj,hk,rfl⟩;by_cases h:i<d.formals.length
 ·simp[h,iaFo,boxS,stS,qac,ldS];refine useY (hy i _ (qgG (x:=d.formals[i].name) (by simp[h])) _ (hJ _ _ _ hj) (hk.push _)) ?_;rintro v U' ⟨hk',⟨rfl,hj'⟩|⟨rfl,hd'⟩⟩
  ·simp[qaK (n:=(i:Int)+1)];refine ⟨_,?_,_,?_,i+1,rfl,by omega,hj',(hk.push _).trans hk',rfl⟩
   ·omega
   ·exact Env.so (by simp)
  ·simp;exact qaj rfl ⟨(hk.push _).trans hk',.inr hd'⟩
 ·simp[h];have:i=d.formals.length:=by omega
  subst this;exact qaN rfl ⟨hk,.inl hj⟩
theorem qfW(l:List Sm)(hl:l.length≤B50)(hok:Sm.okL l)(c:Nat):qge prog 187 [] [.ptr c 0 0 1] (strA (qak l)) (fun U=>U[c]?=some (.arr [.sl false (l.map Sm.v)] 1 1)):=by
 intro S y J D M hM hcap hJ hD _ _ hy h0;have hc:=hcap _ _ h0;unfold B50 at hl;rw[qef];refine Spec.intro func187 ok187 (by simp[c187]) ?_;simp[c187,ldS,hc];refine qap (fun j e S'=>∃i:Nat,j=l.length - i∧i≤l.length∧J (qak (l.take i)).length S'∧Kp M S S'∧
  e=[(9,.int .i64 i),(8,.int .i64 l.length),(7,.sl false (l.map Sm.v)),(0,.yld y)]) l.length _ ?_ ⟨0,by simp,by omega,h0,Kp.refl _ _,rfl⟩ ?_
 ·exact Env.so (by simp)
 rintro j e S' ⟨i,rfl,hi,hj,hk,rfl⟩;by_cases h:i<l.length
 case neg=>
  simp[h];have:i=l.length:=by omega
  subst this;rw[qt7] at hj;exact qaN rfl ⟨hk,.inl hj⟩
 have hll:=((Sm.ok_iff _).1 (Sm.okL_mem hok _ (qtM h))).labels.1;unfold B50 at hll;simp[h,iaSm,boxS,stS,qac,ldS];refine qaC (fun e U=>J (qak (l.take (i+1))).length U∧Kp M S U∧e.get 9=some (.int .i64 i)∧e.get 8=some (.int .i64 l.length)∧e.get 7=some (.sl false (l.map Sm.v))∧e.get 0=some (.yld y)) ?_ ?_
 ·refine qap (fun j e U=>∃k:Nat,j=l[i].labels.length - k∧k≤l[i].labels.length∧J ((qak (l.take i)).length+k) U∧Kp M S U∧
   e=[(16,.int .i64 k),(15,.int .i64 l[i].labels.length),(14,.sl false (l[i].labels.map .str)),(9,.int .i64 i),(8,.int .i64 l.length),(7,.sl false (l.map Sm.v)),(0,.yld y)]) l[i].labels.length _ ?_ ⟨0,by simp,by omega,hJ _ _ _ hj,hk.push _,rfl⟩ ?_
  ·exact Env.so (by simp)
  rintro j e U ⟨k,rfl,hki,hj,hk,rfl⟩;by_cases g:k<l[i].labels.length
  ·simp[g,qdp];refine useY (hy _ _ (qgG (qi9 Sm.labels h (y:=l[i].labels[k]) (by simp[g]))) _ hj hk) ?_;rintro v U' ⟨hk',⟨rfl,hj'⟩|⟨rfl,hd'⟩⟩
   ·simp[qaK (n:=(k:Int)+1)];refine ⟨_,?_,_,?_,k+1,rfl,by omega,hj',hk.trans hk',rfl⟩
    ·omega
    ·exact Env.so (by simp)
   ·simp;exact qaj rfl ⟨hk.trans hk',.inr hd'⟩
  ·have:k=l[i].labels.length:=by omega
   subst this;simp;refine ⟨?_,hk⟩;have:=qje Sm.labels h;unfold qak at *;rw[this];exact hj
 rintro e U ⟨hj,hk,g9,g8,g7,g0⟩;simp[g9,qaK (n:=(i:Int)+1)];refine ⟨_,?_,_,?_,i+1,rfl,by omega,hj,hk,rfl⟩
 ·omega
 ·repeat' first|exact Env.sub_nil _|refine Env.sub_cons (by simp[g8,g7,g0]) ?_
theorem qnj(s:Sm)(hds:s.decls.length≤B50∧De.okL s.decls)(hbs:s.body.length≤B50∧Sm.okL s.body)(c:Nat):qge prog 255 [] [.ptr c 0 0 1] (strA (qai s.decls s.body)) (fun U=>U[c]?=some (.arr [s.v] 8 1)):=by
 intro S y J D M hM hcap hJ hD hJl hDl hy h0;have hc:=hcap _ _ h0;have hdl:=hds.1;unfold B50 at hdl;rw[qef];have nM:¬ M S.length:=fun h=>by have:=hM _ h;omega
 have hyd:∀(i:Nat) (x:ByteArray),(qcn s.decls)[i]?=some x→∀U,J i U→Kp M S U→qbS prog y [.str x] U (fun v U'=>Kp M U U'∧((v=.bool true∧J (i+1) U')∨(v=.bool false∧D U'))):=fun i x hx=>
  hy i _ (qgG (by rw[qc4,qtD (qtB.1 hx).1];exact hx))
 have hyl:∀(i:Nat) (a:List V),(strA (qak s.body))[i]?=some a→∀U,J ((qcn s.decls).length+i) U→Kp M S U→qbS prog y a U (fun v U'=>Kp M U U'∧((v=.bool true∧J ((qcn s.decls).length+i+1) U')∨(v=.bool false∧D U'))):=fun i a ha=>
  hy _ a (by
   unfold strA at ha ⊢;rw[qtV] at ha;obtain ⟨x,hx,rfl⟩:=qtK.1 ha;rw[qc4,qtX];rw[qtC (by simp),qtN,qvq];simp[hx])
 refine Spec.intro func255 ok255 (by simp[c255]) ?_;have hc1:(S++[Ob.arr [.yld y] 1 1])[c]?=some (.arr [s.v] 8 1):=gp hc;have hy1:(S++[Ob.arr [.yld y] 1 1])[S.length]?=some (.arr [.yld y] 1 1):=by simp
 have hk1:Kp M S (S++[Ob.arr [.yld y] 1 1]):=(Kp.refl _ _).push _;have hj1:=hJ _ _ (Ob.arr [.yld y] 1 1) h0;simp[c255,boxS,V.cells,V.flat,V.size];generalize S++[Ob.arr [.yld y] 1 1]=S1 at hc1 hy1 hk1 hj1 ⊢;simp[ldS,hc1];refine qaC (fun e U=>J (qcn s.decls).length U∧Kp M S U∧U[S.length]?=some (.arr [.yld y] 1 1)∧e.get 1=some (.ptr c 0 0 1)∧e.get 2=some (.ptr S.length 0 0 1)) ?_ ?_
 ·refine qap (fun j e U=>∃i:Nat,j=s.decls.length - i∧i≤s.decls.length∧J (qcn (s.decls.take i)).length U∧Kp M S U∧U[S.length]?=some (.arr [.yld y] 1 1)∧
   e=[(11,.int .i64 i),(10,.int .i64 s.decls.length),(9,.sl false (s.decls.map De.v)),(1,.ptr c 0 0 1),(2,.ptr S.length 0 0 1)]) s.decls.length _ ?_ ⟨0,by simp,by omega,hj1,hk1,hy1,rfl⟩ ?_
  ·exact Env.so (by simp)
  rintro j e U ⟨i,rfl,hi,hj,hk,hyy,rfl⟩;by_cases h:i<s.decls.length
  case neg=>
   have:i=s.decls.length:=by omega
   subst this;rw[qt7] at hj;simp;exact ⟨hj,hk,hyy⟩
  have hll:=((De.ok_iff _).1 (De.okL_mem hds.2 _ (qtM h))).names.1;unfold B50 at hll;simp[h,iaDe,boxS,stS,qac,ldS];refine qaC (fun e U=>J (qcn (s.decls.take (i+1))).length U∧Kp M S U∧U[S.length]?=some (.arr [.yld y] 1 1)∧e.get 11=some (.int .i64 i)∧e.get 10=some (.int .i64 s.decls.length)∧e.get 9=some (.sl false (s.decls.map De.v))∧e.get 1=some (.ptr c 0 0 1)∧e.get 2=some (.ptr S.length 0 0 1)) ?_ ?_
  ·refine qap (fun j e U=>∃k:Nat,j=s.decls[i].names.length - k∧k≤s.decls[i].names.length∧J ((qcn (s.decls.take i)).length+k) U∧Kp M S U∧U[S.length]?=some (.arr [.yld y] 1 1)∧
    e=[(18,.int .i64 k),(17,.int .i64 s.decls[i].names.length),(16,.sl false (s.decls[i].names.map .str)),(11,.int .i64 i),(10,.int .i64 s.decls.length),(9,.sl false (s.decls.map De.v)),(1,.ptr c 0 0 1),(2,.ptr S.length 0 0 1)]) s.decls[i].names.length _ ?_ ⟨0,by simp,by omega,hJ _ _ _ hj,hk.push _,gp hyy,rfl⟩ ?_
   ·exact Env.so (by simp)
   rintro j e U ⟨k,rfl,hki,hj,hk,hyy,rfl⟩;by_cases g:k<s.decls[i].names.length
   ·simp[g,qdp,ldS,hyy];refine useY (hyd _ _ (qi9 De.names h (y:=s.decls[i].names[k]) (by simp[g])) _ hj hk) ?_;rintro v U' ⟨hk',⟨rfl,hj'⟩|⟨rfl,hd'⟩⟩
    ·simp[qaK (n:=(k:Int)+1)];refine ⟨_,?_,_,?_,k+1,rfl,by omega,hj',hk.trans hk',hk'.at hyy nM,rfl⟩
     ·omega
     ·exact Env.so (by simp)
    ·simp;exact qaj rfl ⟨hk.trans hk',.inr hd'⟩
   ·have:k=s.decls[i].names.length:=by omega
    subst this;simp;refine ⟨?_,hk,hyy⟩;have:=qje De.names h;unfold qcn at *;rw[this];exact hj
  rintro e U ⟨hj,hk,hyy,g11,g10,g9,g1,g2⟩;simp[g11,qaK (n:=(i:Int)+1)];refine ⟨_,?_,_,?_,i+1,rfl,by omega,hj,hk,hyy,rfl⟩
  ·omega
  ·repeat' first|exact Env.sub_nil _|refine Env.sub_cons (by simp[g10,g9,g1,g2]) ?_
 rintro e U ⟨hj,hk,hyy,g1,g2⟩;have hcU:=hcap _ _ hj;simp[g1,ldS,hcU];refine qan (qiC s.body false U) ?_;rintro v U2 ⟨rfl,rfl⟩;simp;have hlen:(qai s.decls s.body).length=(qcn s.decls).length+(qak s.body).length:=by rw[qc4,qtZ]
 have hUl:=hk.len;have hylt:=glt hyy;refine qe5 (k:=187) (fs:=[]) (cs:=[.ptr U.length 0 0 1]) (by simp) (qfW s.body hbs.1 hbs.2 U.length) rfl rfl rfl (by intro a ha;obtain ⟨x,_,rfl⟩:=qt3.1 ha;rfl) M (fun x hx=>by have:=hM x hx;simp;omega)
  (fun i V=>J ((qcn s.decls).length+i) V∧V[U.length]?=some (.arr [.sl false (s.body.map Sm.v)] 1 1)∧V[S.length]?=some (.arr [.yld y] 1 1)∧Kp M S V) (fun V=>D V∧Kp M S V) (fun _ _=>False) ?_ ?_ ?_ ?_ ?_ ?_ ?_ ?_ ?_ ?_ ?_ ?_
 ·rintro i V ⟨_,h,_⟩;exact h
 ·rintro i V ⟨a,b,c,d⟩ o;exact ⟨hJ _ _ _ a,gp b,gp c,d.push _⟩
 ·rintro V ⟨a,d⟩ o;exact ⟨hD _ _ a,d.push _⟩
 ·rintro id V h;exact h.elim
 ·rintro i V L o o' hL ⟨a,b,c,d⟩ hl;simp at hL;exact ⟨hJl _ _ _ _ _ (by omega) a hl,gl b (by simp) hl,gl c (by simp) hl,d.set _ (.inr (by omega))⟩
 ·rintro V L o o' hL ⟨a,d⟩ hl;simp at hL;exact ⟨hDl _ _ _ _ (by omega) a hl,d.set _ (.inr (by omega))⟩
 ·rintro id V L o o' hL h;exact h.elim
 ·exact ⟨hJ _ _ _ (hJ _ _ _ hj),by simp,gp (gp hyy),(hk.push _).push _⟩
 ·rintro i av hav V ⟨hjv,h1,h2,h3⟩ hkk hl;have hav':=hav;unfold strA at hav';rw[qtV] at hav';obtain ⟨x,hx,rfl⟩:=qtK.1 hav';generalize hke:Env.keep _ _=ke at hl ⊢;have k2:ke.get 2=some (.ptr S.length 0 0 1):=by rw[←hke];exact Env.keep_get (by simp) (by simp[g2])
  clear hke;simp at hl;simp[qc7];refine qcU hl rfl ?_;have lV:=glt hl;have hjw:=hJl _ _ _ _ { st:=.busy,pend:=none,ps:=[31],asg:=(rfAt Tryz.f255 0).1,body:=(rfAt Tryz.f255 0).2,e:=ke,N:=36 } (by omega) hjv hl;have hyw:=gl (i':={ st:=.busy,pend:=none,ps:=[31],asg:=(rfAt Tryz.f255 0).1,body:=(rfAt Tryz.f255 0).2,e:=ke,N:=36 }) h2 (by simp) hl;have hcw:=gl (i':={ st:=.busy,pend:=none,ps:=[31],asg:=(rfAt Tryz.f255 0).1,body:=(rfAt Tryz.f255 0).2,e:=ke,N:=36 }) h1 (by simp) hl;have hLw:(V.set (U.length+1) (.loop { st:=.busy,pend:=none,ps:=[31],asg:=(rfAt Tryz.f255 0).1,body:=(rfAt Tryz.f255 0).2,e:=ke,N:=36 }))[U.length+1]?=some (.loop _):=qtE lV;have hkw:Kp (fun x=>M x∨x=U.length+1) V (V.set (U.length+1) (.loop { st:=.busy,pend:=none,ps:=[31],asg:=(rfAt Tryz.f255 0).1,body:=(rfAt Tryz.f255 0).2,e:=ke,N:=36 })):=(Kp.refl _ _).set _ (.inl (.inr rfl));have h3w:Kp M S (V.set (U.length+1) (.loop { st:=.busy,pend:=none,ps:=[31],asg:=(rfAt Tryz.f255 0).1,body:=(rfAt Tryz.f255 0).2,e:=ke,N:=36 })):=h3.set _ (.inr (by omega));generalize V.set (U.length+1) _=W at hjw hyw hcw hLw hkw h3w ⊢;have nMU:¬ M U.length:=fun h=>by have:=hM _ h;omega
  have nML:¬ M (U.length+1):=fun h=>by have:=hM _ h;omega
  simp[k2,ldS,hyw];refine useY (hyl i _ hav W hjw h3w) ?_;rintro v X ⟨xk,⟨rfl,xj⟩|⟨rfl,xd⟩⟩
  ·simp;have hLX:=xk.at hLw nML;refine qci ⟨rfl,rfl⟩ (.inr rfl) hLX (hkw.trans (xk.mono fun _ _ h=>.inl h)) ⟨hJl _ _ _ _ _ (by omega) xj hLX,gl (xk.at hcw nMU) (by simp) hLX,gl (xk.at hyw nM) (by simp) hLX,(h3w.trans xk).set _ (.inr (by omega))⟩
  ·simp;have hLX:=xk.at hLw nML;exact qfc (.inr rfl) hLX (hkw.trans (xk.mono fun _ _ h=>.inl h)) ⟨hDl _ _ _ _ (by omega) xd hLX,(h3w.trans xk).set _ (.inr (by omega))⟩
 ·rintro V ⟨hjv,_,_,h3⟩ _;rw[qef] at hjv;simp;refine qaN rfl ⟨h3,.inl ?_⟩;rw[hlen];exact hjv
 ·rintro V ⟨hd,h3⟩ _;exact qaj rfl ⟨h3,.inr hd⟩
 ·rintro id V h;exact h.elim
