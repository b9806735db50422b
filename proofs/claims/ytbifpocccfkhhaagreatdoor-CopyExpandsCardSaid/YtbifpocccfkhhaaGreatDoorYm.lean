/- A part. -/
import Derived.Test.YtbifpocccfkhhaaGreatDoorYl
set_option linter.all false
noncomputable section
namespace Go.Proofs.YtbifpocccfkhhaaGreatDoor
open Go
def qn(l:List Bz)(xs:List Ex):Rp:=⟨[],l,xs⟩
def qg7(x:Bz):∀(l:List Bz) (xs:List Ex),tM l xs x=eS (l.zip xs) x
 |[],xs=>by simp[tM,eS]
 |y::l,[]=>by simp[tM,eS]
 |y::l,z::xs=>by
  rw[tM,KP];simp only[eS];rw[qg7 x l xs]
def qjY(l:List Bz)(xs:List Ex):Sr (qn l xs) (eS (l.zip xs)):=⟨rfl,λx=>qg7 x l xs⟩
def qeq:∀{xs:List Ex},lu xs=0->∀x,x∈xs->(Pa.ex x).err aH=0
 |y::xs,h,x,hx=>by
  rw[lu]at h;by_cases h0:(Pa.ex y).err aH=0
  .rw[au (by rw[h0];simp)]at h;rcases dU.1 hx with rfl|hx
   .exact h0
   .exact qeq h x hx
  .rw[ak h0]at h;exact absurd h h0
def qid{l:List Bz}{xs:List Ex}(h:vA l xs=0):l.length=xs.length/\(∀x,x∈l->aH x=true)/\l.Nodup/\∀x,x∈xs->(Pa.ex x).err aH=0:=by
 unfold vA at h;split at h
 .cases h
 .rename_i h1;split at h
  .cases h
  .rename_i h2;refine⟨Classical.byContradiction λhh=>h1 (.inl hh),λx hx=>?_,Classical.not_not.1 h2,qeq h⟩
   cases hn:aH x with
   |true=>rfl
   |false=>
    refine absurd (.inr ?_) h1;unfold iQ;rw[Am];exact⟨x,hx,by simp[hn]⟩
def HH.all{l:List Bz}{xs:List Ex}(h:vA l xs=0):HH (l.zip xs):=λe he=>by
 obtain⟨_,h2,_,h4⟩:=qid h;have:=List.of_mem_zip (a:=e.1) (b:=e.2) he;exact⟨h2 _ this.1,(zh (h4 _ this.2)).2⟩
open Go.Proofs.Tryz
def Sm.qvy(s:Sm)(va:(Pa.st s).valid aH=true)(z:Bz):z∈s.tP↔z∈s.fu:=by
 rw[<-s.qjB va,(Ru (z:=z) List.Pairwise.nil).2];simp
def Sm.qmz(s:Sm)(va:(Pa.st s).valid aH=true)(taken:List Bz):jt taken s.tP [] s.bounds=s.jj taken:=by
 unfold Sm.jj;exact PN (λx=>by rw[qi];simp) (λx=>s.qvy va x) _ _
def Sm.qmr(s:Sm)(va:(Pa.st s).valid aH=true)(taken:List Bz):s.BX ⟨s.jj taken,[],[]⟩=s.ap taken:=by
 refine Sm.qzi (N:=(s.jj taken).length) ⟨λk hk=>?_,rfl⟩ s (by rw[s.UA];exact dl _) va;show(s.jj taken)[k]?=_;unfold lf;rw[bX hk];rfl
def Gs.elems{w:Nat}{F:Np}{xs:List Bz}{v:V}{S:St}(h:Gs w F xs v S):Go.Proofs.YtbifpocccfkhhaaGreatDoor.elems S v=some (xs.map .str):=by
 rcases h with ⟨rfl,rfl⟩|⟨l,wr,h1,h2,rfl,h4,h5⟩
 .rfl
 .simp only[Go.Proofs.YtbifpocccfkhhaaGreatDoor.elems,h4];rw[ak ⟨h5,oM⟩,CG,mJ (by rw[bQ];exact dl _)]
def Gr.elems{sz n0:Nat}{xs:List V}{v:V}{S:St}(h:Gr sz n0 xs v S):Go.Proofs.YtbifpocccfkhhaaGreatDoor.elems S v=some xs:=by
 rcases h with ⟨rfl,rfl⟩|⟨l,wr,h1,rfl,h4,h5⟩
 .rfl
 .simp only[Go.Proofs.YtbifpocccfkhhaaGreatDoor.elems,h4];rw[ak ⟨h5,oM⟩,CG,gu]
def qx6(s:Sm)(va:(Pa.st s).valid aH=true)(bF:(Pa.st s).size<150)(hn:Sm.bH [s]<150)(tv:V)(taken:List Bz)(ht:taken.length<=500)(S:St)(htv:∀Y:St,(∀k,k<S.length->Y[k]?=S[k]?)->Rd tv taken Y/\Go.Proofs.YtbifpocccfkhhaaGreatDoor.elems Y tv=some (taken.map .str)):
  aA prog 47 [s.v,tv] S (λr U=>r=(s.ap taken).v/\bz S U):=by
 refine aA.ib C47 ?_;obtain⟨S1,bB⟩:=eX (α:=St) (S++[.arr [s.v] 8 1,.arr [bL] 8 1,vN sN]);have b0:S1[S.length]?=aJ [s.v] 8:=by rw[bB];simp
 have b1:S1[S.length+1]?=aJ [bL] 8:=by rw[bB,cx oM];simp
 have b2:S1[S.length+2]?=some (vN sN):=by rw[bB,cx oM];simp
 have l1:S1.length=S.length+3:=by rw[bB];simp
 have kS:bz S S1:=by rw[bB];exact(Kp.refl _ _).push _
 have d0:ab S1 (ag S.length) (some 8)=some s.v:=by simp[ab,b0]
 have k1:Rk r0 true true (S.length+2) sN [] iY (λ_=>False) (λ_=>False) S1:=Rk.start b2 (.inl ⟨rfl,rfl⟩) (λ_ h=>h.elim) id;simp[C47,aL,bR,bP];rw[<-bB];simp[d0];refine bE (OB r0 Sv true true (S.length+2) _ s oM iY _ _ S1 k1 oM (by show 0+_<=_;omega)) ?_;rintro r U ⟨rfl,F1,D1,k2,s2⟩;have nZ:Kp (λl=>l=S.length+2) S1 U:=s2.k.mono λl _ hh=>hh.elim id λh=>h.elim
 have c0:=nZ.at b0 oM;have c1:=nZ.at b1 oM;have lU:=nZ.len;have kU:bz S U:=⟨oM,λl hl hn=>by rw[nZ.get l oM oM];exact kS.get l hl hn⟩;obtain⟨vb,vf,w1,w2,w3,w4⟩:=k2.wx;have hN:=s.wz;have jw:(s.rs r0 [ar s.labels 0] (ar s.labels 0).length iY).free=s.tP:=rfl;have qd:=Sm.BA r0 s [ar s.labels 0] (ar s.labels 0).length iY;have h0:iY.free.length=0:=rfl;rw[jw]at w3 qd;have w2:Gs (S.length+2) F1 s.bounds vb U:=w2;have Yd:ab U (ag (S.length+2)) none=some vb:=by unfold gn at w1;simp[ab,w1]
 have GK:∀X:St,X[S.length+2]?=U[S.length+2]?->ab X (eD (S.length+2) 1) none=some vf:=λX hX=>by
  unfold gn at w1;rw[w1]at hX;simp[ab,hX]
 obtain⟨fv,U1,a1,g1,m1,m2,_⟩:=(Gr.nil 1 U.length U).nO (bytes:=16) w2.elems (xU _) (by simp;omega) cz;rw[ig]at g1;have m2:∀(l:Nat) (o:Ob),U[l]?=some o->U1[l]?=some o:=λl o ho=>m2 l o ho λn=>by simp
 have QU:=g1.rd.flat;obtain⟨Q,hQ⟩:=eX (U1.length)
 have hbw:bP (.agg [sN,sN,sN,sN,sN,.bool false,.bool false]) [(2,1,fv)]=some (.agg [sN,sN,fv,sN,sN,.bool false,.bool false]):=by
  simp[bP,aU,QU]
 have si:∀x n,fv=.arr x 0 n n->x<Q:=λx n hx=>by
  rcases g1 with ⟨_,rfl⟩|⟨l,wr,h1,rfl,h3,_⟩
  .cases hx
  .cases hx;rw[hQ];exact aR h3
 have f0:fits 1 ([]:List V)=true:=rfl;have iT:s.bounds.length<150:=oM;simp[aL,bR,dK,Yd,a1,hbw,f0,QU];rw[<-hQ];obtain⟨dn,yd⟩:=eX (α:=Nat->List Bz) (λi=>rS taken s.tP [] s.bounds i);have Qc:dn 0=[]:=by rw[yd];simp[rS]
 have Ic:∀i,i<=s.bounds.length->(dn i).length=i:=λi hi=>by rw[yd];simpa using Ur taken s.tP s.bounds [] i hi
 have dns:∀i (hi:i<s.bounds.length),dn (i+1)=dn i++[mj taken s.tP (dn i) s.bounds[i] (s.bounds.drop (i+1))]:=λi hi=>by rw[yd];exact Ut taken s.tP s.bounds [] i hi
 obtain⟨Inv,zk⟩:∃Inv:Nat->St->Prop,∀i X,Inv i X↔(X[Q]?=some (vN fv)/\Gr 1 U.length ((dn i++s.bounds.drop i).map .str) fv X/\∀l,l<U.length->X[l]?=U[l]?):=⟨_,λ_ _=>Iff.rfl⟩;have lJ:∀i,i<=s.bounds.length->(dn i++s.bounds.drop i).length=s.bounds.length:=λi hi=>by rw[dx,Ic i hi,List.length_drop];omega
 refine eA (λe X=>Inv s.bounds.length X/\e.get 2=some (ag S.length)/\e.get 4=some (ag (S.length+1))/\e.get 6=some (ag Q)) ?_ ?_
 ·refine cE (λj e X=>∃i:Nat,j=s.bounds.length - i∧i≤s.bounds.length∧Inv i X∧
   e=[(7,af i),(6,ag Q),(5,ag (S.length+2)),(4,ag (S.length+1)),(2,ag S.length),(1,tv)]) s.bounds.length _ ?_ ⟨0,sM,oM,(zk _ _).2 ⟨?_,?_,?_⟩,rfl⟩ ?_
  .exact ba
  .rw[hQ];simp
  .rw[Qc,CG,ig];exact g1.keep λl _ hl=>by rw[dh hl]
  .intro l hl;rw[dh oM,bX hl];exact m2 l _ (bX hl)
  rintro j e X ⟨i,rfl,hi,hI,rfl⟩;obtain⟨hq,hg,hk⟩:=(zk _ _).1 hI;have hlen:=hg.rd.1;rw[lJ i hi]at hlen;have GI:∀{Y:St},Y[Q]?=some (vN fv)->ab Y (eD Q 2) none=some fv:=λh=>by unfold vN at h;simp[ab,h]
  by_cases aB:i<s.bounds.length
  .have wP:s.bounds.drop i=s.bounds[i]::s.bounds.drop (i+1):=xE aB;have pq:mj taken s.tP (dn i) s.bounds[i] (s.bounds.drop (i+1))=if eJ s.bounds[i] taken=true then xX s.bounds[i] (s.tP++(dn i++s.bounds[i]::s.bounds.drop (i+1))++taken) else s.bounds[i]:=rfl
   have io:=dns i aB;have IW:=Ic i hi;have sC:s.bounds[i].size<=16:=GU (s.La va _ (dz aB));obtain⟨gW,Ds⟩:=eX (dn i++s.bounds.drop i);have hcn:=lJ i hi;rw[<-Ds]at hg hcn;have Md:gW[i]?=some s.bounds[i]:=by rw[Ds,wP,cx oM,IW];simp
   rw[<-wP,<-Ds]at pq
   have mP:gW.set i (mj taken s.tP (dn i) s.bounds[i] (s.bounds.drop (i+1)))=dn (i+1)++s.bounds.drop (i+1):=by
    rw[io,Ds,List.set_append_right _ _ oM,IW,dY,wP,Nat.sub_self];rfl
   obtain⟨x,rr⟩:=eX (s.bounds[i]);rw[<-rr]at pq Md sC mP;obtain⟨q,q1,q2⟩:=hg.rd.2 i oM
   have hcx:gW[i]'oM=x:=by
    have:=(br.1 Md).2;exact this
   rw[hcx]at q2;simp[GI hq,dK,↓jm,hlen,aB,q1,q2];have kX:∀k,k<S.length->X[k]?=S[k]?:=λk cI=>by rw[hk k (by have:=kU.len;omega)];exact kU.get k cI id
   refine aZ (OA tv taken x X oM (htv X kX).1) ?_
   cases jP:eJ x taken with
   |false=>
    rw[jP,au sM]at pq;rw[pq,qj3 Md]at mP;simp[cG i];refine⟨_,?_,_,?_,i+1,rfl,oM,(zk _ _).2 ⟨hq,by rw[<-mP];exact hg,hk⟩,rfl⟩
    .omega
    .exact ba
   |true=>
    rw[jP,ak rfl]at pq;have lQ:=aR hq;have lw:=aR w1;have lfX:=GK X (hk _ lw);have w3X:Gs (S.length+2) F1 s.tP vf X:=w3.keep λl o hl ho=>by rw[hk l (k2.lt l (.inl hl))];exact ho
    obtain⟨v1,X1,r1,j1,n1,o1,_⟩:=(Gr.nil 1 X.length X).nO (bytes:=16) w3X.elems (xU _) (by simp;omega) cz;have o1:∀(l:Nat) (o:Ob),X[l]?=some o->X1[l]?=some o:=λl o ho=>o1 l o ho λn=>by simp
    have kp:∀{Y:St},(∀(l:Nat) (o:Ob),X[l]?=some o->Y[l]?=some o)->Gr 1 U.length (gW.map .str) fv Y:=λh=>hg.keep λl _ hl=>by
     rw[bX hl];exact h l _ (bX hl)
    obtain⟨v2,X2,r2,j2,n2,o2,_⟩:=j1.nO (bytes:=16) (kp o1).elems (xU _) (by simp;omega) n1;have o2:∀(l:Nat) (o:Ob),X[l]?=some o->X2[l]?=some o:=λl o ho=>o2 l o (o1 l o ho) λn=>j1.ne (aR ho) n
    obtain ⟨v3,X3,r3,j3,n3,o3,_⟩:=j2.nO (bytes:=16) (htv X2 λk cI=>by
     have A2:k<X.length:=by have:=aR hq;have:=kU.len;omega
     have h1:=o2 k _ (bX A2);rw[h1,<-bX A2];exact kX k cI).2 (xU _) (by simp;omega) oM
    have o3:∀(l:Nat) (o:Ob),X[l]?=some o->X3[l]?=some o:=λl o ho=>o3 l o (o2 l o ho) λn=>j2.ne (aR ho) n
    obtain⟨all,dq⟩:=eX (s.tP++gW++taken);have j3:Gr 1 X.length (all.map .str) v3 X3:=by rw[dq,cJ,cJ];simpa using j3
    rw[<-dq]at pq;have FR:all.length<=899:=by rw[dq];simp;omega
    have rn:=o1 _ _ hq;have Ja:=o3 _ _ hq;simp[f0,dK,lfX,r1,GI rn,r2,r3];simp[dP,eF,eZ,GI hq,GI rn]
    obtain⟨a,wr,ha1,wR,QG,IR⟩:∃a wr,U.length<=a/\fv=.arr a 0 gW.length gW.length/\X3[a]?=some (.arr (gW.map .str) 1 wr)/\wr<=gW.length:=by
     rcases kp o3 with ⟨h1,_⟩|⟨a,wr,h1,h2,h3,h4⟩
     .have:gW.length=0:=by rw[<-bQ (f:=V.str),h1];rfl
      omega
     .rw[bQ]at h2 h4;exact⟨a,wr,h1,h2,h3,h4⟩
    have hiL:i<gW.length:=oM
    have z1:gP X3 1 fv i=some (.ptr a i 0 gW.length):=by
     rw[wR];simp only[gP,QG];rw[ak ⟨IR,trivial,oM,oM⟩];simp
    have z2:ab X3 (.ptr a i 0 gW.length) none=some (.str x):=by
     simp only[ab,QG];rw[ak ⟨IR,hiL⟩];simp[Md,V.part,V.cells]
    have hcg:gW[i]?=some x:=Md
    have z3:∀t,aI X3 (.ptr a i 0 gW.length) 1 (.str t)=some (X3.set a (.arr ((gW.set i t).map .str) 1 gW.length)):=λt=>by
     simp[aI,QG,IR,hiL,hcg,ZZ,V.size,V.cells,V.flat,List.map_set]
    simp[dK,GI Ja,z1,z2];refine uc (qkE v3 x all X3 j3.rd sC FR) ⟨_,X3,⟨_,rfl,(je.exists x all FR).choose_spec⟩,rfl⟩ ?_;rintro r X4 ⟨⟨t,rfl,jw⟩,rfl⟩;rw[LF jw]at pq;rw[pq]at mP;simp[z1,z3];simp[dP,eF,eZ,GI Ja];have haQ:a<Q:=si a _ wR;simp[cG i];refine⟨_,?_,_,?_,i+1,rfl,oM,(zk _ _).2 ⟨?_,.inr ⟨a,gW.length,ha1,?_,?_,?_⟩,λl hl=>?_⟩,rfl⟩
    .omega
    .exact ba
    .rw[bG oM];exact Ja
    .rw[bQ,<-mP,xG];exact wR
    .rw[bO (aR QG),<-mP,List.map_set]
    .rw[bQ,<-mP,xG];exact dl _
    .rw[bG oM];have h1:=hk l hl;rw[bX hl]at h1 |-;exact o3 _ _ h1
  .have:i=s.bounds.length:=oM;subst this;simp[GI hq,dK,↓jm,hlen];exact hI
 rintro e X ⟨hI,g2,g4,g6⟩;obtain⟨hq,hg,hk⟩:=(zk _ _).1 hI;have AZ:dn s.bounds.length=s.jj taken:=by rw[yd,<-s.qmz va taken];exact Uo taken s.tP s.bounds []
 rw[List.drop_length,pR,AZ]at hg;have lQ:=aR hq;have lw:=aR w1;have TB:X[S.length]?=aJ [s.v] 8:=by rw[hk _ oM];exact c0
 have z1:X[S.length+1]?=aJ [bL] 8:=by rw[hk _ oM];exact c1
 have Bi:ab X (ag S.length) (some 8)=some s.v:=by simp[ab,TB]
 have hgs:Gs Q (λl=>∃n,fv=.arr l 0 n n) (s.jj taken) fv X:=by
  rcases hg with ⟨h1,h2⟩|⟨l,wr,h1,h2,h3,h4⟩
  .exact .inl ⟨by simpa using h1,h2⟩
  .rw[bQ]at h2 h4;exact .inr ⟨l,wr,⟨_,h2⟩,by have:=si l _ h2;omega,h2,h3,h4⟩
 have k3:=Rk.start (D:=λl=>∃n,fv=.arr l 0 n n) hq hgs (λl ⟨n,hl⟩=>by have:=si l n hl;omega) λ⟨n,hl⟩=>by have:=si Q n hl;omega
 simp[g2,g4,g6,Bi];refine bE (OB ⟨s.jj taken,[],[]⟩ ⟨dl _,fS _⟩ true true Q fv s oM iY _ _ X k3 oM (by show 0+_<=_;omega)) ?_;rintro r Y ⟨hr,F2,D2,k4,s4⟩;rw[s.qmr va taken]at hr
 have kY:∀l,l<U.length->Y[l]?=U[l]?:=λl hl=>by
  rw[s4.k.get l oM (by rintro(hh|hh);omega;exact hh)];exact hk l hl
 have z2:Y[S.length+1]?=aJ [bL] 8:=by rw[kY _ oM];exact c1
 have lY:=s4.k.len;have M3:r.size=8/\r.cells.all V.flat=true/\V.part r 0 (some 8)=some r:=by rw[hr];exact⟨Sm.iF _,sM,yF _⟩
 have bg:aI Y (ag (S.length+1)) 8 r=some (Y.set (S.length+1) (.arr [r] 8 1)):=by simp[aI,z2,aU,M3]
 simp[bg,g4];have hz:(Y.set (S.length+1) (.arr [r] 8 1))[S.length+1]?=aJ [r] 8:=bO (aR z2);refine bu (vs:=[r]) (by simp[eL,g4,ab,hz,M3]) ⟨hr,Kp.set ⟨by have:=kU.len;omega,λl hl hn=>?_⟩ _ (.inr oM)⟩;rw[kY l oM];exact kU.get l hl hn
def qpf{xs:List Ex}{i:Nat}(h:i<xs.length):(xs.take (i+1)).flatMap Ex.names=(xs.take i).flatMap Ex.names++xs[i].names:=by
 rw[dN,bX h,iP,KF];simp
def RQ:∀xs:List Ex,(xs.flatMap Ex.names).length<=bk (xs.map Pa.ex)
 |[]=>fS _
 |x::xs=>by
  have h1:=x.Jy;have h2:=RQ xs;rw[nl,dx,cQ,iN];omega
def qwD(xs:List Ex)(i:Nat):bk ((xs.take i).map Pa.ex)<=bk (xs.map Pa.ex):=by
 have h:bk (xs.map Pa.ex)=bk ((xs.take i).map Pa.ex)+bk ((xs.drop i).map Pa.ex):=by rw[<-vD,<-cJ,qY]
 omega
def qwC{xs:List Ex}{x:Ex}(h:x∈xs):(Pa.ex x).size<=bk (xs.map Pa.ex):=by
 induction xs with
 |nil=>cases h
 |cons y l ih=>
  rw[cQ,iN];rcases dU.1 h with rfl| h
  .omega
  .have:=ih h;omega
def qkN(b:Bool)(xs:List Ex)(hl:xs.length<=1000)(hz:bk (xs.map Pa.ex)<=4000)(hv:∀x,x∈xs->(Pa.ex x).valid aH=true)(S:St):
    aA prog 85 [.sl b (xs.map Ex.v)] S (λr U=>Gr 1 S.length ((xs.flatMap Ex.names).map .str) r U/\bz S U):=by
  refine aA.ib C85 ?_;simp[C85];refine eA (λe U=>∃ov,e.get 3=some ov/\Gr 1 S.length ((xs.flatMap Ex.names).map .str) ov U/\bz S U) ?_ ?_
  · refine cE (λj e U=>∃(i:Nat) (ov:V),j=xs.length-i/\i<=xs.length/\(Gr 1 S.length (((xs.take i).flatMap Ex.names).map .str) ov U/\bz S U)/\e=[(4,af i),(3,ov),(0,.sl b (xs.map Ex.v))]) xs.length _ ?_ ⟨0,sN,sM,oM,⟨Gr.nil _ _ _,Kp.refl _ _⟩,rfl⟩ ?_
    · exact ba
    rintro j e U ⟨i,ov,rfl,hi,⟨hg,hk⟩,rfl⟩;by_cases h:i<xs.length
    case neg=>
      have:i=xs.length:=oM;subst this;rw[gu]at hg;simp;exact⟨hg,hk⟩
    have hm:=dz h;have h1:=qwC hm;simp[h,qJ];refine bE (qx5 xs[i] oM (hv _ hm) U) ?_;rintro r U2 ⟨rfl,k2⟩;have iz:=hg.keep (S':=U2) λl _ h2=>k2.get l h2 id
    have eU:=hk.trans k2;have qd:=RQ (xs.take i);have bg:=qwD xs i;have ym:=xs[i].Jy;obtain⟨v',U',a1,a2,a3,a4,_⟩:=iz.nO (bytes:=16) (x:=ah (xs[i].names.map .str)) (ys:=xs[i].names.map .str) rfl (xU _) (by rw[bQ,bQ];omega) eU.len;rw[<-cJ,<-qpf h]at a2
    have gK:bz S U':=⟨by have:=eU.len;omega,λl hl hn=>by
      have dG:l<U2.length:=by have:=eU.len;omega
      have:=a4 l _ (bX dG) (iz.ne hl);rw[this,<-bX dG];exact eU.get l hl hn⟩
    simp[a1,dP,eF,eZ];rw[cG i];refine⟨_,?_,_,?_,i+1,rfl,oM,v',⟨a2,gK⟩,rfl⟩
    · omega
    · exact ba
  · rintro e U ⟨ov,g3,hg,hk⟩;simp[g3];exact bu (vs:=[ov]) rfl ⟨hg,hk⟩
def qnH(n:Nat):∃l d,d<10/\iZ n=l++[UInt8.ofNat (48+d)]:=by
 by_cases h:n<10
 .exact⟨[],n,h,Ax h⟩
 .exact⟨iZ (n/10),n%10,oM,AA h⟩
def qnJ{d:Nat}(h:d<10):(UInt8.ofNat (48+d)).toNat=48+d:=by
 have:(48+d)%256=48+d:=KQ oM;simp[this]
def qgq{d:Nat}(h:d<10):vp (UInt8.ofNat (48+d)).toNat=true:=by
 rw[qnJ h];unfold vp;simp;omega
def qgi{d:Nat}(h:d<10):tJ (UInt8.ofNat (48+d))=true:=by unfold tJ;rw[qgq h,Bool.or_true]
def qee:∀(m n:Nat),n<=m->∀b,b∈iZ n->tJ b=true
 |m,n,hm,b,hb=>by
  by_cases h:n<10
  .rw[Ax h]at hb;simp only[sZ]at hb;rw[hb];exact qgi h
  .rw[AA h]at hb;rcases cU.1 hb with hb|hb
   .cases m with
    |zero=>omega
    |succ m=>exact qee m (n/10) oM b hb
   .simp only[sZ]at hb;rw[hb];exact qgi oM
def Vv(b:Bz):Bool:=match b.data.toList.reverse with
 |c::_=>vp c.toNat
 |[]=>false
theorem qze:uh.all (λw=>!Vv w)=true:=by kernel_rfl
def qmV(x:Bz)(n:Nat):Vv (jl x n)=true:=by
 obtain⟨l,d,hd,hl⟩:=qnH n;unfold Vv jl;simp only[hl,<-dY,List.reverse_append,Pq,List.reverse_nil,ig,dR];exact qgq hd
def qtw{x:Bz}(hx:aH x=true){n:Nat}(hn:n<10000):aH (jl x n)=true:=by
 have hd:=Vs hn
 have hw:eJ (jl x n) uh=false:=by
  rw[zB];intro hm;have:=fR.1 qze _ hm;rw[qmV]at this;cases this
 unfold aH at hx |-;simp only[cT,CB,dT]at hx |-;obtain⟨⟨⟨⟨h1,h2⟩,h3⟩,_⟩,h5⟩:=hx;have hlen:x.data.toList.length=x.size:=yT;refine⟨⟨⟨⟨?_,?_⟩,?_⟩,hw⟩,?_⟩
 .unfold jl;simp only[ByteArray.size,KO,dx];omega
 .unfold jl;simp only[ByteArray.size,KO,dx,qz];simp only[ByteArray.size]at hlen h2 |-;omega
 .unfold jl;show QP (List.take _ _++_)=true;obtain⟨m,hm⟩:∃m,min x.size (16-(iZ n).length)=m+1:=⟨min x.size (16-(iZ n).length)-1,oM⟩;rw[hm]
  cases hc:x.data.toList with
  |nil=>rw[hc]at hlen;simp at hlen;omega
  |cons c r=>
   rw[hc]at h3;exact h3
 .unfold jl As at *;rw[fR]at h5 |-;intro b hb;rcases cU.1 hb with hb|hb
  .exact h5 b (E6 hb)
  .exact qee n n cz b hb
def je.nm{s:Bz}{taken:List Bz}{t:Bz}(h:je s taken t)(hs:aH s=true)(ht:taken.length<=899):aH t=true:=by
 by_cases hm:s∈taken
 .obtain⟨n,h1,h2,h3,h4⟩:=Lu s taken ht;rw[h.unique (.inr ⟨hm,n,h1,rfl,h3,h4⟩)];exact qtw hs oM
 .rw[h.unique (.inl ⟨hm,rfl⟩)];exact hs
def qmk{tk fr done rest:List Bz}{x:Bz}(hx:aH x=true)(hl:(fr++(done++x::rest)++tk).length<=899):aH (mj tk fr done x rest)=true:=by
 unfold mj;split
 .obtain⟨t,ht⟩:=je.exists x _ hl;rw[LF ht];exact ht.nm hx hl
 .exact hx
def qdp(tk fr:List Bz):∀(rest done:List Bz),(∀x,x∈done->aH x=true)->(∀x,x∈rest->aH x=true)->fr.length+done.length+rest.length+tk.length<=899->∀x,x∈jt tk fr done rest->aH x=true
 |[],done,h,_,_=>by rw[jt];exact h
 |y::rest,done,h,g,hl=>by
  rw[jt];rw[gq]at hl;refine qdp tk fr rest _ (λx hx=>?_) (λx hx=>g x (uE _ hx)) (by simp;omega);rcases cU.1 hx with hx|hx
  .exact h x hx
  .simp at hx;subst hx;exact qmk (g y sM) (by simp;omega)
section
variable {s:Sm} {taken:List Bz} (va:(Pa.st s).valid aH=true) (hl:s.fu.length+Sm.bH [s]+taken.length<=899)
include va hl
theorem Sm.qmy:∀x,x∈s.jj taken->aH x=true:=by
 refine qdp _ _ _ _ (λx hx=>by simp at hx) (λx hx=>s.La va x hx) ?_;have h1:=Gy (l:=taken) (ks:=[]);have h3:=s.wz;simp only[qy]at h1 |-;omega
theorem Sm.qmt:(Pa.st (s.ap taken)).valid aH=true:=by
 have hi:=s.UB (taken:=taken) hl;refine Sm.BV (Sm.Uz va hl) (λk hk=>?_) s _ _ (Sm.qzk va hl) (Sm.qdz va hl) va
 cases hb:s.bounds[k]? with
 |none=>
  unfold lf at hk;rw[hb]at hk;exact absurd rfl (qhc hk)
 |some x=>
  have h1:=(br.1 hb).1;have h2:k<(s.jj taken).length:=by rw[hi.len];exact h1
  rw[NJ (bX h2)];exact Sm.qmy va hl _ (dz h2)
end
end Go.Proofs.YtbifpocccfkhhaaGreatDoor

namespace Go.Proofs.YtbifpocccfkhhaaGreatDoor
open Go
def Sm.LD(s:Sm):s.fu.length<=(Pa.st s).size:=by
 unfold Sm.fu;rw[Zl];have h1:=Gy (l:=eO (s.ou bN te)) (ks:=[]);have h2:=s.qpm;simp only[qy]at h1;omega
end Go.Proofs.YtbifpocccfkhhaaGreatDoor

namespace Go.Proofs.YtbifpocccfkhhaaGreatDoor
open Go
def Ex.RP{x:Ex}{z:Bz}:z∈x.names↔z∈x.gm:=by
 unfold Ex.names;rw[Oq,qi];simp[Ex.cL]
open Go.Proofs.Tryz
def Gr.inh(n0:Nat)(xs:List V)(S:St)(hn:n0<=S.length):∃v U,Gr 1 n0 xs v U/\bz S U:=by
 by_cases h:xs=[]
 .subst h;exact⟨sN,S,Gr.nil _ _ _,Kp.refl _ _⟩
 .exact⟨.arr S.length 0 xs.length xs.length,S++[.arr xs 1 xs.length],.inr ⟨S.length,xs.length,hn,rfl,sM,dl _⟩,(Kp.refl _ _).push _⟩
def qlA:∀(l:List Bz) (xs:List Ex),((l.zip xs).flatMap λe=>e.2.gm).length<=bk (xs.map Pa.ex)
 |[],xs=>by simp
 |y::l,[]=>by simp
 |y::l,x::xs=>by
  have h1:=Ex.R1 x;have h2:=qlA l xs;rw[KP,nl,dx,cQ,iN];simp only;omega
def qyH{l:List Bz}{xs:List Ex}(hlen:l.length=xs.length)(z:Bz):z∈xs.flatMap Ex.names++l↔z∈rJ l (l.zip xs):=by
 unfold rJ;rw[cU,cU,or_comm];refine or_congr_right ?_;rw[yX,yX];constructor
 .rintro⟨x,hx,hz⟩;obtain⟨i,hi,rfl⟩:=xF hx;refine⟨(l[i]'oM,xs[i]),?_,Ex.RP.1 hz⟩;rw[List.mem_iff_getElem];exact⟨i,by rw[List.length_zip];omega,sM⟩
 .rintro⟨e,he,hz⟩;exact⟨e.2,(List.of_mem_zip (a:=e.1) (b:=e.2) he).2,Ex.RP.2 hz⟩
def qms{s:Sm}{t t':List Bz}(h:∀z,z∈t↔z∈t'):s.ap t=s.ap t':=by
 unfold Sm.ap Sm.jj;rw[PN (BK:=t'.foldl eo []) (λx=>by rw[qi,qi,h]) (λ_=>Iff.rfl)]
section
variable {s:Sm} {l:List Bz} {xs:List Ex} (ha:(Pa.st (jA s l (l.zip xs))).valid aH=true) (hp:vA l xs=0)
include ha hp
theorem qyF:((jA s l (l.zip xs)).rs (qn l xs) [ar (jA s l (l.zip xs)).labels 0] (ar (jA s l (l.zip xs)).labels 0).length iY).bad=yN s l (l.zip xs):=by
 have he:=HH.all hp;have h1:=Sm.Es (g:=Bo) he.lk (qjY l xs) (jA s l (l.zip xs)) [ar (jA s l (l.zip xs)).labels 0] (ar (jA s l (l.zip xs)).labels 0).length iY ha;have h2:=Sm.qeF (lk:=eS (l.zip xs)) (g:=Bo) he.lk (jA s l (l.zip xs)) ha;rw[h1];exact h2.symm
theorem qyG(hf:yN s l (l.zip xs)=false):(jA s l (l.zip xs)).BX (qn l xs)=tW s l (l.zip xs):=by
 have he:=HH.all hp;have h2:=Sm.qeF (lk:=eS (l.zip xs)) (g:=Bo) he.lk (jA s l (l.zip xs)) ha;have h3:((jA s l (l.zip xs)).whole Bo).gY (eS (l.zip xs))=false:=by rw[<-h2];exact hf
 exact(Sm.Hi (g:=Bo) he.lk (qjY l xs) (jA s l (l.zip xs)) _ _ ha h3).symm
end
def Gr.rdE{n0:Nat}{l:List Bz}{v:V}{S:St}(h:Gr 1 n0 (l.map .str) v S):Rd v l S/\Go.Proofs.YtbifpocccfkhhaaGreatDoor.elems S v=some (l.map .str):=by
 rcases h with ⟨h1,rfl⟩|⟨lo,wr,_,rfl,h3,h4⟩
 .have:l=[]:=by simpa using h1
  subst this;exact⟨Rd.sl true [] S,rW S true []⟩
 .rw[bQ]at h4 |-;exact⟨Rd.arr h3 h4,by simp[Go.Proofs.YtbifpocccfkhhaaGreatDoor.elems,h3,h4];exact mJ sM⟩
def Kp.grow{S U U':St}{v:V}{xs:List V}{n0:Nat}(hk:bz S U)(hn:S.length<=n0)(hg:Gr 1 n0 xs v U)(hl:U.length<=U'.length)(h:∀l o,U[l]?=some o->(∀n,v≠.arr l 0 n n)->U'[l]?=some o):bz S U':=by
 refine⟨by have:=hk.len;omega,λl cj oN=>?_⟩;have dG:l<U.length:=by have:=hk.len;omega
 have:=h l _ (bX dG) (hg.ne oM);rw[this,<-bX dG];exact hk.get l cj oN
def qx7(s:Sm)(os:s.ok)(bF:(Pa.st s).size<150)(hn:Sm.bH [s]<150)(h0:(Pa.st s).err aH=0)(b b':Bool)(l:List Bz)(xs:List Ex)(hl:l.length<=9)(XA:xs.length<=9)(hz:bk (xs.map Pa.ex)<=60)(ho:∀x,x∈xs->x.ok)(S:St):
  aA prog 49 [s.v,.sl b (l.map .str),.sl b' (xs.map Ex.v)] S (λr U=>r=.aV [sV s l xs,af (sE s l xs)]/\bz S U):=by
 refine aA.ib C49 ?_;obtain⟨S1,bB⟩:=eX (α:=St) (S++[.arr [s.v] 8 1,.arr [bL] 8 1]);have b0:S1[S.length]?=aJ [s.v] 8:=by rw[bB];simp
 have b1:S1[S.length+1]?=aJ [bL] 8:=by rw[bB,cx oM];simp
 have l1:S1.length=S.length+2:=by rw[bB];simp
 have kS:bz S S1:=by rw[bB];exact(Kp.refl _ _).push _
 have va:=(zh h0).2
 have he:sE s l xs=if vA l xs≠0 then vA l xs else qS s l (l.zip xs):=by
  unfold sE;rw[au (by rw[h0];simp)]
 have hv:sV s l xs=if sE s l xs=0 then(tW s l (l.zip xs)).v else bL:=rfl
 have fin:∀(Y:St) (y:V) (e:Int) (ev:ae),bz S1 Y->sV s l xs=y->sE s l xs=e->ev.get 6=some (ag (S.length+1))->ev.get 7=some (af e)->V.part y 0 (some 8)=some y->
   eN [.cell 6 (some 8),.t 7] S.length (λr U=>r=.aV [sV s l xs,af (sE s l xs)]/\bz S U) .ret ev (Y.set (S.length+1) (.arr [y] 8 1)):=λY y e ev kY hy he g6 g7 hp=>by
  have h1:=kY.at b1 id;have h2:(Y.set (S.length+1) (.arr [y] 8 1))[S.length+1]?=aJ [y] 8:=bO (aR h1);exact bu (vs:=[y,af e]) (by simp[eL,g6,g7,ab,h2,hp]) ⟨by rw[hy,he];rfl,(kS.trans kY).set _ (.inr oM)⟩
 simp only[bL]at bB;simp[C49,aL];rw[<-bB];refine aZ (qyp b b' l xs oM oM ho S1) ?_;by_cases hp:vA l xs=0
 case neg=>
  rw[ak hp]at he;rw[he,au hp]at hv;simp[hp,bR,bP,aI,b1,bL,aU];refine fin _ bL _ _ (Kp.refl _ _) hv he ?_ ?_ rfl<;>simp
 rw[au (by rw[hp];simp)]at he;obtain⟨pl,pn,pd,px⟩:=qid hp;have lfr:=s.LD;have nfl:=RQ xs
 have hT:(rJ l (l.zip xs)).length<=69:=by
  unfold rJ;have h1:=qlA l xs;have h2:(l++(l.zip xs).flatMap λe=>e.2.gm).length=l.length+((l.zip xs).flatMap λe=>e.2.gm).length:=dx;exact js (Nat.le_of_eq h2) oM
 have jw:s.fu.length+Sm.bH [s]+(rJ l (l.zip xs)).length<=899:=oM;have hA:s.ap (xs.flatMap Ex.names++l)=jA s l (l.zip xs):=qms λz=>qyH pl z
 have Ff:(jA s l (l.zip xs)).ok:=Sm.Uw s os va jw;have av:(Pa.st (jA s l (l.zip xs))).valid aH=true:=Sm.qmt va jw;have anb:Sm.bH [jA s l (l.zip xs)]=Sm.bH [s]:=by rw[<-Sm.wz,jA,Sm.qds va jw,Sm.UA]
 have UG:(Pa.st (jA s l (l.zip xs))).size<150:=by
  have:=(Sm.vK (lf (s.jj (rJ l (l.zip xs)))) s [ar s.labels 0] (ar s.labels 0).length).1;exact Nat.lt_of_le_of_lt this bF
 have aF:=qyF av hp;have aO:=qyG av hp;have R7:(tW s l (l.zip xs)).ok:=Sm.qad (Zc λe he=>ho _ (List.of_mem_zip (a:=e.1) (b:=e.2) he).2) _ Ff;have hsu:qS s l (l.zip xs)=if(Pa.st (jA s l (l.zip xs))).err aH≠0 then(Pa.st (jA s l (l.zip xs))).err aH else if yN s l (l.zip xs)=true then 10 else(Pa.st (tW s l (l.zip xs))).err aH:=rfl
 rw[hsu]at he;obtain⟨a,hAe⟩:=eX (jA s l (l.zip xs));obtain⟨o,hOe⟩:=eX (tW s l (l.zip xs));rw[<-hAe]at hA Ff av anb UG aF aO he;rw[<-hOe]at aO R7 he hv;simp[hp];obtain⟨D,hD⟩:=eX (S1++iW [zS]);have bD:D[S1.length]?=aJ [bL] 8:=by rw[hD];simp[iW,bL]
 have kD:bz S1 D:=by rw[hD];exact(Kp.refl _ _).push _
 have cD:=kD.at b0 id;have pD:ab D (ag S.length) (some 8)=some s.v:=by simp[ab,cD]
 rw[<-hD];simp[pD];refine uc (qkN b' xs oM oM (λx hx=>(zh (px x hx)).2) D) ?_ ?_
 .obtain⟨v,U,g,k⟩:=Gr.inh D.length ((xs.flatMap Ex.names).map .str) D cz;exact⟨v,U,g,k⟩
 rintro tv U1 ⟨hg,k1⟩;have bw:=kD.trans k1;obtain⟨tw,U2,a1,a2,a3,a4,_⟩:=hg.nO (bytes:=16) (x:=.sl b (l.map .str)) (ys:=l.map .str) rfl (xU _) (by rw[bQ,bQ];omega) k1.len;rw[<-cJ]at a2;have k2:bz D U2:=k1.grow cz hg a3 a4;simp[a1];have q47:=qx6 s va bF hn tw (xs.flatMap Ex.names++l) (by rw[dx];omega) U2 λY hY=>(a2.keep λk _ h2=>hY k h2).rdE
 refine uc q47 ⟨_,U2,rfl,Kp.refl _ _⟩ ?_;rintro r U3 ⟨rfl,k3⟩;rw[hA];have bU:=k1.at bD id;have bU2:=k2.at bD id;have bV:=k3.at bU2 id;have lN:=kD.trans (k2.trans k3);have c1:=bw.at b0 id;have c2:=(kD.trans k2).at b0 id;have c3:=lN.at b0 id;have pU:ab U1 (ag S.length) (some 8)=some s.v:=by simp[ab,c1]
 have pU2:ab U2 (ag S.length) (some 8)=some s.v:=by simp[ab,c2]
 have pV:ab U3 (ag S.length) (some 8)=some s.v:=by simp[ab,c3]
 have hpa:V.part a.v 0 (some 8)=some a.v:=by simp[V.part,Sm.iF,V.isAgg,Sm.eW]
 have DN:V.fZ bL 0 8 a.v=some a.v:=by unfold bL;rw[aU];simp
 have bg:aI U3 (ag S1.length) 8 a.v=some (U3.set S1.length (.arr [a.v] 8 1)):=by
  unfold bL at bV DN;simp[aI,bV,DN]
 simp[bg,dP,eF,eZ,pD,pU,pU2,pV,bD,bU,bU2,bV,bL];obtain⟨S2,lD⟩:=eX (U3.set S1.length (.arr [a.v] 8 1));have XT:bz S1 S2:=by rw[lD];exact lN.set _ (.inr cz)
 have bA:S2[S1.length]?=aJ [a.v] 8:=by rw[lD];exact bO (aR bV)
 have pA:∀{W},bz S2 W->ab W (ag S1.length) (some 8)=some a.v:=λk=>by
  have c:=k.at bA id;simp[ab,c]
 rw[<-lD];simp[pA (Kp.refl _ _)];refine aZ (ZA a Ff S2) ?_;by_cases ea:(Pa.st a).err aH=0
 case neg=>
  rw[ak ea]at he;rw[he,au ea]at hv;have c:=XT.at b1 id;simp[ea,bR,bP,aI,c,bL,aU];refine fin _ bL _ _ XT hv he ?_ ?_ rfl<;>simp
 rw[au (by rw[ea];simp)]at he;obtain⟨S3,LV⟩:=eX (α:=St) (S2++[gn (qn l xs) b b' sN sN sN iY]);have w3:S3[S2.length]?=some (gn (qn l xs) b b' sN sN sN iY):=by rw[LV];simp
 have k23:bz S2 S3:=by rw[LV];exact(Kp.refl _ _).push _
 have l3:S3.length=S2.length+1:=by rw[LV];simp
 have q1:Rk (qn l xs) b b' S2.length sN [] iY (λ_=>False) (λ_=>False) S3:=
  ⟨⟨_,_,w3,.inl ⟨rfl,rfl⟩,.inl ⟨rfl,rfl⟩,λl a b c hh=>by cases hh⟩,.inl ⟨true,rfl⟩,λl hl=>hl.elim id id |>.elim,id,id,λl hl=>hl.elim,oM⟩
 have ro:za (qn l xs):=⟨Nat.le_of_eq pl,by show xs.length<=_;omega⟩;have p:=OB (qn l xs) ro b b' S2.length sN a oM iY _ _ S3 q1 oM (by show 0+_<=_;omega);have d3:=pA k23;simp only[gn,iY,qn]at LV;simp[ea,bR,bP,aL,aU];rw[<-LV];simp[d3];refine bE p ?_;rintro r W ⟨rfl,F1,D1,k4,s4⟩
 have Ny:bz S2 W:=⟨js k23.len s4.k.len,λk hk hn=>by
  rw[s4.k.get k oM (by rintro(hh|hh);omega;exact hh)];exact k23.get k hk hn⟩
 have kW:=XT.trans Ny;obtain⟨vb,vf,w4,_,_,_⟩:=k4.wx;have hb:W[S2.length]?=some (gn (qn l xs) b b' sN vb vf (a.rs (qn l xs) [ar a.labels 0] (ar a.labels 0).length iY)):=w4;obtain⟨W2,Dn⟩:=eX (W++[.arr [(a.BX (qn l xs)).v] 8 1]);have kX:bz S1 W2:=by rw[Dn];exact kW.push _
 have g2:W2[S2.length]?=some (gn (qn l xs) b b' sN vb vf (a.rs (qn l xs) [ar a.labels 0] (ar a.labels 0).length iY)):=by rw[Dn,dh (aR hb)];exact hb
 have dg:ab W2 (eD S2.length 5) none=some (.bool (yN s l (l.zip xs))):=by unfold gn at g2;simp[ab,g2,aF]
 have c1:=kX.at b1 id;have z8:(a.BX (qn l xs)).v.size=8/\(a.BX (qn l xs)).v.cells.all V.flat=true/\V.part (a.BX (qn l xs)).v 0 (some 8)=some (a.BX (qn l xs)).v:=⟨Sm.iF _,sM,yF _⟩;simp[aL,ZI z8,dK];rw[<-Dn];simp[dg]
 cases hs:yN s l (l.zip xs) with
 |true=>
  rw[ak hs]at he;rw[he,au sM]at hv;simp[bR,bP,aI,c1,bL,aU];refine fin _ bL _ _ kX hv he ?_ ?_ rfl<;>simp
 |false=>
  rw[au (by rw[hs];simp)]at he;have wW:=aO hs;have o2:W2[W.length]?=aJ [o.v] 8:=by rw[Dn,wW];simp
  have do2:ab W2 (ag W.length) (some 8)=some o.v:=by simp[ab,o2,yF,Sm.iF]
  simp[do2];refine aZ (ZA o R7 W2) ?_;by_cases e0:(Pa.st o).err aH=0
  .rw[e0]at he;rw[he,ak rfl]at hv;have hu:V.fZ bL 0 8 o.v=some o.v:=by unfold bL;rw[aU];simp
   unfold bL at hu c1;simp[e0,do2,aI,c1,hu];refine fin _ o.v _ _ kX hv he ?_ ?_ (yF _)<;>simp
  .rw[he,au e0]at hv;simp[e0,bR,bP,aI,c1,bL,aU];refine fin _ bL _ _ kX hv he ?_ ?_ rfl<;>simp
end Go.Proofs.YtbifpocccfkhhaaGreatDoor

namespace Go.Proofs.YtbifpocccfkhhaaGreatDoor
open Go Go.Proofs.Tryz
set_option maxHeartbeats 0
set_option maxRecDepth 100000
noncomputable def C5:=aW func5
noncomputable def vU:=aW func28
noncomputable def C83:=aW func83
def qyj(s:De)(hs:s.ok):∀S,Fn prog 83 [s.v] S (af ((Pa.de s).err aH)):=by
 refine Pu.ib C83 ?_;simp[C83,aL,ab];refine aZ (Zr s _) ?_;simp;refine aZ (Zp (.de s) hs _) ?_;simp;exact aQ (r:=rfl)
def Fo.oD(f:Fo):Bool:=f.value&&decide (f.spec=2)
def qw1(f:Fo):∀S,Fn prog 132 [f.v] S (.bool f.oD):=by
 refine Pu.ib qaJ ?_;unfold Fo.oD;cases h:f.value<;>simp[qaJ,aL,ab,h]<;>exact aQ (r:=rfl)
def ja(d:De)(xs:List Ex):Int:=
 if d.kind≠4 then 5 else if(Pa.de d).err aH≠0 then(Pa.de d).err aH else if xs.length≠d.aj.length then 5 else if d.type≠0\/d.aj.any Fo.oD=true then 10 else lu xs
def qyf(d:De)(hd:d.ok)(b:Bool)(xs:List Ex)(hl:xs.length<=1000)(ho:∀x,x∈xs->x.ok)(S:St):
  aA prog 73 [d.v,.sl b (xs.map Ex.v)] S (λr U=>r=af (ja d xs)/\bz S U):=by
 have hO:=(De.fh d).1 hd;refine aA.ib C73 ?_;obtain⟨S1,bB⟩:=eX (α:=St) (S++[.arr [d.v] 7 1]);have b0:S1[S.length]?=aJ [d.v] 7:=by rw[bB];simp
 have kS:bz S S1:=by rw[bB];exact(Kp.refl _ _).push _
 have fin:∀(Y:St) (e:Int) (ev:ae),bz S1 Y->ja d xs=e->ev.get 4=some (af e)->eN [.t 4] S.length (λr U=>r=af (ja d xs)/\bz S U) .ret ev Y:=λY e ev kY he g4=>
  bu (vs:=[af e]) (by simp[eL,g4]) ⟨by rw[he];rfl,kS.trans kY⟩
 simp only[C73,fW];refine cS (λe U=>U=S1/\e.get 1=some (.sl b (xs.map Ex.v))/\e.get 2=some (ag S.length)) (by rw[bB];simp[aL,jV]) ?_;rintro e U ⟨rfl,g1,g2⟩;have hE:ja d xs=if d.kind≠4 then 5 else if(Pa.de d).err aH≠0 then(Pa.de d).err aH else if xs.length≠d.aj.length then 5 else if d.type≠0\/d.aj.any Fo.oD=true then 10 else lu xs:=rfl
 generalize ja d xs=r at hE fin |-;by_cases h1:d.kind=4
 case neg=>
  simp[g1,g2,ab,b0,h1];exact fin _ 5 _ (Kp.refl _ _) (by rw[hE,ak h1]) sM
 rw[au (not_not_intro h1)]at hE;simp[g1,g2,ab,b0,h1];refine aZ (qw0 d hd _) ?_;by_cases h2:(Pa.de d).err aH=0
 case neg=>
  rw[ak h2]at hE;simp[h2];exact fin _ _ _ (Kp.refl _ _) hE sM
 rw[au (not_not_intro h2)]at hE;by_cases h3:xs.length=d.aj.length
 case neg=>
  rw[ak h3]at hE;simp[g1,g2,ab,b0,h2,show ¬((xs.length:Int)=d.aj.length) by omega];exact fin _ _ _ (Kp.refl _ _) hE sM
 rw[au (not_not_intro h3)]at hE;by_cases h4:d.type=0
 case neg=>
  rw[ak (.inl h4)]at hE;simp[g1,g2,ab,b0,h2,h3,h4];exact fin _ _ _ (Kp.refl _ _) hE sM
 simp[g1,g2,ab,b0,h2,h3,h4];refine bE (qkh false d.aj hO.aj.1 132 [] Fo.oD _ λf _ U _=>(qw1 f U).mono λv U' h=>⟨h.1,h.2 ▸ Kp.refl _ _⟩) ?_;rintro v U2 ⟨rfl,mV⟩;have b2:=mV.at b0 id;cases h5:iQ d.aj Fo.oD
 case true=>
  rw[ak (.inr (by exact h5))]at hE;simp[g1,g2,ab,b2];exact fin _ _ _ mV hE sM
 rw[au (by rw[not_or];exact⟨not_not_intro h4,by unfold iQ at h5;rw[h5];simp⟩)]at hE;simp[g1,g2,ab,b2];refine eA (λe X=>bz U2 X/\lu xs=0) ?_ ?_
 ·refine cE (λj e X=>∃i:Nat,j=xs.length - i∧i≤xs.length∧lu xs=lu (xs.drop i)∧bz U2 X∧
   e=[(33,af i),(32,af xs.length),(31,.sl b (xs.map Ex.v))]) xs.length _ ?_ ⟨0,sM,oM,sM,Kp.refl _ _,rfl⟩ ?_
  .repeat' first|exact ae.gZ _|refine ae.fp (by simp[g1]) ?_
  rintro j e X ⟨i,rfl,hi,ye,kX,rfl⟩;by_cases h:i<xs.length
  .have hn:V.fZ zX 0 7 xs[i].v=some xs[i].v:=by rw[aU];simp
   simp[h,qJ h,ab,aL,aI,hn];refine aZ (qyk xs[i] (ho _ (dz h)) _) ?_;rw[xE h,lu]at ye;by_cases he:(Pa.ex xs[i]).err aH=0
   .rw[au (by simpa using he)]at ye;simp[he];refine⟨_,?_,_,?_,i+1,rfl,oM,ye,kX.push _,rfl⟩
    .omega
    .rw[fO oM oM];exact ba
   .rw[ak he]at ye;simp[he];exact fin _ _ _ (mV.trans (kX.push _)) (hE.trans ye) sM
  .rw[List.drop_of_length_le oM]at ye;simp[h];exact⟨kX,ye⟩
 .rintro e X ⟨kX,he⟩;simp;exact fin _ 0 _ (mV.trans kX) (hE.trans he) sM
def aA.freeze{P:aG}{f:FuncId}{args:List V}{S:St}{R:V->St->Prop}{l sz wr:Nat}{xs:List V}(ho:S[l]?=some (.arr xs sz wr))(h:aA P f (V.iR l xs wr args) (S.set l .dead) R):aA P f args S R:=
 ⟨h.1,λE w us n hs hv=>by
  obtain⟨E',h1,h2,h3⟩:=hs.It ho
  have eV:uJ E' (V.iR l xs wr args) us:=by
   rw[oJ];refine⟨by rw[bQ];exact hv.1,λi v u eV hu=>?_⟩;rw[dS,ep]at eV;obtain⟨v0,iL,rfl⟩:=eV;exact h3 _ _ (hv.2 i v0 u iL hu)
  refine(h.2 E' w us n h1 eV).mono ?_;rintro e w' ⟨u,r,E2,S',he,hR,hr,hS,hx,hl⟩;rw[xG]at hx hl;exact⟨u,r,E2,S',he,hR,hr,hS,(h2 _).trans hx,hl⟩⟩
def aA.qtj{P:aG}{f:FuncId}{args:List V}{S:St}{R:V->St->Prop}{m:Nat}{es:List (V×V)}{bs:List Nat}{ck:Nat}(hm:S[m]?=some (.map es bs ck))(h0:∃aa S R,aA P f aa S R)(h:es.length=bs.length->aA P f args S R):aA P f args S R:=by
 obtain⟨_,_,_,h0⟩:=h0;refine⟨h0.1,λE w us n hs hv=>?_⟩;obtain⟨_,entries,_,_,h1,h2,_⟩:=hs.fJ m _ hm;exact(h (by rw[h1,h2];simp)).2 E w us n hs hv
def Hv(e:V×V):V×V:=(e.1.weak,e.2.weak)
def SR.qaa{E:En}{S:St}{w:aP}(h:SR E S w){m:Nat}{es:List (V×V)}{bs:List Nat}{ck:Nat}(hm:S[m]?=some (.map es bs ck)):
  SR E (S.set m (.map (es.map Hv) bs ck)) w/\∀n,bT n E S w E (S.set m (.map (es.map Hv) bs ck)) w:=by
 have lm:=(br.1 hm).1
 have gX:∀l,gQ (S.set m (.map (es.map Hv) bs ck)) l->gQ S l:=by
  rintro l ⟨o,ho,hd⟩;by_cases hl:m=l
  .subst hl;exact⟨_,hm,sM⟩
  .rw[bG hl]at ho;exact⟨o,ho,hd⟩
 have dW:∀b,own E (S.set m (.map (es.map Hv) bs ck)) b->own E S b:=λb ⟨l,st,x,hl,hx,hb⟩=>⟨l,st,x,gX l hl,hx,hb⟩
 refine ⟨⟨h.gl,h.I,λl o ho=>?_,λl st x hx=>by rw[xG];exact h.jI l st x hx,λb o hb=>h.apart b o (dW b hb),λb hb=>h.lt b (dW b hb),λl l' st bc x x' hl cj=>h.inj l l' st bc x x' (gX l hl) (gX l' cj)⟩,
  λn=>⟨dl _,λ_ _ _ h=>h,λ_ _ _ _ h=>h,λ_ _ h=>h,λb hb=>.inl (dW b hb),λ_ _ _ h=>.inl h,λ_ _ _=>rfl,rfl⟩⟩
 by_cases hl:m=l
 .subst hl;rw[bO lm]at ho;cases ho;obtain⟨x,entries,h1,h2,h3,h4,h5⟩:=h.fJ m _ hm;refine⟨x,entries,h1,h2,by rw[bQ];exact h3,h4,λi k v e hk he=>?_⟩;rw[dS,ep]at hk;obtain⟨⟨k0,v0⟩,yi,MO⟩:=hk;cases MO;obtain⟨a,b⟩:=h5 i k0 v0 e yi he;exact⟨a.weak,b.weak⟩
 .rw[bG hl]at ho;exact h.fJ l o ho
def aA.qaa{P:aG}{f:FuncId}{args:List V}{S:St}{R:V->St->Prop}{m:Nat}{es:List (V×V)}{bs:List Nat}{ck:Nat}(hm:S[m]?=some (.map es bs ck))(h:aA P f args (S.set m (.map (es.map Hv) bs ck)) R):aA P f args S R:=
 ⟨h.1,λE w us n hs hv=>by
  obtain⟨h1,h2⟩:=hs.qaa hm;refine(h.2 E w us n h1 hv).mono ?_;rintro e w' ⟨u,r,E2,S',he,hR,hr,hS,hx,hl⟩;rw[xG]at hx hl;exact⟨u,r,E2,S',he,hR,hr,hS,(h2 _).trans hx,hl⟩⟩
mutual
theorem OJ{m l wr:Nat}{xs:List V}(hl:m<=l):∀(v:V),v.under m=true->v.du l xs wr=v
 |.arr l' off len st,h=>by
  simp only[V.under,dT]at h;simp only[V.du];rw[au oM]
 |.sl x ys,h=>by
  simp only[V.under]at h;simp only[V.du,Hr hl ys h]
 |.iface t v,h=>by
  simp only[V.under]at h;simp only[V.du,OJ hl v h]
 |.agg cs,h=>by
  simp only[V.under]at h;simp only[V.du,Hr hl cs h]
 |.aV cs,h=>by
  simp only[V.under]at h;simp only[V.du,Hr hl cs h]
 |.hG,_=>rfl
 |.bool _,_=>rfl
 |.int _ _,_=>rfl
 |.str _,_=>rfl
 |.cu,_=>rfl
 |.ptr _ _ _ _,_=>rfl
 |.dE _ _,_=>rfl
 |.cq _ _,_=>rfl
 |.dI,_=>rfl
 |.map _,_=>rfl
 |.fn _ _ _,_=>rfl
 |.bY,_=>rfl
 |.eB,_=>rfl
 |.dc _,_=>rfl
theorem Hr{m l wr:Nat}{xs:List V}(hl:m<=l):∀(vs:List V),V.dr m vs=true->V.iR l xs wr vs=vs
 |[],_=>rfl
 |v::vs,h=>by
  simp only[V.dr,cT]at h;simp only[V.iR,OJ hl v h.1,Hr hl vs h.2]
end
def aA.gr{P:aG}{f:FuncId}{pre post xs:List V}{v:V}{S:St}{R:V->St->Prop}{sz n0:Nat}(h:Gr sz n0 xs v S)(hp:∀l wr,V.iR l xs wr (pre++post)=pre++post)
  (g:∀b S',S'.length=S.length->(∀k o,S[k]?=some o->(∀n,v≠.arr k 0 n n)->S'[k]?=some o)->aA P f (pre++.sl b xs::post) S' R):aA P f (pre++v::post) S R:=by
 rcases h with ⟨rfl,rfl⟩|⟨l,wr,hn,rfl,ho,hw⟩
 .exact g true S rfl λ_ _ h _=>h
 .refine aA.freeze ho ?_;have e1:=hp l wr;rw[oJ,cJ]at e1;have e2:=HJ e1 sM
  have e3:V.iR l xs wr (pre++.arr l 0 xs.length xs.length::post)=pre++ah xs::post:=by
   rw[oJ,cJ,cQ,e2.1,e2.2];simp[V.du,hw]
  rw[e3];refine g false _ sM λk o hk hc=>?_
  have bZ:l≠k:=by
   rintro rfl;exact hc _ rfl
  rw[bG bZ];exact hk
def SR.qpn{E:En}{S:St}{w:aP}(h:SR E S w){l sz wr:Nat}{xs:List V}(ho:S[l]?=some (.arr xs sz wr)):
  ∃E',SR E' (S.set l .dead) w/\(∀n,bT n E S w E' (S.set l .dead) w)/\E'.ρ=E.ρ/\∀v u,VR E v u->VR E' (v.du l xs wr) u:=by
 obtain⟨h0,h1,h2⟩:=h.fJ l _ ho;have gX:gQ S l:=⟨_,ho,sM⟩
 open Classical in
 let mine:Np:=λb=>∃st x,E.ρ l st=some x/\x.b=b
 open Classical in
 let E':En:={ E with I:=λb o=>if mine b then w.cell? ⟨b,o,none⟩ else E.I b o }
 have MR:∀b,mine b->own E S b:=λb ⟨st,x,hx,hb⟩=>⟨l,st,x,gX,hx,hb⟩
 have mO:E.le E':=⟨λb o c hc=>by
  simp only[E'];split
  .rename_i hm;rw[h.apart b o (MR b hm)]at hc;cases hc
  .exact hc,λ_ _ _ h=>h⟩
 have hρ:E'.ρ=E.ρ:=rfl
 have wV:∀b,own E' (S.set l .dead) b->own E S b/\¬mine b:=by
  rintro b ⟨l',st,x,cj,hx,rfl⟩;rw[hρ]at hx
  have bZ:l'≠l:=by
   rintro rfl;obtain⟨o,fC,hd⟩:=cj;rw[bO (DX gX)]at fC;cases fC;exact hd rfl
  have lL:gQ S l':=xg cj gX;refine⟨⟨l',st,x,lL,hx,rfl⟩,?_⟩;rintro⟨bc,y,hy,he⟩;exact bZ (h.inj l' l st bc x y lL gX hx hy he.symm)
 refine⟨E',⟨h.gl.kL mO.1 (λ_ _ _ _ _ _=>rfl),?_,?_,?_,?_,?_,?_⟩,λn=>⟨dl _,mO.1,λl st x _ hx=>hx,λ_ _ hx=>hx,λb hb=>.inl (wV b hb).1,?_,λ_ _ _=>rfl,rfl⟩,rfl,?_⟩
 .intro b o c hc;simp only[E']at hc;split at hc
  .exact hc
  .exact h.I b o c hc
 .intro l' o' cj;by_cases hk:l'=l
  .subst hk;rw[bO (DX gX)]at cj;cases cj;trivial
  .rw[bG (Ne.symm hk)]at cj;exact(h.fJ l' o' cj).mono mO (λ_ _ hx=>hx) (λ_ _ _=>rfl)
 .intro l' bc x' iG;simpa using h.jI l' bc x' iG
 .intro b o hb;obtain⟨nV,pw⟩:=wV b hb;simp only[E'];rw[au pw];exact h.apart b o nV
 .intro b hb;exact h.lt b (wV b hb).1
 .intro l1 l2 fw lG x1 x2 sj yj mT kK he;exact h.inj l1 l2 fw lG x1 x2 (xg sj gX) (xg yj gX) mT kK he
 .intro b o c hc;simp only[E']at hc;split at hc
  .rename_i hm;exact .inr (.inl (MR b hm))
  .exact .inl hc
 .intro v u hv
  induction hv with
  |hG u=>exact .hG u
  |bool b=>exact .bool b
  |int k n=>exact .int k n
  |str s=>exact .str s
  |cu=>exact .cu
  |ptr i off hr=>exact VR.ptr (E:=E') i off hr
  |cq off hI hv _=>exact(VR.cq off hI hv).mono mO
  |dE g off=>exact .dE g off
  |slnil x=>exact .slnil x
  |pL x a=>exact .pL x a
  |sl hc hx hs hI hv ih=>
   rename_i x ys b o cap sz';simp only[V.du,oJ];have hlen:(ys.map (V.du l xs wr)).length=ys.length:=sM;have lJ:∀v:V,(v.du l xs wr).cells.length=v.cells.length:=λv=>by rw[Iw];simp
   have:=VR.sl (E:=E') (x:=x) (xs:=ys.map (V.du l xs wr)) (b:=b) (o:=o) (cap:=cap) (sz:=sz') (by rw[hlen];exact hc) (λhe=>by rw[hlen];exact hx he)
    (λv hv=>by
     rw[cY]at hv;obtain⟨v0,iL,rfl⟩:=hv;rw[lJ];exact hs v0 iL)
    (λi j hi hj=>Rz mO (hI i j (by rw[<-hlen];exact hi) hj))
    (λi v j c' c hv im hi=>by
     rw[dS,ep]at hv;obtain⟨v0,iL,rfl⟩:=hv;rw[Iw,dS,ep]at im;obtain⟨c0,Dq,rfl⟩:=im;have h1:=(br.1 iL).1;have h2:=(br.1 Dq).1;rw[hs v0 (dZ iL)]at h2;exact ih i v0 j c0 c iL Dq (Pl mO (hI i j h1 h2) hi))
   rw[hlen]at this;exact this
  |arr hr hN hc=>
   rename_i l' off len cap st x;simp only[V.du];split
   .rename_i hk;obtain⟨rfl,sB,hle⟩:=hk;obtain⟨g1,g2,C,t,g3,g4,g5,g6⟩:=h2 st x hr sB;have hm:mine x.b:=⟨st,x,hr,rfl⟩;have hlen:((xs.drop off).take len).length=len:=by simp;omega
    have lK:∀(i:Nat) (v:V),((xs.drop off).take len)[i]?=some v->xs[off+i]?=some v/\i<len:=λi v hv=>by
     have hi:=(br.1 hv).1;rw[hlen]at hi;rw[qx hi,qw]at hv;exact⟨hv,hi⟩
    have kH:∀v,v∈(xs.drop off).take len->v.cells.length=x.sz:=λv hv=>by rw[g2];exact h1 v (KL (E6 hv))
    have Mc:∀(i j:Nat) (v c':V),xs[off+i]?=some v->off+i<st->v.cells[j]?=some c'->∃c,E'.I x.b (off*x.sz+i*x.sz+j)=some c/\VR E c' c:=by
     intro i j v c' hv hi j0;obtain⟨c,lI,ri⟩:=g6 (off+i) v hv hi j c' j0;refine⟨c,?_,ri⟩;simp only[E'];rw[ak hm,H6 g3,show off*x.sz+i*x.sz+j=(off+i)*x.sz+j by rw[jH]];exact lI
    have:=VR.sl (E:=E') (x:=false) (xs:=(xs.drop off).take len) (b:=x.b) (o:=off*x.sz) (cap:=cap) (sz:=x.sz) (by rw[hlen];exact hc) (λh=>by cases h) kH
     (λi j hi hj=>by
      rw[hlen]at hi;have hx:xs[off+i]?=some (xs[off+i]'oM):=sM;have lJ:(xs[off+i]'oM).cells.length=x.sz:=by rw[g2];exact h1 _ (dz _)
      obtain⟨c,lI,_⟩:=Mc i j _ ((xs[off+i]'oM).cells[j]'oM) hx oM sM;rw[lI];rfl)
     (λi v j c' c hv im hi=>by
      obtain⟨eV,eI⟩:=lK i v hv;obtain⟨d,jb,jO⟩:=Mc i j v c' eV oM im;rw[jb]at hi;cases hi;exact jO.mono mO)
    rw[hlen]at this;exact this
   .exact VR.arr (E:=E') hr hN hc
  |dI=>exact .dI
  |map hr=>exact VR.map (E:=E') hr
  |fn h1 h2 g1 g2 _ _=>exact(VR.fn h1 h2 g1 g2).mono mO
  |bY=>exact .bY
  |iface t _ ih=>exact .iface t ih
  |eB=>exact .eB
  |dc hr=>exact VR.dc (E:=E') hr
  |agg hl g ih=>
   simp only[V.du,oJ];refine .agg (by simpa using hl) λi v u hv hu=>?_
   rw[dS,ep]at hv;obtain⟨v0,iL,rfl⟩:=hv;exact ih i v0 u iL hu
  |aV hl g ih=>
   simp only[V.du,oJ];refine .aV (by simpa using hl) λi v u hv hu=>?_
   rw[dS,ep]at hv;obtain⟨v0,iL,rfl⟩:=hv;exact ih i v0 u iL hu
def SR.Qo{E:En}{S:St}{w:aP}(h:SR E S w){l sz wr:Nat}{xs:List V}(ho:S[l]?=some (.arr xs sz wr)){p sy wy:Nat}{ys:List V}(hp:S[p]?=some (.arr ys sy wy))(bZ:l≠p):
  ∃E',SR E' ((S.set l .dead).set p (.arr (V.iR l xs wr ys) sy wy)) w/\(∀n,bT n E S w E' ((S.set l .dead).set p (.arr (V.iR l xs wr ys) sy wy)) w)/\∀v u,VR E v u->VR E' (v.du l xs wr) u:=by
 obtain⟨E',h1,h2,hr,h3⟩:=h.qpn ho;have mB:(S.set l .dead)[p]?=some (.arr ys sy wy):=by rw[bG bZ];exact hp
 have lp:=(br.1 mB).1;obtain⟨S2,lD⟩:=eX ((S.set l .dead).set p (.arr (V.iR l xs wr ys) sy wy));rw[<-lD]
 have gX:∀k,gQ S2 k->gQ (S.set l .dead) k:=by
  rintro k ⟨o,fC,hd⟩;by_cases hk:p=k
  .subst hk;exact⟨_,mB,sM⟩
  .rw[lD,bG hk]at fC;exact⟨o,fC,hd⟩
 have dW:∀b,own E' S2 b->own E' (S.set l .dead) b:=λb ⟨k,st,x,hl,hx,hb⟩=>⟨k,st,x,gX k hl,hx,hb⟩
 refine⟨E',⟨h1.gl,h1.I,λk o hk=>?_,λk st x hx=>by rw[lD,xG];exact h1.jI k st x hx,λb o hb=>h1.apart b o (dW b hb),λb hb=>h1.lt b (dW b hb),λk k' st bc x x' hl cj=>h1.inj k k' st bc x x' (gX k hl) (gX k' cj)⟩,λn=>(h2 n).trans ⟨dl _,λ_ _ _ h=>h,λ_ _ _ _ h=>h,λ_ _ h=>h,λb hb=>.inl (dW b hb),λ_ _ _ h=>.inl h,λ_ _ _=>rfl,rfl⟩,h3⟩;by_cases eU:p=k
 .subst eU;rw[lD,bO lp]at hk;cases hk;obtain⟨⟨q1,q2⟩,q3,q4⟩:=h.fJ p _ hp;refine⟨⟨q1,by rw[oJ,bQ];exact q2⟩,λv hv=>?_,λst x hx hw=>?_⟩
  .rw[oJ]at hv;obtain⟨v0,iL,rfl⟩:=cY.1 hv;rw[Iw,bQ];exact q3 v0 iL
  .rw[hr]at hx;obtain⟨r1,r2,cells,t,c1,c2,c3,c4⟩:=q4 st x hx hw;refine⟨by rw[oJ,bQ];exact r1,r2,cells,t,c1,c2,c3,λi v hv hi j c' hc=>?_⟩;rw[oJ,dS,ep]at hv;obtain⟨v0,iL,rfl⟩:=hv;rw[Iw,dS,ep]at hc;obtain⟨c0,Dq,rfl⟩:=hc;obtain⟨c,d1,d2⟩:=c4 i v0 iL hi j c0 Dq;exact⟨c,d1,h3 _ _ d2⟩
 .rw[lD,bG eU]at hk;exact h1.fJ k o hk
def aA.Qo{P:aG}{f:FuncId}{args:List V}{S:St}{R:V->St->Prop}{l sz wr:Nat}{xs:List V}(ho:S[l]?=some (.arr xs sz wr)){p sy wy:Nat}{ys:List V}(hp:S[p]?=some (.arr ys sy wy))(bZ:l≠p)(h:aA P f (V.iR l xs wr args) ((S.set l .dead).set p (.arr (V.iR l xs wr ys) sy wy)) R):aA P f args S R:=
 ⟨h.1,λE w us n hs hv=>by
  obtain⟨E',h1,h2,h3⟩:=hs.Qo ho hp bZ
  have eV:uJ E' (V.iR l xs wr args) us:=by
   rw[oJ];refine⟨by rw[bQ];exact hv.1,λi v u eV hu=>?_⟩;rw[dS,ep]at eV;obtain⟨v0,iL,rfl⟩:=eV;exact h3 _ _ (hv.2 i v0 u iL hu)
  refine(h.2 E' w us n h1 eV).mono ?_;rintro e w' ⟨u,r,E2,S',he,hR,hr,hS,hx,hl⟩;rw[xG,xG]at hx hl;exact⟨u,r,E2,S',he,hR,hr,hS,(h2 _).trans hx,hl⟩⟩
def Tk.lt{T:Nat}{q:Bz->Prop}{X:St}(h:Tk T q X):T<X.length:=by
 obtain⟨_,_,_,_,b,_⟩:=h;exact aR b
def Tk.at{T:Nat}{M:Np}{r:Bz->Prop}{X Y:St}(h:Tk T r X)(k:Kp M X Y)(hm:¬M T):Tk T r Y:=h.keep (k.get T h.lt hm)
def Tk.yA{T:Nat}{q:Bz->Prop}{X:St}(h:Tk T q X)(s:Bz):∃Y,og X .str (.map T) (.str s) (.bool true)=some Y/\Tk T (λx=>q x\/x=s) Y/\Kp (λk=>k=T) X Y/\Y.length=X.length:=by
 obtain⟨ks,bs,ck,h1,h2,h3,h4⟩:=h;obtain⟨fA,iw,a,b⟩:=qtv s h2
 exact ⟨_,a,⟨eo ks s,fA,iw,b h1,bO (aR h2),qse h3,λx=>by
  have:=qi (l:=[s]) (ks:=ks) (x:=x);simp only[uD,List.foldl_nil,sZ]at this;rw[this,h4]⟩,(Kp.refl _ _).set _ (.inl rfl),sM⟩
def qg1:∀(l:List Bz) (j:Nat),(l.map kv).eraseIdx j=(l.eraseIdx j).map kv
 |[],_=>rfl
 |_::_,0=>rfl
 |x::l,j+1=>by simp[qg1 l j]
def Tk.del{T:Nat}{q:Bz->Prop}{X:St}(h:Tk T q X)(s:Bz):∃Y,Aw X .str (.map T) (.str s)=some Y/\Tk T (λx=>q x/\x≠s) Y/\Kp (λk=>k=T) X Y/\Y.length=X.length:=by
 obtain⟨ks,bs,ck,h1,h2,h3,h4⟩:=h;unfold Aw;rw[ak (by rfl)];simp only[h2];rcases RO s ks 0 with ⟨h5,h6⟩|⟨h5,j,h6,h7⟩
 .rw[h6];exact⟨_,rfl,⟨ks,bs,ck,h1,bO (aR h2),h3,λx=>by rw[h4];exact⟨λhx=>⟨hx,λe=>h5 ((h4 s).2 (e ▸ hx))⟩,λhx=>hx.1⟩⟩,(Kp.refl _ _).set _ (.inl rfl),sM⟩
 .rw[h7];refine⟨_,rfl,⟨ks.eraseIdx j,bs.eraseIdx j,ck,⟨λb hb=>h1.1 b (List.mem_of_mem_eraseIdx hb),h1.2.sublist (List.eraseIdx_sublist _ _)⟩,?_,h3.sublist (List.eraseIdx_sublist _ _),λx=>?_⟩,(Kp.refl _ _).set _ (.inl rfl),sM⟩
  .rw[bO (aR h2),mg,qg1]
  .show x∈ks.eraseIdx j↔q x/\x≠s;rw[List.mem_eraseIdx_iff_getElem?,<-h4];constructor
   .rintro⟨i,hi,hx⟩;refine⟨dZ hx,λe=>hi ?_⟩;subst e;exact(HM (br.1 hx).1 h3).1 (hx.trans h6.symm)
   .rintro⟨hx,hs⟩;obtain⟨i,hi⟩:=qX.1 hx;refine⟨i,λe=>hs ?_,hi⟩;rw[e,h6]at hi;cases hi;rfl
def qkJ{T M:Nat}{q r:Bz->Prop}{S:St}(hT:Tk T q S){ks:List Bz}{bs:List Nat}{ck:Nat}(bg:ii bs ck)(iT:bs.length=ks.length)(mS:S[M]?=some (.map (ks.map kv) bs ck))(Dv:∀x,x∈ks↔r x)(bZ:T≠M):
  aA prog 76 [.map T,.map M] S (λ_ U=>Tk T (λx=>q x\/r x) U/\Kp (λk=>k=T) S U):=by
 have lM:=aR mS;have lT:=hT.lt;refine aA.ib C76 ?_;simp[C76,bI,Bv,mS];obtain⟨L,hL⟩:=eX (S.length);obtain⟨X2,uS⟩:=eX (α:=St) (S++[.iter M ck [] ck]);rw[<-uS,<-hL];have XJ:X2[L]?=some (.iter M ck [] ck):=by rw[uS,hL];simp
 have XU:Kp (λk=>k=T) S X2:=by rw[uS];exact(Kp.refl _ _).push _
 have ZS:=hT.keep (Y:=X2) (by rw[uS,dh lT]);have lX2:X2.length=L+1:=by rw[uS,hL];simp
 clear uS;obtain⟨J,hJ⟩:∃J:List Nat->St->Prop,∀seen Y,J seen Y↔(Kp (λk=>k=T) S Y/\L+1<=Y.length/\Y[L]?=some (.iter M ck seen ck)/\Tk T (λx=>q x\/∃(i:Nat) (b:Nat),ks[i]?=some x/\bs[i]?=some b/\b∈seen) Y):=⟨_,λ_ _=>Iff.rfl⟩;refine Uj (L:=L) (lm:=M) (since:=ck) (bs:=bs) (es:=ks.map kv) (ck:=ck) (e0:=[(7,.ptr L 0 0 0),(0,.map T)]) J
  ?_ (by simp[bK.ev]) (by simp[iT]) bg.1 ((hJ _ _).2 ⟨XU,oM,XJ,ZS.same λx=>by simp⟩) ?_ ?_ ?_
 .exact ba
 .intro seen Y hj;obtain⟨h1,_,h2,_⟩:=(hJ _ _).1 hj;exact⟨⟨ck,dl _,h2⟩,h1.at mS (λh=>bZ h.symm)⟩
 .intro seen Y hj dq;obtain⟨h1,h2,h3,h4⟩:=(hJ _ _).1 hj;simp;refine mM rfl ⟨h4.same λx=>or_congr_right ?_,h1⟩;rw[<-Dv];constructor
  .rintro⟨i,b,hi,_,_⟩;exact dZ hi
  .intro hx;obtain⟨i,hi⟩:=qX.1 hx;have aB:=(br.1 hi).1;have hb:=bX (l:=bs) (i:=i) oM;exact⟨i,bs[i],hi,hb,dq _ (dZ hb)⟩
 .intro seen Y i k v b' hj hk hb hn;obtain⟨h1,h2,h3,h4⟩:=(hJ _ _).1 hj;rw[dS,ep]at hk;obtain⟨x1,hi,MO⟩:=hk;cases MO;have x8:(Y.set L (.iter M ck (seen++[b']) ck))[L]?=some (.iter M ck (seen++[b']) ck):=bO (aR h3)
  have L0:(Y.set L (.iter M ck (seen++[b']) ck))[M]?=some (.map (ks.map kv) bs ck):=by
   rw[bG oM];exact h1.at mS (λh=>bZ h.symm)
  have uU:=Vx x8 L0 bg.2 (by rw[dS,hi];rfl) hb;obtain⟨Y2,x9⟩:=eX (Y.set L (.iter M ck (seen++[b']) ck));have NA:Kp (λk=>k=T) S Y2:=by rw[x9];exact h1.set _ (.inr oM)
  have ZT:=h4.keep (Y:=Y2) (by rw[x9,bG oM]);have lY2:Y2.length=Y.length:=by rw[x9];simp
  rw[<-x9]at x8 L0 uU |-;clear x9;obtain⟨Y3,Q3,t3,k3,l3⟩:=ZT.yA x1;simp[bI,uU,kv,Q3];refine⟨?_,(hJ _ _).2 ⟨NA.trans k3,oM,k3.at x8 oM,t3.same λx=>?_⟩⟩
  .exact ba
  rw[or_assoc];refine or_congr_right ?_;constructor
  .rintro(⟨j,b3,h5,h6,h7⟩|rfl)
   .exact⟨j,b3,h5,h6,by simp[h7]⟩
   .exact⟨i,b',hi,hb,sM⟩
  .rintro⟨j,b3,h5,h6,h7⟩;rcases cU.1 h7 with h7|h7
   .exact .inl ⟨j,b3,h5,h6,h7⟩
   .simp at h7;subst h7;have pC:i=j:=(HM (br.1 hb).1 bg.2).1 (hb.trans h6.symm);subst pC;rw[hi]at h5;cases h5;exact .inr rfl
def qkI{T M:Nat}{q r:Bz->Prop}{S:St}(hT:Tk T q S)(hM:Tk M r S)(bZ:T≠M):aA prog 76 [.map T,.map M] S (λ_ U=>Tk T (λx=>q x\/r x) U/\Kp (λk=>k=T) S U):=by
 obtain⟨ks,bs,ck,bg,mS,nd,Dv⟩:=hM;refine aA.qtj mS ⟨_,[.map [] [] 0,.map [] [] 0],_,qkJ (T:=0) (M:=1) (q:=λ_=>False) (r:=λ_=>False) (ks:=[]) ⟨[],[],0,ii.nil,rfl,uF,sM⟩ ii.nil rfl rfl sM (by decide)⟩ λhl=>?_
 exact qkJ hT bg (by rw[<-hl,bQ]) mS Dv bZ
def kr(e:Bz×V):V×V:=(.str e.1,e.2)
def qgE{x y:Bz}(h:¬x=y):sF .str (.str x) (.str y)=some false:=by
 show some (x.data.toList==y.data.toList)=_
 have bZ:(x.data.toList==y.data.toList)=false:=by
  rw[beq_eq_false_iff_ne];intro hh;exact h (vT (xz hh))
 rw[bZ]
def qgY(x:Bz):∀(fX:List (Bz×V)) (i:Nat),x∉fX.map (·.1)->mD .str (.str x) (fX.map kr) i=some none
 |[],_,_=>rfl
 |e::fX,i,h=>by
  simp only[cQ,dU,not_or]at h;have h1:=qgE h.1;simp only[cQ,mD,kr,h1];exact qgY x fX _ h.2
def qgX(x:Bz)(v:V):∀(fX:List (Bz×V)) (i:Nat),x∉fX.map (·.1)->mD .str (.str x) ((fX++[(x,v)]).map kr) i=some (some (i+fX.length,v))
 |[],i,_=>by simp[mD,kr,sF]
 |e::fX,i,h=>by
  simp only[cQ,dU,not_or]at h;have h1:=qgE h.1;simp only[dR,cQ,mD,kr,h1];have:=qgX x v fX (i+1) h.2;rw[this,gq];simp;omega
def Tm(m:Nat)(es:List Ae)(X:St):Prop:=∃(fX:List (Bz×V)) (bs:List Nat) (ck:Nat),ii bs ck/\bs.length=fX.length/\X[m]?=some (.map (fX.map kr) bs ck)/\fX.map (λe=>(e.1,e.2.weak))=es.map λe=>(e.1,e.2.v)
def Tm.keep{m:Nat}{es:List Ae}{X Y:St}(h:Tm m es X)(hk:Y[m]?=X[m]?):Tm m es Y:=by
 obtain⟨fX,bs,ck,a,b,c,d⟩:=h;exact⟨fX,bs,ck,a,b,by rw[hk];exact c,d⟩
def Tm.lt{m:Nat}{es:List Ae}{X:St}(h:Tm m es X):m<X.length:=by
 obtain⟨_,_,_,_,_,c,_⟩:=h;exact aR c
def Tm.at{m:Nat}{es:List Ae}{M:Np}{X Y:St}(h:Tm m es X)(k:Kp M X Y)(hm:¬M m):Tm m es Y:=h.keep (k.get m h.lt hm)
def qjt{fX:List (Bz×V)}{es:List Ae}(h:fX.map (λe=>(e.1,e.2.weak))=es.map λe=>(e.1,e.2.v)):fX.map (·.1)=es.map (·.1):=by
 have:=mn (List.map (·.1)) h;simpa[nJ,Function.comp_def]using this
def Tm.new{m:Nat}{es:List Ae}{X:St}(h:Tm m es X){x:Bz}(hx:x∉es.map (·.1)){v:V}{y:Ex}(hv:v.weak=y.v):
  ∃Y,og X .str (.map m) (.str x) v=some Y/\Tm m (es++[(x,y)]) Y/\Kp (λk=>k=m) X Y/\Y.length=X.length:=by
 obtain⟨fX,bs,ck,a,b,c,d⟩:=h;refine⟨X.set m (.map ((fX++[(x,v)]).map kr) (bs++[ck]) (ck+1)),?_,⟨fX++[(x,v)],_,_,a.snoc,by simp[b],bO (aR c),by simp[d,hv]⟩,(Kp.refl _ _).set _ (.inl rfl),sM⟩;unfold og;rw[ak (by rfl)];simp only[c,qgY x fX 0 (by rw[qjt d];exact hx),cJ];rfl
def Tm.last{m:Nat}{es:List Ae}{X:St}{x:Bz}{y0:Ex}(h:Tm m (es++[(x,y0)]) X)(hx:x∉es.map (·.1)){v:V}{y:Ex}(hv:v.weak=y.v):
  ∃Y,og X .str (.map m) (.str x) v=some Y/\Tm m (es++[(x,y)]) Y/\Kp (λk=>k=m) X Y/\Y.length=X.length:=by
 obtain⟨fX,bs,ck,a,b,c,d⟩:=h;rw[cJ]at d;obtain⟨r0,r1,rfl,d0,d1⟩:=List.map_eq_append_iff.1 d
 obtain⟨e,rfl⟩:∃e,r1=[e]:=by
  cases r1 with
  |nil=>simp at d1
  |cons e r=>cases r with
   |nil=>exact⟨e,rfl⟩
   |cons _ _=>simp at d1
 simp only[cQ,nK,List.cons.injEq,Prod.mk.injEq,and_true]at d1;obtain⟨z,w⟩:=e;simp only at d1;obtain⟨rfl,d1⟩:=d1;have hn:z∉r0.map (·.1):=by rw[qjt d0];exact hx
 refine⟨X.set m (.map ((r0++[(z,v)]).map kr) bs ck),?_,⟨r0++[(z,v)],bs,ck,a,by simpa using b,bO (aR c),by simp[d0,hv]⟩,(Kp.refl _ _).set _ (.inl rfl),sM⟩;unfold og;rw[ak (by rfl)];have hf:=qgX z w r0 0 hn;simp only[c,hf];rw[cJ,cJ,List.set_append_right _ _ sM];simp[kr]
def Tm.nil{X:St}:Tm X.length [] (X++[.map [] [] 0]):=⟨[],[],0,ii.nil,rfl,sM,rfl⟩
def CZ(s:Bz)(tk:List Bz):Bz:=open Classical in if h:∃t,je s tk t then h.choose else s
def VX{s:Bz}{tk:List Bz}(h:tk.length<=899):je s tk (CZ s tk):=by
 have h1:=je.exists s tk h;unfold CZ;rw[dif_pos h1];exact h1.choose_spec
def qk(t:Bz):Ex:=.mk 6 0 0 0 0 t []
def vH(k:Int)(t:Bz):De:=.mk 1 false k [t] [] [] []
def qB(t:Bz)(x:Ex):Sm:=.mk [] 2 ⟨⟨[]⟩⟩ [qk t] [x] [] [] []
structure XS where
 tk:List Bz
 es:List Ae
 ds:List De
 nt:List Sm
def jD(st:XS)(p:Fo×Ex):XS:=
 if p.1.value=true then⟨st.tk++[CZ p.1.name st.tk],st.es++[(p.1.name,qk (CZ p.1.name st.tk))],st.ds++[vH p.1.type (CZ p.1.name st.tk)],st.nt++[qB (CZ p.1.name st.tk) p.2]⟩
 else⟨st.tk,st.es++[(p.1.name,p.2)],st.ds,st.nt⟩
def jC(tk:List Bz)(l:List (Fo×Ex)):XS:=l.foldl jD ⟨tk,[],[],[]⟩
def qls(tk:List Bz)(l:List (Fo×Ex))(p:Fo×Ex):jC tk (l++[p])=jD (jC tk l) p:=by unfold jC;rw[uz];rfl
def qlv:∀(l:List (Fo×Ex)) (st:XS),(l.foldl jD st).es.map (·.1)=st.es.map (·.1)++l.map (·.1.name)
 |[],st=>by simp
 |p::l,st=>by
  rw[uD,qlv l,jD];split<;>simp
def qak(tk:List Bz)(l:List (Fo×Ex)):(jC tk l).es.map (·.1)=l.map (·.1.name):=by
 unfold jC;rw[qlv];rfl
def qlu:∀(l:List (Fo×Ex)) (st:XS),st.ds.length=st.nt.length->(l.foldl jD st).tk.length<=st.tk.length+l.length/\(l.foldl jD st).ds.length=(l.foldl jD st).nt.length/\(l.foldl jD st).ds.length<=st.ds.length+l.length
 |[],st,h=>by simp[h]
 |p::l,st,h=>by
  have:=qlu l (jD st p) (by rw[jD];split<;>simp[h]);have h2:(jD st p).tk.length<=st.tk.length+1/\(jD st p).ds.length<=st.ds.length+1:=by rw[jD];split<;>simp
  rw[uD,gq];omega
def EM(tk:List Bz)(l:List (Fo×Ex)):(jC tk l).tk.length<=tk.length+l.length/\(jC tk l).ds.length=(jC tk l).nt.length/\(jC tk l).ds.length<=l.length:=by
 have:=qlu l ⟨tk,[],[],[]⟩ rfl;unfold jC;simpa using this
def qyh{C T:Nat}{q:Bz->Prop}{S:St}{tk:List Bz}(hC:S[C]?=aJ [.map T] 1)(hT:Tk T q S)(hq:∀x,q x↔x∈tk)(x:Bz):Fn prog 78 [.str x,ag C] S (.bool (eJ x tk)):=by
 obtain⟨ks,bs,ck,_,hm,_,Dv⟩:=hT;have he:eJ x tk=eJ x ks:=by rw[eR,mU,mU,Dv,hq]
 rw[he];refine aA.ib C78 ?_;simp[C78,ab,hC,V.part,V.cells,bI,RL x hm];exact bu rfl ⟨rfl,rfl⟩
def qD(d:De)(xs:List Ex):List Bz:=Ex.cL xs++(d.body.flatMap λs=>s.fu++s.bounds).filter λx=>!eJ x (d.aj.map (·.name))
structure qt(S:St)(d:De)(xs:List Ex)(b:Bool)(q:Bz->Prop)(C T:Nat)(e:ae)(X:St):Prop where
 k:bz (S++[.arr [d.v] 7 1,.arr [bL] 8 1]) X
 hC:S.length+2<=C
 hT:S.length+2<=T
 box:X[C]?=aJ [.map T] 1
 tk:Tk T q X
 g1:e.get 1=some (.sl b (xs.map Ex.v))
 g2:e.get 2=some (ag S.length)
 g4:e.get 4=some (ag (S.length+1))
 g7:e.get 7=some (ag C)
def qt.to{S:St}{d:De}{xs:List Ex}{b:Bool}{q:Bz->Prop}{C T:Nat}{e e':ae}{X Y:St}{M:Np}(f:qt S d xs b q C T e X)(k:Kp M X Y)(h:∀l,M l->l<X.length->S.length+2<=l/\l≠C/\l≠T)
    (he:∀t,t=1\/t=2\/t=4\/t=7->e'.get t=e.get t):qt S d xs b q C T e' Y:=by
  have hC:=aR f.box;have hT:=f.tk.lt;have hX:=f.k.len;simp at hX
  exact ⟨⟨by have:=k.len;have:=f.k.len;omega,λl hl _=>by
    have cj:l<S.length+2:=by simpa using hl
    rw[k.get l oM (λhm=>by have:=h l hm oM;omega),f.k.get l hl id]⟩,f.hC,f.hT,k.at f.box λhm=>(h C hm hC).2.1 rfl,f.tk.at k λhm=>(h T hm hT).2.2 rfl,(he 1 sM).trans f.g1,(he 2 sM).trans f.g2,(he 4 sM).trans f.g4,(he 7 sM).trans f.g7⟩
def qcD(S:St)(d:De)(xs:List Ex)(b:Bool)(q:Bz->Prop)(e:ae)(X:St):Prop:=∃C T,qt S d xs b q C T e X
def Sm.qtn(s:Sm)(x:Bz):x∈s.fu↔x∈(s.ou bN ([],[]):List Bz×List Bz).1:=s.qtm x
def Im(s:Sm)(d:De)(i:Nat)(x:Bz):Prop:=(x∈s.bounds\/x∈s.fu)/\x∉(d.aj.take i).map (·.name)
def D27(S:St)(d:De)(xs:List Ex)(b:Bool)(C T:Nat)(s:Sm)(e:ae)(X:St):Prop:=∃(F c4 c5 c6:Nat) (v:V) (ps:List Nat) (F' D':Np),qt S d xs b (λx=>x∈Ex.cL xs) C T e X/\Co F c4 c5 c6 (s.ou bN ([],[])) v ps F' D' X/\F≠T/\F≠C/\S.length+2<=F/\e.get 8=some (.map F)/\e.get 9=some v
structure Pz(S:St)(d:De)(xs:List Ex)(b:Bool)(q q2:Bz->Prop)(C T A:Nat)(e:ae)(X:St):Prop where
 f:qt S d xs b q C T e X
 a:Tk A q2 X
 aT:A≠T
 aC:A≠C
 aS:S.length+2<=A
 g10:e.get 10=some (.map A)
def E27(S:St)(d:De)(xs:List Ex)(b:Bool)(C T:Nat)(s:Sm)(e:ae)(X:St):Prop:=∃A F,Pz S d xs b (λx=>x∈Ex.cL xs) (λx=>x∈s.bounds) C T A e X/\Tk F (λx=>x∈s.fu) X/\F≠A/\e.get 8=some (.map F)
def qy5(d:De)(hd:d.ok)(b:Bool)(xs:List Ex)(hl:xs.length<=1000)(ho:∀x,x∈xs->x.ok)(hz:bk (xs.map Pa.ex)<=4000)(bF:∀s,s∈d.body->(Pa.st s).size<=4000/\Sm.bH [s]<=100000)(S:St)(R:V->St->Prop)
  (bad:ja d xs≠0->∀U,bz S U->R (.aV [bL,af (ja d xs)]) U) {t:C'}
  (good:ja d xs=0->∀C T e X,qt S d xs b (λx=>x∈qD d xs) C T e X->WP prog t (eN [.cell 4 (some 8),.t 5] S.length R) e X) (a1 a2 a3 a4 a5 a6 a7 a8:C')
  (hc:yU.c.body=.seq a1 (.seq a2 (.seq a3 (.seq a4 (.seq a5 (.seq a6 (.seq a7 (.seq a8 t)))))))):
  WP prog yU.c.body (eN [.cell 4 (some 8),.t 5] S.length R) (jV 0 [d.v,.sl b (xs.map Ex.v)]) S:=by
 have hO:=(De.fh d).1 hd;obtain⟨S1,bB⟩:=eX (α:=St) (S++[.arr [d.v] 7 1,.arr [bL] 8 1]);have b0:S1[S.length]?=aJ [d.v] 7:=by rw[bB];simp
 have b1:S1[S.length+1]?=aJ [bL] 8:=by rw[bB,cx oM];simp
 have l1:S1.length=S.length+2:=by rw[bB];simp
 have kS:bz S S1:=by rw[bB];exact(Kp.refl _ _).push _
 simp only[yU,fW,C'.seq.injEq]at hc;obtain⟨rfl,rfl,rfl,rfl,rfl,rfl,rfl,rfl,rfl⟩:=hc;simp only[yU,fW];refine cS (λe U=>U=S1/\e.get 1=some (.sl b (xs.map Ex.v))/\e.get 2=some (ag S.length)/\e.get 4=some (ag (S.length+1))) (by rw[bB];simp[aL,jV]) ?_;rintro e U ⟨rfl,g1,g2,g4⟩;refine cS (λe X=>ja d xs=0/\bz U X/\e.get 1=some (.sl b (xs.map Ex.v))/\e.get 2=some (ag S.length)/\e.get 4=some (ag (S.length+1))) ?_ ?_
 .simp[g1,g2,ab,b0];refine bE (qyf d hd b xs hl ho U) ?_;rintro r X ⟨rfl,kX⟩;have x1:=kX.at b1 id;by_cases h0:ja d xs=0
  .simp[h0,g1,g2,g4,kX]
  .simp[h0,g4,aI,x1,bP,bR];have h2:(X.set (S.length+1) (.arr [bL] 8 1))[S.length+1]?=aJ [bL] 8:=bO (aR x1);refine bu (vs:=[bL,af (ja d xs)]) (by simp[eL,ab,g4,h2];rfl) (bad h0 _ ((kS.trans kX).set _ (.inr oM)))
 clear g1 g2 g4 e;rintro e X ⟨h0,kX,g1,g2,g4⟩;refine cS (qcD S d xs b (λx=>x∈Ex.cL xs)) ?_ ?_
 .simp[g1];refine bE (qkH b xs hz X) ?_;rintro r Y ⟨T,bs,ck,rfl,bg,hm,kY,hT⟩;have lY:=kY.len;have lX:=kX.len;have lT:=aR hm;simp[bI,aL,aI,Tf,g1,g2,g4];refine⟨Y.length,T,by rw[<-bB];exact(kX.trans kY).push _,oM,oM,sM,⟨(Ex.cL xs).foldl eo [],bs,ck,bg.1,?_,Bh uF,λx=>by rw[qi];simp⟩,by simp[g1],by simp[g2],by simp[g4],sM⟩;rw[dh lT];exact hm
 clear g1 g2 g4 kX e X;rintro e X ⟨C,T,f⟩
 have facts:d.kind=4/\(Pa.de d).err aH=0:=by
  unfold ja at h0;by_cases h4:d.kind=4
  .rw[au (not_not_intro h4)]at h0;by_cases he:(Pa.de d).err aH=0
   .exact⟨h4,he⟩
   .rw[ak he]at h0;exact absurd h0 he
  .rw[ak h4]at h0;cases h0
 have hv:=(Pa.gU.1 (zh facts.2).2)
 have nV:d.body.length=1:=by
  have:=hv.1;simp only[Pa.bp]at this;rw[De.me,cT]at this;simp[facts.1]at this;exact this.2.1.1.1.1.2
 obtain⟨s,hs⟩:∃s,d.body=[s]:=by
  match hd:d.body,nV with
  |[s],_=>exact⟨s,rfl⟩
 have yL:s.ok:=Sm.jQ hO.body.2 s (by simp[hs]);obtain⟨sz,sn⟩:=bF s (by simp[hs]);have AV:0<d.body.length:=oM;have Dp:(s.ou bN ([],[]):List Bz×List Bz).2=s.bounds:=s.qld;have uZ:d.body[0]=s:=by simp[hs]
 refine cS (D27 S d xs b C T s) ?_ ?_
 .have kF:=f.k.at (l:=S.length) (o:=.arr [d.v] 7 1) sM id;simp[f.g2,ab,kF,Bg AV,uZ];refine bE (qkF s yL sz sn X) ?_;rintro r Y ⟨F,c4,c5,c6,v,ps,F',D',rfl,k,kY,hF⟩;have lC:=aR f.box;have lT:=f.tk.lt;have hF2:=hF F (.inl k.hm);have lX:=f.k.len;simp at lX;simp;exact⟨F,c4,c5,c6,v,ps,F',D',f.to kY (λ_ h=>h.elim) (by rintro t (rfl|rfl|rfl|rfl)<;>simp),k,oM,oM,oM,sM,sM⟩
 clear f e X;rintro e X ⟨F,c4,c5,c6,v,ps,F',D',f,k,nT,nC,hF,g8,g9⟩;refine cS (E27 S d xs b C T s) ?_ ?_
 .simp[g9];refine bE (qyg k (by rw[Dp,s.wz];exact sn)) ?_;rintro r Y ⟨rfl,⟨bs,ck,bg,hm⟩,kY⟩;have lC:=aR f.box;have lT:=f.tk.lt;have lX:=f.k.len;have hFm:=k.hm;obtain⟨Ve,Vj,qrJ,Q2⟩:=k.fm;have lF:=aR Q2;simp at lX;simp;refine⟨X.length,F,⟨f.to kY (λ_ h=>h.elim) (by rintro t (rfl|rfl|rfl|rfl)<;>simp),⟨_,bs,ck,bg,hm,Bh uF,λx=>?_⟩,oM,oM,oM,sM⟩,⟨_,Ve,Vj,qrJ,kY.at Q2 id,Bh uF,λx=>?_⟩,oM,by simp[g8]⟩
  .rw[qi,Dp];simp
  .rw[qi,<-s.qtn x];simp
 clear f k g8 g9 e X;rintro e X ⟨A,F,m,tF,nFA,g8⟩;refine cS (Pz S d xs b (λx=>x∈Ex.cL xs) (λx=>x∈s.bounds\/x∈s.fu) C T A) ?_ ?_
 .simp[m.g10,g8];refine bE (qkI m.a tF (λh=>nFA h.symm)) ?_;rintro r Y ⟨tA,kY⟩;simp;exact⟨m.f.to kY (λl hl _=>by rw[hl];exact⟨m.aS,m.aC,m.aT⟩) (by rintro t (rfl|rfl|rfl|rfl)<;>simp),tA,m.aT,m.aC,m.aS,by simp[m.g10]⟩
 clear m tF nFA g8 e X F;rintro e X m;refine cS (Pz S d xs b (λx=>x∈Ex.cL xs) (Im s d d.aj.length) C T A) ?_ ?_
 .have kF:=m.f.k.at (l:=S.length) (o:=.arr [d.v] 7 1) sM id;simp[m.f.g2,ab,kF];refine eA (Pz S d xs b (λx=>x∈Ex.cL xs) (Im s d d.aj.length) C T A) ?_ λ_ _ h=>by simp only[lS];exact h
  refine cE (λj e Y=>∃i:Nat,j=d.aj.length - i∧i≤d.aj.length∧Kp (λk=>k=A) X Y∧Tk A (Im s d i) Y∧
   e=[(46,af i),(45,af d.aj.length),(44,ah (d.aj.map Fo.v)),(10,.map A),(7,ag C),(4,ag (S.length+1)),(2,ag S.length),(1,.sl b (xs.map Ex.v))]) d.aj.length _ ?_
   ⟨0,sM,oM,Kp.refl _ _,m.a.same λx=>by simp[Im],rfl⟩ ?_
  .repeat' first|exact ae.gZ _|refine ae.fp (by simp[m.f.g1,m.f.g2,m.f.g4,m.f.g7,m.g10]) ?_
  rintro j e Y ⟨i,rfl,hi,kY,tY,rfl⟩;have hB:=hO.aj.1;unfold bi at hB;by_cases h:i<d.aj.length
  case neg=>
   have:i=d.aj.length:=oM;subst this;simp;exact⟨m.f.to kY (λl hl _=>by rw[hl];exact⟨m.aS,m.aC,m.aT⟩) (by rintro t (rfl|rfl|rfl|rfl)<;>simp[m.f.g1,m.f.g2,m.f.g4,m.f.g7]),tY,m.aT,m.aC,m.aS,sM⟩
  have hn:V.fZ (.agg [.str ⟨⟨[]⟩⟩,.bool false,z0,z0]) 0 4 d.aj[i].v=some d.aj[i].v:=by rw[aU];simp
  obtain⟨Z,qqy,tZ,kZ,lZ⟩:=(tY.keep (Y:=Y++[.arr [d.aj[i].v] 4 1]) (by rw[dh tY.lt])).del d.aj[i].name;simp[h,ru h,aL,aI,ab,hn,bI,qqy];rw[cG i];refine⟨_,?_,_,?_,i+1,rfl,oM,(kY.push _).trans kZ,tZ.same λx=>?_,rfl⟩
  .omega
  .exact ba
  .unfold Im;rw[dN,bX h,iP,cJ,cU,and_assoc,not_or];simp
 clear m e X;rintro e X m;refine cS (qcD S d xs b (λx=>x∈qD d xs)) ?_ ?_
 .simp[m.f.g7,ab,m.f.box,m.g10];refine bE (qkI m.f.tk m.a (λh=>m.aT h.symm)) ?_;rintro r Y ⟨tT,kY⟩;simp
  have tT2:=tT.same (q':=λx=>x∈qD d xs) λx=>by
   unfold qD Im;rw[cU,qW,hs,gu];simp[zB,or_comm]
  have LO:C≠T:=by
   rintro rfl;obtain⟨_,_,_,_,h,_⟩:=m.f.tk;rw[m.f.box]at h;cases h
  have kk:=m.f.k.len;simp at kk;refine⟨C,T,⟨⟨by have:=kY.len;have:=m.f.k.len;omega,λl hl _=>?_⟩,m.f.hC,m.f.hT,kY.at m.f.box LO,tT2,by simp[m.f.g1],by simp[m.f.g2],by simp[m.f.g4],by simp[m.f.g7]⟩⟩;have cj:l<S.length+2:=by simpa using hl
  have:=m.f.hT;rw[kY.get l oM oM,m.f.k.get l hl id]
 rintro e X ⟨C,T,f⟩;exact good h0 C T e X f
def dm(dv bv:V):V:=.agg [sN,af 7,.str ⟨⟨[]⟩⟩,sN,sN,sN,dv,bv]
structure L27(S:St)(d:De)(xs:List Ex)(b:Bool)(C T P m n0:Nat)(st:XS)(ns:List Bz)(lv dv bv:V)(rd rb:List V)(e:ae)(X:St):Prop where
 f:qt S d xs b (λx=>x∈st.tk) C T e X
 p:X[P]?=aJ [dm dv bv] 8
 mm:Tm m st.es X
 gl:Gr 1 n0 (ns.map .str) lv X
 gd:Gr 7 n0 rd dv X
 gb:Gr 8 n0 rb bv X
 wd:rd.map V.weak=st.ds.map De.v
 wb:rb.map V.weak=st.nt.map Sm.v
 hP:S.length+2<=P/\P<n0
 hm:S.length+2<=m/\m<n0
 hC:C<n0
 hT:T<n0
 dj:C≠T/\P≠C/\m≠T/\m≠C/\P≠m/\P≠T
 hn:n0<=X.length
 g13:e.get 13=some (ag P)
 g14:e.get 14=some lv
 g15:e.get 15=some (.map m)
def KB(S:St)(d:De)(xs:List Ex)(b:Bool)(C T P m n0:Nat)(st:XS)(ns:List Bz)(e:ae)(X:St):Prop:=∃lv dv bv rd rb,L27 S d xs b C T P m n0 st ns lv dv bv rd rb e X
def I27(S:St)(d:De)(xs:List Ex)(b:Bool)(C T P m n0:Nat)(tk:List Bz)(j:Nat)(e:ae)(Y:St):Prop:=
 ∃(i:Nat) (lv dv bv:V) (rd rb:List V),j=d.aj.length-i/\i<=d.aj.length/\L27 S d xs b C T P m n0 (jC tk ((d.aj.zip xs).take i)) ((d.aj.take i).map (·.name)) lv dv bv rd rb e Y/\
  e=[(62,af i),(61,af d.aj.length),(60,ah (d.aj.map Fo.v)),(15,.map m),(14,lv),(13,ag P),(7,ag C),(4,ag (S.length+1)),(2,ag S.length),(1,.sl b (xs.map Ex.v))]
def Gr.other{sz sz' n0 n1:Nat}{xs ys:List V}{v v':V}{S S':St}(h:Gr sz n0 xs v S)(g:Gr sz' n1 ys v' S)(bZ:sz≠sz')(hk:∀l o,S[l]?=some o->(∀n,v'≠.arr l 0 n n)->S'[l]?=some o):Gr sz n0 xs v S':=by
 rcases h with h|⟨l,wr,h1,rfl,h3,h4⟩
 .exact .inl h
 .refine .inr ⟨l,wr,h1,rfl,hk l _ h3 ?_,h4⟩;rintro n rfl;rcases g with ⟨_,h⟩|⟨l',wr',g1,g2,g3,g4⟩
  .cases h
  .cases g2;rw[h3]at g3;cases g3;exact bZ rfl
def qt.add{S:St}{d:De}{xs:List Ex}{b:Bool}{q q':Bz->Prop}{C T:Nat}{e:ae}{X Y:St}(f:qt S d xs b q C T e X)(k:Kp (λk=>k=T) X Y)(hT:Tk T q' Y)(LO:C≠T):qt S d xs b q' C T e Y:=by
 have kk:=f.k.len;simp at kk;refine⟨⟨by have:=k.len;have:=f.k.len;omega,λl hl _=>?_⟩,f.hC,f.hT,k.at f.box LO,hT,f.g1,f.g2,f.g4,f.g7⟩;have cj:l<S.length+2:=by simpa using hl
 have:=f.hT;rw[k.get l oM oM,f.k.get l hl id]
def He(k:Int)(t:Bz):V:=.agg [af 1,.bool false,af k,.sl true [.str t],sN,sN,sN]
def Hg(t:Bz)(x:Ex):V:=.agg [sN,af 2,.str ⟨⟨[]⟩⟩,.sl true [.agg [af 6,z0,z0,z0,z0,.str t,sN]],.sl true [x.v],sN,sN,sN]
def qjT(k:Int)(t:Bz):(He k t).weak=(vH k t).v:=by rw[De.eW];rfl
def qjU(t:Bz)(x:Ex):(Hg t x).weak=(qB t x).v:=by
 rw[Sm.eW];have h1:(qk t).v=.agg [af 6,z0,z0,z0,z0,.str t,ah []]:=by rw[Ex.eW];rfl
 show V.agg [ah [],af 2,.str ⟨⟨[]⟩⟩,ah [.agg [af 6,z0,z0,z0,z0,.str t,ah []]],ah [x.v.weak],ah [],ah [],ah []]=V.agg [ah [],af 2,.str ⟨⟨[]⟩⟩,ah [(qk t).v],ah [x.v],ah [],ah [],ah []];rw[h1,Ex.jq]
def Gr.flat{sz n0:Nat}{xs:List V}{v:V}{S:St}(h:Gr sz n0 xs v S):v.size=1/\v.cells=[v]/\v.flat=true:=by
 rcases h with ⟨_,rfl⟩|⟨_,_,_,rfl,_⟩<;>exact⟨rfl,rfl,rfl⟩
def Gr.rA{sz sz' n0 l wr:Nat}{xs ys:List V}{v:V}{S:St}(h:Gr sz n0 xs v S)(ho:S[l]?=some (.arr ys sz' wr))(bZ:sz≠sz')(n:Nat):v≠.arr l 0 n n:=by
 rintro rfl;rcases h with ⟨_,h⟩|⟨l',wr',_,g2,g3,_⟩
 .cases h
 .cases g2;rw[ho]at g3;cases g3;exact bZ rfl
def Gr.at{sz n0:Nat}{xs:List V}{v:V}{S S':St}{M:Np}(h:Gr sz n0 xs v S)(k:Kp M S S')(hM:∀l,M l->l<n0):Gr sz n0 xs v S':=h.keep λl hl h2=>k.get l h2 λhm=>by have:=hM l hm;omega
def vw{sz n0:Nat}{xs:List V}{v:V}{S S':St}(h:Gr sz n0 xs v S)(hl:S.length<=S'.length)(hk:∀l o,S[l]?=some o->(∀n,v≠.arr l 0 n n)->S'[l]?=some o):Kp (λk=>n0<=k) S S':=
 ⟨hl,λl h1 h2=>by rw[hk l _ (bX h1) (h.ne oM),bX h1]⟩
def qt.up{S:St}{d:De}{xs:List Ex}{b:Bool}{q:Bz->Prop}{C T n0:Nat}{e e':ae}{X Y:St}(f:qt S d xs b q C T e X)(k:Kp (λk=>n0<=k) X Y)(hC:C<n0)(hT:T<n0)(hS:S.length+2<=n0)(he:∀t,t=1\/t=2\/t=4\/t=7->e'.get t=e.get t):qt S d xs b q C T e' Y:=
 f.to k (λl hl _=>by omega) he
def qy6(d:De)(hd:d.ok)(b:Bool)(xs:List Ex)(ho:∀x,x∈xs->x.ok)(hx:xs.length=d.aj.length)(hz:∀x,x∈xs->(Pa.ex x).size<=4000)(S:St)(R:V->St->Prop)(tk:List Bz)(vm:tk.length+d.aj.length<=899)(DC:(d.aj.map (·.name)).Nodup)(bF:∀f,f∈d.aj->f.name.size<=16)
  (a1 a2 a3 a4 a5 a6 a7 a8 a9 mh mi a12 t:C') (hc:yU.c.body=.seq a1 (.seq a2 (.seq a3 (.seq a4 (.seq a5 (.seq a6 (.seq a7 (.seq a8 (.seq a9 (.seq mh (.seq mi (.seq a12 t))))))))))))
  (good:∀C T P m n0 e X,KB S d xs b C T P m n0 (jC tk (d.aj.zip xs)) (d.aj.map (·.name)) e X->WP prog t (eN [.cell 4 (some 8),.t 5] S.length R) e X)
  {C T:Nat} {e:ae} {X:St} (f:qt S d xs b (λx=>x∈tk) C T e X):
  WP prog (.seq a9 (.seq mh (.seq mi (.seq a12 t)))) (eN [.cell 4 (some 8),.t 5] S.length R) e X:=by
 simp only[yU,fW,C'.seq.injEq]at hc;obtain⟨-,-,-,-,-,-,-,-,rfl,rfl,rfl,rfl,rfl⟩:=hc
 have LO:C≠T:=by
  rintro rfl;obtain⟨_,_,_,_,h,_⟩:=f.tk;rw[f.box]at h;cases h
 have lC:=aR f.box;have lT:=f.tk.lt;obtain⟨P,hP⟩:=eX (X.length);have lX:=f.k.len;simp at lX;refine cS (λe' Y=>Y=X++[.arr [dm sN sN] 8 1]/\e'.get 13=some (ag P)/\(∀t,t=1\/t=2\/t=4\/t=7->e'.get t=e.get t)) ?_ ?_
 .simp[bP,bR,aL,aI,aU,<-hP];rfl
 rintro e1 Y ⟨hY,g13,ge⟩;refine cS (λe' Y'=>Y'=Y/\e'.get 13=some (ag P)/\e'.get 14=some sN/\(∀t,t=1\/t=2\/t=4\/t=7->e'.get t=e.get t)) ?_ ?_
 .simp[g13,ge]
 clear g13 ge e1;rintro e1 Y1 ⟨rfl,g13,g14,ge⟩;refine cS (KB S d xs b C T P (X.length+1) (X.length+2) (jC tk []) []) ?_ ?_
 .simp[bI];have kY:bz X (Y1++[.map [] [] 0]):=by rw[hY];exact((Kp.refl _ _).push _).push _
  refine⟨sN,sN,sN,[],[],⟨f.to kY (λ_ h=>h.elim) ?_,?_,?_,Gr.nil _ _ _,Gr.nil _ _ _,Gr.nil _ _ _,rfl,rfl,oM,oM,oM,oM,⟨LO,oM,oM,oM,oM,oM⟩,by simp[hY],by simp[g13],by simp[g14],by simp[hY]⟩⟩
  .rintro t (rfl|rfl|rfl|rfl)<;>simp[ge]
  .rw[hY,hP];simp
  .have:=Tm.nil (X:=Y1);rw[hY]at this |-;simpa[jC]using this
 rintro e2 X2 h2;refine cS (KB S d xs b C T P (X.length+1) (X.length+2) (jC tk (d.aj.zip xs)) (d.aj.map (·.name))) ?_ (λe X h=>good C T P _ _ e X h);obtain⟨n0,yl⟩:=eX (X.length+2);obtain⟨m,hm⟩:=eX (X.length+1);rw[<-yl,<-hm]at h2 |-;clear yl hm hY g13 g14 ge lX hP lC lT f;obtain⟨lv,dv,bv,rd,rb,h⟩:=h2;have kF:=h.f.k.at (l:=S.length) (o:=.arr [d.v] 7 1) sM id;have hB:=((De.fh d).1 hd).aj.1;unfold bi at hB;simp[h.f.g2,ab,kF];refine eA (KB S d xs b C T P m n0 (jC tk (d.aj.zip xs)) (d.aj.map (·.name))) ?_ λ_ _ h=>by simp only[lS];exact h
 refine cE (I27 S d xs b C T P m n0 tk) d.aj.length _ ?_
  ⟨0,lv,dv,bv,rd,rb,sM,oM,⟨⟨h.f.k,h.f.hC,h.f.hT,h.f.box,h.f.tk,sM,sM,sM,sM⟩,h.p,h.mm,h.gl,h.gd,h.gb,h.wd,h.wb,h.hP,h.hm,h.hC,h.hT,h.dj,h.hn,sM,sM,sM⟩,rfl⟩ ?_
 .repeat' first|exact ae.gZ _|refine ae.fp (by simp[h.f.g1,h.f.g2,h.f.g4,h.f.g7,h.g13,h.g14,h.g15]) ?_
 clear h kF lv dv bv rd rb;rintro j e Y ⟨i,lv,dv,bv,rd,rb,rfl,hi,h,rfl⟩;by_cases aB:i<d.aj.length
 case neg=>
  have:i=d.aj.length:=oM;subst this;rw[gu,mJ (by simp[hx])]at h;simp;exact⟨lv,dv,bv,rd,rb,⟨h.f.to (Kp.refl (λ_=>False) _) (λ_ h=>h.elim) (by rintro t (rfl|rfl|rfl|rfl)<;>simp),h.p,h.mm,h.gl,h.gd,h.gb,h.wd,h.wb,h.hP,h.hm,h.hC,h.hT,h.dj,h.hn,sM,sM,sM⟩⟩
 have Gh:i<xs.length:=oM;obtain⟨st,bg⟩:=eX (jC tk ((d.aj.zip xs).take i))
 have wZ:jC tk ((d.aj.zip xs).take (i+1))=jD st (d.aj[i],xs[i]):=by
  rw[dN,bX (by simp;omega),iP,qls,bg];simp
 have I7:(d.aj.take (i+1)).map (·.name)=(d.aj.take i).map (·.name)++[d.aj[i].name]:=by
  rw[dN,bX aB,iP,cJ];rfl
 have jw:d.aj[i].name∉st.es.map (·.1):=by
  rw[bg,qak];intro hm
  have h1:d.aj[i].name∈(d.aj.take i).map (·.name):=by
   have:((d.aj.zip xs).take i).map (λp=>p.1.name)=(d.aj.take i).map (·.name):=by
    rw[KI,KI];congr 1;have h3:(d.aj.zip xs).map (λp=>p.1.name)=((d.aj.zip xs).map Prod.fst).map (·.name):=by rw[nJ];rfl
    rw[h3,List.map_fst_zip oM]
   rw[<-this];exact hm
  have h2:=(HO.1 (by have:=DC;rw[<-qY i d.aj,cJ]at this;exact this)).2.2;exact h2 _ h1 _ (cY.2 ⟨d.aj[i],by rw[xE aB];exact E5,rfl⟩) rfl
 have Re:st.tk.length<=899:=by
  have:=(EM tk ((d.aj.zip xs).take i)).1;rw[<-bg]at this;simp at this;omega
 rw[<-bg]at h;obtain⟨f,hf⟩:=eX (d.aj[i]);obtain⟨x,yp⟩:=eX (xs[i]);have qfo:f.name∉st.es.map (·.1):=by rw[hf];exact jw
 have qd:d.aj.length<=899:=oM;have hn:V.fZ (.agg [.str ⟨⟨[]⟩⟩,.bool false,z0,z0]) 0 4 f.v=some f.v:=by rw[aU];simp
 obtain⟨Y1,pj⟩:=eX (α:=St) (Y++[.arr [f.v] 4 1]);have k1:bz Y Y1:=by rw[pj];exact(Kp.refl _ _).push _
 have bq:Y1[Y.length]?=aJ [f.v] 4:=by rw[pj];simp
 have AH:=h.gl.at k1 (λ_ h=>h.elim);have l1:Y1.length=Y.length+1:=by rw[pj];simp
 obtain⟨DY,Y2,ha,FN,l2,k2,-⟩:=AH.nO (bytes:=16) (x:=.sl true [.str f.name]) (ys:=[.str f.name]) rfl rfl (by simp;omega) (by have:=h.hn;omega);have Lc:=k2 _ _ bq (AH.rA bq (by decide));have nz:=vw AH l2 k2;obtain⟨Y3,Q3,mm3,k3,l3⟩:=((h.mm.at k1 id).at nz (by have:=h.hm;omega)).new (x:=f.name) (by rw[hf];exact jw) (v:=x.v) (y:=x) (Ex.jq x);have H5:=k3.at Lc (by have:=h.hm;have:=h.hn;omega);have zn:∀s,fits 1 [V.str s]=true:=λ_=>rfl
 obtain⟨j1,j2,j3,j4,j5,j6⟩:=h.dj;obtain⟨QD,hmn⟩:=h.hm;have QC:=h.hP;have LP:=h.hC;have LW:=h.hT;have hYn:=h.hn;have f3:∀e',(∀t,t=1\/t=2\/t=4\/t=7->e'.get t=ae.get [(62,af i),(61,af d.aj.length),(60,ah (d.aj.map Fo.v)),(15,.map m),(14,lv),(13,ag P),(7,ag C),(4,ag (S.length+1)),(2,ag S.length),(1,.sl b (xs.map Ex.v))] t)->qt S d xs b (λx=>x∈st.tk) C T e' Y3:=λe' he=>
  ((h.f.to k1 (λ_ h=>h.elim) (λ_ _=>rfl)).up nz LP LW oM (λ_ _=>rfl)).to k3 (λl hl _=>by rw[hl];exact⟨QD,j4,j3⟩) he
 have p3:=k3.at (nz.at (k1.at h.p id) oM) j5;have Qy:=FN.at k3 (λl hl=>by omega);have AG:=((h.gd.at k1 (λ_ h=>h.elim)).other AH (by decide) k2).at k3 (λl hl=>by omega);have Qq:=((h.gb.at k1 (λ_ h=>h.elim)).other AH (by decide) k2).at k3 (λl hl=>by omega);have hw:IntKind.i64.wrap ((i:Int)+1)=((i+1:Nat):Int):=cG i;cases cF:f.value
 case false=>
  simp[zn,aB,ru aB,<-hf,aL,aI,ab,hn,<-pj,bq,ha,Lc,dP,eF,eZ,qJ Gh,<-yp,bI,Q3,H5,cF];rw[hw];have mT:jD st (d.aj[i],xs[i])=⟨st.tk,st.es++[(f.name,x)],st.ds,st.nt⟩:=by rw[jD,<-hf,<-yp,au (by simp[cF])]
  refine⟨_,?_,_,?_,i+1,DY,dv,bv,rd,rb,rfl,oM,?_,rfl⟩
  .omega
  .exact ba
  rw[wZ,mT,I7,<-hf];exact⟨f3 _ (by rintro t (rfl|rfl|rfl|rfl)<;>simp),p3,mm3,by rw[cJ];exact Qy,AG,Qq,h.wd,h.wb,h.hP,h.hm,h.hC,h.hT,h.dj,oM,sM,sM,sM⟩
 simp[zn,aB,ru aB,<-hf,aL,aI,ab,hn,<-pj,bq,ha,Lc,dP,eF,eZ,qJ Gh,<-yp,bI,Q3,H5,cF];have f3':=f3 [(1,.sl b (xs.map Ex.v)),(2,ag S.length),(4,ag (S.length+1)),(7,ag C)] (by rintro t (rfl|rfl|rfl|rfl)<;>simp);refine bE (qkK f.name 78 [ag C] (λy=>eJ y st.tk) st.tk Y3 (λy=>qyh f3'.box f3'.tk (λ_=>Iff.rfl) y) (λ_=>mU) (bF _ (by rw[hf];exact dz aB)) Re) ?_;rintro v U ⟨⟨t,rfl,ht⟩,rfl⟩;have A9:=ht.unique (VX Re);subst A9;obtain⟨t,A9⟩:=eX (CZ f.name st.tk);rw[<-A9];simp[ab,f3'.box,zn];refine bE (f3'.tk.add true [t] sM) ?_;rintro r Y4 ⟨tT,k4,l4⟩;have lq3:=aR H5;have LZ:n0<=Y.length:=hYn;have bq4:=k4.at H5 oM;have p4:=k4.at p3 j6;have V4:=Qy.at k4 (λl hl=>by omega);have Qs:=AG.at k4 (λl hl=>by omega);have V0:=Qq.at k4 (λl hl=>by omega);obtain⟨Y5,hm5,mm5,k5,l5⟩:=(mm3.at k4 j3).last qfo (v:=.agg [af 6,z0,z0,z0,z0,.str t,sN]) (y:=qk t) rfl;have Vd:=k5.at bq4 oM;have p5:=k5.at p4 j5;have gl5:=V4.at k5 (λl hl=>by omega);have LH:=Qs.at k5 (λl hl=>by omega);have Da:=V0.at k5 (λl hl=>by omega)
 have ny:rd.length<=8000:=by
  have h1:=mn List.length h.wd;simp only[bQ]at h1;have h2:=(EM tk ((d.aj.zip xs).take i)).2.2;rw[<-bg]at h2;simp at h2;have:=qd;omega
 have hrb:rb.length<=8000:=by
  have h1:=mn List.length h.wb;have LL:=mn List.length h.wd;simp only[bQ]at h1 LL;have h2:=(EM tk ((d.aj.zip xs).take i)).2;rw[<-bg]at h2;simp at h2;have:=qd;omega
 have IY:∀k,fits 7 [V.agg [af 1,.bool false,af k,.sl true [.str t],sN,sN,sN]]=true:=λ_=>rfl
 obtain⟨ti,Y6,QH,Qu,l6,k6,-⟩:=LH.nO (bytes:=120) (x:=.sl true [.agg [af 1,.bool false,af f.type,.sl true [.str t],sN,sN,sN]]) (ys:=[.agg [af 1,.bool false,af f.type,.sl true [.str t],sN,sN,sN]]) rfl (IY _) (by simp;omega) oM;have Jo:=vw LH l6 k6;have p6:=Jo.at p5 oM;have bq6:=k6 _ _ Vd (LH.rA Vd (by decide));have gl6:=gl5.other LH (by decide) k6;have Qr:=Da.other LH (by decide) k6;obtain⟨Y7,AQ⟩:=eX (Y6.set P (.arr [dm ti bv] 8 1));have k7:Kp (λk=>k=P) Y6 Y7:=by rw[AQ];exact(Kp.refl _ _).set _ (.inl rfl)
 have p7:Y7[P]?=aJ [dm ti bv] 8:=by rw[AQ];exact bO (aR p6)
 have gl7:=gl6.at k7 (λl hl=>by omega);have gd7:=Qu.at k7 (λl hl=>by omega);have V1:=Qr.at k7 (λl hl=>by omega)
 have s7:aI Y6 (eD P 6) 1 ti=some Y7:=by
  rw[AQ];obtain⟨z1,z2,z3⟩:=Qu.flat;simp[aI,p6,dm,aU,z1,z2,z3]
 have QW:fits 7 [V.agg [af 6,z0,z0,z0,z0,.str t,sN]]=true:=rfl;simp[ab,bq4,bP,bR,bI,aU,hm5,zn,IY,Vd,p5,dm,QH,s7,p7,qJ Gh,<-yp,QW];refine uc (OD x (hz _ (by rw[yp];exact dz Gh)) Y7) ⟨_,Y7,rfl,Kp.refl _ _⟩ ?_;rintro v Y8 ⟨rfl,k8⟩;have p8:=k8.at p7 id;have gl8:=gl7.at k8 (λl hl=>hl.elim);have gd8:=gd7.at k8 (λl hl=>hl.elim);have gb8:=V1.at k8 (λl hl=>hl.elim);have l7:Y7.length=Y6.length:=by rw[AQ];simp
 have l8:=k8.len;have IZ:fits 8 [V.agg [sN,af 2,.str ⟨⟨[]⟩⟩,.sl true [.agg [af 6,z0,z0,z0,z0,.str t,sN]],.sl true [x.v],sN,sN,sN]]=true:=rfl;have WR:fits 7 [x.v]=true:=by simp[fits]
 obtain⟨ju,Y9,ha9,gb9,l9,k9,-⟩:=gb8.nO (bytes:=168) (x:=.sl true [.agg [sN,af 2,.str ⟨⟨[]⟩⟩,.sl true [.agg [af 6,z0,z0,z0,z0,.str t,sN]],.sl true [x.v],sN,sN,sN]]) rfl IZ (by simp;omega) oM;have X5:=vw gb8 l9 k9;have p9:=X5.at p8 oM;have gl9:=gl8.other gb8 (by decide) k9;have gd9:=gd8.other gb8 (by decide) k9;obtain⟨zc,QF⟩:=eX (Y9.set P (.arr [dm ti ju] 8 1));have k10:Kp (λk=>k=P) Y9 zc:=by rw[QF];exact(Kp.refl _ _).set _ (.inl rfl)
 have p10:zc[P]?=aJ [dm ti ju] 8:=by rw[QF];exact bO (aR p9)
 have s10:aI Y9 (eD P 7) 1 ju=some zc:=by
  rw[QF];obtain⟨z1,z2,z3⟩:=gb9.flat;simp[aI,p9,dm,aU,z1,z2,z3]
 simp[ab,bP,bR,aU,WR,IZ,ha9,s10,dP,eF,eZ,p7,p8,dm];rw[hw];have mT:jD st (d.aj[i],xs[i])=⟨st.tk++[t],st.es++[(f.name,qk t)],st.ds++[vH f.type t],st.nt++[qB t x]⟩:=by rw[jD,<-hf,<-yp,ak cF,<-A9]
 refine⟨_,?_,_,?_,i+1,DY,ti,ju,rd++[He f.type t],rb++[Hg t x],rfl,oM,?_,rfl⟩
 .omega
 .exact ba
 rw[wZ,mT,I7,<-hf];have f4:=f3'.add (q':=λy=>y∈st.tk++[t]) k4 (tT.same λy=>by rw[cU]) j1;have f10:∀e',(∀t,t=1\/t=2\/t=4\/t=7->e'.get t=ae.get [(1,.sl b (xs.map Ex.v)),(2,ag S.length),(4,ag (S.length+1)),(7,ag C)] t)->qt S d xs b (λy=>y∈st.tk++[t]) C T e' zc:=λe' he=>
  ((((((f4.to k5 (λl hl _=>by rw[hl];exact⟨QD,j4,j3⟩) (λ_ _=>rfl)).up Jo LP LW oM (λ_ _=>rfl)).to k7 (λl hl _=>by rw[hl];exact⟨QC.1,j2,j6⟩) (λ_ _=>rfl)).to k8 (λ_ h=>h.elim) (λ_ _=>rfl)).up X5 LP LW oM (λ_ _=>rfl)).to k10 (λl hl _=>by rw[hl];exact⟨QC.1,j2,j6⟩) he)
 have qto:=((((mm5.at Jo oM).at k7 oM).at k8 id).at X5 oM).at k10 oM;have l10:zc.length=Y9.length:=by rw[QF];simp
 exact ⟨f10 _ (by rintro t (rfl|rfl|rfl|rfl) <;> simp),p10,qto,by rw[cJ];exact gl9.at k10 (λl hl=>by omega),gd9.at k10 (λl hl=>by omega),gb9.at k10 (λl hl=>by omega),
  by simp[h.wd,qjT],by simp[h.wb,qjU],h.hP,h.hm,h.hC,h.hT,h.dj,oM,sM,sM,sM⟩
def VU{nm:Bz->Bool}:∀{l:List Fo} {kC:List Bz},fi nm l kC=true->(l.map (·.name)).Nodup/\∀f,f∈l->f.name∉kC
 |[],_,_=>⟨uF,λ_ h=>by cases h⟩
 |f::l,kC,h=>by
  simp only[fi,cT,CB,List.any_eq_false,dT]at h;obtain⟨h1,h2⟩:=VU h.2;refine⟨?_,λg hg=>?_⟩
  .rw[cQ,List.nodup_cons];refine⟨λhm=>?_,h1⟩;obtain⟨g,hg,he⟩:=cY.1 hm;exact h2 g hg (by rw[he];simp)
  .rcases dU.1 hg with rfl|hg
   .exactλhm=>h.1.2 _ hm rfl
   .exactλhm=>h2 g hg (by simp[hm])
def XI(xs:List Ex)(st:XS):Prop:=(∀e,e∈st.es->e.2∈xs\/∃t,aH t=true/\e.2=qk t)/\(∀q,q∈st.ds->∃k t,aH t=true/\q=vH k t)/\∀q,q∈st.nt->∃t x,aH t=true/\x∈xs/\q=qB t x
def qlt(xs:List Ex):∀(l:List (Fo×Ex)) (st:XS),(∀p,p∈l->aH p.1.name=true/\p.2∈xs)->st.tk.length+l.length<=899->XI xs st->XI xs (l.foldl jD st)
 |[],_,_,_,h=>h
 |p::l,st,hl,ht,⟨h1,h2,h3⟩=>by
  rw[uD];rw[gq]at ht;obtain⟨n1,n2⟩:=hl p sM;have hf:=(VX (s:=p.1.name) (tk:=st.tk) oM).nm n1 oM;refine qlt xs l _ (λq hq=>hl q (by simp[hq])) ?_ ?_
  .rw[jD];split<;>simp<;>omega
  .rw[jD];split
   .refine⟨λe he=>?_,λq hq=>?_,λq hq=>?_⟩
    .rcases cU.1 he with he|he
     .exact h1 e he
     .simp at he;exact .inr ⟨_,hf,by rw[he]⟩
    .rcases cU.1 hq with hq|hq
     .exact h2 q hq
     .simp at hq;exact⟨_,_,hf,hq⟩
    .rcases cU.1 hq with hq|hq
     .exact h3 q hq
     .simp at hq;exact⟨_,_,hf,n2,hq⟩
   .refine⟨λe he=>?_,h2,h3⟩;rcases cU.1 he with he|he
    .exact h1 e he
    .simp at he;exact .inl (by rw[he];exact n2)
def qzE{d:De}{xs:List Ex}{tk:List Bz}(hn:∀f,f∈d.aj->aH f.name=true)(ht:tk.length+d.aj.length<=899):XI xs (jC tk (d.aj.zip xs)):=by
 refine qlt xs _ _ (λp hp=>?_) ?_ ⟨λ_ h=>(by cases h),λ_ h=>(by cases h),λ_ h=>(by cases h)⟩
 .obtain⟨a,b⟩:=List.of_mem_zip (a:=p.1) (b:=p.2) hp;exact⟨hn _ a,b⟩
 .simp;omega
def qtN(t:Bz):(Pa.ex (qk t)).size=1:=by
 rw[Pa.size_eq];simp[Pa.own,Pa.kids,qk,Ex.args,bk]
def qlw:∀(l:List (Fo×Ex)) (st:XS),bk ((l.foldl jD st).es.map λe=>Pa.ex e.2)<=bk (st.es.map λe=>Pa.ex e.2)+bk (l.map λp=>Pa.ex p.2)
 |[],st=>by simp
 |p::l,st=>by
  have h1:=qlw l (jD st p)
  have h2:bk ((jD st p).es.map λe=>Pa.ex e.2)<=bk (st.es.map λe=>Pa.ex e.2)+(Pa.ex p.2).size:=by
   have h3:=Pa.size_pos (.ex p.2);rw[jD];split<;>simp only[cJ,vD,cQ,nK,iN,qtN]<;>simp[bk]<;>omega
  rw[uD,cQ,iN];omega
def qzG{d:De}{xs:List Ex}{tk:List Bz}(hx:xs.length=d.aj.length):bk ((jC tk (d.aj.zip xs)).es.map λe=>Pa.ex e.2)<=bk (xs.map Pa.ex):=by
 have h1:=qlw (d.aj.zip xs) ⟨tk,[],[],[]⟩
 have h2:(d.aj.zip xs).map (λp=>Pa.ex p.2)=xs.map Pa.ex:=by
  have h3:(d.aj.zip xs).map (λp=>Pa.ex p.2)=((d.aj.zip xs).map Prod.snd).map Pa.ex:=by rw[nJ];rfl
  rw[h3,List.map_snd_zip oM]
 rw[h2]at h1;simpa[bk,jC]using h1
def qer:∀(es:List Ae),(es.flatMap λe=>e.2.gm).length<=bk (es.map λe=>Pa.ex e.2)
 |[]=>by simp
 |e::es=>by
  have h1:=Ex.R1 e.2;have h2:=qer es;rw[nl,dx,cQ,iN];omega
def qhd{t:Bz}(h:aH t=true):(qk t).ok:=by
 have:=GU h;refine⟨by unfold bi;omega,sM,trivial⟩
def qtO{t:Bz}(h:aH t=true):(Pa.ex (qk t)).err aH=0:=by
 unfold Pa.err
 have hf:(Pa.ex (qk t)).fits:=by
  unfold Pa.fits;rw[Pa.size_eq,Pa.CS];simp[Pa.own,Pa.kids,qk,Ex.args,bk,jW]
 rw[ak hf,ak (Pa.gU.2 ⟨by simp[Pa.bp,qk,Ex.bp,h],λq hq=>by simp[Pa.kids,qk,Ex.args]at hq⟩)]
def De.dy(d:De):Sm:=d.body.headD Sm.z
def db(d:De)(xs:List Ex):XS:=jC (qD d xs) (d.aj.zip xs)
def pP(o:Sm):Sm:=if o.labels=[] then o else .mk [] 8 ⟨⟨[]⟩⟩ [] [] [] [] [o]
def J7(d:De)(xs:List Ex):Sm:=tW d.dy (d.aj.map (·.name)) (db d xs).es
def Hy(d:De)(xs:List Ex):Sm:=.mk [] 7 ⟨⟨[]⟩⟩ [] [] [] (db d xs).ds ((db d xs).nt++[pP (J7 d xs)])
def J6(d:De)(xs:List Ex):Int:=
 if qS d.dy (d.aj.map (·.name)) (db d xs).es≠0 then qS d.dy (d.aj.map (·.name)) (db d xs).es else if(db d xs).ds=[] then 0 else(Pa.st (Hy d xs)).err aH
def jd(d:De)(xs:List Ex):Int:=if ja d xs≠0 then ja d xs else J6 d xs
def Af(d:De)(xs:List Ex):Sm:=if(db d xs).ds=[] then J7 d xs else Hy d xs
def gB(d:De)(xs:List Ex):V:=if jd d xs=0 then(Af d xs).v else bL
mutual
theorem qyU{m:Nat}:∀(v:V),v.weak.under m=true->v.under m=true
 |.sl x ys,h=>by
  simp only[V.weak,V.under]at h |-;exact BN ys h
 |.agg cs,h=>by
  simp only[V.weak,V.under]at h |-;exact BN cs h
 |.aV cs,h=>by
  simp only[V.weak,V.under]at h |-;exact BN cs h
 |.iface t v,h=>h
 |.cq v o,h=>h
 |.arr _ _ _ _,h=>h
 |.hG,_=>rfl
 |.bool _,_=>rfl
 |.int _ _,_=>rfl
 |.str _,_=>rfl
 |.cu,_=>rfl
 |.ptr _ _ _ _,h=>h
 |.dE _ _,_=>rfl
 |.dI,_=>rfl
 |.map _,h=>h
 |.fn _ _ _,h=>h
 |.bY,_=>rfl
 |.eB,_=>rfl
 |.dc _,h=>h
theorem BN{m:Nat}:∀(vs:List V),V.dr m (V.cR vs)=true->V.dr m vs=true
 |[],_=>rfl
 |v::vs,h=>by
  simp only[V.cR,V.dr,cT]at h |-;exact⟨qyU v h.1,BN vs h.2⟩
end
def qps{f n0:Nat}{rd rb:List V}{dv bv:V}{X:St}{R:V->St->Prop}(gd:Gr 7 n0 rd dv X)(gb:Gr 8 n0 rb bv X)(ud:V.dr 0 rd=true)(ub:V.dr 0 rb=true)
  (g:∀b b' X',X'.length=X.length->(∀k,k<n0->X'[k]?=X[k]?)->aA prog f [dm (.sl b rd) (.sl b' rb)] X' R):aA prog f [dm dv bv] X R:=by
 have step:∀(b:Bool) (X1:St),X1.length=X.length->(∀k,k<n0->X1[k]?=X[k]?)->Gr 8 n0 rb bv X1->aA prog f [dm (.sl b rd) bv] X1 R:=λb X1 hl hk Iy=>by
  rcases Iy with ⟨rfl,rfl⟩|⟨l,wr,hn,rfl,ho,hw⟩
  .exact g b true X1 hl hk
  .refine aA.freeze ho ?_
   have e:V.iR l rb wr [dm (.sl b rd) (.arr l 0 rb.length rb.length)]=[dm (.sl b rd) (ah rb)]:=by
    simp[V.iR,V.du,dm,hw,Hr (fS l) rd ud]
   rw[e];exact g b false _ (by simp[hl]) λk eU=>by rw[bG oM];exact hk k eU
 rcases gd with ⟨rfl,rfl⟩|⟨l,wr,hn,rfl,ho,hw⟩
 .exact step true X rfl (λ_ _=>rfl) gb
 .refine aA.freeze ho ?_;have ne:∀n,bv≠.arr l 0 n n:=gb.rA ho (by decide)
  have hb:bv.du l rd wr=bv:=by
   rcases gb with ⟨_,rfl⟩|⟨l2,wr2,_,rfl,wW,_⟩
   .rfl
   .simp only[V.du];rw[au (λh=>ne _ (by rw[<-h.1]))]
  have e:V.iR l rd wr [dm (.arr l 0 rd.length rd.length) bv]=[dm (ah rd) bv]:=by
   simp[V.iR,V.du,dm,hw,hb]
  rw[e];refine step false _ sM (λk eU=>by rw[bG oM]) ?_;rcases gb with h|⟨l2,wr2,h1,rfl,wW,h4⟩
  .exact .inl h
  .refine .inr ⟨l2,wr2,h1,rfl,?_,h4⟩;rw[bG (λe=>ne _ (by rw[e]))];exact wW
def zi{d:De}{xs:List Ex}(h0:ja d xs=0):d.kind=4/\(Pa.de d).err aH=0/\xs.length=d.aj.length/\d.type=0/\lu xs=0/\d.body.length=1/\fi aH d.aj []=true/\(Pa.st d.dy).valid aH=true/\d.dy∈d.body:=by
 unfold ja at h0;by_cases h1:d.kind=4
 case neg=>rw[ak h1]at h0;cases h0
 rw[au (not_not_intro h1)]at h0;by_cases h2:(Pa.de d).err aH=0
 case neg=>rw[ak h2]at h0;exact absurd h0 h2
 rw[au (not_not_intro h2)]at h0;by_cases h3:xs.length=d.aj.length
 case neg=>rw[ak h3]at h0;cases h0
 rw[au (not_not_intro h3)]at h0;by_cases h4:d.type≠0\/d.aj.any Fo.oD=true
 case pos=>rw[ak h4]at h0;cases h0
 rw[au h4]at h0;rw[not_or]at h4;have hv:=Pa.gU.1 (zh h2).2;have lR:=hv.1;simp only[Pa.bp]at lR;rw[De.me,cT]at lR;simp[h1]at lR;have nV:d.body.length=1:=lR.2.1.1.1.1.2
 have hm:d.dy∈d.body:=by
  unfold De.dy
  match hd:d.body,nV with
  |[s],_=>simp
 exact⟨h1,h2,h3,Classical.not_not.1 h4.1,h0,nV,lR.2.2,hv.2 _ (by simp[Pa.kids,hm]),hm⟩
def VC:∀{xs:List Ex},lu xs=0->∀x,x∈xs->(Pa.ex x).err aH=0
 |x::xs,h,y,hy=>by
  rw[lu]at h;by_cases he:(Pa.ex x).err aH=0
  .rw[au (not_not_intro he)]at h;rcases dU.1 hy with rfl|hy
   .exact he
   .exact VC h y hy
  .rw[ak he]at h;exact absurd h he
section
variable {d:De} {xs:List Ex} (h0:ja d xs=0) (hd:d.ok) (ho:∀x,x∈xs->x.ok) (hl:xs.length<=9) (hz:bk (xs.map Pa.ex)<=60) (bF:∀s,s∈d.body->(Pa.st s).size<150/\Sm.bH [s]<150)
include h0 hl hz bF
theorem VE:(qD d xs).length+d.aj.length<=899:=by
 obtain⟨_,_,h3,_,_,hb,_,_,hm⟩:=zi h0;obtain⟨z1,z2⟩:=bF _ hm
 have hs:d.body=[d.dy]:=by
  unfold De.dy
  match hd:d.body,hb with
  |[s],_=>rfl
 unfold qD;have h1:=List.length_filter_le (λx=>!eJ x (d.aj.map (·.name))) (d.body.flatMap λs=>s.fu++s.bounds)
 have h2:(d.body.flatMap λs=>s.fu++s.bounds).length<=300:=by
  rw[hs];have a1:=d.dy.LD;have a2:=d.dy.wz;simp;omega
 have h5:(Ex.cL xs).length<=bk (xs.map Pa.ex):=Ex.Yy xs;rw[dx];omega
include hd ho
theorem OT:XI xs (db d xs)/\(∀e,e∈(db d xs).es->e.2.ok/\(Pa.ex e.2).err aH=0)/\bk ((db d xs).es.map λe=>Pa.ex e.2)<=60/\(db d xs).es.map (·.1)=d.aj.map (·.name)/\d.dy.ok/\d.dy.fu.length+Sm.bH [d.dy]+(rJ (d.aj.map (·.name)) (db d xs).es).length<=899:=by
 obtain⟨_,_,h3,_,hx,hb,FX,_,hm⟩:=zi h0;have hI:XI xs (db d xs):=qzE (λf hf=>Is FX f hf) (VE h0 hl hz bF);have hs:bk ((db d xs).es.map λe=>Pa.ex e.2)<=60:=js (qzG h3) hz;obtain⟨z1,z2⟩:=bF _ hm;refine⟨hI,λe he=>?_,hs,?_,Sm.jQ ((De.fh d).1 hd).body.2 _ hm,?_⟩
 .rcases hI.1 e he with h|⟨t,ht,h⟩
  .exact⟨ho _ h,VC hx _ h⟩
  .rw[h];exact⟨qhd ht,qtO ht⟩
 .unfold db;rw[qak];have h4:(d.aj.zip xs).map (λp=>p.1.name)=((d.aj.zip xs).map Prod.fst).map (·.name):=by rw[nJ];rfl
  rw[h4,List.map_fst_zip oM]
 .have a1:=d.dy.LD;have a2:=qer (db d xs).es;unfold rJ;rw[dx,bQ];omega
end
def De.Eg:∀{l:List De},(∀x,x∈l->x.ok)->De.cH l
 |[],_=>by rw[De.cH];exact trivial
 |x::l,h=>by rw[De.cH];exact⟨h x sM,De.Eg λy hy=>h y (by simp[hy])⟩
def Sm.Eg:∀{l:List Sm},(∀x,x∈l->x.ok)->Sm.cH l
 |[],_=>by rw[Sm.cH];exact trivial
 |x::l,h=>by rw[Sm.cH];exact⟨h x sM,Sm.Eg λy hy=>h y (by simp[hy])⟩
def qyZ{k:Int}{t:Bz}(h:aH t=true):(vH k t).ok:=by
 have:=GU h;refine(De.fh _).2 ⟨⟨by simp[vH,De.names,bi],λs hs=>?_⟩,⟨by simp[vH,De.aw],?_⟩,⟨by simp[vH,De.aj],λx hx=>by simp[vH,De.aj]at hx⟩,⟨by simp[vH,De.body],?_⟩⟩
 .simp[vH,De.names]at hs;rw[hs];unfold bi;omega
 .exact trivial
 .exact Sm.Eg λx hx=>by simp[vH,De.body]at hx
def qmB{t:Bz}{x:Ex}(h:aH t=true)(hx:x.ok):(qB t x).ok:=
 (Sm.fh _).2 ⟨⟨by simp[qB,Sm.labels],λs hs=>by simp[qB,Sm.labels]at hs⟩,by simp[qB,Sm.text,bi];decide,⟨by simp[qB,Sm.targets,bi],qhd h,trivial⟩,⟨by simp[qB,Sm.aw,bi],hx,trivial⟩,⟨by simp[qB,Sm.elems],λx hx=>by simp[qB,Sm.elems]at hx⟩,⟨by simp[qB,Sm.decls],De.Eg λx hx=>by simp[qB,Sm.decls]at hx⟩,⟨by simp[qB,Sm.body],Sm.Eg λx hx=>by simp[qB,Sm.body]at hx⟩⟩
def Zk{k:Int}{ds:List De}{b:List Sm}(hd:ds.length<=bi)(io:∀x,x∈ds->x.ok)(hb:b.length<=bi)(jZ:∀x,x∈b->x.ok):(Sm.mk [] k ⟨⟨[]⟩⟩ [] [] [] ds b).ok:=
 (Sm.fh _).2 ⟨⟨by simp[Sm.labels],λs hs=>by simp[Sm.labels]at hs⟩,by simp[Sm.text,bi];decide,⟨by simp[Sm.targets],trivial⟩,⟨by simp[Sm.aw],trivial⟩,⟨by simp[Sm.elems],λx hx=>by simp[Sm.elems]at hx⟩,⟨hd,De.Eg io⟩,⟨hb,Sm.Eg jZ⟩⟩
def qzs{o:Sm}(h:o.ok):(pP o).ok:=by
 unfold pP;split
 .exact h
 .exact Zk sM (λx hx=>by simp at hx) (by simp[bi]) (λx hx=>by simp at hx;rw[hx];exact h)
section
variable {d:De} {xs:List Ex} (h0:ja d xs=0) (hd:d.ok) (ho:∀x,x∈xs->x.ok) (hl:xs.length<=9) (hz:bk (xs.map Pa.ex)<=60) (bF:∀s,s∈d.body->(Pa.st s).size<150/\Sm.bH [s]<150)
include h0 hl hz bF hd ho
theorem qlx:(J7 d xs).ok:=by
 obtain⟨hI,qc,tD,qg,yL,jw⟩:=OT h0 hd ho hl hz bF;obtain⟨f1,f2,f3,f4,f5,f6,f7,f8,f9⟩:=zi h0;exact Sm.qad (Zc λe he=>(qc e he).1) _ (Sm.Uw d.dy yL f8 jw)
theorem qal:(Hy d xs).ok:=by
 obtain⟨hI,qc,tD,qg,yL,jw⟩:=OT h0 hd ho hl hz bF;obtain⟨f1,f2,f3,f4,f5,f6,f7,f8,f9⟩:=zi h0;have h1:=EM (qD d xs) (d.aj.zip xs)
 have h2:(db d xs).ds.length<=9/\(db d xs).nt.length<=9:=by
  have a:=h1.2.1;have b:=h1.2.2;simp at b;unfold db;omega
 refine Zk (by unfold bi;omega) (λq hq=>?_) (by rw[dx];simp[bi];omega) (λq hq=>?_)
 .obtain⟨k,t,ht,rfl⟩:=hI.2.1 q hq;exact qyZ ht
 .rcases cU.1 hq with hq|hq
  .obtain⟨t,x,ht,hx,rfl⟩:=hI.2.2 q hq;exact qmB ht (ho x hx)
  .simp at hq;rw[hq];exact qzs (qlx h0 hd ho hl hz bF)
end
def Tm.td{fX:List (Bz×V)}{es:List Ae}(h:fX.map (λe=>(e.1,e.2.weak))=es.map λe=>(e.1,e.2.v)):(fX.map kr).map Hv=es.map td:=by
 have:=mn (List.map λe:Bz×V=>((.str e.1,e.2):V×V)) h;have h2:Go.Proofs.YtbifpocccfkhhaaGreatDoor.td=λe=>((.str e.1,e.2.v):V×V):=rfl
 rw[h2];simpa[nJ,Function.comp_def,Hv,kr,V.weak]using this
def Gr.fresh{sz n0 l:Nat}{xs:List V}{v:V}{S:St}(h:Gr sz n0 xs v S)(hl:S.length<=l)(n:Nat):v≠.arr l 0 n n:=by
 rintro rfl;rcases h with ⟨_,h⟩|⟨l',wr',_,g2,g3,_⟩
 .cases h
 .cases g2;have:=aR g3;omega
structure Uc(S:St)(d:De)(P n0 N:Nat)(dv bv wv:V)(rd rb:List V)(e:ae)(Y:St):Prop where
 k:bz (S++[.arr [d.v] 7 1,.arr [bL] 8 1]) Y
 p:Y[P]?=aJ [dm dv bv] 8
 n:Y[N]?=aJ [wv] 8
 gd:Gr 7 n0 rd dv Y
 gb:Gr 8 n0 rb bv Y
 hP:S.length+2<=P/\P<n0
 hN:n0<=N
 nb:∀n,bv≠.arr N 0 n n
 g4:e.get 4=some (ag (S.length+1))
 g13:e.get 13=some (ag P)
 g19:e.get 19=some (ag N)
def qlU(S:St)(d:De)(P n0 N:Nat)(dv bv wv:V)(rd rb:List V)(er:Int)(e:ae)(Y:St):Prop:=Uc S d P n0 N dv bv wv rd rb e Y/\e.get 20=some (af er)
def qlV(S:St)(d:De)(P n0 N:Nat)(dv bv:V)(o:Sm)(rd rb:List V)(e:ae)(Y:St):Prop:=∃wv,wv.weak=(pP o).v/\(wv.size=8/\wv.cells.all V.flat=true/\V.part wv 0 (some 8)=some wv)/\Uc S d P n0 N dv bv wv rd rb e Y
def qlT(S:St)(d:De)(P n0:Nat)(dv:V)(o:Sm)(rd rb:List V)(e:ae)(Y:St):Prop:=∃wv bv,wv.weak=(pP o).v/\bz (S++[.arr [d.v] 7 1,.arr [bL] 8 1]) Y/\Y[P]?=aJ [dm dv bv] 8/\Gr 7 n0 rd dv Y/\Gr 8 n0 (rb++[wv]) bv Y/\e.get 4=some (ag (S.length+1))/\e.get 13=some (ag P)
def qy7(d:De)(hd:d.ok)(b:Bool)(xs:List Ex)(ho:∀x,x∈xs->x.ok)(hl:xs.length<=9)(hz:bk (xs.map Pa.ex)<=60)(bF:∀s,s∈d.body->(Pa.st s).size<150/\Sm.bH [s]<150)(h0:ja d xs=0)(S:St){C T P m n0:Nat}{e:ae}{X:St}
  (a1 a2 a3 a4 a5 a6 a7 a8 a9 mh mi a12 t:C') (hc:yU.c.body=.seq a1 (.seq a2 (.seq a3 (.seq a4 (.seq a5 (.seq a6 (.seq a7 (.seq a8 (.seq a9 (.seq mh (.seq mi (.seq a12 t))))))))))))
  (h:KB S d xs b C T P m n0 (db d xs) (d.aj.map (·.name)) e X):
  WP prog t (eN [.cell 4 (some 8),.t 5] S.length (λr U=>r=.aV [gB d xs,af (jd d xs)]/\bz S U)) e X:=by
 simp only[yU,fW,C'.seq.injEq]at hc;obtain⟨-,-,-,-,-,-,-,-,-,-,-,-,rfl⟩:=hc;obtain⟨lv,dv,bv,rd,rb,h⟩:=h;obtain⟨f1,f2,f3,f4,f5,f6,f7,f8,f9⟩:=zi h0;obtain⟨hI,qc,tD,qg,yL,jw⟩:=OT h0 hd ho hl hz bF;obtain⟨z1,z2⟩:=bF _ f9;have kF:=h.f.k.at (l:=S.length) (o:=.arr [d.v] 7 1) sM id;have AV:0<d.body.length:=oM
 have hs:d.body=[d.dy]:=by
  unfold De.dy
  match hd:d.body,f6 with
  |[s],_=>rfl
 have uZ:d.body[0]=d.dy:=by simp[hs]
 obtain⟨o,MY⟩:=eX (tW d.dy (d.aj.map (·.name)) (db d xs).es);obtain⟨er,tq⟩:=eX (qS d.dy (d.aj.map (·.name)) (db d xs).es);obtain⟨vv,tG⟩:=eX (sR d.dy (d.aj.map (·.name)) (db d xs).es)
 have call:aA prog 81 [d.dy.v,lv,.map m] X (λr U=>r=.aV [vv,af er]/\(∃X1:St,X1.length=X.length/\(∀k o,X[k]?=some o->(∀n,lv≠.arr k 0 n n)->X1[k]?=some o)/\Kp (λk=>k=m) X1 U)):=by
  refine aA.gr (pre:=[d.dy.v]) (post:=[.map m]) h.gl (λl wr=>?_) λb' X1 x0 hk=>?_
  .simp only[dR,ig,V.iR,OJ (fS l) d.dy.v (Sm.eE d.dy)];rfl
  .obtain⟨fX,bs,ck,bg,iT,hm,qfT⟩:=h.mm
   have A5:=hk m _ hm λn e=>by
    rcases h.gl with ⟨_,h1⟩|⟨l,wr,_,h1,h2,_⟩
    .rw[h1]at e;cases e
    .rw[h1]at e;cases e;rw[hm]at h2;cases h2
   refine aA.qaa A5 ?_;rw[Tm.td qfT];have hlen:(db d xs).es.length=fX.length:=by have:=mn List.length qfT;simpa using this.symm
   refine(qyi d.dy yL f8 oM b' (d.aj.map (·.name)) (db d xs).es (by simp;omega) (λe he=>?_) (λe he=>(qc e he).1) jw m bs ck bg oM _ (bO (aR A5))).mono ?_
   .obtain⟨i,hi⟩:=qX.1 he;have:=nc (l:=(db d xs).es.map λe=>Pa.ex e.2) (i:=i) (q:=Pa.ex e.2) (by rw[dS,hi];rfl);omega
   .rintro r U ⟨rfl,kU⟩;refine⟨by rw[tG,tq],X1,x0,hk,⟨by have:=kU.len;simpa using this,λl sj bZ=>?_⟩⟩;rw[kU.get l (by simpa using sj) id,bG (λe=>bZ e.symm)]
 obtain⟨j1,j2,j3,j4,j5,j6⟩:=h.dj;obtain⟨QD,hmn⟩:=h.hm;have QC:=h.hP;have LP:=h.hC;have LW:=h.hT;have hXn:=h.hn
 have z8:vv.size=8/\vv.cells.all V.flat=true/\V.part vv 0 (some 8)=some vv:=by
  rw[tG];unfold sR;split
  .exact⟨Sm.iF _,sM,yF _⟩
  .exact⟨rfl,rfl,rfl⟩
 have mT:jd d xs=J6 d xs:=by unfold jd;rw[au (not_not_intro h0)]
 have kK:J6 d xs=if er≠0 then er else if(db d xs).ds=[] then 0 else(Pa.st (Hy d xs)).err aH:=by rw[tq];rfl
 have fin:∀(Y:St) (y:V) (e1:Int) (ev:ae),bz (S++[.arr [d.v] 7 1,.arr [bL] 8 1]) Y->gB d xs=y->jd d xs=e1->ev.get 4=some (ag (S.length+1))->ev.get 5=some (af e1)->V.part y 0 (some 8)=some y->
   eN [.cell 4 (some 8),.t 5] S.length (λr U=>r=.aV [gB d xs,af (jd d xs)]/\bz S U) .ret ev (Y.set (S.length+1) (.arr [y] 8 1)):=λY y e1 ev kY hy he g4 g5 hp=>by
  have h1:=kY.at (l:=S.length+1) (o:=.arr [bL] 8 1) (by rw[cx oM];simp) id;have h2:(Y.set (S.length+1) (.arr [y] 8 1))[S.length+1]?=aJ [y] 8:=bO (aR h1);exact bu (vs:=[y,af e1]) (by simp[eL,g4,g5,ab,h2,hp]) ⟨by rw[hy,he];rfl,(((Kp.refl _ _).push _).trans kY).set _ (.inr oM)⟩
 have Hn:∀(Y:St) (y:V),bz (S++[.arr [d.v] 7 1,.arr [bL] 8 1]) Y->(y.size=8/\y.cells.all V.flat=true/\V.part y 0 (some 8)=some y)->aI Y (ag (S.length+1)) 8 y=some (Y.set (S.length+1) (.arr [y] 8 1)):=λY y kY y8=>by
  have h1:=kY.at (l:=S.length+1) (o:=.arr [bL] 8 1) (by rw[cx oM];simp) id;unfold bL at h1;simp[aI,h1,aU,y8]
 refine cS (λe Y=>∃N,qlU S d P n0 N dv bv vv rd rb er e Y) ?_ ?_
 .simp[h.f.g2,ab,kF,Bg AV,uZ,h.g14,h.g15];refine bE call ?_;rintro r U ⟨rfl,X1,X8,bW,kU⟩;have kn1:=vw h.gl oM bW;have fU:=(h.f.up kn1 LP LW oM (λ_ _=>rfl)).to kU (λl hl _=>by rw[hl];exact⟨QD,j4,j3⟩) (λ_ _=>rfl);have pU:=kU.at (kn1.at h.p oM) j5;have V2:=(h.gd.other h.gl (by decide) bW).at kU (λl hl=>by omega);have LG:=(h.gb.other h.gl (by decide) bW).at kU (λl hl=>by omega);have lU:=kU.len;simp[aL,aI,aU,z8];have kP:bz U (U++[.arr [vv] 8 1]):=(Kp.refl _ _).push _;exact⟨U.length,⟨fU.k.trans kP,kP.at pU id,sM,V2.at kP (λl hl=>hl.elim),LG.at kP (λl hl=>hl.elim),QC,oM,LG.fresh cz,by simp[h.f.g4],by simp[h.g13],sM⟩,sM⟩
 clear call;rintro e1 Y ⟨N,r,g20⟩;have Yk:rd.length=(db d xs).ds.length:=by have:=mn List.length h.wd;simpa using this
 refine cS (λe' Y'=>(Y'=Y/\er=0/\rd.length≠0)/\Uc S d P n0 N dv bv vv rd rb e' Y') ?_ ?_
 .have Dy:sG dv=some (af rd.length):=by
   rcases r.gd with ⟨e1,e2⟩|⟨_,_,_,e2,_⟩
   .rw[e1,e2];rfl
   .rw[e2];rfl
  have out:∀(ev:ae),gB d xs=vv->jd d xs=er->ev.get 4=some (ag (S.length+1))->ev.get 5=some (af er)->eN [.cell 4 (some 8),.t 5] S.length (λr U=>r=.aV [gB d xs,af (jd d xs)]/\bz S U) .ret ev (Y.set (S.length+1) (.arr [vv] 8 1)):=λev h1 h2 g4 g5=>fin Y vv er ev r.k h1 h2 g4 g5 z8.2.2
  by_cases he:er=0
  case neg=>
   have pH:jd d xs=er:=by rw[mT,kK,ak he]
   have nY:gB d xs=vv:=by
    unfold gB;rw[pH,au he,tG];unfold sR;rw[<-tq,au he]
   simp[g20,he,r.g19,ab,r.n,z8,r.g4,Hn _ _ r.k z8];exact out _ nY pH (by simp[r.g4]) sM
  by_cases ny:rd.length=0
  case pos=>
   have io:(db d xs).ds=[]:=KE oM;have pH:jd d xs=er:=by rw[mT,kK,au (not_not_intro he),ak io,he]
   have nY:gB d xs=vv:=by
    unfold gB;rw[pH,ak he,tG];unfold sR Af;rw[<-tq,ak he,ak io];rfl
   simp[g20,he,r.g13,r.g19,ab,r.n,r.p,dm,↓jm,Dy,ny,z8,r.g4,Hn _ _ r.k z8];exact out _ nY pH (by simp[r.g4]) (by simp[he])
  simp[g20,he,r.g13,r.g19,ab,r.n,r.p,dm,↓jm,Dy,ny,show ¬((rd.length:Int)=0) by omega];exact⟨r.k,r.p,r.n,r.gd,r.gb,r.hP,r.hN,r.nb,by simp[r.g4],by simp[r.g13],by simp[r.g19]⟩
 clear r g20 e1;rintro e1 Y' ⟨⟨rfl,he,ny⟩,r⟩;have Gn:vv=o.v:=by rw[tG];unfold sR;rw[<-tq,ak he,<-MY]
 have lo:Y'[N]?=aJ [o.v] 8:=by rw[<-Gn];exact r.n
 refine cS (qlV S d P n0 N dv bv o rd rb) ?_ ?_
 .by_cases nW:o.labels=[]
  .have hw:pP o=o:=by unfold pP;rw[ak nW]
   simp[r.g19,ab,lo,nW];exact⟨vv,by rw[hw,Gn,Sm.jq],z8,r.k,r.p,r.n,r.gd,r.gb,r.hP,r.hN,r.nb,by simp[r.g4],by simp[r.g13],by simp[r.g19]⟩
  .have hw:pP o=.mk [] 8 ⟨⟨[]⟩⟩ [] [] [] [] [o]:=by unfold pP;rw[au nW]
   have W7:0<o.labels.length:=List.length_pos_iff.2 nW;have mN:fits 8 [o.v]=true:=by simp[fits]
   have sA:aI Y' (ag N) 8 (.agg [sN,af 8,.str ⟨⟨[]⟩⟩,sN,sN,sN,sN,.sl true [o.v]])=some (Y'.set N (.arr [.agg [sN,af 8,.str ⟨⟨[]⟩⟩,sN,sN,sN,sN,.sl true [o.v]]] 8 1)):=by
    simp[aI,lo,vG,aU]
   simp[r.g19,ab,lo,W7,bP,bR,aU,mN,sA];have Wq:P≠N:=by have:=r.hP;have:=r.hN;omega
   have kN:Kp (λk=>k=N) Y' (Y'.set N (.arr [.agg [sN,af 8,.str ⟨⟨[]⟩⟩,sN,sN,sN,sN,.sl true [o.v]]] 8 1)):=(Kp.refl _ _).set _ (.inl rfl);refine⟨.agg [sN,af 8,.str ⟨⟨[]⟩⟩,sN,sN,sN,sN,.sl true [o.v]],?_,⟨rfl,rfl,rfl⟩,?_,kN.at r.p Wq,bO (aR r.n),?_,?_,r.hP,r.hN,r.nb,by simp[r.g4],by simp[r.g13],by simp[r.g19]⟩
   .rw[hw,Sm.eW (.mk [] 8 ⟨⟨[]⟩⟩ [] [] [] [] [o])];show V.agg [_,_,_,_,_,_,_,ah [o.v.weak]]=V.agg [_,_,_,_,_,_,_,ah [o.v]];rw[Sm.jq];rfl
   .exact r.k.set _ (.inr (by have:=r.hN;have:=r.hP;simp;omega))
   .rcases r.gd with hh|⟨l,wr,c1,rfl,c3,c4⟩
    .exact .inl hh
    .refine .inr ⟨l,wr,c1,rfl,?_,c4⟩;rw[bG (λe=>r.gd.rA lo (by decide) rd.length (by rw[e]))];exact c3
   .rcases r.gb with hh|⟨l,wr,c1,rfl,c3,c4⟩
    .exact .inl hh
    .refine .inr ⟨l,wr,c1,rfl,?_,c4⟩;rw[bG (λe=>r.nb rb.length (by rw[e]))];exact c3
 clear r lo Gn e1 Y';rintro e1 Y ⟨wv,Ba,w8,r⟩
 have FY:fits 8 [wv]=true:=by
  unfold fits;rw[Ak,w8.1,w8.2.1];rfl
 have hrb:rb.length<=899:=by
  have h1:=mn List.length h.wb;simp only[bQ]at h1;have h2:=EM (qD d xs) (d.aj.zip xs);have h3:rb.length=(db d xs).nt.length:=h1
  have h4:(db d xs).ds.length<=d.aj.length:=by
   have:=h2.2.2;simp at this;unfold db;omega
  have h5:(db d xs).ds.length=(db d xs).nt.length:=h2.2.1;omega
 obtain⟨ju,Y2,ha,AE,l2,k2,-⟩:=r.gb.nO (bytes:=168) (x:=.sl true [wv]) (ys:=[wv]) rfl FY (by simp;omega) (by have:=r.hN;have:=aR r.n;omega);have nz:=vw r.gb l2 k2;have p2:=nz.at r.p (by have:=r.hP;omega);have FK:=r.gd.other r.gb (by decide) k2;obtain⟨Y3,nR⟩:=eX (Y2.set P (.arr [dm dv ju] 8 1));have k3:Kp (λk=>k=P) Y2 Y3:=by rw[nR];exact(Kp.refl _ _).set _ (.inl rfl)
 have s3:aI Y2 (eD P 7) 1 ju=some Y3:=by
  rw[nR];obtain⟨z1,z2,z3⟩:=AE.flat;simp[aI,p2,dm,aU,z1,z2,z3]
 refine cS (qlT S d P n0 dv o rd rb) ?_ ?_
 .simp[r.g13,r.g19,ab,r.p,dm,r.n,w8,FY,ha,s3];refine⟨wv,ju,Ba,?_,by rw[nR];exact bO (aR p2),FK.at k3 (λl hl=>by have:=r.hP;omega),AE.at k3 (λl hl=>by have:=r.hP;omega),by simp[r.g4],by simp[r.g13]⟩;have hP:=r.hP;refine⟨by have:=r.k.len;have:=k3.len;omega,λl hl _=>?_⟩;have cj:l<S.length+2:=by simpa using hl
  have:=r.k.len;simp at this;rw[k3.get l oM oM,nz.get l oM oM,r.k.get l hl id]
 clear r ha AE l2 k2 nz p2 FK nR k3 s3 w8 Ba FY e1 Y Y2 Y3 ju wv;rintro e1 Y ⟨wv,ju,Ba,kY,pY,LJ,Iz,g4,g13⟩;obtain⟨nP,AW⟩:=eX (Hy d xs);have io:(db d xs).ds≠[]:=λhd=>ny (by rw[Yk,hd];rfl)
 have wd:=h.wd;have wb:(rb++[wv]).map V.weak=((db d xs).nt++[pP o]).map Sm.v:=by rw[cJ,cJ,h.wb];simp[Ba]
 have ud:V.dr 0 rd=true:=BN _ (by
  rw[iO,wd]
  exact BM λv hv=>by
   obtain⟨q,_,rfl⟩:=cY.1 hv;exact De.eE q)
 have ub:V.dr 0 (rb++[wv])=true:=BN _ (by
  rw[iO,wb]
  exact BM λv hv=>by
   obtain⟨q,_,rfl⟩:=cY.1 hv;exact Sm.eE q)
 have Va:nP.ok:=by rw[AW];exact qal h0 hd ho hl hz bF
 have qdI:aA prog 82 [dm dv ju] Y (λr U=>r=.aV [if(Pa.st nP).err aH=0 then nP.v else bL,af ((Pa.st nP).err aH)]/\∃X1:St,X1.length=Y.length/\(∀k,k<n0->X1[k]?=Y[k]?)/\bz X1 U):=by
  refine qps LJ Iz ud ub λb1 b2 X1 sj bW=>aA.yR ?_
  have e:V.cR [dm (.sl b1 rd) (.sl b2 (rb++[wv]))]=[nP.v]:=by
   rw[AW,Sm.eW];show [V.agg [ah [],af 7,.str ⟨⟨[]⟩⟩,ah [],ah [],ah [],ah (V.cR rd),ah (V.cR (rb++[wv]))]]=[V.agg [ah [],af 7,.str ⟨⟨[]⟩⟩,ah [],ah [],ah [],ah ((db d xs).ds.map De.v),ah (((db d xs).nt++[pP (J7 d xs)]).map Sm.v)]];rw[iO,iO,wd,wb,MY];rfl
  rw[e];exact(ZD nP Va X1).mono λr U hr=>⟨hr.1,X1,sj,bW,hr.2⟩
 have pb:V.part (dm dv ju) 0 (some 8)=some (dm dv ju):=by
  obtain⟨q1,q2,q3⟩:=LJ.flat;obtain⟨q4,q5,q6⟩:=Iz.flat;simp[V.part,dm,V.size,V.isAgg,q1,q4]
 have X6:ab Y (ag P) (some 8)=some (dm dv ju):=by simp[ab,pY,pb]
 have b8:∀v,v=(if(Pa.st nP).err aH=0 then nP.v else bL)->v.size=8/\v.cells.all V.flat=true/\V.part v 0 (some 8)=some v:=by
  rintro v rfl;split
  .exact⟨Sm.iF _,sM,yF _⟩
  .exact⟨rfl,rfl,rfl⟩
 obtain⟨ov,yn⟩:=eX ((if(Pa.st nP).err aH=0 then nP.v else bL));have o8:=b8 ov yn;rw[<-yn]at qdI;simp[g13,X6];refine bE qdI ?_;rintro r U ⟨rfl,X1,sj,bW,kU⟩
 have mV:bz (S++[.arr [d.v] 7 1,.arr [bL] 8 1]) U:=by
  refine⟨by have:=kY.len;have:=kU.len;omega,λl hl _=>?_⟩;have cj:l<S.length+2:=by simpa using hl
  have:=kY.len;simp at this;rw[kU.get l oM id,bW l oM,kY.get l hl id]
 have pH:jd d xs=(Pa.st nP).err aH:=by rw[mT,kK,au (not_not_intro he),au io,AW]
 have nY:gB d xs=ov:=by
  unfold gB Af;rw[pH,au io,yn,AW]
 simp[g4,Hn _ _ mV o8];exact fin U ov _ _ mV nY pH (by simp[g4]) sM o8.2.2
def qxX(d:De)(hd:d.ok)(b:Bool)(xs:List Ex)(ho:∀x,x∈xs->x.ok)(hl:xs.length<=9)(hz:bk (xs.map Pa.ex)<=60)(bF:∀s,s∈d.body->(Pa.st s).size<150/\Sm.bH [s]<150)(S:St):
  aA prog 27 [d.v,.sl b (xs.map Ex.v)] S (λr U=>r=.aV [gB d xs,af (jd d xs)]/\bz S U):=by
 refine aA.ib yU ?_;obtain⟨a1,a2,a3,a4,a5,a6,a7,a8,a9,mh,mi,a12,t,hc⟩:∃a1 a2 a3 a4 a5 a6 a7 a8 a9 mh mi a12 t,yU.c.body=.seq a1 (.seq a2 (.seq a3 (.seq a4 (.seq a5 (.seq a6 (.seq a7 (.seq a8 (.seq a9 (.seq mh (.seq mi (.seq a12 t))))))))))):=⟨_,_,_,_,_,_,_,_,_,_,_,_,_,rfl⟩;refine qy5 d hd b xs oM ho oM (λs hs=>by have:=bF s hs;omega) S _ (λh U kU=>?_) (λh0 C T e X f=>?_) a1 a2 a3 a4 a5 a6 a7 a8 hc
 .have h1:jd d xs=ja d xs:=by unfold jd;rw[ak h]
  refine⟨?_,kU⟩;unfold gB;rw[h1,au h]
 .obtain⟨f1,f2,f3,f4,f5,f6,f7,f8,f9⟩:=zi h0
  exact qy6 d hd b xs ho f3 (λx hx=>by
   obtain⟨i,hi⟩:=qX.1 hx;have:=nc (l:=xs.map Pa.ex) (i:=i) (q:=Pa.ex x) (by rw[dS,hi];rfl);omega) S _ (qD d xs) (VE h0 hl hz bF) (VU f7).1 (λf hf=>GU (Is f7 f hf)) a1 a2 a3 a4 a5 a6 a7 a8 a9 mh mi a12 t hc (λC T P m n0 e X h=>qy7 d hd b xs ho hl hz bF h0 S a1 a2 a3 a4 a5 a6 a7 a8 a9 mh mi a12 t hc h) f
structure Ah(S:St)(d:De)(xs:List Ex)(b:Bool)(e:ae)(X:St):Prop where
 k:bz (S++[.arr [d.v] 7 1,.arr [bL] 8 1]) X
 g1:e.get 1=some (.sl b (xs.map Ex.v))
 g2:e.get 2=some (ag S.length)
 g4:e.get 4=some (ag (S.length+1))
def PC(S:St)(d:De)(xs:List Ex)(b:Bool)(e:ae)(X:St):Prop:=∃lv,Ah S d xs b e X/\Gr 1 (S.length+2) ((d.aj.map (·.name)).map .str) lv X/\e.get 7=some lv
def qcJ(S:St)(d:De)(xs:List Ex)(b:Bool)(e:ae)(X:St):Prop:=PC S d xs b e X/\e.get 8=some (.bool (decide (d.type≠0)||d.aj.any Fo.oD))
def I28(S:St)(d:De)(xs:List Ex)(b:Bool)(j:Nat)(e:ae)(Y:St):Prop:=
 ∃(i:Nat) (lv:V),j=d.aj.length-i/\i<=d.aj.length/\Ah S d xs b e Y/\Gr 1 (S.length+2) (((d.aj.take i).map (·.name)).map .str) lv Y/\
  e=[(9,af i),(8,.bool (decide (d.type≠0)||(d.aj.take i).any Fo.oD)),(7,lv),(4,ag (S.length+1)),(2,ag S.length),(1,.sl b (xs.map Ex.v))]
def qy8(d:De)(hd:d.ok)(b:Bool)(xs:List Ex)(hl:xs.length<=1000)(ho:∀x,x∈xs->x.ok)(S:St)(R:V->St->Prop)
  (bad:ja d xs≠0->∀U,bz S U->R (.aV [bL,af (ja d xs)]) U) {t:C'}
  (good:ja d xs=0->∀e X,PC S d xs b e X->WP prog t (eN [.cell 4 (some 8),.t 5] S.length R) e X) (a1 a2 a3 a4 a5 a6 a7 a8 a9 mh mi:C')
  (hc:vU.c.body=.seq a1 (.seq a2 (.seq a3 (.seq a4 (.seq a5 (.seq a6 (.seq a7 (.seq a8 (.seq a9 (.seq mh (.seq mi t))))))))))):
  WP prog vU.c.body (eN [.cell 4 (some 8),.t 5] S.length R) (jV 0 [d.v,.sl b (xs.map Ex.v)]) S:=by
 have hO:=(De.fh d).1 hd;have hB:=hO.aj.1;unfold bi at hB;obtain⟨S1,bB⟩:=eX (α:=St) (S++[.arr [d.v] 7 1,.arr [bL] 8 1]);have b0:S1[S.length]?=aJ [d.v] 7:=by rw[bB];simp
 have b1:S1[S.length+1]?=aJ [bL] 8:=by rw[bB,cx oM];simp
 have l1:S1.length=S.length+2:=by rw[bB];simp
 have kS:bz S S1:=by rw[bB];exact(Kp.refl _ _).push _
 simp only[vU,fW,C'.seq.injEq]at hc;obtain⟨rfl,rfl,rfl,rfl,rfl,rfl,rfl,rfl,rfl,rfl,rfl,rfl⟩:=hc;simp only[vU,fW];have hE:ja d xs=if d.kind≠4 then 5 else if(Pa.de d).err aH≠0 then(Pa.de d).err aH else if xs.length≠d.aj.length then 5 else if d.type≠0\/d.aj.any Fo.oD=true then 10 else lu xs:=rfl
 obtain⟨r,hr⟩:=eX (ja d xs);rw[<-hr]at hE bad good
 have OH:∀Y,bz S1 Y->aI Y (ag (S.length+1)) 8 zS=some (Y.set (S.length+1) (.arr [bL] 8 1)):=λY kY=>by
  have h1:=kY.at b1 id;simp[aI,h1,bL,aU]
 have fin:∀(Y:St) (e1:Int) (ev:ae),bz S1 Y->r=e1->e1≠0->ev.get 4=some (ag (S.length+1))->ev.get 5=some (af e1)->eN [.cell 4 (some 8),.t 5] S.length R .ret ev (Y.set (S.length+1) (.arr [bL] 8 1)):=λY e1 ev kY he h0 g4 g5=>by
  have h1:=kY.at b1 id;have h2:(Y.set (S.length+1) (.arr [bL] 8 1))[S.length+1]?=aJ [bL] 8:=bO (aR h1);refine bu (vs:=[bL,af e1]) (by simp[eL,ab,g4,g5,h2];rfl) ?_;have:=bad (by rw[he];exact h0) (Y.set (S.length+1) (.arr [bL] 8 1)) ((kS.trans kY).set _ (.inr oM));rw[he]at this;exact this
 refine cS (λe U=>U=S1/\e.get 1=some (.sl b (xs.map Ex.v))/\e.get 2=some (ag S.length)/\e.get 4=some (ag (S.length+1))) (by rw[bB];simp[aL,jV]) ?_;rintro e U ⟨rfl,g1,g2,g4⟩;by_cases h1:d.kind=4
 case neg=>
  rw[ak h1]at hE;simp[g1,g2,g4,ab,b0,h1,bP,bR,OH _ (Kp.refl _ _)];exact fin _ 5 _ (Kp.refl _ _) hE (by decide) (by simp[g4]) sM
 rw[au (not_not_intro h1)]at hE;refine cS (λe X=>X=U/\e.get 1=some (.sl b (xs.map Ex.v))/\e.get 2=some (ag S.length)/\e.get 4=some (ag (S.length+1))) (by simp[g1,g2,g4,ab,b0,h1]) ?_;clear g1 g2 g4 e;rintro e X ⟨rfl,g1,g2,g4⟩;refine cS (λe Y=>Y=X/\e.get 1=some (.sl b (xs.map Ex.v))/\e.get 2=some (ag S.length)/\e.get 4=some (ag (S.length+1))/\e.get 6=some (af ((Pa.de d).err aH))) ?_ ?_
 .simp[g1,g2,g4,ab,b0];refine aZ (qyj d hd _) ?_;simp[g1,g2,g4]
 clear g1 g2 g4 e;rintro e Y ⟨rfl,g1,g2,g4,g6⟩;refine cS (λe X=>(X=Y/\(Pa.de d).err aH=0)/\e.get 1=some (.sl b (xs.map Ex.v))/\e.get 2=some (ag S.length)/\e.get 4=some (ag (S.length+1))) ?_ ?_
 .by_cases h2:(Pa.de d).err aH=0
  .simp[g6,h2,g1,g2,g4]
  .rw[ak h2]at hE;simp[g6,h2,g1,g2,g4,bP,bR,OH _ (Kp.refl _ _)];exact fin _ _ _ (Kp.refl _ _) hE h2 (by simp[g4]) sM
 clear g1 g2 g4 g6 e;rintro e X ⟨⟨rfl,h2⟩,g1,g2,g4⟩;rw[au (not_not_intro h2)]at hE;refine cS (λe Y=>(Y=X/\xs.length=d.aj.length)/\e.get 1=some (.sl b (xs.map Ex.v))/\e.get 2=some (ag S.length)/\e.get 4=some (ag (S.length+1))) ?_ ?_
 .by_cases h3:xs.length=d.aj.length
  .simp[h3,g1,g2,g4,ab,b0]
  .rw[ak h3]at hE;simp[g1,g2,g4,ab,b0,show ¬((xs.length:Int)=d.aj.length) by omega,bP,bR,OH _ (Kp.refl _ _)];exact fin _ 5 _ (Kp.refl _ _) hE (by decide) (by simp[g4]) sM
 clear g1 g2 g4 e;rintro e Y ⟨⟨rfl,h3⟩,g1,g2,g4⟩;rw[au (not_not_intro h3)]at hE;refine cS (λe X=>X=Y/\e.get 1=some (.sl b (xs.map Ex.v))/\e.get 2=some (ag S.length)/\e.get 4=some (ag (S.length+1))/\e.get 7=some sN) (by simp[g1,g2,g4]) ?_;clear g1 g2 g4 e;rintro e X ⟨rfl,g1,g2,g4,g7⟩;refine cS (λe Y=>Y=X/\e.get 1=some (.sl b (xs.map Ex.v))/\e.get 2=some (ag S.length)/\e.get 4=some (ag (S.length+1))/\e.get 7=some sN/\e.get 8=some (.bool (decide (d.type≠0)))) (by simp[g1,g2,g4,g7,ab,b0]) ?_;clear g1 g2 g4 g7 e;rintro e Y ⟨rfl,g1,g2,g4,g7,g8⟩;refine cS (qcJ S d xs b) ?_ ?_
 .simp;refine eA (qcJ S d xs b) ?_ λ_ _ h=>by simp only[lS];exact h
  refine cE (I28 S d xs b) d.aj.length _ ?_ ⟨0,sN,sM,oM,⟨by rw[<-bB];exact Kp.refl _ _,sM,sM,sM⟩,Gr.nil _ _ _,rfl⟩ ?_
  .repeat' first|exact ae.gZ _|refine ae.fp (by simp[g1,g2,g4,g7,g8]) ?_
  clear g1 g2 g4 g7 g8 e;rintro j e Z ⟨i,lv,rfl,hi,f,gl,rfl⟩;have kF:=f.k.at (l:=S.length) (o:=.arr [d.v] 7 1) sM id;have hZl:=f.k.len;simp at hZl;by_cases aB:i<d.aj.length
  case neg=>
   have:i=d.aj.length:=oM;subst this;rw[gu]at gl;simp[ab,kF];exact⟨⟨lv,⟨f.k,sM,sM,sM⟩,gl,sM⟩,sM⟩
  obtain⟨fo,FX⟩:=eX (d.aj[i]);obtain⟨kb,hkb⟩:=eX ((decide (d.type≠0)||(d.aj.take i).any Fo.oD))
  have qqT:(decide (d.type≠0)||(d.aj.take (i+1)).any Fo.oD)=(kb||fo.oD):=by
   rw[dN,bX aB,iP,EX,hkb,FX,nh];simp
  have I7:((d.aj.take (i+1)).map (·.name)).map V.str=((d.aj.take i).map (·.name)).map .str++[.str fo.name]:=by
   rw[dN,bX aB,iP,cJ,cJ,FX];rfl
  obtain⟨DY,Z2,ha,FN,l2,k2,-⟩:=gl.nO (bytes:=16) (x:=.sl true [.str fo.name]) (ys:=[.str fo.name]) rfl rfl (by simp;omega) oM;have nz:=vw gl l2 k2;have jO:=nz.at kF oM;have zn:∀s,fits 1 [V.str s]=true:=λ_=>rfl
  have hw:IntKind.i64.wrap ((i:Int)+1)=((i+1:Nat):Int):=cG i
  have done:∀(e':ae),ae.sub [(9,af ((i+1:Nat):Int)),(8,.bool (kb||fo.oD)),(7,DY),(4,ag (S.length+1)),(2,ag S.length),(1,.sl b (xs.map Ex.v))] e'->∃n',n'<d.aj.length-i/\∃e'',ae.sub e'' e'/\I28 S d xs b n' e'' Z2:=λe' hs=>by
   refine⟨_,?_,_,hs,i+1,DY,rfl,oM,⟨?_,sM,sM,sM⟩,by rw[I7];exact FN,by rw[qqT]⟩
   .omega
   .refine⟨by have:=nz.len;simp;omega,λl hl _=>?_⟩;have cj:l<S.length+2:=by simpa using hl
    rw[nz.get l oM oM,f.k.get l hl id]
  rw[<-hkb];unfold Fo.oD at done;cases kb<;>cases hv:fo.value<;>by_cases yo:fo.spec=2<;>simp[ab,kF,aB,ru aB,<-FX,zn,ha,jO,hv,yo]<;>rw[hw]<;>refine done _ ?_<;>repeat' first|exact ae.gZ _|refine ae.fp (by simp[hv,yo]) ?_
 clear g1 g2 g4 g7 g8 e;rintro e X ⟨⟨lv,f,gl,g7⟩,g8⟩;refine cS (λe Y=>(Y=X/\¬(d.type≠0\/d.aj.any Fo.oD=true))/\e.get 1=some (.sl b (xs.map Ex.v))/\e.get 2=some (ag S.length)/\e.get 4=some (ag (S.length+1))/\e.get 7=some lv) ?_ ?_
 .have fk:=f.k;rw[<-bB]at fk;by_cases h4:d.type≠0\/d.aj.any Fo.oD=true
  .rw[ak h4]at hE
   have:(decide (d.type≠0)||d.aj.any Fo.oD)=true:=by
    rw[CC,dT];exact h4
   rw[this]at g8;simp[g8,f.g4,bP,bR,OH _ fk];exact fin _ 10 _ fk hE (by decide) (by simp[f.g4]) sM
  .have:(decide (d.type≠0)||d.aj.any Fo.oD)=false:=by
    rw[vS,decide_eq_false_iff_not];rw[not_or]at h4;exact⟨h4.1,by cases hh:d.aj.any Fo.oD;rfl;exact absurd hh h4.2⟩
   rw[this]at g8;rw[not_or]at h4;have h41:d.type=0:=Classical.not_not.1 h4.1;simp[g8,f.g1,f.g2,f.g4,g7,h41];simpa using h4.2
 have fk:=f.k;clear f g7 g8 e;rintro e Y ⟨⟨rfl,h4⟩,g1,g2,g4,g7⟩;rw[au h4]at hE;refine cS (λe X=>X=Y/\e.get 1=some (.sl b (xs.map Ex.v))/\e.get 2=some (ag S.length)/\e.get 4=some (ag (S.length+1))/\e.get 7=some lv/\e.get 6=some (af (lu xs))) ?_ ?_
 .simp[g1];refine aZ (qkM b xs hl ho Y) ?_;simp[g1,g2,g4,g7]
 clear g1 g2 g4 g7 e;rintro e X ⟨rfl,g1,g2,g4,g7,g6⟩;refine cS (λe Y=>(r=0/\PC S d xs b e Y)) ?_ ?_
 .have VQ:=fk;rw[<-bB]at VQ;by_cases h5:lu xs=0
  .simp[g6,h5];exact⟨hE.trans h5,lv,⟨fk,by simp[g1],by simp[g2],by simp[g4]⟩,gl,by simp[g7]⟩
  .simp[g6,h5,g4,bP,bR,OH _ VQ];exact fin _ _ _ VQ hE h5 (by simp[g4]) sM
 rintro e Y ⟨h0,hN⟩;exact good h0 e Y hN
def Dj(v w:V):Prop:=∀l n m,v=.arr l 0 n n->w≠.arr l 0 m m
def Gr.DT{sz n0:Nat}{xs:List V}{v w:V}{S S':St}(h:Gr sz n0 xs w S)(dj:Dj v w)(k2:∀l o,S[l]?=some o->(∀n,v≠.arr l 0 n n)->S'[l]?=some o):Gr sz n0 xs w S':=by
 rcases h with h|⟨l,wr,h1,rfl,h3,h4⟩
 .exact .inl h
 .exact .inr ⟨l,wr,h1,rfl,k2 l _ h3 (λn e=>dj l n _ e rfl),h4⟩
def Dj.grow{sz n0:Nat}{xs:List V}{v v' w:V}{S:St}(dj:Dj v w)(hw:Gr sz n0 xs w S)(hn:∀l n,v'=.arr l 0 n n->(∃m,v=.arr l 0 m m)\/S.length<=l):Dj v' w:=λl n m e1 e2=>by
 rcases hn l n e1 with ⟨k,hk⟩|hl
 .exact dj l k m hk e2
 .exact hw.fresh hl m e2
def Dj.sl{b:Bool}{l:List V}{w:V}:Dj (.sl b l) w:=λ_ _ _ e=>by cases e
def Dj.symm{v w:V}(h:Dj v w):Dj w v:=λl n m e1 e2=>h l m n e2 e1
def Dj.later{sz sz' n0 n1:Nat}{xs ys:List V}{v w:V}{S S':St}(hw:Gr sz n0 xs w S)(hv:Gr sz' n1 ys v S')(hn:S.length<=n1):Dj v w:=λl n m e1 e2=>by
 subst e1;rcases hv with ⟨_,h⟩|⟨l',wr',a1,g2,_,_⟩
 .cases h
 .cases g2;exact hw.fresh oM m e2
def Ah.to{S:St}{d:De}{xs:List Ex}{b:Bool}{e e':ae}{X Y:St}{M:Np}(f:Ah S d xs b e X)(k:Kp M X Y)(h:∀l,M l->S.length+2<=l)(he:∀t,t=1\/t=2\/t=4->e'.get t=e.get t):Ah S d xs b e' Y:=by
  have hX:=f.k.len;simp at hX
  exact ⟨⟨by have:=k.len;have:=f.k.len;omega,λl hl _=>by
    have cj:l<S.length+2:=by simpa using hl
    rw[k.get l oM (λhm=>by have:=h l hm;omega),f.k.get l hl id]⟩,(he 1 sM).trans f.g1,(he 2 sM).trans f.g2,(he 4 sM).trans f.g4⟩
structure L28(S:St)(d:De)(xs:List Ex)(b:Bool)(P i:Nat)(st:XS)(tl:List Bz)(lv tv ov dv bv:V)(ro rd rb:List V)(e:ae)(X:St):Prop where
 f:Ah S d xs b e X
 p:X[P]?=aJ [dm dv bv] 8
 hP:S.length+2<=P
 gl:Gr 1 (S.length+2) ((d.aj.map (·.name)).map .str) lv X
 gt:Gr 1 (S.length+2) (tl.map .str) tv X
 go:Gr 7 (S.length+2) ro ov X
 gd:Gr 7 (S.length+2) rd dv X
 gb:Gr 8 (P+1) rb bv X
 dt:Dj tv lv
 dd:Dj dv ov
 wo:ro.map V.weak=(st.es.map (·.2)++xs.drop i).map Ex.v
 wd:rd.map V.weak=st.ds.map De.v
 wb:rb.map V.weak=st.nt.map Sm.v
 mt:∀x,x∈tl↔x∈st.tk
 lt:tl.length<=800+i
 g7:e.get 7=some lv
 g10:e.get 10=some tv
 g13:e.get 13=some ov
 g14:e.get 14=some (ag P)
def EW(S:St)(d:De)(xs:List Ex)(b:Bool)(i:Nat)(st:XS)(e:ae)(X:St):Prop:=∃P tl lv tv ov dv bv ro rd rb,L28 S d xs b P i st tl lv tv ov dv bv ro rd rb e X
structure T28(S:St)(d:De)(xs:List Ex)(b:Bool)(tl al:List Bz)(lv tv av:V)(e:ae)(X:St):Prop where
 f:Ah S d xs b e X
 gl:Gr 1 (S.length+2) ((d.aj.map (·.name)).map .str) lv X
 gt:Gr 1 (S.length+2) (tl.map .str) tv X
 ga:Gr 1 (S.length+2) (al.map .str) av X
 dt:Dj tv lv
 da:Dj tv av
 g7:e.get 7=some lv
 g10:e.get 10=some tv
 g11:e.get 11=some av
def ql4(S:St)(d:De)(xs:List Ex)(b:Bool)(tl al:List Bz)(e:ae)(X:St):Prop:=∃lv tv av,T28 S d xs b tl al lv tv av e X
def I2(S:St)(d:De)(xs:List Ex)(b:Bool)(t0 al:List Bz)(lv av:V)(j:Nat)(e:ae)(Y:St):Prop:=
 ∃(i:Nat) (tv:V),j=al.length-i/\i<=al.length/\T28 S d xs b (t0++(al.take i).filter λx=>!eJ x (d.aj.map (·.name))) al lv tv av e Y/\
  e=[(12,af i),(11,av),(10,tv),(7,lv),(4,ag (S.length+1)),(2,ag S.length),(1,.sl b (xs.map Ex.v))]
def qhm:∀(xs:List Ex),Ex.cL xs=xs.flatMap Ex.gm
 |[]=>rfl
 |x::xs=>by rw[Ex.cL,qhm xs,nl]
def Sm.qdx(s:Sm):s.binds.length<=Sm.bH [s]:=by
 unfold Sm.binds;have h1:=Gy (l:=s.bounds) (ks:=[]);have h2:=s.wz;rw[Zl];simp at h1;omega
def Sm.qtl(s:Sm)(x:Bz):x∈s.binds↔x∈s.bounds:=by
 unfold Sm.binds;rw[Oq,qi];simp
structure T0(S:St)(d:De)(xs:List Ex)(b:Bool)(tl:List Bz)(lv tv:V)(e:ae)(X:St):Prop where
 f:Ah S d xs b e X
 gl:Gr 1 (S.length+2) ((d.aj.map (·.name)).map .str) lv X
 gt:Gr 1 (S.length+2) (tl.map .str) tv X
 dt:Dj tv lv
 g7:e.get 7=some lv
 g10:e.get 10=some tv
def Uh(S:St)(d:De)(xs:List Ex)(b:Bool)(tl:List Bz)(e:ae)(X:St):Prop:=∃lv tv,T0 S d xs b tl lv tv e X
def qy9(d:De)(hd:d.ok)(b:Bool)(xs:List Ex)(ho:∀x,x∈xs->x.ok)(hl:xs.length<=9)(hz:bk (xs.map Pa.ex)<=60)(bF:∀s,s∈d.body->(Pa.st s).size<150/\Sm.bH [s]<150)(h0:ja d xs=0)(S:St)(R:V->St->Prop)
  (a1 a2 a3 a4 a5 a6 a7 a8 a9 mh mi a12 we wh wj a16 t:C') (hc:vU.c.body=.seq a1 (.seq a2 (.seq a3 (.seq a4 (.seq a5 (.seq a6 (.seq a7 (.seq a8 (.seq a9 (.seq mh (.seq mi (.seq a12 (.seq we (.seq wh (.seq wj (.seq a16 t))))))))))))))))
  (good:∀e X,EW S d xs b 0 (jC (qD d xs) []) e X->WP prog t (eN [.cell 4 (some 8),.t 5] S.length R) e X) {e:ae} {X:St} (h:PC S d xs b e X):
  WP prog (.seq a12 (.seq we (.seq wh (.seq wj (.seq a16 t))))) (eN [.cell 4 (some 8),.t 5] S.length R) e X:=by
 simp only[vU,fW,C'.seq.injEq]at hc;obtain⟨-,-,-,-,-,-,-,-,-,-,-,rfl,rfl,rfl,rfl,rfl,rfl⟩:=hc;obtain⟨f1,f2,f3,f4,f5,f6,f7,f8,f9⟩:=zi h0;obtain⟨z1,z2⟩:=bF _ f9
 have hs:d.body=[d.dy]:=by
  unfold De.dy
  match hd:d.body,f6 with
  |[s],_=>rfl
 have AV:0<d.body.length:=oM;have uZ:d.body[0]=d.dy:=by simp[hs]
 obtain⟨lv,f,gl,g7⟩:=h;have lX:=f.k.len;simp at lX;refine cS (Uh S d xs b (xs.flatMap Ex.names)) ?_ ?_
 .simp[f.g1];refine bE (qkN b xs oM oM (λx hx=>(zh (VC f5 x hx)).2) X) ?_;rintro tv Y ⟨gt,kY⟩;simp;exact⟨lv,tv,f.to kY (λ_ h=>h.elim) (by rintro t (rfl|rfl|rfl)<;>simp),gl.at kY (λ_ h=>h.elim),gt.less oM,Dj.later gl gt cz,by simp[g7],sM⟩
 clear f gl g7 lX e X lv;rintro e X ⟨lv,tv,t0⟩;have lX:=t0.f.k.len;simp at lX;refine cS (ql4 S d xs b (xs.flatMap Ex.names) (d.dy.fu++d.dy.binds)) ?_ ?_
 .have kF:=t0.f.k.at (l:=S.length) (o:=.arr [d.v] 7 1) sM id;simp[t0.f.g2,ab,kF,Bg AV,uZ];refine uc (qx2 d.dy oM oM f8 X) ?_ ?_
  .obtain⟨v,U,h1,h2⟩:=Gr.inh X.length (d.dy.fu.map .str) X cz;exact⟨v,U,h1,h2⟩
  rintro fv U ⟨gf,kU⟩;have jb:=kU.at kF id;simp[t0.f.g2,ab,jb,Bg AV,uZ];refine uc (qx3 d.dy oM oM U) ⟨_,U,rfl,Kp.refl _ _⟩ ?_;rintro bv U2 ⟨rfl,mV⟩;have jO:=mV.at jb id;have gf2:=gf.at mV (λ_ h=>h.elim);obtain⟨av,U3,ha,ga,l3,k3,n3⟩:=gf2.nO (bytes:=16) (x:=ah (d.dy.binds.map .str)) (ys:=d.dy.binds.map .str) rfl (xU _) (by have:=d.dy.LD;have:=d.dy.qdx;simp;omega) (by have:=kU.len;have:=mV.len;omega);simp[ha,t0.f.g2,ab,kF,jb,jO,Bg AV,uZ,dP,eF,eZ];have kn3:=vw gf2 l3 k3;have FN:=(t0.gl.at kU (λ_ h=>h.elim)).at mV (λ_ h=>h.elim);have IE:=(t0.gt.at kU (λ_ h=>h.elim)).at mV (λ_ h=>h.elim);have d1:Dj fv lv:=Dj.later t0.gl gf cz;have d2:Dj fv tv:=Dj.later t0.gt gf cz;have hda:Dj av tv:=d2.grow IE n3;exact⟨lv,tv,av,((t0.f.to kU (λ_ h=>h.elim) (λ_ _=>rfl)).to mV (λ_ h=>h.elim) (λ_ _=>rfl)).to kn3 (λl hl=>by omega) (by rintro t (rfl|rfl|rfl)<;>simp),FN.DT d1 k3,IE.DT d2 k3,by rw[cJ];exact ga.less oM,t0.dt,hda.symm,by simp[t0.g7],by simp[t0.g10],sM⟩
 clear t0 lX e X lv tv;rintro e X ⟨lv,tv,av,t0⟩;have lf:=d.dy.LD;have lb:=d.dy.qdx;obtain⟨al,FR⟩:=eX (d.dy.fu++d.dy.binds);have lal:al.length<=300:=by rw[FR,dx];omega
 obtain⟨OI,pF⟩:=eX (xs.flatMap Ex.names)
 have ltl:OI.length<=400:=by
  have:=RQ xs;rw[pF];omega
 rw[<-FR,<-pF]at t0;have ym:(d.aj.map (·.name)).length<=9:=by simp;omega
 refine cS (Uh S d xs b (OI++al.filter λx=>!eJ x (d.aj.map (·.name)))) ?_ ?_
 .simp;refine eA (Uh S d xs b (OI++al.filter λx=>!eJ x (d.aj.map (·.name)))) ?_ λ_ _ h=>by simp only[lS];exact h
  refine cE (I2 S d xs b OI al lv av) al.length _ ?_ ⟨0,tv,sM,oM,⟨t0.f.to (Kp.refl (λ_=>False) _) (λ_ h=>h.elim) (by rintro t (rfl|rfl|rfl)<;>simp[t0.f.g1,t0.f.g2,t0.f.g4]),t0.gl,by simpa using t0.gt,t0.ga,t0.dt,t0.da,sM,sM,sM⟩,rfl⟩ ?_
  .repeat' first|exact ae.gZ _|refine ae.fp (by simp[t0.f.g1,t0.f.g2,t0.f.g4,t0.g7,t0.g10,t0.g11]) ?_
  clear t0 e X tv;rintro j e Y ⟨i,tv,rfl,hi,t,rfl⟩;have Dx:=t.ga.rd;by_cases aB:i<al.length
  case neg=>
   have:i=al.length:=oM;subst this;have gt:=t.gt;rw[gu]at gt;simp[↓jm,Dx.1];exact⟨lv,tv,t.f.to (Kp.refl (λ_=>False) _) (λ_ h=>h.elim) (by rintro t (rfl|rfl|rfl)<;>simp),t.gl,gt,t.dt,sM,sM⟩
  obtain⟨p,mA,mB⟩:=Dx.2 i aB;obtain⟨x,hx⟩:=eX (al[i]);rw[<-hx]at mB;have hw:IntKind.i64.wrap ((i:Int)+1)=((i+1:Nat):Int):=cG i;have hq:=OA lv (d.aj.map (·.name)) x Y oM t.gl.rd
  have vm:(al.take (i+1)).filter (λx=>!eJ x (d.aj.map (·.name)))=(al.take i).filter (λx=>!eJ x (d.aj.map (·.name)))++if eJ x (d.aj.map (·.name))=true then [] else [x]:=by
   rw[dN,bX aB,iP,qu,<-hx];congr 1;cases h:eJ x (d.aj.map (·.name))<;>simp[h]
  cases jP:eJ x (d.aj.map (·.name)) with
  |true=>
   rw[jP]at hq vm;simp[↓jm,Dx.1,aB,mA,mB];refine aZ hq ?_;simp;rw[hw];refine⟨_,?_,_,?_,i+1,tv,rfl,oM,⟨t.f.to (Kp.refl (λ_=>False) _) (λ_ h=>h.elim) (by rintro t (rfl|rfl|rfl)<;>simp),t.gl,by rw[vm];simpa using t.gt,t.ga,t.dt,t.da,sM,sM,sM⟩,rfl⟩
   .omega
   .exact ba
  |false=>
   rw[jP]at hq vm;have LZ:=t.f.k.len;simp at LZ;obtain⟨oj,Y2,ha,IE,l2,k2,n2⟩:=t.gt.nO (bytes:=16) (x:=.sl true [.str x]) (ys:=[.str x]) rfl rfl (by have:=List.length_filter_le (λx=>!eJ x (d.aj.map (·.name))) (al.take i);simp at this |-;omega) LZ;have nz:=vw t.gt l2 k2;have zn:∀s,fits 1 [V.str s]=true:=λ_=>rfl
   simp[↓jm,Dx.1,aB,mA,mB];refine aZ hq ?_;simp[mA,mB,zn,ha];rw[hw];refine⟨_,?_,_,?_,i+1,oj,rfl,oM,⟨t.f.to nz (λl hl=>by omega) (by rintro t (rfl|rfl|rfl)<;>simp),t.gl.DT t.dt k2,by rw[vm];simpa using IE,t.ga.DT t.da k2,t.dt.grow t.gl n2,t.da.grow t.ga n2,sM,sM,sM⟩,rfl⟩
   .omega
   .exact ba
 clear t0 e X lv tv av;rintro e X ⟨lv,tv,t0⟩;have lX:=t0.f.k.len;simp at lX;obtain⟨tl,Xu⟩:=eX (OI++al.filter λx=>!eJ x (d.aj.map (·.name)))
 have lt:tl.length<=800:=by
  have:=List.length_filter_le (λx=>!eJ x (d.aj.map (·.name))) al;rw[Xu,dx];omega
 have mt:∀x,x∈tl↔x∈qD d xs:=λx=>by
  rw[Xu,pF,FR];unfold qD;rw[hs,cU,cU,qW,qW,qhm,yX,yX,nl,List.flatMap_nil,pR,cU,cU,d.dy.qtl];refine or_congr_left ⟨?_,?_⟩
  .rintro⟨y,h1,h2⟩;exact⟨y,h1,Ex.RP.1 h2⟩
  .rintro⟨y,h1,h2⟩;exact⟨y,h1,Ex.RP.2 h2⟩
 rw[<-Xu]at t0;refine cS (λe Y=>∃ov,(T0 S d xs b tl lv tv e Y/\Gr 7 (S.length+2) (xs.map Ex.v) ov Y)/\e.get 13=some ov) ?_ ?_
 .have hfx:fits 7 (xs.map Ex.v)=true:=by
   unfold fits;rw[fR];intro v hv;obtain⟨x,_,rfl⟩:=cY.1 hv;simp
  obtain⟨ov,Y2,ha,go,l2,k2,n2⟩:=(Gr.nil 7 (S.length+2) X).nO (bytes:=80) (x:=.sl b (xs.map Ex.v)) (ys:=xs.map Ex.v) rfl hfx (by simp;omega) lX;have nz:=vw (Gr.nil 7 (S.length+2) X) l2 k2;have k2':∀l o,X[l]?=some o->Y2[l]?=some o:=λl o ho=>k2 l o ho λn=>by simp
  have hb7:fits 7 []=true:=rfl;simp[t0.f.g1,ha,hb7];exact⟨⟨t0.f.to nz (λl hl=>by omega) (by rintro t (rfl|rfl|rfl)<;>simp),t0.gl.DT (v:=sN) Dj.sl k2,t0.gt.DT (v:=sN) Dj.sl k2,t0.dt,by simp[t0.g7],by simp[t0.g10]⟩,by simpa using go⟩
 clear t0 lX e X;rintro e X ⟨ov,⟨t0,go⟩,g13⟩;have lX:=t0.f.k.len;simp at lX;refine cS (EW S d xs b 0 (jC (qD d xs) [])) ?_ good;simp[bP,bR,aL,aI,aU];have kP:bz X (X++[.arr [dm sN sN] 8 1]):=(Kp.refl _ _).push _;exact⟨X.length,tl,lv,tv,ov,sN,sN,xs.map Ex.v,[],[],t0.f.to kP (λ_ h=>h.elim) (by rintro t (rfl|rfl|rfl)<;>simp),by simp[dm],oM,t0.gl.at kP (λ_ h=>h.elim),t0.gt.at kP (λ_ h=>h.elim),go.at kP (λ_ h=>h.elim),Gr.nil _ _ _,Gr.nil _ _ _,t0.dt,Dj.sl,by simp[jC,Ex.jq],rfl,rfl,mt,oM,by simp[t0.g7],by simp[t0.g10],by simp[g13],sM⟩
end Go.Proofs.YtbifpocccfkhhaaGreatDoor
end
