/- A part. -/
import Derived.Test.YtbifpocccfkhhaaGreatDoorYh
set_option linter.all false
namespace Go.Proofs.YtbifpocccfkhhaaGreatDoor
open Go Go.Proofs.Tryz
def xq(l:List Bz):List (List V):=l.map λx=>[.str x]
def ZJ{l:List Bz}{i:Nat}{x:Bz}(h:l[i]?=some x):(xq l)[i]?=some [.str x]:=by simp[xq,h]
def OG(l:List Bz):(xq l).length=l.length:=by simp[xq]
def qpd{α β:Type}(g:α->List β){l:List α}{i:Nat}(h:i<l.length):l.flatMap g=(l.take i).flatMap g++(g l[i]++(l.drop (i+1)).flatMap g):=by
 have h1:l=l.take i++(l[i]::l.drop (i+1)):=by rw[<-xE h,qY]
 conv=>lhs;rw[h1]
 rw[KF,nl]
def qeH{α β:Type}(g:α->List β){l:List α}{i j:Nat}{y:β}(h:i<l.length)(hj:(g l[i])[j]?=some y):(l.flatMap g)[((l.take i).flatMap g).length+j]?=some y:=by
 rw[qpd g h,cx oM,E8,dh (br.1 hj).1,hj]
def qeI{α β:Type}(g:α->List β){l:List α}{i:Nat}(h:i<l.length):((l.take (i+1)).flatMap g).length=((l.take i).flatMap g).length+(g l[i]).length:=by
 rw[dN,bX h,iP,KF,dx];simp
def yB(d:List De):List Bz:=d.flatMap De.names
theorem UU(d:List De)(b:List Sm):cK d b=yB d++cr b:=rfl
def Zu(l:List Sm)(b:Bool)(S:St):aA prog 158 [.sl b (l.map Sm.v)] S (λv U=>v=.fn (.func 187) [] [ag S.length]/\U=S++[.arr [ah (l.map Sm.v)] 1 1]):=by
 refine aA.yR ?_;simp only[V.cR,V.weak,nf];refine aA.ib qaX ?_;simp[qaX,aL];exact bu rfl ⟨rfl,rfl⟩
def qxD(s:Sm)(S:St):aA prog 219 [s.v] S (λv U=>v=.fn (.func 255) [] [ag S.length]/\U=S++[.arr [s.v] 8 1]):=by
 refine aA.ib qbA ?_;simp[qbA,aL];exact bu rfl ⟨rfl,rfl⟩
def qxY(d:De)(S:St):aA prog 272 [d.v] S (λv U=>v=.fn (.func 277) [] [ag S.length]/\U=S++[.arr [d.v] 7 1]):=by
 refine aA.ib qbT ?_;simp[qbT,aL];exact bu rfl ⟨rfl,rfl⟩
def qzQ(d:De)(hl:d.aj.length<=bi)(c:Nat):KZ prog 277 [] [ag c] (xq (d.aj.map Fo.name)) (λU=>U[c]?=aJ [d.v] 7):=by
 intro S l J D F0 hB iJ hJ hD _ _ hy h0;have hc:=iJ _ _ _ h0;unfold bi at hl;rw[OG,bQ];refine aA.ib qbU ?_;simp[qbU,ab,hc];refine cE (λj e S'=>∃i:Nat,j=d.aj.length - i∧i≤d.aj.length∧∃F,J i F S'∧Kg F0 S F S'∧
  e=[(8,af i),(7,af d.aj.length),(6,ah (d.aj.map Fo.v)),(0,.dc l)]) d.aj.length _ ?_ ⟨0,sM,oM,F0,h0,Kg.refl _ _,rfl⟩ ?_
 .exact ba
 rintro j e S' ⟨i,rfl,hi,F,hj,hk,rfl⟩;by_cases h:i<d.aj.length
 .simp[h,ru,aL,aI,aU,ab];refine EE (hy i _ (ZJ (x:=d.aj[i].name) (by simp[h])) F _ (hJ _ _ _ _ hj) (hk.push _)) ?_;rintro v U' ⟨F',cI,⟨rfl,fg⟩|⟨rfl,eH⟩⟩
  .simp[cG i];refine⟨_,?_,_,?_,i+1,rfl,oM,F',fg,(hk.push _).trans cI,rfl⟩
   .omega
   .exact ba
  .simp;exact bu rfl ⟨F',(hk.push _).trans cI,.inr eH⟩
 .simp[h];have:i=d.aj.length:=oM;subst this;exact mM rfl ⟨F,hk,.inl hj⟩
def qam(l:List Sm)(hl:l.length<=bi)(fE:Sm.cH l)(c:Nat):KZ prog 187 [] [ag c] (xq (cr l)) (λU=>U[c]?=aJ [ah (l.map Sm.v)] 1):=by
 intro S y J D F0 hB iJ hJ hD _ _ hy h0;have hc:=iJ _ _ _ h0;unfold bi at hl;rw[OG];refine aA.ib qbi ?_;simp[qbi,ab,hc];refine cE (λj e S'=>∃i:Nat,j=l.length - i∧i≤l.length∧∃F,J (cr (l.take i)).length F S'∧Kg F0 S F S'∧
  e=[(9,af i),(8,af l.length),(7,ah (l.map Sm.v)),(0,.dc y)]) l.length _ ?_ ⟨0,sM,oM,F0,h0,Kg.refl _ _,rfl⟩ ?_
 .exact ba
 rintro j e S' ⟨i,rfl,hi,F,hj,hk,rfl⟩;by_cases h:i<l.length
 case neg=>
  simp[h];have:i=l.length:=oM;subst this;rw[gu]at hj;exact mM rfl ⟨F,hk,.inl hj⟩
 have qI:=((Sm.fh _).1 (Sm.jQ fE _ (dz h))).labels.1;unfold bi at qI;simp[h,yv,aL,aI,aU,ab];refine eA (λe U=>∃F,J (cr (l.take (i+1))).length F U/\Kg F0 S F U/\e.get 9=some (af i)/\e.get 8=some (af l.length)/\e.get 7=some (ah (l.map Sm.v))/\e.get 0=some (.dc y)) ?_ ?_
 ·refine cE (λj e U=>∃k:Nat,j=l[i].labels.length - k∧k≤l[i].labels.length∧∃F,J ((cr (l.take i)).length+k) F U∧Kg F0 S F U∧
   e=[(16,af k),(15,af l[i].labels.length),(14,ah (l[i].labels.map .str)),(9,af i),(8,af l.length),(7,ah (l.map Sm.v)),(0,.dc y)]) l[i].labels.length _ ?_ ⟨0,sM,oM,F,hJ _ _ _ _ hj,hk.push _,rfl⟩ ?_
  .exact ba
  rintro j e U ⟨k,rfl,Du,F,hj,hk,rfl⟩;by_cases g:k<l[i].labels.length
  .simp[g,oR];refine EE (hy _ _ (ZJ (qeH Sm.labels h (y:=l[i].labels[k]) (by simp[g]))) F _ hj hk) ?_;rintro v U' ⟨F',cI,⟨rfl,fg⟩|⟨rfl,eH⟩⟩
   .simp[cG k];refine⟨_,?_,_,?_,k+1,rfl,oM,F',fg,hk.trans cI,rfl⟩
    .omega
    .exact ba
   .simp;exact bu rfl ⟨F',hk.trans cI,.inr eH⟩
  .have:k=l[i].labels.length:=oM;subst this;simp;refine⟨F,?_,hk⟩;have:=qeI Sm.labels h;unfold cr at *;rw[this];exact hj
 rintro e U ⟨F,hj,hk,g9,g8,g7,g0⟩;simp[g9,cG i];refine⟨_,?_,_,?_,i+1,rfl,oM,F,hj,hk,rfl⟩
 .omega
 .repeat' first|exact ae.gZ _|refine ae.fp (by simp[g8,g7,g0]) ?_
def qzP(s:Sm)(io:s.decls.length<=bi/\De.cH s.decls)(jZ:s.body.length<=bi/\Sm.cH s.body)(c:Nat):KZ prog 255 [] [ag c] (xq (cK s.decls s.body)) (λU=>U[c]?=aJ [s.v] 8):=by
 intro S y J D F0 hB iJ hJ hD AO Dl hy h0;have hc:=iJ _ _ _ h0;have IW:=io.1;unfold bi at IW;rw[OG];have nM:¬F0 S.length:=λh=>by have:=hB _ _ _ h0 _ h;omega
 have hyd:∀(i:Nat) (x:Bz),(yB s.decls)[i]?=some x->∀F U,J i F U->Kg F0 S F U->jg prog y [.str x] U (λv U'=>∃F',Kg F U F' U'/\((v=.bool true/\J (i+1) F' U')\/(v=.bool false/\D F' U'))):=λi x hx=>
  hy i _ (ZJ (by rw[UU,dh (br.1 hx).1];exact hx))
 have hyl:∀(i:Nat) (a:List V),(xq (cr s.body))[i]?=some a->∀F U,J ((yB s.decls).length+i) F U->Kg F0 S F U->jg prog y a U (λv U'=>∃F',Kg F U F' U'/\((v=.bool true/\J ((yB s.decls).length+i+1) F' U')\/(v=.bool false/\D F' U'))):=λi a ha=>
  hy _ a (by
   unfold xq at ha |-;rw[dS]at ha;obtain⟨x,hx,rfl⟩:=ep.1 ha;rw[UU,cJ];rw[cx sM,bQ,E8];simp[hx])
 refine aA.ib ⟨_,func255,ok255⟩ ?_;have lI:(S++[Ob.arr [.dc y] 1 1])[c]?=aJ [s.v] 8:=gp hc;have Jh:(S++[Ob.arr [.dc y] 1 1])[S.length]?=aJ [.dc y] 1:=sM;have bW:Kg F0 S F0 (S++[Ob.arr [.dc y] 1 1]):=(Kg.refl _ _).push _;have zq:=hJ _ _ _ (Ob.arr [.dc y] 1 1) h0;simp[c255,aL,V.cells,V.flat,V.size];generalize S++[Ob.arr [.dc y] 1 1]=S1 at lI Jh bW zq |-;simp[ab,lI];refine eA (λe U=>∃F,J (yB s.decls).length F U/\Kg F0 S F U/\¬F S.length/\U[S.length]?=aJ [.dc y] 1/\e.get 1=some (ag c)/\e.get 2=some (ag S.length)) ?_ ?_
 ·refine cE (λj e U=>∃i:Nat,j=s.decls.length - i∧i≤s.decls.length∧∃F,J (yB (s.decls.take i)).length F U∧Kg F0 S F U∧¬ F S.length∧U[S.length]?=aJ [.dc y] 1∧
   e=[(11,af i),(10,af s.decls.length),(9,ah (s.decls.map De.v)),(1,ag c),(2,ag S.length)]) s.decls.length _ ?_ ⟨0,sM,oM,F0,zq,bW,nM,Jh,rfl⟩ ?_
  .exact ba
  rintro j e U ⟨i,rfl,hi,F,hj,hk,nF,qh,rfl⟩;by_cases h:i<s.decls.length
  case neg=>
   have:i=s.decls.length:=oM;subst this;rw[gu]at hj;simp;exact⟨F,hj,hk,nF,qh⟩
  have qI:=((De.fh _).1 (De.jQ io.2 _ (dz h))).names.1;unfold bi at qI;simp[h,Gt,aL,aI,aU,ab];refine eA (λe U=>∃F,J (yB (s.decls.take (i+1))).length F U/\Kg F0 S F U/\¬F S.length/\U[S.length]?=aJ [.dc y] 1/\e.get 11=some (af i)/\e.get 10=some (af s.decls.length)/\e.get 9=some (ah (s.decls.map De.v))/\e.get 1=some (ag c)/\e.get 2=some (ag S.length)) ?_ ?_
  ·refine cE (λj e U=>∃k:Nat,j=s.decls[i].names.length - k∧k≤s.decls[i].names.length∧∃F,J ((yB (s.decls.take i)).length+k) F U∧Kg F0 S F U∧¬ F S.length∧U[S.length]?=aJ [.dc y] 1∧
    e=[(18,af k),(17,af s.decls[i].names.length),(16,ah (s.decls[i].names.map .str)),(11,af i),(10,af s.decls.length),(9,ah (s.decls.map De.v)),(1,ag c),(2,ag S.length)]) s.decls[i].names.length _ ?_ ⟨0,sM,oM,F,hJ _ _ _ _ hj,hk.push _,nF,gp qh,rfl⟩ ?_
   .exact ba
   rintro j e U ⟨k,rfl,Du,F,hj,hk,nF,qh,rfl⟩;by_cases g:k<s.decls[i].names.length
   .simp[g,oR,ab,qh];refine EE (hyd _ _ (qeH De.names h (y:=s.decls[i].names[k]) (by simp[g])) F _ hj hk) ?_;rintro v U' ⟨F',cI,⟨rfl,fg⟩|⟨rfl,eH⟩⟩
    .simp[cG k];refine⟨_,?_,_,?_,k+1,rfl,oM,F',fg,hk.trans cI,cI.off (aR qh) nF,cI.k.at qh nF,rfl⟩
     .omega
     .exact ba
    .simp;exact bu rfl ⟨F',hk.trans cI,.inr eH⟩
   .have:k=s.decls[i].names.length:=oM;subst this;simp;refine⟨F,?_,hk,nF,qh⟩;have:=qeI De.names h;unfold yB at *;rw[this];exact hj
  rintro e U ⟨F,hj,hk,nF,qh,g11,g10,g9,g1,g2⟩;simp[g11,cG i];refine⟨_,?_,_,?_,i+1,rfl,oM,F,hj,hk,nF,qh,rfl⟩
  .omega
  .repeat' first|exact ae.gZ _|refine ae.fp (by simp[g10,g9,g1,g2]) ?_
 rintro e U ⟨F,hj,hk,nF,qh,g1,g2⟩;have hcU:=iJ _ _ _ hj;have hBU:=hB _ _ _ hj;simp[g1,ab,hcU];refine bE (Zu s.body false U) ?_;rintro v U2 ⟨rfl,rfl⟩;simp;have hlen:(cK s.decls s.body).length=(yB s.decls).length+(cr s.body).length:=by rw[UU,dx]
 have hUl:=hk.k.len;have qAB:=aR qh;refine qcX (k:=187) (fs:=[]) (cs:=[ag U.length]) sM (qam s.body jZ.1 jZ.2 U.length) rfl rfl rfl (by intro a ha;obtain⟨x,_,rfl⟩:=cY.1 ha;rfl) F
  (λi F V=>J ((yB s.decls).length+i) F V/\V[U.length]?=aJ [ah (s.body.map Sm.v)] 1/\V[S.length]?=aJ [.dc y] 1/\Kg F0 S F V/\¬F S.length/\¬F U.length/\¬F (U.length+1)) (λF V=>D F V/\Kg F0 S F V) (λ_ _ _=>False) ?_ ?_ ?_ ?_ ?_ ?_ ?_ ?_ ?_ ?_ ?_ ?_ ?_
 .rintro i F V ⟨h,_⟩;exact hB _ _ _ h
 .rintro i F V ⟨_,h,_⟩;exact h
 .rintro i F V ⟨a,b,c,d,n⟩ o;exact⟨hJ _ _ _ _ a,gp b,gp c,d.push _,n⟩
 .rintro F V ⟨a,d⟩ o;exact⟨hD _ _ _ a,d.push _⟩
 .rintro id F V h;exact h.elim
 .rintro i F V L o o' hL ⟨a,b,c,d,n⟩ hl;simp at hL;exact⟨AO _ _ _ _ _ _ oM a hl,gl b sM hl,gl c sM hl,d.set _ (.inr oM),n⟩
 .rintro F V L o o' hL ⟨a,d⟩ hl;simp at hL;exact⟨Dl _ _ _ _ _ oM a hl,d.set _ (.inr oM)⟩
 .rintro id F V L o o' hL h;exact h.elim
 .exact⟨hJ _ _ _ _ (hJ _ _ _ _ hj),sM,gp (gp qh),(hk.push _).push _,nF,λh=>by have:=hBU _ h;omega,λh=>by have:=hBU _ h;omega⟩
 .rintro i av qa F V ⟨QY,h1,h2,h3,nS,nU,nL⟩ iK hl;have WA:=qa;unfold xq at WA;rw[dS]at WA;obtain⟨x,hx,rfl⟩:=ep.1 WA;generalize A3:ae.keep _ _=ke at hl |-;have k2:ke.get 2=some (ag S.length):=by rw[<-A3];exact ae.Jm sM (by simp[g2])
  clear A3;simp at hl;simp[vB];refine PQ hl rfl ?_;have lV:=aR hl;have rm:=AO _ _ _ _ _ { st:=.busy,dM:=none,ps:=[31],cV:=(fK Tryz.f255 0).1,body:=(fK Tryz.f255 0).2,e:=ke,N:=36 } oM QY hl;have Jk:=gl (i':={ st:=.busy,dM:=none,ps:=[31],cV:=(fK Tryz.f255 0).1,body:=(fK Tryz.f255 0).2,e:=ke,N:=36 }) h2 sM hl;have WG:=gl (i':={ st:=.busy,dM:=none,ps:=[31],cV:=(fK Tryz.f255 0).1,body:=(fK Tryz.f255 0).2,e:=ke,N:=36 }) h1 sM hl;have xZ:(V.set (U.length+1) (.loop { st:=.busy,dM:=none,ps:=[31],cV:=(fK Tryz.f255 0).1,body:=(fK Tryz.f255 0).2,e:=ke,N:=36 }))[U.length+1]?=some (.loop _):=bO lV;have Ge:Kg (λx=>F x\/x=U.length+1) V (λx=>F x\/x=U.length+1) (V.set (U.length+1) (.loop { st:=.busy,dM:=none,ps:=[31],cV:=(fK Tryz.f255 0).1,body:=(fK Tryz.f255 0).2,e:=ke,N:=36 })):=(Kg.refl _ _).set _ (.inl (.inr rfl));have Dk:Kg F0 S F (V.set (U.length+1) (.loop { st:=.busy,dM:=none,ps:=[31],cV:=(fK Tryz.f255 0).1,body:=(fK Tryz.f255 0).2,e:=ke,N:=36 })):=h3.set _ (.inr oM);generalize V.set (U.length+1) _=W at rm Jk WG xZ Ge Dk |-;simp[k2,ab,Jk];refine EE (hyl i _ qa F W rm Dk) ?_;rintro v X ⟨F',xk,⟨rfl,xj⟩|⟨rfl,xd⟩⟩
  .simp;have FQ:=xk.k.at xZ nL;exact SC ⟨rfl,rfl⟩ FQ (Ge.trans (xk.with _ (aR xZ))) ⟨AO _ _ _ _ _ _ oM xj FQ,gl (xk.k.at WG nU) sM FQ,gl (xk.k.at Jk nS) sM FQ,(Dk.trans xk).set _ (.inr oM),xk.off (aR Jk) nS,xk.off (aR WG) nU,xk.off (aR xZ) nL⟩
  .simp;have FQ:=xk.k.at xZ nL;exact qvz FQ (Ge.trans (xk.with _ (aR xZ))) ⟨Dl _ _ _ _ _ oM xd FQ,(Dk.trans xk).set _ (.inr oM)⟩
 .rintro F V ⟨QY,_,_,h3,_⟩ _;rw[OG]at QY;simp;refine mM rfl ⟨F,h3,.inl ?_⟩;rw[hlen];exact QY
 .rintro F V ⟨hd,h3⟩ _;exact bu rfl ⟨F,h3,.inr hd⟩
 .rintro id F V h;exact h.elim
def UT(x:Bz):∀(l:List Bz) (s:cy) (n:Nat),binds (l++[x]) s n=(if((binds l s n).at x).isSome then binds l s n else binds l s n++[(x,n+((binds l s n).length-s.length))])/\s.length<=(binds l s n).length
 |[],s,n=>by simp only[ig,binds];exact⟨sM,dl _⟩
 |y::l,s,n=>by
  simp only[dR,binds];split
  .exact UT x l s n
  .obtain⟨h1,h2⟩:=UT x l (s++[(y,n)]) (n+1);simp only[dx,gq,qy]at h2;refine⟨?_,oM⟩;rw[h1];split
   .rfl
   .rw[show n+1+((binds l (s++[(y,n)]) (n+1)).length-(s++[(y,n)]).length)=n+((binds l (s++[(y,n)]) (n+1)).length-s.length) by simp;omega]
def Fh(x:Bz)(l:List Bz)(n:Nat):ar (l++[x]) n=if((ar l n).at x).isSome then ar l n else ar l n++[(x,n+(ar l n).length)]:=by
 have:=(UT x l [] n).1;unfold ar;rw[this];simp only[qy,Nat.sub_zero]
def UO(n:Nat):∀(l:List Bz) (s:cy) (m:Nat),(binds l s m).length<=s.length+l.length
 |[],s,m=>by simp[binds]
 |x::l,s,m=>by
  simp only[binds];split
  .have:=UO n l s m;simp only[gq];omega
  .have:=UO n l (s++[(x,m)]) (m+1);simp only[dx,gq,qy]at *;omega
def qmL(l:List Bz)(n:Nat):(ar l n).length<=l.length:=by
 have:=UO 0 l [] n;simp only[qy,mg]at this;exact this
def PS(names:List Bz)(n:Nat):∀(k i:Nat),i+k=names.length->(ar (names.take i) n).length<=(ar names n).length
 |0,i,h=>by rw[mJ oM];exact dl _
 |k+1,i,h=>by
  have h1:=PS names n k (i+1) oM;have aB:i<names.length:=oM;have hs:=Fh names[i] (names.take i) n;rw[show names.take i++[names[i]]=names.take (i+1) by rw[dN,bX aB];rfl]at hs
  have:(ar (names.take i) n).length<=(ar (names.take (i+1)) n).length:=by
   rw[hs];split
   .exact dl _
   .simp only[dx];omega
  omega
theorem qyW(y:V):V.fZ .cu 0 1 y=if y.size=1/\y.cells.all V.flat=true then some y else none:=rfl
def qtu{S:St}{lm:Nat}{t:ey}{bs:List Nat}{ck:Nat}(x:Bz)(v:V)(h:S[lm]?=some (.map (t.map wJ) bs ck))(hx:sK t x=none):
  og S .str (.map lm) (.str x) v=some (S.set lm (.map (t.map wJ++[(.str x,v)]) (bs++[ck]) (ck+1))):=by
 obtain⟨j,hj⟩:=Yn x t 0;unfold og;rw[ak (by rfl)];simp only[h,hj,hx];rfl
def JL(n:Nat):List Nat:=List.range n
structure BJ(c:Cb)(w ci n B:Nat)(v:V)(co:Ob)(h:c.H)(F D:Np)(t:ey)(U:St):Prop where
 wk:Wk c w (n+t.length) (enters c.toPw h t.qQ) F D U
 tc:U[ci]?=some co
 t0:U[B]?=aJ [ag w] 1
 t1:U[B+1]?=aJ [.agg [v]] 1
 t2:U[B+2]?=some (.map (t.map wJ) (JL t.length) t.length)
 t3:U[B+3]?=aJ [.agg [ag (B+1),.map (B+2)]] 2
 t4:U[B+4]?=aJ [ag (B+3)] 1
 off:∀j,j<5->gy w F D (B+j)
 NV:gy w F D ci
 pl:∀e,e∈t->¬F e.2.2/\U[e.2.2]?=some (fP e.1 e.2.1 (c.f e.2.1 e.1))
 ge:∀e,e∈t->B+6<=e.2.2
section
variable {c:Cb} (ok:c.Ok) {w ci n B:Nat} {v:V} {co:Ob} {h:c.H} {F D:Np} {t:ey} {U:St}
include ok
theorem BJ.push(b:BJ c w ci n B v co h F D t U)(o:Ob):BJ c w ci n B v co h F D t (U++[o]):=
 ⟨b.wk.push ok _,gp b.tc,gp b.t0,gp b.t1,gp b.t2,gp b.t3,gp b.t4,b.off,b.NV,λe he=>⟨(b.pl e he).1,gp (b.pl e he).2⟩,b.ge⟩
theorem Wk.loop{n:Nat}{h:c.H}(k:Wk c w n h F D U){L:Nat}{i:LI}(o:Ob)(hL:U[L]?=some (.loop i)):Wk c w n h F D (U.set L o):=
 k.set ok o (by rintro rfl;have:=k.tw;rw[hL]at this;cases this) (ok.lp k.st L i hL).1 (ok.lp k.st L i hL).2
theorem BJ.loop(b:BJ c w ci n B v co h F D t U)(zm:∀i,co≠.loop i){L:Nat}{i i':LI}(hL:U[L]?=some (.loop i)):BJ c w ci n B v co h F D t (U.set L (.loop i')):=
 ⟨b.wk.loop ok _ hL,gl b.tc zm hL,gl b.t0 sM hL,gl b.t1 sM hL,gl b.t2 sM hL,gl b.t3 sM hL,gl b.t4 sM hL,b.off,b.NV,λe he=>⟨(b.pl e he).1,gl (b.pl e he).2 (by simp[fP]) hL⟩,b.ge⟩
def mL(c:Cb)(w n B:Nat)(x:Bz)(t:ey)(W:St):St:=
 ((W++[fP x (n+t.length) x]).set w (ui c (n+t.length+1))).set (B+2) (.map (t.map wJ++[(.str x,ag W.length)]) (JL t.length++[t.length]) (t.length+1))
omit ok in
theorem PZ(x:Bz)(W:St):Kp (λl=>l=w\/l=B+2) W (mL c w n B x t W):=by
 unfold mL;exact(((Kp.refl _ _).push _).set _ (.inl (.inl rfl))).set _ (.inl (.inr rfl))
omit ok in
theorem qdE(x:Bz)(W:St):(mL c w n B x t W).length=W.length+1:=by unfold mL;simp
omit ok in
theorem qmR(x:Bz){W:St}(hw:w<W.length)(hB:B+2<W.length):(mL c w n B x t W)[W.length]?=some (fP x (n+t.length) x):=by
 unfold mL;rw[bG oM,bG oM];simp
theorem BJ.ready(b:BJ c w ci n B v co h F D t U)(x:Bz):c.I (enters c.toPw h t.qQ) F D (mL c w n B x t U):=
 ok.fr b.wk.st (PZ x U) λl hl _=>by
  rcases hl with rfl|rfl
  .exact⟨b.wk.nF,b.wk.nD⟩
  .exact⟨(b.off 2 oM).2.1,(b.off 2 oM).2.2⟩
theorem BJ.step(b:BJ c w ci n B v co h F D t U)(x:Bz)(hw:w<B)(hc:ci<B)(hB:B+6<=U.length){F' D':Np}{X:St}(hX:c.I (c.nQ (enters c.toPw h t.qQ) (n+t.length) x) F' D' X)
  (hp:X[U.length]?=some (fP x (n+t.length) (c.f (n+t.length) x))) (hk:Kp (λl=>l=U.length\/F l) (mL c w n B x t U) X) (gF:grow (mL c w n B x t U) F F') (gD:∀l,D' l->D l\/l=U.length\/(mL c w n B x t U).length<=l):
  BJ c w ci n B v co h F' D' (t++[(x,n+t.length,U.length)]) X/\(∀{F0 D0:Np} {S:St},S.length<=B->bJ w F0 D0 S F D U->bJ w F0 D0 S F' D' X):=by
 have hl:=qdE (c:=c) (w:=w) (n:=n) (B:=B) (t:=t) x U;have lt:∀l,F l\/D l->l<U.length:=ok.lt b.wk.st;have hs:=b.push ok (fP x (n+t.length) x)
 have get:∀(l:Nat) (o:Ob),U[l]?=some o->l≠w->l≠B+2->¬F l->X[l]?=some o:=λl o ho h1 h2 h3=>by
  have aB:=(br.1 ho).1;exact hk.at ((PZ x U).at ho (by rintro(rfl|rfl)<;>contradiction)) (by rintro(rfl|hf);omega;exact h3 hf)
 have nF:∀l,l<U.length->¬F l->¬F' l:=λl h1 h2 h3=>(gF l h3).elim h2 oM
 have nD:∀l,l<U.length->¬D l->¬D' l:=λl h1 h2 h3=>(gD l h3).elim h2 oM
 have qhn:∀l,l<U.length->gy w F D l->gy w F' D' l:=λl h1 h2=>⟨h2.1,nF l h1 h2.2.1,nD l h1 h2.2.2⟩
 have aN:t.qQ.length=t.length:=bQ _;have qfX:ey.qQ (t++[(x,n+t.length,U.length)])=t.qQ++[(x,n+t.length)]:=cJ;refine⟨⟨⟨?_,?_,nF w oM b.wk.nF,nD w oM b.wk.nD,?_⟩,get _ _ b.tc b.NV.1 oM b.NV.2.1,get _ _ b.t0 oM oM (b.off 0 oM).2.1,get _ _ b.t1 oM oM (b.off 1 oM).2.1,?_,get _ _ b.t3 oM oM (b.off 3 oM).2.1,get _ _ b.t4 oM oM (b.off 4 oM).2.1,λj hj=>qhn _ oM (b.off j hj),qhn _ oM b.NV,?_,?_⟩,λ{F0 D0 S} hS s=>⟨⟨?_,λl hl hn=>?_⟩,λl hf=>(gF l hf).elim (s.gF l) (by have:=s.k.len;omega),λl hf=>(gD l hf).elim (s.gD l) (by have:=s.k.len;omega)⟩⟩
 .have:(mL c w n B x t U)[w]?=some (ui c (n+t.length+1)):=by
   unfold mL;rw[bG oM,bO (by simp;omega)]
  rw[hk.at this (by rintro(rfl|hf);omega;exact b.wk.nF hf)];simp[jU]
 .rw[qfX];unfold enters;rw[uz];exact hX
 .rw[qfX];unfold enters;rw[uz,dx,<-jU];exact ok.ce x b.wk.cn
 .have:(mL c w n B x t U)[B+2]?=some (.map (t.map wJ++[(.str x,ag U.length)]) (JL t.length++[t.length]) (t.length+1)):=by
   unfold mL;rw[bO (by simp;omega)]
  rw[hk.at this (by rintro(hh|hf);omega;exact(b.off 2 oM).2.1 hf)];simp[JL,List.range_succ,wJ]
 .intro e he;rcases cU.1 he with he|he
  .have h1:=b.ge e he;have h2:=aR (b.pl e he).2;exact⟨nF _ h2 (b.pl e he).1,get _ _ (b.pl e he).2 oM oM (b.pl e he).1⟩
  .simp at he;subst he;refine⟨λhf=>(gF _ hf).elim (λhh=>?_) (λhh=>?_),hp⟩
   .have:=lt _ (.inl hh);simp at this
   .simp only at hh;omega
 .intro e he;rcases cU.1 he with he|he
  .exact b.ge e he
  .simp at he;subst he;exact hB
 .have:=s.k.len;have:=hk.len;omega
 .have h1:=s.k.len;have h2:¬F l:=λhf=>hn (.inr ((s.gF l hf).resolve_right oM))
  rw[hk.get l oM (by rintro(rfl|hf);omega;exact h2 hf),(PZ x U).get l oM (by rintro(rfl|rfl);exact hn (.inl rfl);omega)];exact s.k.get l hl hn
end
def qap(c:Cb)(w n:Nat)(h:c.H)(F D Y:Np)(ts:List ey)(s:cy)(S:St)(r:V)(U:St):Prop:=
 ∃(t:ey) (F' D':Np),t.qQ=s/\Wk c w (n+t.length) (enters c.toPw h s) F' D' U/\bJ w F D S F' D' U/\eu c.toPw (λl=>l=w\/F' l\/Y l) U r (t::ts)
def qlB(c:Cb)(w ci n:Nat)(v:V)(co:Ob)(h:c.H)(F D:Np)(names:List Bz)(S:St)(i:Nat)(G:Np)(U:St):Prop:=
 ∃(t:ey) (F' D':Np),G=(λx=>x=w\/x=S.length+2\/F' x)/\t.qQ=ar (names.take i) n/\BJ c w ci n S.length v co h F' D' t U/\bJ w F D S F' D' U
def SY(c:Cb)(ok:c.Ok)(w n:Nat)(h:c.H)(F D:Np)(v:V)(ts:List ey)(names:List Bz)(g:Nat)(cs:List V)(ci:Nat)(co:Ob)(hy:KZ prog g [] cs (xq names) (λU=>U[ci]?=some co))(zm:∀i,co≠.loop i)(S:St)
  (hk:Wk c w n h F D S) (Y:Np) (hY:∀l,Y l->l<S.length) (eh:eu c.toPw (λl=>l=w\/F l\/Y l) S v ts) (hc:S[ci]?=some co) (Q6:gy w F D ci) (hn:n+(ar names n).length<=c.lim):
  aA prog 157 [ag w,v,.fn (.func g) [] cs] S (λr U=>qap c w n h F D Y ts (ar names n) S r U):=by
 refine aA.ib ⟨_,func157,ok157⟩ ?_;have lw:=aR hk.tw;have lc:=aR hc
 obtain⟨Nh,Ni⟩:v.cells=[v]/\v.flat=true:=by
  cases ts with
  |nil=>have h':v=.cu:=eh;subst h';exact⟨rfl,rfl⟩
  |cons t r=>obtain⟨l,_,_,_,_,_,rfl,_⟩:=eh;exact⟨rfl,rfl⟩
 have mC:v.size=1:=by show v.cells.length=1;rw[Nh];rfl
 simp[c157,aL,ab,aI,aU,qyW,bP,bR,bI,Nh,Ni,mC];obtain⟨B1,AL⟩:∃B1:St,S++[.arr [ag w] 1 1,.arr [.agg [v]] 1 1,.map [] [] 0,.arr [.agg [ag (S.length+1),.map (S.length+2)]] 2 1,.arr [ag (S.length+3)] 1 1]=B1:=⟨_,rfl⟩
 have hb:∀(j:Nat) (o:Ob),[Ob.arr [ag w] 1 1,.arr [.agg [v]] 1 1,.map [] [] 0,.arr [.agg [ag (S.length+1),.map (S.length+2)]] 2 1,.arr [ag (S.length+3)] 1 1][j]?=some o->B1[S.length+j]?=some o:=λj o h=>by
  rw[<-AL,cx oM,E8];exact h
 have lB:B1.length=S.length+5:=by rw[<-AL];simp
 have kB:bJ w F D S F D B1:=by rw[<-AL];exact(bJ.refl _ _ _ _).push _
 have bj0:BJ c w ci n S.length v co h F D [] B1:=⟨by rw[<-AL];exact hk.push ok _,by rw[<-AL,dh lc];exact hc,hb 0 _ rfl,hb 1 _ rfl,hb 2 _ rfl,hb 3 _ rfl,hb 4 _ rfl,λj _=>hk.out ok oM,Q6,λe he=>by simp at he,λe he=>by simp at he⟩;rw[AL];clear hb AL;refine qcX (k:=g) (fs:=[]) (cs:=cs) sM hy rfl rfl rfl (by intro a ha;obtain⟨x,_,rfl⟩:=cY.1 ha;rfl) (λx=>x=w\/x=S.length+2\/F x)
  (qlB c w ci n v co h F D names S) (λ_ _=>False) (λ_ _ _=>False) ?_ ?_ ?_ ?_ ?_ ?_ ?_ ?_ ?_ ?_ ?_ ?_ ?_
 .rintro i G U ⟨t,F',D',rfl,_,h,_⟩ x (rfl|rfl|hx)
  .exact aR h.wk.tw
  .exact aR h.t2
  .exact ok.lt h.wk.st x (.inl hx)
 .rintro i G U ⟨t,F',D',_,_,h,_⟩;exact h.tc
 .rintro i G U ⟨t,F',D',h0,h1,h,hk⟩ o;exact⟨t,F',D',h0,h1,h.push ok o,hk.push _⟩
 .rintro G U h;exact h.elim
 .rintro id G U h;exact h.elim
 .rintro i G U L o o' hL ⟨t,F',D',h0,h1,h,hk⟩ hl;exact⟨t,F',D',h0,h1,h.loop ok zm hl,hk.set _ oM⟩
 .rintro G U L o o' hL h;exact h.elim
 .rintro id G U L o o' hL h;exact h.elim
 .exact⟨[],F,D,rfl,rfl,bj0.push ok _,kB.push _⟩
 .rintro i av qa G U ⟨t,F1,D1,rfl,ht,hj,MM⟩ bW hl;unfold xq at qa;rw[dS]at qa;obtain⟨x,hx,rfl⟩:=ep.1 qa;have ir:=Fh x (names.take i) n;have Xr:names.take i++[x]=names.take (i+1):=by rw[dN,hx];rfl
  rw[Xr,<-ht,Yi]at ir;have aN:t.qQ.length=t.length:=bQ _
  have pF:t.length<=(ar names n).length:=by
   have h1:=PS names n (names.length-i) i (by have:=(br.1 hx).1;omega);rw[<-ht,aN]at h1;exact h1
  generalize A3:ae.keep _ _=ke at hl |-;have k3:ke.get 3=some (ag S.length):=by rw[<-A3];exact ae.Jm sM sM
  have k7:ke.get 7=some (ag (S.length+4)):=by rw[<-A3];exact ae.Jm sM sM
  clear A3;simp[vB];refine PQ hl rfl ?_;have lV:=aR hl;obtain⟨li,A4⟩:=eX (α:=LI) ({ st:=.busy,dM:=none,ps:=[19],cV:=(fK Tryz.f157 0).fst,body:=(fK Tryz.f157 0).snd,e:=ke,N:=63 });show WP _ _ _ _ (U.set B1.length (.loop { st:=.busy,dM:=none,ps:=[19],cV:=(fK Tryz.f157 0).fst,body:=(fK Tryz.f157 0).snd,e:=ke,N:=63 }));rw[<-A4];have rm:=hj.loop ok zm hl (i':=li);have xZ:(U.set B1.length (.loop li))[B1.length]?=some (.loop li):=bO lV;have hLo:=hj.wk.loop ok (o:=.loop li) hl;have hoL:gy w F1 D1 B1.length:=⟨oM,(ok.lp hj.wk.st _ _ hl).1,(ok.lp hj.wk.st _ _ hl).2⟩;have Dk:bJ w F D S F1 D1 (U.set B1.length (.loop li)):=MM.set _ oM;have lW:(U.set B1.length (.loop li)).length=U.length:=sM;have Ge:Kg (λx=>(x=w\/x=S.length+2\/F1 x)\/x=B1.length) U (λx=>(x=w\/x=S.length+2\/F1 x)\/x=B1.length) (U.set B1.length (.loop li)):=(Kg.refl _ _).set _ (.inl (.inr rfl));generalize U.set B1.length (.loop li)=W at rm xZ Dk lW Ge |-;clear hLo;have wU:=qgO x rm.t2;simp[k3,k7,dK,ab,rm.t4,rm.t3,bI,wU]
  cases oL:sK t x with
  |some p=>
   rw[oL]at ir;simp only[fG,Option.isSome_some,if_true]at ir;simp;subst A4;exact SC ⟨rfl,rfl⟩ xZ Ge ⟨t,F1,D1,rfl,ir.symm,rm.loop ok zm xZ,Dk.set _ oM⟩
  |none=>
   rw[oL]at ir;simp only[Option.map_none,PD,mf,if_false,aN]at ir;have hw0:=rm.wk.tw;unfold ui at hw0;simp[k3,k7,dK,ab,rm.t0,hw0,aI,bP,bR,bI,aU,aL];have bw:=rm.push ok (fP x (n+t.length) x);have Gi:=qtu x (ag W.length) (lm:=S.length+2) (S:=(W++[fP x (n+t.length) x]).set w (ui c (n+t.length+1))) (by rw[bG oM];exact bw.t2) oL;have Rb:=bw.wk.tw;have p0:=bw.t0;have p4:=bw.t4;have p3:=bw.t3;have jZ:mL c w n S.length x t W=((W++[fP x (n+t.length) x]).set w (ui c (n+t.length+1))).set (S.length+2) (.map (t.map wJ++[(.str x,ag W.length)]) (JL t.length++[t.length]) (t.length+1)):=rfl;unfold ui fP at Rb Gi jZ;unfold fP at p0 p3 p4;push_cast at Rb Gi jZ p0 p3 p4;generalize LY:W++[Ob.arr [.agg [af ((n:Int)+(t.length:Int)),.str x,.str x]] 3 1]=W1 at Rb Gi jZ p0 p3 p4 |-;have lW1:W1.length=W.length+1:=by rw[<-LY];simp
   have hL:=ok.lim
   have qAA:t.length+1<=(ar names n).length:=by
    have h1:=PS names n (names.length-(i+1)) (i+1) (by have:=(br.1 hx).1;omega);rw[ir,dx,aN]at h1;exact h1
   have i1:=fO (n:=(n:Int)+(t.length:Int)+1) oM oM;obtain⟨wo,hwo⟩:=eX (Ob.arr [V.agg [V.int IntKind.i64 (↑n+↑t.length+1),c.fe,c.fn,c.fc]] 4 1);have e0:(W1.set w wo)[S.length]?=aJ [ag w] 1:=by rw[bG oM];exact p0
   have e3:(W1.set w wo)[S.length+3]?=aJ [.agg [ag (S.length+1),.map (S.length+2)]] 2:=by rw[bG oM];exact p3
   have e4:(W1.set w wo)[S.length+4]?=aJ [ag (S.length+3)] 1:=by rw[bG oM];exact p4
   have ew:(W1.set w wo)[w]?=some wo:=bO oM;simp[k3,k7,dK,ab,p0,Rb,aI,aU,i1];rw[<-hwo]at Gi jZ |-;generalize W1.set w wo=W2 at e0 e3 e4 ew Gi jZ |-;subst hwo;simp[k3,k7,dK,ab,e4,e3,bI,Gi];rw[<-jZ];have iT:=qdE (c:=c) (w:=w) (n:=n) (B:=S.length) (t:=t) x W;have kb:=PZ (c:=c) (w:=w) (n:=n) (B:=S.length) (t:=t) x W;have g0:(mL c w n S.length x t W)[S.length]?=aJ [ag w] 1:=by rw[jZ,bG oM];exact e0
   have gw:(mL c w n S.length x t W)[w]?=some (Ob.arr [V.agg [V.int IntKind.i64 (↑n+↑t.length+1),c.fe,c.fn,c.fc]] 4 1):=by rw[jZ,bG oM];exact ew
   have gL:(mL c w n S.length x t W)[B1.length]?=some (.loop li):=kb.at xZ oM;have V6:=qmR (c:=c) (w:=w) (n:=n) (B:=S.length) (t:=t) x (W:=W) oM oM;have gI:=rm.ready ok x;have kk:Kp (λx=>(x=w\/x=S.length+2\/F1 x)\/x=B1.length) U (mL c w n S.length x t W):=Ge.k.trans (kb.mono λl _ h=>.inl (h.imp id .inl));clear jZ Gi e3 e4;have TB:=e0;clear e0;have fin:∀(F2 D2:Np) (X:St),c.I (c.nQ (enters c.toPw h t.qQ) (n+t.length) x) F2 D2 X->X[W.length]?=some (fP x (n+t.length) (c.f (n+t.length) x))->Kp (λl=>l=W.length\/F1 l) (mL c w n S.length x t W) X->grow (mL c w n S.length x t W) F1 F2->(∀l,D2 l->D1 l\/l=W.length\/(mL c w n S.length x t W).length<=l)->
     ∃(t':ey) (F' D':Np),X[B1.length]?=some (.loop li)/\Kg (λx=>(x=w\/x=S.length+2\/F1 x)\/x=B1.length) U (λx=>(x=w\/x=S.length+2\/F' x)\/x=B1.length) X/\t'.qQ=ar (names.take (i+1)) n/\BJ c w ci n S.length v co h F' D' t' X/\bJ w F D S F' D' X:=λF2 D2 X hX hp A2 gF gD=>by
    obtain⟨q1,q2⟩:=rm.step ok x lw lc oM hX hp A2 gF gD;refine⟨_,F2,D2,A2.at gL (by rintro(hh|hh);omega;exact hoL.2.1 hh),⟨⟨js kk.len A2.len,λl hl hn=>?_⟩,λl hl=>?_⟩,by rw[ir];exact cJ,q1,q2 cz Dk⟩
    ·rw[A2.get l oM (by
      rintro(hh|hh)
      .omega
      .exact hn (.inl (.inr (.inr hh))))]
     exact kk.get l hl hn
    .rcases hl with (hl|hl|hl)|hl
     .exact .inl (.inl (.inl hl))
     .exact .inl (.inl (.inr (.inl hl)))
     .exact(gF l hl).imp (λa=>.inl (.inr (.inr a))) λa=>by omega
     .exact .inl (.inr hl)
   generalize mL c w n S.length x t W=W3 at g0 gw gL V6 gI kk fin iT |-;rcases ok.en with ⟨e0,e1,e2⟩|⟨ge,ces,e0,kG⟩
   .simp[k3,k7,dK,ab,g0,gw,TB,ew,e0,gj,fH];obtain⟨t',F',D',f1,f2,f3,f4,f5⟩:=fin F1 D1 W3 (by rw[e2];exact gI) (by rw[e1];exact V6) (Kp.refl _ _) (grow.refl _ _) (λl hl=>.inl hl);subst A4;exact SC ⟨rfl,rfl⟩ f1 f2 ⟨t',F',D',rfl,f3,f4.loop ok zm f1,f5.set _ oM⟩
   .simp[k3,k7,dK,ab,g0,gw,TB,ew,e0,gj,fH];refine bE (kG W3 W.length (n+t.length) x _ F1 D1 V6 (λhf=>by have:=ok.lt rm.wk.st _ (.inl hf);omega) (λhf=>by have:=ok.lt rm.wk.st _ (.inr hf);omega) oM rm.wk.cn gI) ?_;rintro r X ⟨F2,D2,hX,hp,A2,gF,gD⟩;simp;obtain⟨t',F',D',f1,f2,f3,f4,f5⟩:=fin F2 D2 X hX hp A2 gF gD;subst A4;exact SC ⟨rfl,rfl⟩ f1 f2 ⟨t',F',D',rfl,f3,f4.loop ok zm f1,f5.set _ oM⟩
 .rintro G U ⟨t,F',D',rfl,ht,hj,MM⟩ hk;rw[OG,gu]at ht;simp[ab,hj.t4];refine bu rfl ⟨t,F',D',ht,by rw[<-ht];exact hj.wk,MM,S.length+3,S.length+1,S.length+2,v,_,_,rfl,⟨?_,?_,?_⟩,hj.t3,hj.t1,hj.t2,λe he=>⟨?_,(hj.pl e he).2⟩,eh.mono (MM.k.mono λl _ hh=>hh.imp id .inl) λl hh=>?_⟩
  .rintro(hh|hh|hh)
   .omega
   .exact(hj.off 3 oM).2.1 hh
   .have:=hY _ hh;omega
  .rintro(hh|hh|hh)
   .omega
   .exact(hj.off 1 oM).2.1 hh
   .have:=hY _ hh;omega
  .rintro(hh|hh|hh)
   .omega
   .exact(hj.off 2 oM).2.1 hh
   .have:=hY _ hh;omega
  .have:=hj.ge e he;rintro(hh|hh|hh)
   .omega
   .exact(hj.pl e he).1 hh
   .have:=hY _ hh;omega
  .rcases hh with hh|hh|hh
   .exact .inl (.inl hh)
   .exact(MM.gF l hh).imp (λa=>.inr (.inl a)) id
   .exact .inl (.inr (.inr hh))
 .rintro G U h;exact h.elim
 .rintro id G U h;exact h.elim
structure Rp where
 fresh:List Bz
 rX:List Bz
 to:List Ex
structure cd where
 free:List Bz
 bad:Bool
 oG:Bool
def ai.flat:ai->cy
 |[]=>[]
 |s::r=>ai.flat r++s
def tM:List Bz->List Ex->Bz->Option Ex
 |f::fs,e::es,x=>if f=x then some e else tM fs es x
 |_,_,_=>none
def mt(r:Rp)(x:Bz):Option Ex:=tM r.rX r.to x
def dX(r:Rp)(sc:ai)(x:Bz):Bz:=match sc.at x with
 |some k=>(r.fresh[k]?).getD x
 |none=>x
def oS(r:Rp)(sc:ai)(x:Bz)(st:cd):cd:=match sc.at x with
 |some _=>st
 | none=>{ free:=st.free++[x],bad:=st.bad,oG:=st.oG || (match mt r x with
  |some e=>decide (e.kind=6)&&(ai.flat sc).any λp=>decide (p.1=e.text)
  |none=>false) }
def ql(r:Rp)(sc:ai)(x:Bz):Option Ex:=match sc.at x with
 |some _=>none
 |none=>mt r x
def qm(r:Rp)(sc:ai)(x:Bz):Bz:=match ql r sc x with
 |some e=>if e.kind=6 then e.text else x
 |none=>dX r sc x
def oh(r:Rp)(sc:ai)(x:Bz)(st:cd):cd:={ oS r sc x st with bad:=(oS r sc x st).bad || (match ql r sc x with
 |some e=>!decide (e.kind=6)
 |none=>false) }
mutual
def Ex.rw(r:Rp)(sc:ai):Ex->Ex
 | .mk k o n m e t a=>if k=6 then (match ql r sc t with
   |some x=>x
   |none=>.mk 6 0 0 0 0 (dX r sc t) [])
  else .mk k o n m e (if k=7\/k=8 then qm r sc t else t) (Ex.b9 r sc a)
def Ex.b9(r:Rp)(sc:ai):List Ex->List Ex
 |[]=>[]
 |x::l=>Ex.rw r sc x::Ex.b9 r sc l
end
def Ex.Oi(r:Rp)(sc:ai):∀l,Ex.b9 r sc l=l.map (Ex.rw r sc)
 |[]=>rfl
 |x::l=>by rw[Ex.b9,Ex.Oi r sc l];rfl
mutual
def Ex.rs(r:Rp)(sc:ai)(st:cd):Ex->cd
 |.mk k _ _ _ _ t a=>if k=6 then oS r sc t st else Ex.bC r sc (if k=7\/k=8 then oh r sc t st else st) a
def Ex.bC(r:Rp)(sc:ai)(st:cd):List Ex->cd
 |[]=>st
 |x::l=>Ex.bC r sc (Ex.rs r sc st x) l
end
def Ex.zT(r:Rp)(sc:ai):∀(l m:List Ex) (st:cd),Ex.bC r sc st (l++m)=Ex.bC r sc (Ex.bC r sc st l) m
 |[],m,h=>rfl
 |x::l,m,h=>by simp only[dR,Ex.bC];exact Ex.zT r sc l m _
def qo(l:List Ex):Bool:=l.any λx=>decide (x.kind≠6)&&decide (x.kind≠7)
def El.rw(r:Rp)(sc:ai)(e:El):El:=⟨e.kind,Ex.b9 r sc e.aw⟩
def El.bC(r:Rp)(sc:ai)(st:cd)(l:List El):cd:=l.foldl (λst e=>Ex.bC r sc st e.aw) st
def Fo.rw(r:Rp)(sc:ai)(x:Fo):Fo:=⟨dX r sc x.name,x.value,x.spec,x.type⟩
def yO(r:Rp)(sc:ai)(st:cd)(l:List Ex):cd:={ Ex.bC r sc st l with bad:=(Ex.bC r sc st l).bad||qo (Ex.b9 r sc l) }
mutual
def Sm.rw(r:Rp)(sc:ai)(n:Nat):Sm->Sm
 |.mk l k t g e h d b=>
  if k=7 then
   .mk (l.map (dX r sc)) k t g e h (De.b9 r (ar (cK d b) n::sc) sc (n+(ar (cK d b) n).length) d) (Sm.b9 r (ar (cK d b) n::sc) (n+(ar (cK d b) n).length+De.aX d) b)
  else if k=8 then
   .mk (l.map (dX r sc)) k t g e h d (Sm.b9 r (ar (cr b) n::sc) (n+(ar (cr b) n).length) b)
  else .mk (l.map (dX r sc)) k (if k=6 then qm r sc t else t) (Ex.b9 r sc g) (Ex.b9 r sc e) (h.map (El.rw r sc)) d (Sm.jR r sc n b)
def De.rw(r:Rp)(own sc:ai)(n:Nat):De->De
 |.mk k o t nm e fo b=>
  if k=4 then .mk k o t (nm.map (dX r own)) (Ex.b9 r own e) (fo.map (Fo.rw r (ar (fo.map Fo.name) n::own))) (Sm.jR r (ar (fo.map Fo.name) n::own) (n+(ar (fo.map Fo.name) n).length) b)
  else .mk k o t (nm.map (dX r own)) (Ex.b9 r (if k=2 then sc else own) e) fo b
def De.b9(r:Rp)(own sc:ai)(n:Nat):List De->List De
 |[]=>[]
 |x::l=>De.rw r own sc n x::De.b9 r own sc (n+De.nb x) l
def Sm.b9(r:Rp)(sc:ai)(n:Nat):List Sm->List Sm
 |[]=>[]
 |x::l=>Sm.rw r sc n x::Sm.b9 r sc (n+Sm.nb x) l
def Sm.jR(r:Rp)(sc:ai)(n:Nat):List Sm->List Sm
 |[]=>[]
 |x::l=>Sm.rw r (ar x.labels n::sc) (n+(ar x.labels n).length) x::Sm.jR r sc (n+(ar x.labels n).length+Sm.nb x) l
end
mutual
def Sm.rs(r:Rp)(sc:ai)(n:Nat)(st:cd):Sm->cd
 |.mk _ k t g e h d b=>
  if k=7 then Sm.bC r (ar (cK d b) n::sc) (n+(ar (cK d b) n).length+De.aX d) (De.bC r (ar (cK d b) n::sc) sc (n+(ar (cK d b) n).length) st d) b
  else if k=8 then Sm.bC r (ar (cr b) n::sc) (n+(ar (cr b) n).length) st b
  else Sm.mb r sc n (Ex.bC r sc (El.bC r sc (yO r sc (if k=6 then oh r sc t st else st) g) h) e) b
def De.rs(r:Rp)(own sc:ai)(n:Nat)(st:cd):De->cd
 |.mk k _ _ _ e fo b=>
  if k=4 then Sm.mb r (ar (fo.map Fo.name) n::own) (n+(ar (fo.map Fo.name) n).length) (Ex.bC r own st e) b
  else Ex.bC r (if k=2 then sc else own) st e
def De.bC(r:Rp)(own sc:ai)(n:Nat)(st:cd):List De->cd
 |[]=>st
 |x::l=>De.bC r own sc (n+De.nb x) (De.rs r own sc n st x) l
def Sm.bC(r:Rp)(sc:ai)(n:Nat)(st:cd):List Sm->cd
 |[]=>st
 |x::l=>Sm.bC r sc (n+Sm.nb x) (Sm.rs r sc n st x) l
def Sm.mb(r:Rp)(sc:ai)(n:Nat)(st:cd):List Sm->cd
 |[]=>st
 |x::l=>Sm.mb r sc (n+(ar x.labels n).length+Sm.nb x) (Sm.rs r (ar x.labels n::sc) (n+(ar x.labels n).length) st x) l
end
def dk(l:List Bz):List Bz:=(ar l 0).map (·.1)
mutual
def Sm.bn:Sm->List Bz
 |.mk _ k _ _ _ _ d b=>if k=7 then dk (cK d b)++De.dp d++Sm.dp b else if k=8 then dk (cr b)++Sm.dp b else Sm.jk b
def De.bn:De->List Bz
 |.mk k _ _ _ _ f b=>if k=4 then dk (f.map Fo.name)++Sm.jk b else []
def De.dp:List De->List Bz
 |[]=>[]
 |x::l=>De.bn x++De.dp l
def Sm.dp:List Sm->List Bz
 |[]=>[]
 |x::l=>Sm.bn x++Sm.dp l
def Sm.jk:List Sm->List Bz
 |[]=>[]
 |x::l=>dk x.labels++Sm.bn x++Sm.jk l
end
def mZ(l:List Bz):(dk l).length=(ar l 0).length:=bQ _
mutual
theorem Sm.rT:∀s:Sm,s.bn.length=s.nb
 |.mk _ k _ _ _ _ d b=>by
  simp only[Sm.bn,Sm.nb];split
  .rw[dx,dx,mZ,De.uK d,Sm.uK b]
  .split
   .rw[dx,mZ,Sm.uK b]
   .exact Sm.PX b
theorem De.rT:∀s:De,s.bn.length=s.nb
 |.mk k _ _ _ _ f b=>by
  simp only[De.bn,De.nb];split
  .rw[dx,mZ,Sm.PX b]
  .rfl
theorem De.uK:∀s:List De,(De.dp s).length=De.aX s
 |[]=>rfl
 |x::l=>by simp only[De.dp,De.aX,dx,De.rT x,De.uK l]
theorem Sm.uK:∀s:List Sm,(Sm.dp s).length=Sm.aX s
 |[]=>rfl
 |x::l=>by simp only[Sm.dp,Sm.aX,dx,Sm.rT x,Sm.uK l]
theorem Sm.PX:∀s:List Sm,(Sm.jk s).length=Sm.bH s
 |[]=>rfl
 |x::l=>by simp only[Sm.jk,Sm.bH,dx,mZ,Sm.rT x,Sm.PX l]
end
def Sm.K9:∀(l m:List Sm),Sm.dp (l++m)=Sm.dp l++Sm.dp m
 |[],m=>rfl
 |x::l,m=>by simp only[dR,Sm.dp,Sm.K9 l m,dY]
def De.K9:∀(l m:List De),De.dp (l++m)=De.dp l++De.dp m
 |[],m=>rfl
 |x::l,m=>by simp only[dR,De.dp,De.K9 l m,dY]
def Sm.qdy:∀(l m:List Sm),Sm.jk (l++m)=Sm.jk l++Sm.jk m
 |[],m=>rfl
 |x::l,m=>by simp only[dR,Sm.jk,Sm.qdy l m,dY]
def Sm.Oh(p:Rp)(sc:ai):∀(l m:List Sm) (n:Nat),Sm.b9 p sc n (l++m)=Sm.b9 p sc n l++Sm.b9 p sc (n+Sm.aX l) m
 |[],m,n=>by simp[Sm.b9,Sm.aX]
 |x::l,m,n=>by simp only[dR,Sm.b9,Sm.aX,Sm.Oh p sc l m,jU]
def De.Oh(p:Rp)(own sc:ai):∀(l m:List De) (n:Nat),De.b9 p own sc n (l++m)=De.b9 p own sc n l++De.b9 p own sc (n+De.aX l) m
 |[],m,n=>by simp[De.b9,De.aX]
 |x::l,m,n=>by simp only[dR,De.b9,De.aX,De.Oh p own sc l m,jU]
def Sm.qjR(p:Rp)(sc:ai):∀(l m:List Sm) (n:Nat),Sm.jR p sc n (l++m)=Sm.jR p sc n l++Sm.jR p sc (n+Sm.bH l) m
 |[],m,n=>by simp[Sm.jR,Sm.bH]
 |x::l,m,n=>by
  have:=mK x.labels n 0;simp only[dR,Sm.jR,Sm.bH,Sm.qjR p sc l m,this,jU]
def Sm.zT(p:Rp)(sc:ai):∀(l m:List Sm) (n:Nat) (h:cd),Sm.bC p sc n h (l++m)=Sm.bC p sc (n+Sm.aX l) (Sm.bC p sc n h l) m
 |[],m,n,h=>by simp[Sm.bC,Sm.aX]
 |x::l,m,n,h=>by simp only[dR,Sm.bC,Sm.aX,Sm.zT p sc l m,jU]
def De.zT(p:Rp)(own sc:ai):∀(l m:List De) (n:Nat) (h:cd),De.bC p own sc n h (l++m)=De.bC p own sc (n+De.aX l) (De.bC p own sc n h l) m
 |[],m,n,h=>by simp[De.bC,De.aX]
 |x::l,m,n,h=>by simp only[dR,De.bC,De.aX,De.zT p own sc l m,jU]
def Sm.qjH(p:Rp)(sc:ai):∀(l m:List Sm) (n:Nat) (h:cd),Sm.mb p sc n h (l++m)=Sm.mb p sc (n+Sm.bH l) (Sm.mb p sc n h l) m
 |[],m,n,h=>by simp[Sm.mb,Sm.bH]
 |x::l,m,n,h=>by
  have:=mK x.labels n 0;simp only[dR,Sm.mb,Sm.bH,Sm.qjH p sc l m,this,jU]
def qjW(p:Rp)(sc:ai):∀(m:List Sm) (n:Nat),(Sm.b9 p sc n m).length=m.length
 |[],_=>rfl
 |x::m,n=>by simp only[Sm.b9,gq,qjW p sc m]
def qjS(p:Rp)(sc:ai):∀(m:List Sm) (n:Nat),(Sm.jR p sc n m).length=m.length
 |[],_=>rfl
 |x::m,n=>by simp only[Sm.jR,gq,qjS p sc m]
def qjV(p:Rp)(own sc:ai):∀(m:List De) (n:Nat),(De.b9 p own sc n m).length=m.length
 |[],_=>rfl
 |x::m,n=>by simp only[De.b9,gq,qjV p own sc m]
def Sm.BX(r:Rp)(s:Sm):Sm:=s.rw r [ar s.labels 0] (ar s.labels 0).length
structure iH(p:Pw)(Q:List Bz->p.H->Prop):Prop where
 e:∀{l h} x,Q l h->Q (l++[x]) (p.nQ h l.length x)
 n:∀{l h} x sc tg,Q l h->Q l (p.xh h x sc tg)
 c:∀{l h} x sc,Q l h->Q l (p.qZ h x sc)
def qn7(p:Pw)(h:p.H)(s:cy)(e:Bz×Nat):enters p h (s++[e])=p.nQ (enters p h s) e.2 e.1:=by unfold enters;rw[uz];rfl
def qhf(x:Bz)(l:List Bz):dk (l++[x])=if((ar l 0).at x).isSome then dk l else dk l++[x]:=by
 unfold dk;rw[Fh];split<;>simp
def UN(x:Bz)(n:Nat):∀(k:Nat) (l:List Bz),l.length<=k->((ar l n).at x).isSome=((ar l 0).at x).isSome
 |_,[],_=>rfl
 |0,_::_,h=>by simp at h
 |k+1,y::l',h=>by
  obtain⟨l,z,hl⟩:∃l z,y::l'=l++[z]:=⟨(y::l').dropLast,(y::l').getLast sM,(T8 _).symm⟩;rw[hl]at h |-;have hk:l.length<=k:=by simp at h;exact h
  rw[Fh,Fh,UN z n k l hk];have ih:=UN x n k l hk;split
  .exact ih
  .unfold cy.at at *;rw[yW,yW];cases h1:List.find? (λe=>decide (e.1=x)) (ar l n)<;>cases h2:List.find? (λe=>decide (e.1=x)) (ar l 0)<;>simp[h1,h2]at ih |-;split<;>rfl
section
variable {p:Pw} {Q:List Bz->p.H->Prop} (i:iH p Q)
include i
theorem iH.enters{l:List Bz}{h:p.H}(hq:Q l h):∀(k:Nat) (a:List Bz),a.length<=k->Q (l++dk a) (enters p h (ar a l.length))
 |_,[],_=>by simpa[dk,ar,binds,Go.Proofs.YtbifpocccfkhhaaGreatDoor.enters]using hq
 |0,_::_,h=>by simp at h
 |k+1,y::l',hk=>by
  obtain⟨a,z,hl⟩:∃a z,y::l'=a++[z]:=⟨(y::l').dropLast,(y::l').getLast sM,(T8 _).symm⟩;rw[hl]at hk |-;have hk:a.length<=k:=by simp at hk;exact hk
  have ih:=iH.enters hq k a hk;rw[Fh,qhf,UN z l.length k a hk];split
  .exact ih
  .rw[qn7,<-dY];have h2:(l++dk a).length=l.length+(ar a l.length).length:=by rw[dx,mZ,mK a l.length 0]
   have h3:=i.e z ih;rw[h2]at h3;exact h3
theorem iH.sO{l:List Bz}{h:p.H}(sc:ai)(tg:Bool)(x:Ex)(hq:Q l h):Q l (p.sO sc tg h x):=by
 unfold Pw.sO;split
 .split
  .exact hq
  .exact i.n _ _ _ hq
 .exact hq
theorem iH.rU{l:List Bz}{h:p.H}(sc:ai)(k:Int)(t:Bz)(hq:Q l h):Q l (p.rU sc k h t):=by
 unfold Pw.rU;split
 .split
  .exact hq
  .exact i.c _ _ hq
 .exact hq
mutual
theorem iH.ex{l:List Bz}(sc:ai)(tg:Bool):∀(x:Ex) {h:p.H},Q l h->Q l (x.hs p sc tg h)
 |.mk k o n m e t a,h,hq=>by simp only[Ex.hs];exact i.sO _ _ _ (iH.zj sc false a hq)
theorem iH.zj{l:List Bz}(sc:ai)(tg:Bool):∀(x:List Ex) {h:p.H},Q l h->Q l (Ex.aN p sc tg h x)
 |[],h,hq=>hq
 |x::r,h,hq=>by simp only[Ex.aN];exact iH.zj sc tg r (iH.ex sc tg x hq)
end
theorem iH.el{l:List Bz}(sc:ai):∀(x:List El) {h:p.H},Q l h->Q l (El.aN p sc h x)
 |[],h,hq=>hq
 |x::r,h,hq=>iH.el sc r (h:=Ex.aN p sc false h x.aw) (i.zj sc false x.aw hq)
omit i in
theorem NG(l a:List Bz):(l++dk a).length=l.length+(ar a l.length).length:=by rw[dx,mZ,mK a l.length 0]
mutual
theorem iH.sm(sc:ai){l:List Bz}:∀(s:Sm) {h:p.H},Q l h->Q (l++s.bn) (s.hs p sc l.length h)
 |.mk lb k t g e el d b,h,hq=>by
  simp only[Sm.hs,Sm.bn];split
  .have h1:=i.enters (i.zj sc true g hq) _ (cK d b) cz;rw[<-NG];have h2:=iH.del (ar (cK d b) l.length::sc) sc d h1;have h3:=iH.SV (ar (cK d b) l.length::sc) b h2;rw[dx,De.uK]at h3;rw[<-dY,<-dY];exact h3
  .split
   .have h1:=i.enters (i.zj sc true g hq) _ (cr b) cz;rw[<-NG];have h3:=iH.SV (ar (cr b) l.length::sc) b h1;rw[<-dY];exact h3
   .exact i.rU _ _ _ (iH.Zj sc b (i.el sc el (i.zj sc false e (i.zj sc true g hq))))
theorem iH.de(own sc:ai){l:List Bz}:∀(d:De) {h:p.H},Q l h->Q (l++d.bn) (d.hs p own sc l.length h)
 |.mk k o t nm e f b,h,hq=>by
  simp only[De.hs,De.bn];split
  .have h1:=i.enters (i.zj own false e hq) _ (f.map Fo.name) cz;rw[<-NG,<-dY];exact iH.Zj _ b h1
  .rw[pR];exact i.zj _ _ e hq
theorem iH.del(own sc:ai){l:List Bz}:∀(d:List De) {h:p.H},Q l h->Q (l++De.dp d) (De.aN p own sc l.length h d)
 |[],h,hq=>by simpa[De.dp,De.aN]using hq
 |x::r,h,hq=>by
  have h1:=iH.del own sc r (iH.de own sc x hq);rw[dx,De.rT,dY]at h1;simp only[De.dp,De.aN];exact h1
theorem iH.SV(sc:ai){l:List Bz}:∀(s:List Sm) {h:p.H},Q l h->Q (l++Sm.dp s) (Sm.aN p sc l.length h s)
 |[],h,hq=>by simpa[Sm.dp,Sm.aN]using hq
 |x::r,h,hq=>by
  have h1:=iH.SV sc r (iH.sm sc x hq);rw[dx,Sm.rT,dY]at h1;simp only[Sm.dp,Sm.aN];exact h1
theorem iH.Zj(sc:ai){l:List Bz}:∀(s:List Sm) {h:p.H},Q l h->Q (l++Sm.jk s) (Sm.bw p sc l.length h s)
 |[],h,hq=>by simpa[Sm.jk,Sm.bw]using hq
 |x::r,h,hq=>by
  have h0:=i.enters hq _ x.labels cz;have h1:=iH.Zj sc r (iH.sm (ar x.labels l.length::sc) x h0);rw[dx,Sm.rT,NG,dY,dY]at h1;simp only[Sm.jk,Sm.bw,dY];exact h1
end
end
def iH.cn{c:Cb}(ok:c.Ok):iH c.toPw λl h=>c.cn h l.length:=⟨λx h=>by rw[dx];exact ok.ce x h,λx sc tg h=>ok.cm x sc tg h,λx sc h=>ok.cc x sc h⟩
section
variable {c:Cb} (ok:c.Ok)
include ok
theorem qni{n:Nat}{h:c.H}(sc:ai)(tg:Bool)(x:List Ex)(k:c.cn h n):c.cn (Ex.aN c.toPw sc tg h x) n:=by
 have:=(iH.cn ok).zj (l:=List.replicate n ⟨⟨[]⟩⟩) sc tg x (h:=h) (by simpa using k);simpa using this
theorem qnh{n:Nat}{h:c.H}(a:List Bz)(k:c.cn h n):c.cn (enters c.toPw h (ar a n)) (n+(ar a n).length):=by
 have:=(iH.cn ok).enters (l:=List.replicate n ⟨⟨[]⟩⟩) (h:=h) (by simpa using k) _ a cz;simp only[NG]at this;simpa using this
theorem qnj{n:Nat}{h:c.H}(sc:ai)(s:List Sm)(k:c.cn h n):c.cn (Sm.aN c.toPw sc n h s) (n+Sm.aX s):=by
 have:=(iH.cn ok).SV (l:=List.replicate n ⟨⟨[]⟩⟩) sc s (h:=h) (by simpa using k);simp only[dx,Sm.uK]at this;simpa using this
end
def Gw(sz n0 w:Nat)(F D:Np)(xs:List V)(v:V)(S:St):Prop:=(xs=[]/\v=sN)\/∃l wr,n0<=l/\gy w F D l/\v=.arr l 0 xs.length xs.length/\S[l]?=some (.arr xs sz wr)/\wr<=xs.length
def Gw.nil(sz n0 w:Nat)(F D:Np)(S:St):Gw sz n0 w F D [] sN S:=.inl ⟨rfl,rfl⟩
def Gw.step{sz n0 w:Nat}{F D F' D':Np}{xs:List V}{v:V}{S U:St}(h:Gw sz n0 w F D xs v S)(s:bJ w F D S F' D' U):Gw sz n0 w F' D' xs v U:=by
 rcases h with h|⟨l,wr,h1,h2,h3,h4,h5⟩
 .exact .inl h
 .exact .inr ⟨l,wr,h1,h2.next (br.1 h4).1 s,h3,s.at h2 h4,h5⟩
def Gw.push{sz n0 w:Nat}{F D:Np}{xs:List V}{v:V}{S:St}(h:Gw sz n0 w F D xs v S)(os:List Ob):Gw sz n0 w F D xs v (S++os):=by
 rcases h with h|⟨l,wr,h1,h2,h3,h4,h5⟩
 .exact .inl h
 .exact .inr ⟨l,wr,h1,h2,h3,by rw[dh (br.1 h4).1];exact h4,h5⟩
def Gw.CN{c:Cb}(ok:c.Ok){sz w n bytes:Nat}{hh:c.H}{F0 D0 F D:Np}{xs:List V}{y v:V}{S0 S:St}{b:Bool}(h:Gw sz S0.length w F D xs v S)(k:Wk c w n hh F D S)(s:bJ w F0 D0 S0 F D S)(hy:fits sz [y]=true)(hr:(xs.length+1)*bytes<=2^47):
  ∃v' S',fV S sz bytes v (.sl b [y])=some (v',S')/\Gw sz S0.length w F D (xs++[y]) v' S'/\Wk c w n hh F D S'/\bJ w F0 D0 S0 F D S':=by
 have hlen:=s.k.len;rcases h with ⟨rfl,rfl⟩|⟨l,wr,h1,h2,rfl,h3,h4⟩
 .have jx:[y].length*bytes<=2^47:=by simpa using hr
  refine⟨.arr S.length 0 1 1,S++[.arr [y] sz 1],?_,.inr ⟨S.length,1,hlen,k.out ok cz,sM,sM,sM⟩,k.push ok _,s.push _⟩;unfold fV;rw[rW];have hc:true=true/\fits sz [y]=true/\(([]:List V).all λv=>v.size==sz)=true/\(([]:List V).length+[y].length)*bytes<=2^47:=⟨rfl,hy,rfl,hr⟩;show(if [y].isEmpty=true then _ else _)=_;rw[au sM,ak hc];simp
 .have hc:0=0/\xs.length=xs.length/\xs.length=xs.length/\sz=sz/\fits sz [y]=true/\(xs.length+[y].length)*bytes<=2^47:=⟨rfl,rfl,rfl,rfl,hy,hr⟩;have aB:l<S.length:=(br.1 h3).1;refine⟨.arr l 0 (xs.length+1) (xs.length+1),S.set l (.arr (xs++[y]) sz wr),?_,.inr ⟨l,wr,h1,h2,sM,by rw[bO aB],by simp;omega⟩,k.set ok _ h2.1 h2.2.1 h2.2.2,s.set _ h1⟩;unfold fV;rw[rW];show(match S[l]? with|_=>_)=_;rw[h3];show(if _ then _ else _)=_;rw[ak hc];rfl
def Gw.fin{c:Cb}(ok:c.Ok){sz w n:Nat}{hh:c.H}{F0 D0 F D:Np}{xs:List V}{v:V}{S0 U:St}(h:Gw sz S0.length w F D xs v U)(k:Wk c w n hh F D U)(s:bJ w F0 D0 S0 F D U):
  ∃U',dJ S0.length v U (ah (xs.map V.weak)) U'/\Wk c w n hh F D U'/\bJ w F0 D0 S0 F D U':=by
 rcases h with ⟨rfl,rfl⟩|⟨l,wr,h1,h2,rfl,h3,h4⟩
 .exact⟨U,dJ.weak (r:=sN),k,s⟩
 .have g1:=dJ.freeze (n:=S0.length) (l:=l) (off:=0) (len:=xs.length) (st:=xs.length) h3 h4 oM;simp only[CG,gu]at g1;have g2:dJ S0.length (ah xs) (U.set l .dead) (ah xs).weak (U.set l .dead):=dJ.weak;simp only[V.weak,iO]at g2;exact⟨_,g1.trans g2,k.set ok _ h2.1 h2.2.1 h2.2.2,s.set _ h1⟩
def Wd(c:Cb)(w n:Nat)(h':c.H)(F D:Np)(S:St)(x:V)(r:V)(U:St):Prop:=r=x/\∃F' D',Wk c w n h' F' D' U/\bJ w F D S F' D' U
def Ij{c:Cb}(ok:c.Ok){sz w n:Nat}{hh:c.H}{F0 D0 F D:Np}{xs:List V}{v:V}{S0 U:St}{rs:List RV}{e:ae}(hv:eL e U rs=some [v])(h:Gw sz S0.length w F D xs v U)(k:Wk c w n hh F D U)(s:bJ w F0 D0 S0 F D U){ys:List V}(hx:xs.map V.weak=ys):
  eN rs S0.length (λr U=>Wd c w n hh F0 D0 S0 (ah ys) r U) .ret e U:=by
 obtain⟨U',g,k',s'⟩:=h.fin ok k s;exact⟨_,hv,_,U',g,by rw[hx],F,D,k',s'⟩
def Ww(c:Cb)(sz w n:Nat)(hh:c.H)(F D:Np)(S:St)(reg:Nat)(xs:List V)(e:ae)(U:St):Prop:=∃(gv:V) (F' D':Np),e.get reg=some gv/\Gw sz S.length w F' D' xs gv U/\Wk c w n hh F' D' U/\bJ w F D S F' D' U
def Lw(c:Cb)(sz w:Nat)(F D:Np)(S:St)(len:Nat)(n:Nat->Nat)(hh:Nat->c.H)(xs:Nat->List V)(env:Nat->V->ae)(j:Nat)(e:ae)(U:St):Prop:=∃(i:Nat) (gv:V) (F' D':Np),j=len-i/\i<=len/\Gw sz S.length w F' D' (xs i) gv U/\Wk c w (n i) (hh i) F' D' U/\bJ w F D S F' D' U/\e=env i gv
def Ex.kj(x:Ex):fits 7 [x.v]=true:=by simp[fits]
def Ub(c:Cb)(w:Nat)(x:Ex):Prop:=∀(n:Nat) (h:c.H) (F D:Np) (S:St) (v:V) (ts:List ey) (tg:Bool),Wk c w n h F D S->eu c.toPw (λl=>l=w\/F l) S v ts->
 aA prog 97 [ag w,x.v,v,.bool tg] S (λr U=>Wd c w n (Ex.hs c.toPw (aE ts) tg h x) F D S (x.wr c.toPw (aE ts) tg).v r U)
def qki(c:Cb)(ok:c.Ok)(w:Nat)(l:List Ex)(H:∀x,x∈l->Ub c w x)(hl:l.length<=4000)(n:Nat)(h:c.H)(F D:Np)(S:St)(v:V)(ts:List ey)(tg:Bool)(hk:Wk c w n h F D S)(eh:eu c.toPw (λl=>l=w\/F l) S v ts):
  aA prog 134 [ag w,ah (l.map Ex.v),v,.bool tg] S (λr U=>Wd c w n (Ex.aN c.toPw (aE ts) tg h l) F D S (ah ((Ex.bh c.toPw (aE ts) tg l).map Ex.v)) r U):=by
 refine aA.ib qaL ?_;simp[qaL];refine eA (Ww c 7 w n (Ex.aN c.toPw (aE ts) tg h l) F D S 9 ((Ex.bh c.toPw (aE ts) tg l).map Ex.v)) ?_ ?_
 ·refine cE (Lw c 7 w F D S l.length (λ_=>n) (λi=>Ex.aN c.toPw (aE ts) tg h (l.take i)) (λi=>(Ex.bh c.toPw (aE ts) tg (l.take i)).map Ex.v)
   (λi gv=>[(14,af i),(13,af l.length),(12,ah (l.map Ex.v)),(9,gv),(0,ag w),(2,v),(3,.bool tg)])) l.length _ ?_ ⟨0,_,F,D,sM,oM,Gw.nil _ _ _ _ _ _,hk,bJ.refl _ _ _ _,rfl⟩ ?_
  .exact ba
  rintro j e U ⟨i,gv,F1,D1,rfl,hi,hg,bW,bw,rfl⟩;by_cases aB:i<l.length
  .simp[aB,qJ,aL,aI,aU,ab];refine bE (H l[i] (dz aB) n _ F1 D1 _ v ts tg (bW.push ok _) ((eh.step bw).push _)) ?_;rintro r U2 ⟨rfl,F2,D2,eU,iU⟩;have iz:=(hg.push [Ob.arr [l[i].v] 7 1]).step iU;have lN:=bw.trans iU.ofPush;obtain⟨v',U3,ha,gz,gK,lO⟩:=iz.CN ok (bytes:=80) (b:=true) eU lN (Ex.kj (l[i].wr c.toPw (aE ts) tg)) (by rw[bQ,Ex.Ce,bQ,qz];omega)
   have hn:(Ex.bh c.toPw (aE ts) tg (l.take i)).map Ex.v++[(l[i].wr c.toPw (aE ts) tg).v]=(Ex.bh c.toPw (aE ts) tg (l.take (i+1))).map Ex.v:=by
    rw[Ex.Ce,Ex.Ce,dN,bX aB,iP,cJ,cJ];rfl
   have nw:Ex.hs c.toPw (aE ts) tg (Ex.aN c.toPw (aE ts) tg h (l.take i)) l[i]=Ex.aN c.toPw (aE ts) tg h (l.take (i+1)):=by
    rw[dN,bX aB,iP,Ex.zt];rfl
   rw[hn]at gz;rw[nw]at gK;simp[Ex.kj,ha,cG i];refine⟨_,?_,_,?_,i+1,v',F2,D2,rfl,oM,gz,gK,lO,rfl⟩
   .omega
   .exact ba
  .have:i=l.length:=oM;subst this;simp only[gu]at hg bW;simp;exact⟨gv,F1,D1,rfl,hg,bW,bw⟩
 rintro e U ⟨gv,F1,D1,g9,hg,bW,bw⟩;simp[g9];exact Ij ok rfl hg bW bw (by rw[<-iO,oq])
def Ex.M9(p:Pw)(sc:ai)(tg:Bool)(h:p.H)(x:Ex):x.hs p sc tg h=p.sO sc tg (Ex.aN p sc false h x.args) (.mk x.kind x.op x.n x.dQ x.exp x.text (Ex.bh p sc false x.args)):=by cases x;simp only[Ex.hs,Ex.kind,Ex.op,Ex.n,Ex.dQ,Ex.exp,Ex.text,Ex.args]
def Ex.OQ(p:Pw)(sc:ai)(tg:Bool)(x:Ex):x.wr p sc tg=p.yD sc tg (.mk x.kind x.op x.n x.dQ x.exp x.text (Ex.bh p sc false x.args)):=by cases x;simp only[Ex.wr,Ex.kind,Ex.op,Ex.n,Ex.dQ,Ex.exp,Ex.text,Ex.args]
def exV(x:Ex)(l:List Ex):V.agg [af x.kind,af x.op,af x.n,af x.dQ,af x.exp,.str x.text,ah (l.map Ex.v)]=(Ex.mk x.kind x.op x.n x.dQ x.exp x.text l).v:=by rw[Ex.eW];rfl
def Wk.Vi{c:Cb}(ok:c.Ok){w n:Nat}{h h':c.H}{F D F' D':Np}{S U:St}(k:Wk c w n h F D S)(hI:c.I h' F' D' U)(hk:Kp F S U)(gF:grow S F F')(gD:grow S D D'):(U[w]?=some (ui c n)/\¬F' w/\¬D' w)/\bJ w F D S F' D' U:=by
 have aB:=(br.1 k.tw).1;exact⟨⟨hk.at k.tw k.nF,λhf=>(gF w hf).elim k.nF oM,λhf=>(gD w hf).elim k.nD oM⟩,hk.mono λ_ _ h=>.inr h,gF,gD⟩
def Wk.call{c:Cb}(ok:c.Ok){w n:Nat}{h h':c.H}{F D F' D':Np}{S U:St}(k:Wk c w n h F D S)(hc:c.cn h' n)(hI:c.I h' F' D' U)(hk:Kp F S U)(gF:grow S F F')(gD:grow S D D'):Wk c w n h' F' D' U/\bJ w F D S F' D' U:=
 have⟨⟨a,b,d⟩,s⟩:=k.Vi ok hI hk gF gD
 ⟨⟨a,hI,b,d,hc⟩,s⟩
def ZF(c:Cb)(ok:c.Ok)(w:Nat):∀(m:Nat) (x:Ex),(Pa.ex x).size<=m->m<=4000->Ub c w x
 |0,x,hx,_=>by have:=(Pa.ex x).size_pos;omega
 |m+1,x,hx,hm=>by
  intro n h F D S v ts tg hk eh;have bF:(Pa.ex x).size=1+bk (x.args.map Pa.ex):=by rw[Pa.size_eq];rfl
  have hl:x.args.length<=4000:=by have:=oi (x.args.map Pa.ex);rw[bQ]at this;omega
  have IH:∀y,y∈x.args→Ub c w y:=λy hy=>ZF c ok w m y (by
   obtain⟨i,hi⟩:=oY (pS (f:=Pa.ex) hy);have:=nc hi;omega) oM
  refine aA.ib C97 ?_;obtain⟨S1,bB⟩:=eX (α:=St) (S++[.arr [x.v] 7 1,.arr [zX] 7 1]);have b0:S1[S.length]?=aJ [x.v] 7:=by rw[bB,cx oM];simp
  have b1:S1[S.length+1]?=aJ [zX] 7:=by rw[bB,cx oM];simp
  have l1:S1.length=S.length+2:=by rw[bB];simp
  have k1:Wk c w n h F D S1:=by rw[bB];exact hk.push ok _
  have s1:bJ w F D S F D S1:=by rw[bB];exact(bJ.refl _ _ _ _).push _
  have o0:gy w F D S.length:=hk.out ok cz;have o1:gy w F D (S.length+1):=hk.out ok oM;simp[C97,aL,ab,aU];rw[<-bB];refine bE (qki c ok w x.args IH hl n h F D S1 v ts false k1 (eh.step s1)) ?_;rintro r U ⟨rfl,F1,D1,k2,s2⟩;have c0:=s2.at o0 b0;have c1:=s2.at o1 b1;have p0:=o0.next oM s2;have p1:=o1.next oM s2;have s2':=s1.trans s2;generalize cj:Ex.bh c.toPw (aE ts) false x.args=l' at *;generalize hh':Ex.aN c.toPw (aE ts) false h x.args=h' at *;have hu:=s2.k.len;obtain⟨y,hy⟩:=eX (α:=Ex) (.mk x.kind x.op x.n x.dQ x.exp x.text l');have yk:y.kind=x.kind:=by rw[hy];rfl
  have yt:y.text=x.text:=by rw[hy];rfl
  have bg:Ob.arr [V.agg [af x.kind,af x.op,af x.n,af x.dQ,af x.exp,.str x.text,ah (l'.map Ex.v)]] 7 1=.arr [y.v] 7 1:=by rw[exV,<-hy]
  obtain⟨U2,dG⟩:=eX (α:=St) (U.set S.length (.arr [y.v] 7 1));have d0:U2[S.length]?=aJ [y.v] 7:=by rw[dG,bO oM]
  have d1:U2[S.length+1]?=aJ [zX] 7:=by rw[dG,bG oM];exact c1
  have k3:Wk c w n h' F1 D1 U2:=by rw[dG];exact k2.set ok _ p0.1 p0.2.1 p0.2.2
  have s3:bJ w F D S F1 D1 U2:=by rw[dG];exact s2'.set _ cz
  have l2:U2.length=U.length:=by rw[dG];simp
  simp[aI,ab,c0,yP,aU];rw[bg,<-dG];rw[Ex.OQ,Ex.M9,cj,hh',<-hy];have fin:∀(h2:c.H) (F2 D2:Np) (U3:St) (z:Ex),U3[S.length+1]?=aJ [z.v] 7->Wk c w n h2 F2 D2 U3->bJ w F D S F2 D2 U3->∀e:ae,e.get 8=some (ag (S.length+1))->eN [.cell 8 (some 7)] S.length (λr U=>Wd c w n h2 F D S z.v r U) .ret e U3:=
   λh2 F2 D2 U3 z hz gK lN e he=>bu (vs:=[z.v]) (by simp[eL,he,ab,hz]) ⟨rfl,F2,D2,gK,lN⟩
  have fin2:∀(h2:c.H) (F2 D2:Np) (U3:St) (z:Ex) (o:Ob),U3[S.length+1]?=some o->gy w F2 D2 (S.length+1)->Wk c w n h2 F2 D2 U3->bJ w F D S F2 D2 U3->∀e:ae,e.get 8=some (ag (S.length+1))->eN [.cell 8 (some 7)] S.length (λr U=>Wd c w n h2 F D S z.v r U) .ret e (U3.set (S.length+1) (.arr [z.v] 7 1)):=
   λh2 F2 D2 U3 z o hz po gK lN e he=>fin h2 F2 D2 _ z (bO (br.1 hz).1) (gK.set ok _ po.1 po.2.1 po.2.2) (lN.set _ oM) e he
  by_cases hn:Ex.named x.kind=true
  case neg=>
   have e6:x.kind≠6:=λhh=>hn (by rw[hh];rfl)
   have e7:x.kind≠7:=λhh=>hn (by rw[hh];rfl)
   have e8:x.kind≠8:=λhh=>hn (by rw[hh];rfl)
   simp[ab,d0,yk,e6,e7,e8,aI,d1,aU];have e1:c.toPw.yD (aE ts) tg y=y:=by unfold Pw.yD;rw[yk,au hn]
   have e2:c.toPw.sO (aE ts) tg h' y=h':=by unfold Pw.sO;rw[yk,au hn]
   rw[e1,e2];exact fin2 _ F1 D1 _ _ _ d1 p1 k3 s3 _ rfl
  have gK:x.kind=6\/x.kind=7\/x.kind=8:=by
   unfold Ex.named at hn;simpa[or_assoc]using hn
  have tw:=k3.tw;unfold ui at tw
  cases qg:c.nm with
  |none=>
   have si:c.fn=.bY:=by have:=ok.nm;rw[qg]at this;exact this
   rw[si]at tw;have u9:=eh.step s3;have rZ:=Hm u9 x.text;have e2:c.toPw.sO (aE ts) tg h' y=h':=by unfold Pw.sO;rw[qg];simp
   have e1:c.toPw.yD (aE ts) tg y=.mk y.kind y.op y.n y.dQ y.exp (jo c.toPw (aE ts) y.text) y.args:=by unfold Pw.yD;rw[yk,ak hn,qg]
   rw[e1,e2,yt];have jY:=CY ts x.text
   cases hf:qE ts x.text with
   |none=>
    have hr:jo c.toPw (aE ts) x.text=x.text:=by unfold jo;rw[jY,hf];rfl
    have hv:km ts x.text=.cu:=by simp[km,hf]
    rw[hv]at rZ;have zy:Ex.mk y.kind y.op y.n y.dQ y.exp x.text y.args=y:=by rw[hy];rfl
    rw[hr,zy];rcases gK with e|e| e
    all_goals
     simp[ab,d0,yk,yt,e,dK,tw,gj,fH]
     refine aZ rZ ?_
     simp[ab,d0,gj,fH,aI,d1,aU]
     exact fin2 _ F1 D1 _ _ _ d1 p1 k3 s3 _ rfl
   |some q=>
    have hr:jo c.toPw (aE ts) x.text=c.f q.1 x.text:=by unfold jo;rw[jY,hf];rfl
    have hv:km ts x.text=ag q.2:=by simp[km,hf]
    rw[hv]at rZ;have hq:=u9.LA hf;unfold fP at hq;obtain⟨z,hz⟩:=eX (α:=Ex) (.mk y.kind y.op y.n y.dQ y.exp (c.f q.1 x.text) y.args);have yu:Ob.arr [V.agg [af y.kind,af y.op,af y.n,af y.dQ,af y.exp,.str (c.f q.1 x.text),ah (y.args.map Ex.v)]] 7 1=.arr [z.v] 7 1:=by rw[hz,Ex.eW];rfl
    rw[hr,<-hz];have qfF:S.length<U2.length:=aR d0;rcases gK with e|e| e
    all_goals
     simp[ab,d0,yk,yt,e,dK,tw,gj,fH]
     refine aZ rZ ?_
     simp[ab,d0,gj,fH,dK,hq,aI,yP,aU]
     rw[yu]
     have f0:(U2.set S.length (.arr [z.v] 7 1))[S.length]?=aJ [z.v] 7:=bO qfF
     have f1:(U2.set S.length (.arr [z.v] 7 1))[S.length+1]?=aJ [zX] 7:=by rw[bG oM];exact d1
     have k4:=k3.set ok (.arr [z.v] 7 1) p0.1 p0.2.1 p0.2.2
     have s4:=s3.set (.arr [z.v] 7 1) cz
     generalize U2.set S.length (.arr [z.v] 7 1)=U4 at f0 f1 k4 s4 |-
     simp[ab,f0,aI,f1,aU]
     exact fin2 _ F1 D1 _ _ _ f1 p1 k4 s4 _ rfl
  |some g=>
   have jN:=ok.nm;rw[qg]at jN;obtain⟨kf,cs,si,yo⟩:=jN;rw[si]at tw;have e2:c.toPw.sO (aE ts) tg h' y=c.xh h' y (aE ts) tg:=by unfold Pw.sO;rw[yk,ak hn,qg]
   have e1:c.toPw.yD (aE ts) tg y=g y (aE ts) tg:=by unfold Pw.yD;rw[yk,ak hn,qg]
   rw[e1,e2];have Xo:=yo U2 y v ts tg w h' F1 D1 (eh.step s3) k3.st;obtain⟨Fi,Di,Ui,hi⟩:=ok.real k3.st (c.xh h' y (aE ts) tg);rcases gK with e|e| e
   all_goals
    simp[ab,d0,yk,e,dK,tw,gj,fH]
    refine uc Xo ⟨_,Ui,rfl,Fi,Di,hi⟩ ?_
    rintro r U3 ⟨rfl,F2,D2,q1,q2,q3,q4⟩
    obtain⟨k4,s4⟩:=k3.call ok (ok.cm _ _ _ k3.cn) q1 q2 q3 q4
    have f1:=s4.at p1 d1
    have p1':=p1.next oM s4
    simp[aI,f1,aU,dP,eF]
    exact fin2 _ F2 D2 _ _ _ f1 p1' k4 (s3.trans s4) _ rfl
def ma(p:Pw)(sc:ai)(l:List Bz):List Bz:=l.map (jo p sc)
def El.bh(p:Pw)(sc:ai)(l:List El):List El:=l.map (El.wr p sc)
def qkx(c:Cb)(ok:c.Ok)(w:Nat)(l:List Bz)(hl:l.length<=4000)(n:Nat)(h:c.H)(F D:Np)(S:St)(v:V)(ts:List ey)(jP:∀x,x∈l->((aE ts).at x).isSome=true)(hk:Wk c w n h F D S)(eh:eu c.toPw (λl=>l=w\/F l) S v ts):
  aA prog 218 [ah (l.map .str),v] S (λr U=>Wd c w n h F D S (ah ((ma c.toPw (aE ts) l).map .str)) r U):=by
 refine aA.ib qbz ?_;simp[qbz];refine eA (Ww c 1 w n h F D S 5 ((ma c.toPw (aE ts) l).map .str)) ?_ ?_
 ·refine cE (Lw c 1 w F D S l.length (λ_=>n) (λ_=>h) (λi=>(ma c.toPw (aE ts) (l.take i)).map .str)
   (λi gv=>[(10,af i),(9,af l.length),(8,ah (l.map .str)),(5,gv),(1,v)])) l.length _ ?_ ⟨0,_,F,D,sM,oM,Gw.nil _ _ _ _ _ _,hk,bJ.refl _ _ _ _,rfl⟩ ?_
  .exact ba
  rintro j e U ⟨i,gv,F1,D1,rfl,hi,hg,bW,bw,rfl⟩;by_cases aB:i<l.length
  .have Jd:=eh.step bw;have rZ:=Hm Jd l[i];have jY:=CY ts l[i]
   obtain⟨q,hq⟩:∃q,qE ts l[i]=some q:=by
    have:=jP l[i] (dz aB);rw[jY]at this
    cases hf:qE ts l[i] with
    |none=>rw[hf]at this;cases this
    |some q=>exact⟨q,rfl⟩
   have hv:km ts l[i]=ag q.2:=by simp[km,hq]
   have hr:jo c.toPw (aE ts) l[i]=c.f q.1 l[i]:=by unfold jo;rw[jY,hq];rfl
   rw[hv]at rZ;have wS:=Jd.LA hq;unfold fP at wS;simp[aB,oR];refine aZ rZ ?_;obtain⟨v',U3,ha,gz,gK,lO⟩:=hg.CN ok (bytes:=16) (b:=true) (y:=.str (c.f q.1 l[i])) bW bw (by rfl) (by simp only[ma,El.bh,bQ,qz];omega)
   have hn:(ma c.toPw (aE ts) (l.take i)).map V.str++[.str (c.f q.1 l[i])]=(ma c.toPw (aE ts) (l.take (i+1))).map V.str:=by
    unfold ma;rw[dN,bX aB,iP,cJ,cJ,<-hr];rfl
   rw[hn]at gz;have kG:fits 1 [V.str (c.f q.1 l[i])]=true:=rfl;simp[dK,ab,wS,kG,ha,cG i];refine⟨_,?_,_,?_,i+1,v',F1,D1,rfl,oM,gz,gK,lO,rfl⟩
   .omega
   .exact ba
  .have:i=l.length:=oM;subst this;simp only[gu]at hg bW;simp;exact⟨gv,F1,D1,rfl,hg,bW,bw⟩
 rintro e U ⟨gv,F1,D1,g5,hg,bW,bw⟩;simp[g5];exact Ij ok rfl hg bW bw (by rw[<-iO,oW])
def El.kj(x:El):fits 2 [x.v]=true:=by simp[fits]
def El.zt(p:Pw)(sc:ai)(h:p.H)(l m:List El):El.aN p sc h (l++m)=El.aN p sc (El.aN p sc h l) m:=by unfold El.aN;rw[uz]
def Ou(c:Cb)(ok:c.Ok)(w:Nat)(l:List Ex)(hl:bk (l.map Pa.ex)<=4000)(n:Nat)(h:c.H)(F D:Np)(S:St)(v:V)(ts:List ey)(tg:Bool)(hk:Wk c w n h F D S)(eh:eu c.toPw (λl=>l=w\/F l) S v ts):
  aA prog 134 [ag w,ah (l.map Ex.v),v,.bool tg] S (λr U=>Wd c w n (Ex.aN c.toPw (aE ts) tg h l) F D S (ah ((Ex.bh c.toPw (aE ts) tg l).map Ex.v)) r U):=
 qki c ok w l (λx hx=>ZF c ok w 4000 x (by
  obtain⟨i,hi⟩:=oY (pS (f:=Pa.ex) hx);have:=nc hi;omega) oM) (by have:=oi (l.map Pa.ex);rw[bQ]at this;omega) n h F D S v ts tg hk eh
def Wd.some{c:Cb}(ok:c.Ok){w n n':Nat}{h:c.H}{F D:Np}{S:St}(hk:Wk c w n h F D S)(h':c.H)(hc:c.cn h' n')(x:V):∃r U,Wd c w n' h' F D S x r U:=by
 obtain⟨F',D',U,q1,q2,q3,q4⟩:=ok.real hk.st h';obtain⟨⟨a,b,d⟩,s⟩:=hk.Vi ok q1 q2 q3 q4;have aB:=(br.1 a).1;refine⟨x,U.set w (ui c n'),rfl,F',D',⟨bO aB,ok.fr (M:=λl=>l=w) q1 ((Kp.refl _ _).set _ (.inl rfl)) (λl hl _=>by rw[hl];exact⟨b,d⟩),b,d,hc⟩,s.k.set _ (.inl (.inl rfl)),s.gF,s.gD⟩
def qxF(c:Cb)(ok:c.Ok)(w:Nat)(l:List El)(hl:bk (l.map Pa.el)<=4000)(n:Nat)(h:c.H)(F D:Np)(S:St)(v:V)(ts:List ey)(hk:Wk c w n h F D S)(eh:eu c.toPw (λl=>l=w\/F l) S v ts):
  aA prog 221 [ag w,ah (l.map El.v),v] S (λr U=>Wd c w n (El.aN c.toPw (aE ts) h l) F D S (ah ((El.bh c.toPw (aE ts) l).map El.v)) r U):=by
 have hlen:l.length<=4000:=by have:=oi (l.map Pa.el);rw[bQ]at this;omega
 refine aA.ib qbC ?_;simp[qbC];refine eA (Ww c 2 w n (El.aN c.toPw (aE ts) h l) F D S 7 ((El.bh c.toPw (aE ts) l).map El.v)) ?_ ?_
 ·refine cE (Lw c 2 w F D S l.length (λ_=>n) (λi=>El.aN c.toPw (aE ts) h (l.take i)) (λi=>(El.bh c.toPw (aE ts) (l.take i)).map El.v)
   (λi gv=>[(12,af i),(11,af l.length),(10,ah (l.map El.v)),(7,gv),(0,ag w),(2,v)])) l.length _ ?_ ⟨0,_,F,D,sM,oM,Gw.nil _ _ _ _ _ _,hk,bJ.refl _ _ _ _,rfl⟩ ?_
  .exact ba
  rintro j e U ⟨i,gv,F1,D1,rfl,hi,hg,bW,bw,rfl⟩;by_cases aB:i<l.length
  .have Nb:bk (l[i].aw.map Pa.ex)<=4000:=by
    have h1:=nc (l:=l.map Pa.el) (i:=i) (q:=Pa.el l[i]) (by simp[aB]);have h2:(Pa.el l[i]).size=1+bk (l[i].aw.map Pa.ex):=by rw[Pa.size_eq];rfl
    omega
   obtain⟨U1,eP⟩:=eX (α:=St) (U++[.arr [l[i].v] 2 1]);have eU:Wk c w n (El.aN c.toPw (aE ts) h (l.take i)) F1 D1 U1:=by rw[eP];exact bW.push ok _
   have iU:bJ w F D S F1 D1 U1:=by rw[eP];exact bw.push _
   have iz:Gw 2 S.length w F1 D1 ((El.bh c.toPw (aE ts) (l.take i)).map El.v) gv U1:=by rw[eP];exact hg.push _
   have b0:U1[U.length]?=aJ [l[i].v] 2:=by rw[eP];simp
   have o0:gy w F1 D1 U.length:=bW.out ok cz;have hlU:U1.length=U.length+1:=by rw[eP];simp
   have QN:=Ou c ok w l[i].aw Nb n _ F1 D1 U1 v ts false eU (eh.step iU);simp[aB,Nu,aL,aI,aU,ab];rw[<-eP];refine uc QN (Wd.some ok eU _ (qni ok _ _ _ eU.cn) _) ?_;rintro r U2 ⟨rfl,F2,D2,gK,lN⟩;have b1:=lN.at o0 b0;have gz:=iz.step lN;have lO:=iU.trans lN;obtain⟨v',U3,ha,zo,QZ,Xl⟩:=gz.CN ok (bytes:=32) (b:=true) gK lO (El.kj (l[i].wr c.toPw (aE ts))) (by simp only[ma,El.bh,bQ,qz];omega)
   have hn:(El.bh c.toPw (aE ts) (l.take i)).map El.v++[(l[i].wr c.toPw (aE ts)).v]=(El.bh c.toPw (aE ts) (l.take (i+1))).map El.v:=by
    unfold El.bh;rw[dN,bX aB,iP,cJ,cJ];rfl
   have nw:Ex.aN c.toPw (aE ts) false (El.aN c.toPw (aE ts) h (l.take i)) l[i].aw=El.aN c.toPw (aE ts) h (l.take (i+1)):=by
    rw[dN,bX aB,iP,El.zt];rfl
   rw[hn]at zo;rw[nw]at QZ;have hb:bP (.agg [z0,sN]) [(0,1,af l[i].kind),(1,1,ah ((Ex.bh c.toPw (aE ts) false l[i].aw).map Ex.v))]=some (l[i].wr c.toPw (aE ts)).v:=by simp[bP,aU];rfl
   simp[bR,hb,El.kj,ha,dP,eF,eZ,ab,b0,b1,cG i];refine⟨_,?_,_,?_,i+1,v',F2,D2,rfl,oM,zo,QZ,Xl,rfl⟩
   .omega
   .exact ba
  .have:i=l.length:=oM;subst this;simp only[gu]at hg bW;simp;exact⟨gv,F1,D1,rfl,hg,bW,bw⟩
 rintro e U ⟨gv,F1,D1,g5,hg,bW,bw⟩;simp[g5];exact Ij ok rfl hg bW bw (by rw[<-iO,uf])
def qmD(s:cy)(e:Bz×Nat)(y:Bz)(h:(s.at y).isSome=true):(cy.at (s++[e]) y).isSome=true:=by
 unfold cy.at at *;rw[yW]
 cases hf:s.find? λp=>decide (p.1=y) with
 |none=>rw[hf]at h;simp at h
 |some p=>simp
def qmH(s:cy)(x:Bz)(n:Nat):(cy.at (s++[(x,n)]) x).isSome=true:=by
 unfold cy.at;rw[yW]
 cases hf:s.find? λp=>decide (p.1=x) with
 |none=>simp
 |some p=>simp
def PV(y:Bz):∀(l:List Bz) (s:cy) (n:Nat),(s.at y).isSome=true->((binds l s n).at y).isSome=true
 |[],_,_,h=>h
 |x::l,s,n,h=>by
  simp only[binds];split
  .exact PV y l s n h
  .exact PV y l _ _ (qmD s _ y h)
def PU(y:Bz):∀(l:List Bz) (s:cy) (n:Nat),y∈l->((binds l s n).at y).isSome=true
 |x::l,s,n,h=>by
  simp only[binds];rcases dU.1 h with rfl| h
  .split
   .rename_i hs;exact PV y l s n hs
   .exact PV y l _ _ (qmH s y n)
  .split
   .exact PU y l s n h
   .exact PU y l _ _ h
def DR(sc:ai)(l:List Bz):Prop:=∀x,x∈l->(sc.at x).isSome=true
def Jl(l:List Bz)(n:Nat)(sc:ai):DR (ar l n::sc) l:=λx hx=>by
 have:=PU x l [] n hx;unfold ai.at;unfold ar
 cases h:cy.at (binds l [] n) x with
 |none=>rw[h]at this;cases this
 |some k=>rfl
def DR.sub{sc:ai}{l m:List Bz}(h:DR sc l)(hm:∀x,x∈m->x∈l):DR sc m:=λx hx=>h x (hm x hx)
def qsG{l:List Sm}{s:Sm}(hs:s∈l):∀x,x∈s.labels->x∈cr l:=λx hx=>yX.2 ⟨s,hs,hx⟩
def Sm.kj(x:Sm):fits 8 [x.v]=true:=by simp[fits]
def De.kj(x:De):fits 7 [x.v]=true:=by simp[fits]
def E9(c:Cb)(w:Nat)(s:Sm):Prop:=∀(n:Nat) (h:c.H) (F D:Np) (S:St) (v:V) (ts:List ey),Wk c w n h F D S->eu c.toPw (λl=>l=w\/F l) S v ts->DR (aE ts) s.labels->n+s.nb<=c.lim->
 aA prog 186 [ag w,s.v,v] S (λr U=>Wd c w (n+s.nb) (s.hs c.toPw (aE ts) n h) F D S (s.wr c.toPw (aE ts) n).v r U)
def eu.weak{p:Pw}{X:Np}{S:St}{v:V}{ts:List ey}(h:eu p X S v ts):v.weak=v:=by
 cases ts with
 |nil=>have h':v=.cu:=h;rw[h'];rfl
 |cons t r=>obtain⟨l,_,_,_,_,_,rfl,_⟩:=h;rfl
def Cd(p:Pw)(sc:ai):∀(m:List Sm) (n:Nat),(Sm.bh p sc n m).length=m.length
 |[],_=>rfl
 |x::m,n=>by simp only[Sm.bh,gq,Cd p sc m]
def Zt(c:Cb)(ok:c.Ok)(w:Nat)(l:List Sm)(b:Bool)(H:∀s,s∈l->E9 c w s)(hl:l.length<=4000)(n:Nat)(h:c.H)(F D:Np)(S:St)(v:V)(ts:List ey)(hk:Wk c w n h F D S)(eh:eu c.toPw (λl=>l=w\/F l) S v ts)
  (jP:DR (aE ts) (cr l)) (hn:n+Sm.aX l<=c.lim):
  aA prog 156 [ag w,.sl b (l.map Sm.v),v] S (λr U=>Wd c w (n+Sm.aX l) (Sm.aN c.toPw (aE ts) n h l) F D S (ah ((Sm.bh c.toPw (aE ts) n l).map Sm.v)) r U):=by
 refine aA.yR ?_;simp only[V.cR,V.weak,nf,eh.weak];refine aA.ib qaW ?_;simp[qaW];refine eA (Ww c 8 w (n+Sm.aX l) (Sm.aN c.toPw (aE ts) n h l) F D S 7 ((Sm.bh c.toPw (aE ts) n l).map Sm.v)) ?_ ?_
 ·refine cE (Lw c 8 w F D S l.length (λi=>n+Sm.aX (l.take i)) (λi=>Sm.aN c.toPw (aE ts) n h (l.take i)) (λi=>(Sm.bh c.toPw (aE ts) n (l.take i)).map Sm.v)
   (λi gv=>[(12,af i),(11,af l.length),(10,ah (l.map Sm.v)),(7,gv),(0,ag w),(2,v)])) l.length _ ?_ ⟨0,_,F,D,sM,oM,Gw.nil _ _ _ _ _ _,hk,bJ.refl _ _ _ _,rfl⟩ ?_
  .exact ba
  rintro j e U ⟨i,gv,F1,D1,rfl,hi,hg,bW,bw,rfl⟩;dsimp only at hg bW;by_cases aB:i<l.length
  .have ht:l.take (i+1)=l.take i++[l[i]]:=by rw[dN,bX aB];rfl
   have su:Sm.aX (l.take (i+1))=Sm.aX (l.take i)+l[i].nb:=by rw[ht,Sm.yC];simp[Sm.aX]
   have ym:Sm.aX (l.take (i+1))<=Sm.aX l:=by
    have:Sm.aX l=Sm.aX (l.take (i+1))+Sm.aX (l.drop (i+1)):=by rw[<-Sm.yC,qY]
    omega
   simp[aB,yv,aL,aI,aU,ab];refine bE (H l[i] (dz aB) _ _ F1 D1 _ v ts (bW.push ok _) ((eh.step bw).push _) (jP.sub (qsG (dz aB))) oM) ?_;rintro r U2 ⟨rfl,F2,D2,eU,iU⟩;have iz:=(hg.push [Ob.arr [l[i].v] 8 1]).step iU;have lN:=bw.trans iU.ofPush
   obtain ⟨v',U3,ha,gz,gK,lO⟩:=iz.CN ok (bytes:=168) (b:=true) eU lN (Sm.kj (l[i].wr c.toPw (aE ts) (n+Sm.aX (l.take i)))) (by
    rw[bQ,Cd,qz];omega)
   have qf:(Sm.bh c.toPw (aE ts) n (l.take i)).map Sm.v++[(l[i].wr c.toPw (aE ts) (n+Sm.aX (l.take i))).v]=(Sm.bh c.toPw (aE ts) n (l.take (i+1))).map Sm.v:=by
    rw[ht,Sm.OS,cJ];rfl
   have nw:Sm.hs c.toPw (aE ts) (n+Sm.aX (l.take i)) (Sm.aN c.toPw (aE ts) n h (l.take i)) l[i]=Sm.aN c.toPw (aE ts) n h (l.take (i+1)):=by
    rw[ht,Sm.zt];rfl
   rw[qf]at gz;rw[nw,jU,<-su]at gK;simp[Sm.kj,ha,cG i];refine⟨_,?_,_,?_,i+1,v',F2,D2,rfl,oM,gz,gK,lO,rfl⟩
   .omega
   .exact ba
  .have:i=l.length:=oM;subst this;simp only[gu]at hg bW;simp;exact⟨gv,F1,D1,rfl,hg,bW,bw⟩
 rintro e U ⟨gv,F1,D1,g9,hg,bW,bw⟩;simp[g9];exact Ij ok rfl hg bW bw (by rw[<-iO,nf])
def cy.NH{t:ey}{s:cy}(h:t.qQ=s):t.length=s.length:=by rw[<-h];exact(bQ _).symm
def J4(p:Pw)(sc:ai):∀(m:List Sm) (n:Nat),(Sm.gV p sc n m).length=m.length
 |[],_=>rfl
 |x::m,n=>by simp only[Sm.gV,gq,J4 p sc m]
def Sm.qlk(p:Pw)(sc:ai):∀(l m:List Sm) (n:Nat),Sm.gV p sc n (l++m)=Sm.gV p sc n l++Sm.gV p sc (n+Sm.bH l) m
 |[],m,n=>by simp[Sm.gV,Sm.bH]
 |x::l,m,n=>by
  have:=mK x.labels n 0;simp only[dR,Sm.gV,Sm.bH,Sm.qlk p sc l m,this,jU]
def Sm.qfV(p:Pw)(sc:ai):∀(l m:List Sm) (n:Nat) (h:p.H),Sm.bw p sc n h (l++m)=Sm.bw p sc (n+Sm.bH l) (Sm.bw p sc n h l) m
 |[],m,n,h=>by simp[Sm.bw,Sm.bH]
 |x::l,m,n,h=>by
  have:=mK x.labels n 0;simp only[dR,Sm.bw,Sm.bH,Sm.qfV p sc l m,this,jU]
def Zo(c:Cb)(ok:c.Ok)(w:Nat)(l:List Sm)(b:Bool)(H:∀s,s∈l->E9 c w s)(hl:l.length<=4000)(Dy:∀s,s∈l->s.ok)(n:Nat)(h:c.H)(F D:Np)(S:St)(v:V)(ts:List ey)(hk:Wk c w n h F D S)(eh:eu c.toPw (λl=>l=w\/F l) S v ts)
  (hn:n+Sm.bH l<=c.lim):
  aA prog 111 [ag w,.sl b (l.map Sm.v),v] S (λr U=>Wd c w (n+Sm.bH l) (Sm.bw c.toPw (aE ts) n h l) F D S (ah ((Sm.gV c.toPw (aE ts) n l).map Sm.v)) r U):=by
 refine aA.yR ?_;simp only[V.cR,V.weak,nf,eh.weak];refine aA.ib qaA ?_;simp[qaA];refine eA (Ww c 8 w (n+Sm.bH l) (Sm.bw c.toPw (aE ts) n h l) F D S 7 ((Sm.gV c.toPw (aE ts) n l).map Sm.v)) ?_ ?_
 ·refine cE (Lw c 8 w F D S l.length (λi=>n+Sm.bH (l.take i)) (λi=>Sm.bw c.toPw (aE ts) n h (l.take i)) (λi=>(Sm.gV c.toPw (aE ts) n (l.take i)).map Sm.v)
   (λi gv=>[(13,af i),(12,af l.length),(11,ah (l.map Sm.v)),(7,gv),(0,ag w),(2,v)])) l.length _ ?_ ⟨0,_,F,D,sM,oM,Gw.nil _ _ _ _ _ _,hk,bJ.refl _ _ _ _,rfl⟩ ?_
  .exact ba
  rintro j e U ⟨i,gv,F1,D1,rfl,hi,hg,bW,bw,rfl⟩;dsimp only at hg bW;by_cases aB:i<l.length
  .have ht:l.take (i+1)=l.take i++[l[i]]:=by rw[dN,bX aB];rfl
   have su:Sm.bH (l.take (i+1))=Sm.bH (l.take i)+((ar l[i].labels 0).length+l[i].nb):=by rw[ht,Sm.NP];simp[Sm.bH]
   have ym:Sm.bH (l.take (i+1))<=Sm.bH l:=by
    have:Sm.bH l=Sm.bH (l.take (i+1))+Sm.bH (l.drop (i+1)):=by rw[<-Sm.NP,qY]
    omega
   have iT:=mK l[i].labels (n+Sm.bH (l.take i)) 0;have nW:cr [l[i]]=l[i].labels:=by simp[cr]
   have qri:Sm.cH [l[i]]:=⟨Dy _ (dz aB),trivial⟩;have hy:=qam [l[i]] (by unfold bi;simp) qri (U.length+1);rw[nW]at hy;simp[aB,yv,aL,aI,aU,ab,Sm.kj];obtain⟨U1,eP⟩:=eX (α:=St) (U++[.arr [l[i].v] 8 1]);rw[<-eP];have RI:U1.length=U.length+1:=by rw[eP];simp
   have q1:=Zu [l[i]] true U1;simp only[cQ,nK]at q1 hy;refine bE q1 ?_;rintro r U2 ⟨rfl,dG⟩;have eU:Wk c w (n+Sm.bH (l.take i)) (Sm.bw c.toPw (aE ts) n h (l.take i)) F1 D1 U2:=by rw[dG,eP];exact(bW.push ok _).push ok _
   have iU:bJ w F D S F1 D1 U2:=by rw[dG,eP];exact(bw.push _).push _
   have iz:Gw 8 S.length w F1 D1 ((Sm.gV c.toPw (aE ts) n (l.take i)).map Sm.v) gv U2:=by rw[dG,eP];exact(hg.push _).push _
   have ri:U2[U.length+1]?=aJ [ah [l[i].v]] 1:=by rw[dG,cx oM];simp[RI]
   have lU2:U2.length=U.length+2:=by rw[dG];simp[RI]
   simp;rw[RI];refine bE (SY c ok w _ _ F1 D1 v ts l[i].labels 187 [ag (U.length+1)] (U.length+1) _ hy sM U2 eU (λ_=>False) (λ_ h=>h.elim) ((eh.step iU).sub λl hh=>hh.imp id λa=>a.resolve_right id) ri (bW.out ok oM) oM) ?_;rintro r U3 ⟨t,F2,D2,pG,gK,lN,u9⟩;have u9:=u9.sub (X':=λl=>l=w\/F2 l) λl hh=>hh.imp id .inl
   have pF:=cy.NH pG;have vc:aE (t::ts)=ar l[i].labels (n+Sm.bH (l.take i))::aE ts:=by simp only[aE,cQ,pG]
   simp;have q2:=Zt c ok w [l[i]] true (λs hs=>by simp at hs;subst hs;exact H _ (dz aB)) sM _ _ F2 D2 U3 r (t::ts) gK u9 (by rw[vc,nW];exact Jl _ _ _) (by simp only[Sm.aX];omega);simp only[cQ,nK,vc,Sm.aX,Sm.aN,Sm.bh,Ar]at q2;refine bE q2 ?_;rintro r U4 ⟨rfl,F3,D3,QZ,lO⟩;have qfW:=lN.trans lO;have zo:=iz.step qfW;have Xl:=iU.trans qfW
   obtain ⟨v',U5,ha,zp,hk5,hs6⟩:=zo.CN ok (bytes:=168) (b:=false) QZ Xl (Sm.kj (l[i].wr c.toPw (ar l[i].labels (n+Sm.bH (l.take i))::aE ts) (n+Sm.bH (l.take i)+t.length))) (by
    rw[bQ,J4,qz];omega)
   have qf:(Sm.gV c.toPw (aE ts) n (l.take i)).map Sm.v++[(l[i].wr c.toPw (ar l[i].labels (n+Sm.bH (l.take i))::aE ts) (n+Sm.bH (l.take i)+t.length)).v]=(Sm.gV c.toPw (aE ts) n (l.take (i+1))).map Sm.v:=by
    rw[ht,Sm.qlk,cJ,pF];rfl
   have nw:Sm.hs c.toPw (ar l[i].labels (n+Sm.bH (l.take i))::aE ts) (n+Sm.bH (l.take i)+t.length) (enters c.toPw (Sm.bw c.toPw (aE ts) n h (l.take i)) (ar l[i].labels (n+Sm.bH (l.take i)))) l[i]=Sm.bw c.toPw (aE ts) n h (l.take (i+1)):=by
    rw[ht,Sm.qfV,pF];rfl
   rw[qf]at zp;rw[nw,show n+Sm.bH (l.take i)+t.length+l[i].nb=n+Sm.bH (l.take (i+1)) by omega]at hk5;simp[ha,cG i];refine⟨_,?_,_,?_,i+1,v',F3,D3,rfl,oM,zp,hk5,hs6,rfl⟩
   .omega
   .exact ba
  .have:i=l.length:=oM;subst this;simp only[gu]at hg bW;simp;exact⟨gv,F1,D1,rfl,hg,bW,bw⟩
 rintro e U ⟨gv,F1,D1,g9,hg,bW,bw⟩;simp[g9];exact Ij ok rfl hg bW bw (by rw[<-iO,nf])
def qlE(l:List Fo)(S:St)(r:V)(U:St):Prop:=(l=[]/\(∃b,r=.sl b [])/\U=S)\/(l≠[]/\r=.arr S.length 0 l.length l.length/\U=S++[.arr (l.map Fo.v) 4 l.length])
def qoZ(l:List Fo):fits 4 (l.map Fo.v)=true:=by
 simp[fits]
def qxZ(l:List Fo)(hl:l.length<=4000)(S:St):aA prog 273 [ah (l.map Fo.v)] S (λr U=>qlE l S r U):=by
 refine aA.ib ⟨_,func273,ok273⟩ ?_
 cases l with
 |nil=>
  simp[c273,bI];refine .inl ⟨by simp[qM,GX,bK.ev,ae.get],?_⟩;intro v hv;simp[qM,GX,bK.ev,ae.get]at hv;rcases hv with rfl|rfl
  .simp;exact bu rfl (.inl ⟨rfl,⟨_,rfl⟩,rfl⟩)
  .simp[fits,fV,elems];exact bu rfl (.inl ⟨rfl,⟨_,rfl⟩,rfl⟩)
 |cons x l=>
  have hf:fits 4 (x.v::l.map Fo.v)=true:=qoZ (x::l);have WN:fits 4 []=true:=rfl
  have ha:fV S 4 40 sN (ah (x.v::l.map Fo.v))=some (.arr S.length 0 (l.length+1) (l.length+1),S++[.arr (x.v::l.map Fo.v) 4 (l.length+1)]):=by
   simp only[gq]at hl;have jx:(([]:List V).length+(x.v::l.map Fo.v).length)*40<=2^47:=by simp;omega
   have hc:true=true/\fits 4 (x.v::l.map Fo.v)=true/\(([]:List V).all λv=>v.size==4)=true/\(([]:List V).length+(x.v::l.map Fo.v).length)*40<=2^47:=⟨rfl,hf,rfl,jx⟩;unfold fV;rw[rW];show(if(x.v::l.map Fo.v).isEmpty=true then _ else _)=_;rw[au sM,ak hc];simp
  simp[c273,bI,WN,ha];exact bu rfl (.inr ⟨sM,rfl,rfl⟩)
mutual
theorem V.Qp{l:Nat}{xs:List V}{wr:Nat}:∀v:V,v.under 0=true->v.du l xs wr=v
 |.arr l' i o st,h=>by simp only[V.under,dT]at h;omega
 |.sl x ys,h=>by simp only[V.under]at h;simp only[V.du,V.Iu ys h]
 |.iface t v,h=>by simp only[V.under]at h;simp only[V.du,V.Qp v h]
 |.agg cs,h=>by simp only[V.under]at h;simp only[V.du,V.Iu cs h]
 |.aV cs,h=>by simp only[V.under]at h;simp only[V.du,V.Iu cs h]
 |.hG,_=>rfl
 |.bool _,_=>rfl
 |.int _ _,_=>rfl
 |.str _,_=>rfl
 |.cu,_=>rfl
 |.dE _ _,_=>rfl
 |.dI,_=>rfl
 |.bY,_=>rfl
 |.eB,_=>rfl
 |.ptr _ _ _ _,_=>rfl
 |.map _,_=>rfl
 |.dc _,_=>rfl
 |.cq _ _,_=>rfl
 |.fn _ _ _,_=>rfl
theorem V.Iu{l:Nat}{xs:List V}{wr:Nat}:∀vs:List V,V.dr 0 vs=true->V.iR l xs wr vs=vs
 |[],_=>rfl
 |v::vs,h=>by
  simp only[V.dr,cT]at h;simp only[V.iR,V.Qp v h.1,V.Iu vs h.2]
end
def Fv(n0 w:Nat)(F D:Np)(xs:List V)(rf:V)(S:St):Prop:=(xs=[]/\∃b,rf=.sl b [])\/∃l wr,n0<=l/\gy w F D l/\rf=.arr l 0 xs.length xs.length/\S[l]?=some (.arr xs 4 wr)/\wr<=xs.length
def Fv.step{n0 w:Nat}{F D F' D':Np}{xs:List V}{v:V}{S U:St}(h:Fv n0 w F D xs v S)(s:bJ w F D S F' D' U):Fv n0 w F' D' xs v U:=by
 rcases h with h|⟨l,wr,h1,h2,h3,h4,h5⟩
 .exact .inl h
 .exact .inr ⟨l,wr,h1,h2.next (br.1 h4).1 s,h3,s.at h2 h4,h5⟩
def sG:V->Option V
 |.sl _ xs=>some (.int .i64 xs.length)
 |.arr _ _ n _=>some (af n)
 |_=>none
def Fv.len{n0 w:Nat}{F D:Np}{xs:List V}{v:V}{S:St}(h:Fv n0 w F D xs v S):sG v=some (af xs.length):=by
 rcases h with ⟨rfl,b,rfl⟩|⟨l,wr,h1,h2,rfl,h4,h5⟩<;>rfl
def Fv.flat{n0 w:Nat}{F D:Np}{xs:List V}{v:V}{S:St}(h:Fv n0 w F D xs v S):v.cells=[v]/\v.flat=true/\v.size=1:=by
 rcases h with ⟨rfl,b,rfl⟩|⟨l,wr,h1,h2,rfl,h4,h5⟩<;>exact⟨rfl,rfl,rfl⟩
def Fv.fin{c:Cb}(ok:c.Ok){w n:Nat}{hh:c.H}{F0 D0 F D:Np}{xs:List V}{rf:V}{S0 U:St}{n0:Nat}(h:Fv n0 w F D xs rf U)(yl:S0.length<=n0)(k:Wk c w n hh F D U)(s:bJ w F0 D0 S0 F D U){a b:List V}(ha:V.dr 0 a=true)(hb:V.dr 0 b=true)(ha':V.cR a=a)(kE:V.cR b=b):
  ∃U',dJ S0.length (.agg (a++rf::b)) U (.agg (a++ah (V.cR xs)::b)) U'/\Wk c w n hh F D U'/\bJ w F0 D0 S0 F D U':=by
 have wl:∀x y:List V,V.cR (x++y)=V.cR x++V.cR y:=λx y=>by rw[iO,iO,iO,cJ]
 rcases h with ⟨rfl,b',rfl⟩|⟨l,wr,h1,h2,rfl,h3,h4⟩
 .have:=dJ.weak (n:=S0.length) (r:=.agg (a++.sl b' []::b)) (S:=U);simp only[V.weak,wl,V.cR,ha',kE]at this;exact⟨U,this,k,s⟩
 .have g1:=dJ.It (n:=S0.length) (r:=.agg (a++.arr l 0 xs.length xs.length::b)) h3
  have hz:V.du l xs wr (.agg (a++.arr l 0 xs.length xs.length::b))=.agg (a++ah xs::b):=by
   simp only[V.du,oJ,cJ,cQ];rw[<-oJ,<-oJ,V.Iu _ ha,V.Iu _ hb,ak (by simp[h4])];simp
  rw[hz]at g1;have g2:=dJ.weak (n:=S0.length) (r:=.agg (a++ah xs::b)) (S:=U.set l .dead);simp only[V.weak,wl,V.cR,ha',kE]at g2;exact⟨_,g1.trans g2,k.set ok _ h2.1 h2.2.1 h2.2.2,s.set _ oM⟩
def zQ(p:Pw)(sc:ai)(l:List Fo):List Fo:=l.map (Fo.wr p sc)
def De.pr(p:Pw)(sc:ai)(n:Nat)(d:De):De:=.mk d.kind d.own d.type d.names d.aw (zQ p (ar (d.aj.map Fo.name) n::sc) d.aj) (Sm.gV p (ar (d.aj.map Fo.name) n::sc) (n+(ar (d.aj.map Fo.name) n).length) d.body)
def De.N3(p:Pw)(sc:ai)(n:Nat)(h:p.H)(d:De):p.H:=Sm.bw p (ar (d.aj.map Fo.name) n::sc) (n+(ar (d.aj.map Fo.name) n).length) (enters p h (ar (d.aj.map Fo.name) n)) d.body
def De.Ek(d:De):Nat:=(ar (d.aj.map Fo.name) 0).length+Sm.bH d.body
def jm(e:ae)(S:St)(x:bK):cf e S (.len false x)=(x.ev e).bind λv=>(sG v).map λr=>(r,S):=by
 simp only[cf]
 cases x.ev e with
 |none=>rfl
 |some v=>cases v<;>rfl
def tp(p:Pw)(sc:ai)(l:List Fo)(i:Nat):List V:=(zQ p sc (l.take i)++l.drop i).map Fo.v
def Wx(p:Pw)(sc:ai)(l:List Fo)(i:Nat)(hi:i<=l.length):(tp p sc l i).length=l.length:=by simp[tp,zQ];omega
def qqa(p:Pw)(sc:ai)(l:List Fo)(i:Nat)(hi:i<l.length):(tp p sc l i)[i]?=some l[i].v:=by
 unfold tp zQ;rw[dS,cx (by simp;omega)];simp[show i-min i l.length=0 by omega,hi]
def qqb(p:Pw)(sc:ai)(l:List Fo)(i:Nat)(hi:i<l.length):(tp p sc l i).set i (Fo.wr p sc l[i]).v=tp p sc l (i+1):=by
 unfold tp zQ;apply vV;intro j;rw[Pm];by_cases hj:i=j
 .subst hj;rw[ak rfl,ak (by simp;omega),dS,dh (by simp;omega)];simp[qx,hi]
 .rw[au hj,dS,dS];congr 1;by_cases aB:j<i
  .rw[dh (by simp;omega),dh (by simp;omega),dS,dS,qx aB,qx oM]
  .rw[cx (by simp;omega),cx (by simp;omega)];simp only[bQ,qz,qw];congr 1;omega
structure Pf(c:Cb)(w n:Nat)(h:c.H)(F D F1 D1:Np)(S:St)(d:De)(U3:St)(xs:List V)(rf:V)(X:St):Prop where
 fv:Fv (S.length+2) w F1 D1 xs rf X
 wk:Wk c w n h F1 D1 X
 st:bJ w F D S F1 D1 X
 sg:Kp (λl=>l=w\/F1 l\/(l=S.length\/l=S.length+1)) U3 X
 b0:X[S.length]?=aJ [d.v] 7
 b1:X[S.length+1]?=aJ [zD] 7
def qxS(c:Cb)(ok:c.Ok)(w:Nat)(d:De)(H:∀s,s∈d.body->E9 c w s)(hb:d.body.length<=4000)(jZ:∀s,s∈d.body->s.ok)(hf:d.aj.length<=4000)(n:Nat)(h:c.H)(F D:Np)(S:St)(v:V)(ts:List ey)(hk:Wk c w n h F D S)(eh:eu c.toPw (λl=>l=w\/F l) S v ts)
  (hn:n+d.Ek<=c.lim):
  aA prog 256 [ag w,d.v,v] S (λr U=>Wd c w (n+d.Ek) (d.N3 c.toPw (aE ts) n h) F D S (d.pr c.toPw (aE ts) n).v r U):=by
 refine aA.ib qbR ?_;unfold De.Ek at hn;have iT:=mK (d.aj.map Fo.name) n 0;obtain⟨S1,bB⟩:=eX (α:=St) (S++[.arr [d.v] 7 1,.arr [zD] 7 1]);have b0:S1[S.length]?=aJ [d.v] 7:=by rw[bB,cx oM];simp
 have b1:S1[S.length+1]?=aJ [zD] 7:=by rw[bB,cx oM];simp
 have l1:S1.length=S.length+2:=by rw[bB];simp
 have k1:Wk c w n h F D S1:=by rw[bB];exact hk.push ok _
 have s1:bJ w F D S F D S1:=by rw[bB];exact(bJ.refl _ _ _ _).push _
 have o0:gy w F D S.length:=hk.out ok cz;have o1:gy w F D (S.length+1):=hk.out ok oM;simp[qbR,aL,ab,aU];rw[<-bB];refine bE (qxY d S1) ?_;rintro r U2 ⟨rfl,dG⟩;have k2:Wk c w n h F D U2:=by rw[dG];exact k1.push ok _
 have s2:bJ w F D S F D U2:=by rw[dG];exact s1.push _
 have c2:U2[S1.length]?=aJ [d.v] 7:=by rw[dG];simp
 have b02:U2[S.length]?=aJ [d.v] 7:=by rw[dG];exact gp b0
 have b12:U2[S.length+1]?=aJ [zD] 7:=by rw[dG];exact gp b1
 have l2:U2.length=S.length+3:=by rw[dG];simp[l1]
 simp
 refine bE (SY c ok w n h F D v ts (d.aj.map Fo.name) 277 [ag S1.length] S1.length _ (qzQ d (by unfold bi;omega) S1.length) sM U2 k2 (λl=>l=S.length∨l=S.length+1) (by rintro l (rfl|rfl) <;> omega) ((eh.more (X':=λl=>l=w∨F l∨(l=S.length∨l=S.length+1)) (λl hh=>by
  rcases hh with hh|hh|hh|hh
  .exact .inl (.inl hh)
  .exact .inl (.inr hh)
  .exact .inr oM
  .exact .inr oM)).mono (s2.k.mono λl _ hh=>hh.imp id .inl) λl hh=>.inl hh) c2 (hk.out ok oM) oM) ?_
 rintro r U3 ⟨t,F1,D1,pG,k3,s3,u9⟩;have pF:=cy.NH pG;have vc:aE (t::ts)=ar (d.aj.map Fo.name) n::aE ts:=by simp only[aE,cQ,pG]
 have UJ:=s3.at o0 b02;have b13:=s3.at o1 b12;have p0:=o0.next oM s3;have p1:=o1.next oM s3;have s3':=s2.trans s3;have l3:=s3.k.len;simp[ab,UJ];refine bE (qxZ d.aj hf U3) ?_;rintro rf U4 lJ
 have Q7:Pf c w (n+t.length) (enters c.toPw h (ar (d.aj.map Fo.name) n)) F D F1 D1 S d U3 (tp c.toPw (ar (d.aj.map Fo.name) n::aE ts) d.aj 0) rf U4/\(rf=.arr U3.length 0 d.aj.length d.aj.length\/d.aj=[]):=by
  have h0:tp c.toPw (ar (d.aj.map Fo.name) n::aE ts) d.aj 0=d.aj.map Fo.v:=by simp[tp,zQ]
  rw[h0];rcases lJ with ⟨h1,⟨b,rfl⟩,rfl⟩|⟨h1,rfl,rfl⟩
  .exact⟨⟨.inl ⟨by rw[h1];rfl,b,rfl⟩,k3,s3',Kp.refl _ _,UJ,b13⟩,.inr h1⟩
  .exact⟨⟨.inr ⟨U3.length,d.aj.length,oM,k3.out ok cz,sM,sM,sM⟩,k3.push ok _,s3'.push _,(Kp.refl _ _).push _,gp UJ,gp b13⟩,.inl rfl⟩
 obtain⟨Q7,hrf⟩:=Q7;have hlen:sG rf=some (af d.aj.length):=by have:=Q7.fv.len;rwa [Wx _ _ _ _ oM]at this
 simp[↓jm,hlen];refine eA (λe X=>Pf c w (n+t.length) (enters c.toPw h (ar (d.aj.map Fo.name) n)) F D F1 D1 S d U3 ((zQ c.toPw (ar (d.aj.map Fo.name) n::aE ts) d.aj).map Fo.v) rf X/\e.get 8=some rf/\e.get 7=some r/\e.get 0=some (ag w)/\e.get 4=some (ag S.length)/\e.get 6=some (ag (S.length+1))) ?_ ?_
 ·refine cE (λj e X=>∃i:Nat,j=d.aj.length - i∧i≤d.aj.length∧Pf c w (n+t.length) (enters c.toPw h (ar (d.aj.map Fo.name) n)) F D F1 D1 S d U3 (tp c.toPw (ar (d.aj.map Fo.name) n::aE ts) d.aj i) rf X∧
    e=[(20,af i),(19,af d.aj.length),(8,rf),(7,r),(0,ag w),(4,ag S.length),(6,ag (S.length+1))]) d.aj.length _ ?_ ⟨0,sM,oM,Q7,rfl⟩ ?_
  .exact ba
  rintro j e X ⟨i,rfl,hi,hp,rfl⟩;by_cases aB:i<d.aj.length
  .have qfQ:=u9.mono hp.sg λl hh=>.inl hh
   have rZ:=Hm qfQ d.aj[i].name;have jY:=CY (t::ts) d.aj[i].name;rw[vc]at jY
   obtain⟨q,hq⟩:∃q,qE (t::ts) d.aj[i].name=some q:=by
    have:=Jl (d.aj.map Fo.name) n (aE ts) d.aj[i].name (pS (dz aB));rw[jY]at this
    cases hf:qE (t::ts) d.aj[i].name with
    |none=>rw[hf]at this;cases this
    |some q=>exact⟨q,rfl⟩
   have hv:km (t::ts) d.aj[i].name=ag q.2:=by simp[km,hq]
   have hr:jo c.toPw (ar (d.aj.map Fo.name) n::aE ts) d.aj[i].name=c.f q.1 d.aj[i].name:=by unfold jo;rw[jY,hq];rfl
   rw[hv]at rZ;have wS:=qfQ.LA hq;unfold fP at wS;have bZ:d.aj≠[]:=by intro hh;rw[hh]at aB;simp at aB
   have qrv:=hrf.resolve_right bZ;subst qrv;have hl:=Wx c.toPw (ar (d.aj.map Fo.name) n::aE ts) d.aj i oM;have lK:=qqa c.toPw (ar (d.aj.map Fo.name) n::aE ts) d.aj i aB;have mP:=qqb c.toPw (ar (d.aj.map Fo.name) n::aE ts) d.aj i aB;have cj:=Wx c.toPw (ar (d.aj.map Fo.name) n::aE ts) d.aj (i+1) oM;rcases hp.fv with ⟨h1,_⟩|⟨fl,wr,z1,z2,z3,z4,z5⟩
   .rw[h1]at hl;simp at hl;omega
   rw[hl]at z3 z5;cases z3
   have qrU:V.fZ d.aj[i].v 0 1 (.str (c.f q.1 d.aj[i].name))=some (Fo.wr c.toPw (ar (d.aj.map Fo.name) n::aE ts) d.aj[i]).v:=by
    rw[qk5,aU];unfold Fo.wr;rw[hr];rfl
   have iq:gP X 4 (.arr U3.length 0 d.aj.length d.aj.length) (i:Int)=some (.ptr U3.length i 0 d.aj.length):=by
    simp[gP,z4,z5,aB]
   have MP:ab X (.ptr U3.length i 0 d.aj.length) none=some (.str d.aj[i].name):=by
    simp[ab,z4,z5,aB,lK]
   have bg:aI X (.ptr U3.length i 0 d.aj.length) 1 (.str (c.f q.1 d.aj[i].name))=some (X.set U3.length (.arr (tp c.toPw (ar (d.aj.map Fo.name) n::aE ts) d.aj (i+1)) 4 d.aj.length)):=by
    simp[aI,z4,hl,lK,qrU,mP]
   simp[aB,iq,MP];refine aZ rZ ?_;have WZ:ab X (eD q.2 2) none=some (.str (c.f q.1 d.aj[i].name)):=by simp[ab,wS]
   simp[dK,iq,WZ,bg,cG i];have qq3:U3.length<X.length:=(br.1 z4).1;refine⟨_,?_,_,?_,i+1,rfl,oM,⟨.inr ⟨U3.length,d.aj.length,z1,z2,by rw[cj],bO qq3,by rw[cj];exact dl _⟩,hp.wk.set ok _ z2.1 z2.2.1 z2.2.2,hp.st.set _ oM,hp.sg.set _ (.inr cz),?_,?_⟩,rfl⟩
   .omega
   .exact ba
   .rw[bG oM];exact hp.b0
   .rw[bG oM];exact hp.b1
  .have:i=d.aj.length:=oM;subst this;have he:tp c.toPw (ar (d.aj.map Fo.name) n::aE ts) d.aj d.aj.length=(zQ c.toPw (ar (d.aj.map Fo.name) n::aE ts) d.aj).map Fo.v:=by simp[tp]
   rw[he]at hp;simp;exact hp
 rintro e X ⟨hp,g8,g7,g0,g4,g6⟩;obtain⟨f1,f2,f3⟩:=hp.fv.flat;have fl':=hp.fv.flat;obtain⟨X1,x0⟩:=eX (α:=St) (X.set S.length (.arr [.agg [af d.kind,.bool d.own,af d.type,ah (d.names.map .str),ah (d.aw.map Ex.v),rf,ah (d.body.map Sm.v)]] 7 1));have lX:S.length<X.length:=aR hp.b0;have q0:X1[S.length]?=aJ [.agg [af d.kind,.bool d.own,af d.type,ah (d.names.map .str),ah (d.aw.map Ex.v),rf,ah (d.body.map Sm.v)]] 7:=by rw[x0,bO lX]
 have q1:X1[S.length+1]?=aJ [zD] 7:=by rw[x0,bG oM];exact hp.b1
 have kX:Wk c w (n+t.length) (enters c.toPw h (ar (d.aj.map Fo.name) n)) F1 D1 X1:=by rw[x0];exact hp.wk.set ok _ p0.1 p0.2.1 p0.2.2
 have sX:bJ w F D S F1 D1 X1:=by rw[x0];exact hp.st.set _ cz
 have scX:eu c.toPw (λl=>l=w\/F1 l) X1 r (t::ts):=by
  rw[x0];exact(u9.mono (hp.sg.set _ (.inl (.inr (.inr (.inl rfl))))) λl hh=>.inl hh).sub λl hh=>hh.imp id .inl
 have fvX:Fv (S.length+2) w F1 D1 ((zQ c.toPw (ar (d.aj.map Fo.name) n::aE ts) d.aj).map Fo.v) rf X1:=by
  rcases hp.fv with hh|⟨fl,wr,z1,z2,z3,z4,z5⟩
  .exact .inl hh
  .exact .inr ⟨fl,wr,z1,z2,z3,by rw[x0,bG oM];exact z4,z5⟩
 simp[g8,g7,g0,g4,aI,hp.b0,OL,aU,f1,f2,f3];rw[<-x0];simp[ab,q0,g8,g7,g0,g4,g6];have q2:=Zo c ok w d.body false H hb jZ _ _ F1 D1 X1 r (t::ts) kX scX oM;rw[vc]at q2;refine bE q2 ?_;rintro r2 U5 ⟨rfl,F2,D2,k5,s5⟩;have c0:=s5.at p0 q0;have c1:=s5.at p1 q1;obtain⟨av,qa⟩:=eX (α:=V) (.agg [af d.kind,.bool d.own,af d.type,ah (d.names.map .str),ah (d.aw.map Ex.v),rf,ah ((Sm.gV c.toPw (ar (d.aj.map Fo.name) n::aE ts) (n+t.length) d.body).map Sm.v)]);have c0':(U5.set S.length (.arr [av] 7 1))[S.length]?=aJ [av] 7:=bO (aR c0);have c1':(U5.set S.length (.arr [av] 7 1))[S.length+1]?=aJ [zD] 7:=by rw[bG oM];exact c1
 have lt1:S.length+1<U5.length:=aR c1;have X8:S.length+1<X1.length:=aR q1;have p0':=p0.next oM s5;have p1':=p1.next oM s5;have kf:=(k5.set ok (.arr [av] 7 1) p0'.1 p0'.2.1 p0'.2.2).set ok (.arr [av] 7 1) p1'.1 p1'.2.1 p1'.2.2;have sf:=((sX.trans s5).set (.arr [av] 7 1) (dl S.length)).set (l:=S.length+1) (.arr [av] 7 1) oM
 have ff:Fv (S.length+2) w F2 D2 ((zQ c.toPw (ar (d.aj.map Fo.name) n::aE ts) d.aj).map Fo.v) rf ((U5.set S.length (.arr [av] 7 1)).set (S.length+1) (.arr [av] 7 1)):=by
  rcases fvX.step s5 with hh|⟨fl,wr,z1,z2,z3,z4,z5⟩
  .exact .inl hh
  .exact .inr ⟨fl,wr,z1,z2,z3,by rw[bG oM,bG oM];exact z4,z5⟩
 have lK:((U5.set S.length (.arr [av] 7 1)).set (S.length+1) (.arr [av] 7 1))[S.length+1]?=aJ [av] 7:=bO (by simp;omega);simp[g4,aI,c0,aU,f1,f2,f3];rw[<-qa];have qfO:V.part av 0 (some 7)=some av:=by rw[qa,dL];rfl
 have bF:av.size=7:=by rw[qa];rfl
 have lJ:av.cells.all V.flat=true:=by rw[qa];simp[f2]
 have qqq:∀x,x∈av.cells->x.flat=true:=by simpa[fR]using lJ
 simp[aI,ab,c0',c1',g4,g6,aU,qfO,bF];rw[ak qqq];obtain⟨U6,g,k6,s6⟩:=ff.fin ok oM kf sf (S0:=S) (F0:=F) (D0:=D) (a:=[af d.kind,.bool d.own,af d.type,ah (d.names.map .str),ah (d.aw.map Ex.v)]) (b:=[ah ((Sm.gV c.toPw (ar (d.aj.map Fo.name) n::aE ts) (n+t.length) d.body).map Sm.v)])
  (by simp[V.dr,V.under]) (by simp[V.dr,V.under]) (by simp only[V.cR,V.weak,oW,oq]) (by simp only[V.cR,V.weak,nf])
 simp only[dR,ig,ug]at g;rw[<-qa]at g;refine⟨[av],by simp[eL,g6,ab,lK,qfO],_,U6,g,?_,F2,D2,?_,s6⟩
 .unfold De.pr;rw[De.eW,<-pF];rfl
 .have:n+t.length+Sm.bH d.body=n+d.Ek:=by unfold De.Ek;omega
  rw[this]at k6;unfold De.N3;rw[<-pF];exact k6
def De.d1(p:Pw)(own sc:ai)(d:De):De:=.mk d.kind d.own d.type (ma p own d.names) (Ex.bh p (if d.kind=2 then sc else own) false d.aw) d.aj d.body
def De.OQ(p:Pw)(own sc:ai)(n:Nat)(d:De):d.wr p own sc n=if d.kind=4 then(d.d1 p own sc).pr p own n else d.d1 p own sc:=by
 cases d with
 |mk k o t nm e fo b=>
  rw[De.wr];show _=if k=4 then(De.d1 p own sc (.mk k o t nm e fo b)).pr p own n else De.d1 p own sc (.mk k o t nm e fo b)
  by_cases h:k=4
  .subst h;rfl
  .rw[au h,au h];rfl
def De.M9(p:Pw)(own sc:ai)(n:Nat)(h:p.H)(d:De):d.hs p own sc n h=if d.kind=4 then(d.d1 p own sc).N3 p own n (Ex.aN p (if d.kind=2 then sc else own) false h d.aw) else Ex.aN p (if d.kind=2 then sc else own) false h d.aw:=by
 cases d with
 |mk k o t nm e fo b=>
  rw[De.hs];show _=if k=4 then(De.d1 p own sc (.mk k o t nm e fo b)).N3 p own n (Ex.aN p (if k=2 then sc else own) false h e) else Ex.aN p (if k=2 then sc else own) false h e
  by_cases h:k=4
  .subst h;rfl
  .rw[au h,au h]
def De.NQ(d:De):d.nb=if d.kind=4 then d.Ek else 0:=by
 cases d with
 |mk k o t nm e fo b=>rw[De.nb];rfl
def De.tR(d:De):(Pa.de d).size=1+d.names.length+d.aj.length+bk (d.aw.map Pa.ex)+bk (d.body.map Pa.st):=by
 rw[Pa.size_eq];simp only[Pa.own,Pa.kids,vD];omega
def qlo(p:Pw)(own sc:ai):∀(m:List De) (n:Nat),(De.bh p own sc n m).length=m.length
 |[],_=>rfl
 |x::m,n=>by simp only[De.bh,gq,qlo p own sc m]
def Gw.lt{sz n0 w:Nat}{F D:Np}{xs:List V}{v:V}{S:St}(h:Gw sz n0 w F D xs v S):∀l a b c,v=.arr l a b c->l<S.length:=by
 intro l a b c hv;rcases h with ⟨_,rfl⟩|⟨l',wr,_,_,rfl,h4,_⟩
 .cases hv
 .cases hv;exact(br.1 h4).1
def Gw.set{sz n0 w:Nat}{F D:Np}{xs:List V}{v:V}{S:St}(h:Gw sz n0 w F D xs v S){b:Nat}(o:Ob)(bZ:∀l x y z,v=.arr l x y z->l<b):Gw sz n0 w F D xs v (S.set b o):=by
 rcases h with h|⟨l,wr,h1,h2,h3,h4,h5⟩
 .exact .inl h
 .exact .inr ⟨l,wr,h1,h2,h3,by rw[bG (Nat.ne_of_gt (bZ _ _ _ _ h3))];exact h4,h5⟩
def qxE(c:Cb)(ok:c.Ok)(w:Nat)(l:List De)(hl:bk (l.map Pa.de)<=4000)(H:∀d,d∈l->∀s,s∈d.body->E9 c w s)(fE:∀d,d∈l->∀s,s∈d.body->s.ok)(n:Nat)(h:c.H)(F D:Np)(S:St)(v1 v2:V)(gR ts:List ey)(hk:Wk c w n h F D S)
  (Jd:eu c.toPw (λl=>l=w\/F l) S v1 gR) (qrD:eu c.toPw (λl=>l=w\/F l) S v2 ts) (jP:∀d,d∈l->DR (aE gR) d.names) (hn:n+De.aX l<=c.lim):
  aA prog 220 [ag w,ah (l.map De.v),v1,v2] S (λr U=>Wd c w (n+De.aX l) (De.aN c.toPw (aE gR) (aE ts) n h l) F D S (ah ((De.bh c.toPw (aE gR) (aE ts) n l).map De.v)) r U):=by
 have hlen:l.length<=4000:=by have:=oi (l.map Pa.de);rw[bQ]at this;omega
 refine aA.ib qbB ?_;simp[qbB];refine eA (Ww c 7 w (n+De.aX l) (De.aN c.toPw (aE gR) (aE ts) n h l) F D S 9 ((De.bh c.toPw (aE gR) (aE ts) n l).map De.v)) ?_ ?_
 ·refine cE (Lw c 7 w F D S l.length (λi=>n+De.aX (l.take i)) (λi=>De.aN c.toPw (aE gR) (aE ts) n h (l.take i)) (λi=>(De.bh c.toPw (aE gR) (aE ts) n (l.take i)).map De.v)
   (λi gv=>[(14,af i),(13,af l.length),(12,ah (l.map De.v)),(9,gv),(0,ag w),(2,v1),(3,v2)])) l.length _ ?_ ⟨0,_,F,D,sM,oM,Gw.nil _ _ _ _ _ _,hk,bJ.refl _ _ _ _,rfl⟩ ?_
  .exact ba
  rintro j e U ⟨i,gv,F1,D1,rfl,hi,hg,bW,bw,rfl⟩;dsimp only at hg bW;by_cases aB:i<l.length
  case neg=>
   have:i=l.length:=oM;subst this;simp only[gu]at hg bW;simp;exact⟨gv,F1,D1,rfl,hg,bW,bw⟩
  have kH:l[i]∈l:=dz aB;have ht:l.take (i+1)=l.take i++[l[i]]:=by rw[dN,bX aB];rfl
  have su:De.aX (l.take (i+1))=De.aX (l.take i)+l[i].nb:=by rw[ht,De.yC];simp[De.aX]
  have ym:De.aX (l.take (i+1))<=De.aX l:=by
   have:De.aX l=De.aX (l.take (i+1))+De.aX (l.drop (i+1)):=by rw[<-De.yC,qY]
   omega
  have qrP:(Pa.de l[i]).size<=4000:=by
   have:=nc (l:=l.map Pa.de) (i:=i) (q:=Pa.de l[i]) (by simp[aB]);omega
  rw[De.tR]at qrP;have iT:l[i].body.length<=4000:=by have:=oi (l[i].body.map Pa.st);rw[bQ]at this;omega
  obtain⟨d,hd⟩:=eX (α:=De) (l[i]);have iL:Ob.arr [l[i].v] 7 1=.arr [.agg [af d.kind,.bool d.own,af d.type,ah (d.names.map .str),ah (d.aw.map Ex.v),ah (d.aj.map Fo.v),ah (d.body.map Sm.v)]] 7 1:=by rw[<-hd,De.eW]
  obtain⟨U1,eP⟩:=eX (α:=St) (U++[.arr [l[i].v] 7 1]);have b1:U1[U.length]?=aJ [l[i].v] 7:=by rw[eP];simp
  have k1:=bW.push ok [.arr [l[i].v] 7 1];rw[<-eP]at k1;have s1:bJ w F D S F1 D1 U1:=by rw[eP];exact bw.push _
  have g1:Gw 7 S.length w F1 D1 ((De.bh c.toPw (aE gR) (aE ts) n (l.take i)).map De.v) gv U1:=by rw[eP];exact hg.push _
  have o1:gy w F1 D1 U.length:=bW.out ok cz;have RI:U1.length=U.length+1:=by rw[eP];simp
  have X7:=bw.k.len;simp[aB,Gt,aL,aI,aU,ab];rw[<-eP];refine bE (qkx c ok w l[i].names oM _ _ F1 D1 U1 v1 gR (jP _ kH) k1 (Jd.step s1)) ?_;rintro r U2 ⟨rfl,F2,D2,k2,s2⟩;have b2:=s2.at o1 b1;have o2:=o1.next oM s2;have g2:=g1.step s2;have s12:=s1.trans s2;have l2:=s2.k.len;obtain⟨d1,jb⟩:=eX (α:=De) (.mk d.kind d.own d.type (ma c.toPw (aE gR) d.names) d.aw d.aj d.body);have qqu:d1.v=.agg [af d.kind,.bool d.own,af d.type,ah ((ma c.toPw (aE gR) d.names).map .str),ah (d.aw.map Ex.v),ah (d.aj.map Fo.v),ah (d.body.map Sm.v)]:=by rw[jb,De.eW];rfl
  obtain⟨U3,tn⟩:=eX (α:=St) (U2.set U.length (.arr [d1.v] 7 1));have b3:U3[U.length]?=aJ [d1.v] 7:=by rw[tn,bO (aR b2)]
  have k3:=k2.set ok (.arr [d1.v] 7 1) o2.1 o2.2.1 o2.2.2;rw[<-tn]at k3;have s3:bJ w F D S F2 D2 U3:=by rw[tn];exact s12.set _ X7
  have g3:Gw 7 S.length w F2 D2 ((De.bh c.toPw (aE gR) (aE ts) n (l.take i)).map De.v) gv U3:=by rw[tn];exact g2.set _ hg.lt
  simp[ab,b2,aI,OL,aU];rw[<-hd,<-qqu,<-tn];have d1k:d1.kind=d.kind:=by rw[jb];rfl
  have d1e:d1.aw=d.aw:=by rw[jb];rfl
  obtain⟨EB,qf4⟩:=eX (if d.kind=2 then ts else gR);have qf5:aE EB=if d.kind=2 then aE ts else aE gR:=by rw[qf4];split<;>rfl
  have qqH:∀(ve:V),eu c.toPw (λl=>l=w\/F l) S ve EB->aA prog 134 [ag w,ah (d.aw.map Ex.v),ve,.bool false] U3 (λr U=>Wd c w (n+De.aX (l.take i)) (Ex.aN c.toPw (aE EB) false (De.aN c.toPw (aE gR) (aE ts) n h (l.take i)) d.aw) F2 D2 U3 (ah ((Ex.bh c.toPw (aE EB) false d.aw).map Ex.v)) r U):=λve zw=>
   Ou c ok w d.aw (by rw[hd];omega) _ _ F2 D2 U3 ve EB false k3 (zw.step s3)
  have l3:U3.length=U2.length:=by rw[tn];simp
  have o3:gy w F2 D2 U.length:=o2;obtain⟨d2,jO⟩:=eX (α:=De) (d.d1 c.toPw (aE gR) (aE ts))
  have qqv:d2.v=.agg [af d1.kind,.bool d1.own,af d1.type,ah (d1.names.map .str),ah ((Ex.bh c.toPw (aE EB) false d.aw).map Ex.v),ah (d1.aj.map Fo.v),ah (d1.body.map Sm.v)]:=by
   rw[jO,De.eW,jb,qf5];rfl
  have d2k:d2.kind=d.kind:=by rw[jO];rfl
  have hw:l[i].wr c.toPw (aE gR) (aE ts) (n+De.aX (l.take i))=if d.kind=4 then d2.pr c.toPw (aE gR) (n+De.aX (l.take i)) else d2:=by rw[<-hd,De.OQ,jO]
  have hhs:De.hs c.toPw (aE gR) (aE ts) (n+De.aX (l.take i)) (De.aN c.toPw (aE gR) (aE ts) n h (l.take i)) l[i]=if d.kind=4 then d2.N3 c.toPw (aE gR) (n+De.aX (l.take i)) (Ex.aN c.toPw (aE EB) false (De.aN c.toPw (aE gR) (aE ts) n h (l.take i)) d.aw) else Ex.aN c.toPw (aE EB) false (De.aN c.toPw (aE gR) (aE ts) n h (l.take i)) d.aw:=by rw[<-hd,De.M9,jO,qf5]
  have W9:l[i].nb=if d.kind=4 then d2.Ek else 0:=by rw[<-hd,De.NQ,jO];rfl
  have fin:∀(F' D':Np) (X:St),Wk c w (n+De.aX (l.take i)+l[i].nb) (De.hs c.toPw (aE gR) (aE ts) (n+De.aX (l.take i)) (De.aN c.toPw (aE gR) (aE ts) n h (l.take i)) l[i]) F' D' X->bJ w F D S F' D' X->Gw 7 S.length w F' D' ((De.bh c.toPw (aE gR) (aE ts) n (l.take i)).map De.v) gv X->
    ∃v' X',fV X 7 120 gv (.sl true [(l[i].wr c.toPw (aE gR) (aE ts) (n+De.aX (l.take i))).v])=some (v',X')/\Gw 7 S.length w F' D' ((De.bh c.toPw (aE gR) (aE ts) n (l.take (i+1))).map De.v) v' X'/\Wk c w (n+De.aX (l.take (i+1))) (De.aN c.toPw (aE gR) (aE ts) n h (l.take (i+1))) F' D' X'/\bJ w F D S F' D' X':=λF' D' X hk hs hg=>by
   obtain ⟨v',X',ha,gz,gK,lO⟩:=hg.CN ok (bytes:=120) (b:=true) hk hs (De.kj (l[i].wr c.toPw (aE gR) (aE ts) (n+De.aX (l.take i)))) (by
    rw[bQ,qlo,qz];omega)
   have qf:(De.bh c.toPw (aE gR) (aE ts) n (l.take i)).map De.v++[(l[i].wr c.toPw (aE gR) (aE ts) (n+De.aX (l.take i))).v]=(De.bh c.toPw (aE gR) (aE ts) n (l.take (i+1))).map De.v:=by
    rw[ht,De.OS,cJ];rfl
   have nw:De.hs c.toPw (aE gR) (aE ts) (n+De.aX (l.take i)) (De.aN c.toPw (aE gR) (aE ts) n h (l.take i)) l[i]=De.aN c.toPw (aE gR) (aE ts) n h (l.take (i+1)):=by
    rw[ht,De.zt];rfl
   rw[qf]at gz;rw[nw,jU,<-su]at gK;exact⟨v',X',ha,gz,gK,lO⟩
  rw[hw]at fin;by_cases h2:d.kind=2
  all_goals
   simp[ab,b3,d1k,d1e,h2]
   refine bE (qqH _ (by rw[qf4];first|(rw[ak h2];exact qrD)|(rw[au h2];exact Jd))) ?_
   rintro r U4 ⟨rfl,F3,D3,k4,s4⟩
   have b4:=s4.at o3 b3
   have lU3:U.length<U3.length:=aR b3
   have o4:=o3.next lU3 s4
   have g4:=(g3.step s4).set (.arr [d2.v] 7 1) hg.lt
   have SL:=(s3.trans s4).set (.arr [d2.v] 7 1) X7
   have k5:=k4.set ok (.arr [d2.v] 7 1) o4.1 o4.2.1 o4.2.2
   have b5:(U4.set U.length (.arr [d2.v] 7 1))[U.length]?=aJ [d2.v] 7:=bO (aR b4)
   simp[ab,b4,aI,OL,aU]
   rw[<-qqv]
   generalize U4.set U.length (.arr [d2.v] 7 1)=U5 at g4 SL k5 b5 |-
   by_cases h4:d.kind=4
   .have q:=qxS c ok w d2 (by rw[jO,hd];exact H l[i] kH) (by rw[jO,hd];exact iT) (by rw[jO,hd];exact fE l[i] kH) (by rw[jO,hd];show l[i].aj.length<=4000;omega) _ _ F3 D3 U5 v1 gR k5 (Jd.step SL) (by rw[ak h4]at W9;omega);simp[ab,b5,d2k,h4];refine bE q ?_;rintro r U6 ⟨rfl,F4,D4,k6,s6⟩;have b6:=s6.at o4 b5;have lU5:U.length<U5.length:=aR b5;have o6:=o4.next lU5 s6;obtain⟨d3,hd3⟩:=eX (α:=De) (d2.pr c.toPw (aE gR) (n+De.aX (l.take i)));rw[W9,ak h4,hhs,ak h4,ak h4,<-hd3]at fin;rw[<-hd3];have g6:=(g4.step s6).set (.arr [d3.v] 7 1) hg.lt;have s56:=(SL.trans s6).set (.arr [d3.v] 7 1) X7;have k7:=k6.set ok (.arr [d3.v] 7 1) o6.1 o6.2.1 o6.2.2;have b7:(U6.set U.length (.arr [d3.v] 7 1))[U.length]?=aJ [d3.v] 7:=bO (aR b6);obtain⟨v',X',ha,gz,gK,lO⟩:=fin F4 D4 _ k7 s56 g6;simp[ab,b6,aI,OL,aU];generalize U6.set U.length (.arr [d3.v] 7 1)=U7 at ha b7 |-;simp[ab,b7,De.kj,ha,cG i];refine⟨_,?_,_,?_,i+1,v',F4,D4,rfl,oM,gz,gK,lO,rfl⟩
    .omega
    .exact ba
   .rw[W9,au h4,hhs,au h4,au h4]at fin;obtain⟨v',X',ha,gz,gK,lO⟩:=fin F3 D3 U5 k5 SL g4;simp[ab,b5,d2k,h4,De.kj,ha,cG i];refine⟨_,?_,_,?_,i+1,v',F3,D3,rfl,oM,gz,gK,lO,rfl⟩
    .omega
    .exact ba
 rintro e U ⟨gv,F1,D1,g9,hg,bW,bw⟩;simp[g9];exact Ij ok rfl hg bW bw (by rw[<-iO,vJ])
def Sm.OQ(p:Pw)(sc:ai)(n:Nat)(s:Sm):s.wr p sc n=
  if s.kind=7 then .mk (ma p sc s.labels) s.kind s.text (Ex.bh p sc true s.targets) s.aw s.elems (De.bh p (ar (cK s.decls s.body) n::sc) sc (n+(ar (cK s.decls s.body) n).length) s.decls) (Sm.bh p (ar (cK s.decls s.body) n::sc) (n+(ar (cK s.decls s.body) n).length+De.aX s.decls) s.body)
  else if s.kind=8 then .mk (ma p sc s.labels) s.kind s.text (Ex.bh p sc true s.targets) s.aw s.elems s.decls (Sm.bh p (ar (cr s.body) n::sc) (n+(ar (cr s.body) n).length) s.body)
  else .mk (ma p sc s.labels) s.kind (p.wF sc s.kind s.text) (Ex.bh p sc true s.targets) (Ex.bh p sc false s.aw) (El.bh p sc s.elems) s.decls (Sm.gV p sc n s.body):=by
 cases s;rw[Sm.wr];rfl
def Sm.M9(p:Pw)(sc:ai)(n:Nat)(h:p.H)(s:Sm):s.hs p sc n h=
  if s.kind=7 then Sm.aN p (ar (cK s.decls s.body) n::sc) (n+(ar (cK s.decls s.body) n).length+De.aX s.decls) (De.aN p (ar (cK s.decls s.body) n::sc) sc (n+(ar (cK s.decls s.body) n).length) (enters p (Ex.aN p sc true h s.targets) (ar (cK s.decls s.body) n)) s.decls) s.body
  else if s.kind=8 then Sm.aN p (ar (cr s.body) n::sc) (n+(ar (cr s.body) n).length) (enters p (Ex.aN p sc true h s.targets) (ar (cr s.body) n)) s.body
  else p.rU sc s.kind (Sm.bw p sc n (El.aN p sc (Ex.aN p sc false (Ex.aN p sc true h s.targets) s.aw) s.elems) s.body) s.text:=by
 cases s;rw[Sm.hs];rfl
def Sm.NQ(s:Sm):s.nb=if s.kind=7 then(ar (cK s.decls s.body) 0).length+De.aX s.decls+Sm.aX s.body else if s.kind=8 then(ar (cr s.body) 0).length+Sm.aX s.body else Sm.bH s.body:=by
 cases s;rw[Sm.nb];rfl
def Sm.tR(s:Sm):(Pa.st s).size=1+s.labels.length+bk (s.targets.map Pa.ex)+bk (s.aw.map Pa.ex)+bk (s.elems.map Pa.el)+bk (s.decls.map Pa.de)+bk (s.body.map Pa.st):=by
 rw[Pa.size_eq];simp only[Pa.own,Pa.kids,vD];omega
def ID{U:St}{x:Nat}{o:Ob}{os:List Ob}(h:U[x]?=some o):(U++os)[x]?=some o:=by rw[dh (br.1 h).1];exact h
abbrev bL:V:=zS
def eu.yb{p:Pw}{w:Nat}{F D F' D':Np}{S X:St}{v:V}{ts:List ey}(h:eu p (λl=>l=w\/F l) S v ts)(s:bJ w F D S F' D' X):eu p (λl=>l=w\/F' l\/(l=S.length\/l=S.length+1)) X v ts:=
 h.mono s.k λl hh=>by
  rcases hh with hh|hh|hh|hh
  .exact .inl (.inl hh)
  .exact(s.gF l hh).imp .inr id
  .exact .inr oM
  .exact .inr oM
structure Bx(c:Cb)(w n:Nat)(h:c.H)(F D:Np)(S:St)(y:Sm)(F' D':Np)(X:St):Prop where
 b0:X[S.length]?=aJ [y.v] 8
 b1:X[S.length+1]?=aJ [bL] 8
 wk:Wk c w n h F' D' X
 st:bJ w F D S F' D' X
 o0:gy w F' D' S.length
 o1:gy w F' D' (S.length+1)
section
variable {c:Cb} (ok:c.Ok) {w n:Nat} {h:c.H} {F D F' D':Np} {S X:St} {y:Sm} (b:Bx c w n h F D S y F' D' X)
include b
theorem Bx.call{n':Nat}{h':c.H}{x r:V}{U:St}(d:Wd c w n' h' F' D' X x r U):r=x/\∃F2 D2,Bx c w n' h' F D S y F2 D2 U:=by
 obtain⟨rfl,F2,D2,k,s⟩:=d;have l0:=aR b.b0;have l1:=aR b.b1;exact⟨rfl,F2,D2,s.at b.o0 b.b0,s.at b.o1 b.b1,k,b.st.trans s,b.o0.next l0 s,b.o1.next l1 s⟩
theorem Bx.step{n':Nat}{h':c.H}{F2 D2:Np}{U:St}(k:Wk c w n' h' F2 D2 U)(s:bJ w F' D' X F2 D2 U):Bx c w n' h' F D S y F2 D2 U:=by
 have l0:=aR b.b0;have l1:=aR b.b1;exact⟨s.at b.o0 b.b0,s.at b.o1 b.b1,k,b.st.trans s,b.o0.next l0 s,b.o1.next l1 s⟩
omit b in
def Yb(S:St)(l:Nat):Prop:=l=S.length\/l=S.length+1
include ok
theorem Bx.put(y':Sm):Bx c w n h F D S y' F' D' (X.set S.length (.arr [y'.v] 8 1)):=by
 have l1:=aR b.b1;exact⟨bO (aR b.b0),by rw[bG oM];exact b.b1,b.wk.set ok _ b.o0.1 b.o0.2.1 b.o0.2.2,b.st.set _ cz,b.o0,b.o1⟩
theorem Bx.push(os:List Ob):Bx c w n h F D S y F' D' (X++os):=⟨ID b.b0,ID b.b1,b.wk.push ok _,b.st.push _,b.o0,b.o1⟩
theorem Bx.fin{e:ae}(he:e.get 6=some (ag (S.length+1))):eN [.cell 6 (some 8)] S.length (λr U=>Wd c w n h F D S y.v r U) .ret e (X.set (S.length+1) (.arr [y.v] 8 1)):=by
 have hz:(X.set (S.length+1) (.arr [y.v] 8 1))[S.length+1]?=aJ [y.v] 8:=bO (aR b.b1);exact bu (vs:=[y.v]) (by simp[eL,he,ab,hz]) ⟨rfl,F',D',b.wk.set ok _ b.o1.1 b.o1.2.1 b.o1.2.2,b.st.set _ oM⟩
end
def BD(a:List Bz)(k:Int)(t:Bz)(g e:List Ex)(l:List El)(d:List De)(b:List Sm):V.agg [ah (a.map .str),af k,.str t,ah (g.map Ex.v),ah (e.map Ex.v),ah (l.map El.v),ah (d.map De.v),ah (b.map Sm.v)]=(Sm.mk a k t g e l d b).v:=by rw[Sm.eW];rfl
def qlC{c:Cb}(ok:c.Ok){w n:Nat}{h:c.H}{F D Y:Np}{S:St}{v:V}{ts:List ey}(hk:Wk c w n h F D S)(hY:∀l,Y l->l<S.length)(eh:eu c.toPw (λl=>l=w\/F l\/Y l) S v ts)(s:cy)(hc:c.cn (enters c.toPw h s) (n+s.length)):∃r U,qap c w n h F D Y ts s S r U:=by
 obtain⟨F',D',U0,q1,q2,q3,q4⟩:=ok.real hk.st (enters c.toPw h s);obtain⟨⟨ka,kb,kd⟩,st⟩:=hk.Vi ok q1 q2 q3 q4;have aB:=(br.1 ka).1;have I4:=st.k.len;obtain⟨t,ht⟩:=eX (α:=ey) (s.zipIdx.map λe=>(e.1.1,e.1.2,U0.length+3+e.2))
 have pG:t.qQ=s:=by
  rw[ht];unfold ey.qQ;rw[nJ];apply vV;intro i;simp only[dS,List.getElem?_zipIdx];cases s[i]?<;>rfl
 have pF:=cy.NH pG;obtain⟨os,wY⟩:=eX (α:=List Ob) ([.arr [.agg [v]] 1 1,.map (t.map wJ) (JL t.length) t.length,.arr [.agg [ag U0.length,.map (U0.length+1)]] 2 1]++s.map λe=>fP e.1 e.2 (c.f e.2 e.1))
 have g:∀j o,os[j]?=some o->(U0.set w (ui c (n+t.length))++os)[U0.length+j]?=some o:=λj o ho=>by
  rw[cx sM,xG,E8];exact ho
 have kk:Wk c w (n+t.length) (enters c.toPw h s) F' D' (U0.set w (ui c (n+t.length))++os):=Wk.push ok ⟨bO aB,ok.fr (M:=λl=>l=w) q1 ((Kp.refl _ _).set _ (.inl rfl)) (λl hl _=>by rw[hl];exact⟨kb,kd⟩),kb,kd,by rw[pF];exact hc⟩ _;have ss:bJ w F D S F' D' (U0.set w (ui c (n+t.length))++os):=⟨(st.k.set _ (.inl (.inl rfl))).push _,st.gF,st.gD⟩
 have out:∀l,U0.length<=l->¬(l=w\/F' l\/Y l):=by
  rintro l hl (rfl|hf|hy)
  .omega
  .have:=ok.lt q1 l (.inl hf);omega
  .have:=hY l hy;omega
 refine⟨ag (U0.length+2),_,t,F',D',pG,kk,ss,U0.length+2,U0.length,U0.length+1,v,_,_,rfl,⟨out _ oM,out _ cz,out _ oM⟩,g 2 _ (by rw[wY];rfl),g 0 _ (by rw[wY];rfl),g 1 _ (by rw[wY];rfl),λe he=>?_,eh.mono (ss.k.mono λl _ hh=>hh.imp id .inl) λl hh=>?_⟩
 .obtain⟨j,hj⟩:=oY he;rw[ht,dS,List.getElem?_zipIdx]at hj
  cases hs:s[j]? with
  |none=>rw[hs]at hj;simp at hj
  |some x=>
   rw[hs]at hj;simp at hj;subst hj;refine⟨out _ (by simp only;omega),?_⟩;rw[show U0.length+3+j=U0.length+(3+j) by omega];refine g _ _ ?_;rw[wY,cx sM];simp[hs]
 .rcases hh with hh|hh|hh
  .exact .inl (.inl hh)
  .exact(q3 l hh).imp (λa=>.inr (.inl a)) id
  .exact .inl (.inr (.inr hh))
def Zy(c:Cb)(ok:c.Ok)(w:Nat):∀(m:Nat) (s:Sm),(Pa.st s).size<=m->m<=4000->s.ok->E9 c w s
 |0,s,hx,_,_=>by have:=(Pa.st s).size_pos;omega
 |m+1,s,hx,hm,fE=>by
  intro n h F D S v ts hk eh jP hn;have O:=(Sm.fh s).1 fE;have bF:=Sm.tR s
  have ET:∀y,y∈s.body→E9 c w y:=λy hy=>Zy c ok w m y (by
   obtain⟨i,hi⟩:=oY (pS (f:=Pa.st) hy);have:=nc hi;omega) oM (Sm.jQ O.body.2 y hy)
  have TY:∀d,d∈s.decls→∀y,y∈d.body→E9 c w y:=λd hd y hy=>Zy c ok w m y (by
   obtain⟨i,hi⟩:=oY (pS (f:=Pa.de) hd);have h1:=nc hi;have h2:=De.tR d;obtain⟨j,hj⟩:=oY (pS (f:=Pa.st) hy);have:=nc hj;omega) oM (Sm.jQ ((De.fh d).1 (De.jQ O.decls.2 d hd)).body.2 y hy)
  have qrh:∀d,d∈s.decls->∀y,y∈d.body->y.ok:=λd hd y hy=>Sm.jQ ((De.fh d).1 (De.jQ O.decls.2 d hd)).body.2 y hy
  have qrg:∀y,y∈s.body->y.ok:=λy hy=>Sm.jQ O.body.2 y hy
  have iT:s.body.length<=4000:=by have:=oi (s.body.map Pa.st);rw[bQ]at this;omega
  refine aA.ib qbh ?_;obtain⟨S1,bB⟩:=eX (α:=St) (S++[.arr [s.v] 8 1,.arr [bL] 8 1])
  have B1:Bx c w n h F D S s F D S1:=by
   rw[bB];exact⟨by rw[cx oM];simp,by rw[cx oM];simp,hk.push ok _,(bJ.refl _ _ _ _).push _,hk.out ok oM,hk.out ok oM⟩
  simp[qbh,aL,ab,aU];rw[<-bB];refine bE (qkx c ok w s.labels oM n h F D S1 v ts jP B1.wk (eh.step B1.st)) ?_;intro r U hU;obtain⟨rfl,F2,D2,B2⟩:=B1.call hU;clear hU;obtain⟨y1,Jh⟩:=eX (α:=Sm) (.mk (ma c.toPw (aE ts) s.labels) s.kind s.text s.targets s.aw s.elems s.decls s.body);have B3:=B2.put ok y1;simp[aI,ab,B2.b0,vG,aU];rw[BD,<-Jh];generalize U.set S.length (.arr [y1.v] 8 1)=U3 at B3 |-;have e1:y1.targets=s.targets:=by rw[Jh];rfl
  simp[ab,B3.b0,e1];refine bE (Ou c ok w s.targets oM n h F2 D2 U3 v ts true B3.wk (eh.step B3.st)) ?_;intro r U hU;obtain⟨rfl,F3,D3,B4⟩:=B3.call hU;clear hU;obtain⟨y2,Be⟩:=eX (α:=Sm) (.mk (ma c.toPw (aE ts) s.labels) s.kind s.text (Ex.bh c.toPw (aE ts) true s.targets) s.aw s.elems s.decls s.body);have B5:=B4.put ok y2;simp[aI,ab,B4.b0,vG,aU];have qr1:V.agg [ah (y1.labels.map .str),af y1.kind,.str y1.text,ah ((Ex.bh c.toPw (aE ts) true s.targets).map Ex.v),ah (y1.aw.map Ex.v),ah (y1.elems.map El.v),ah (y1.decls.map De.v),ah (y1.body.map Sm.v)]=y2.v:=by rw[BD,Jh,Be];rfl
  rw[qr1];generalize U.set S.length (.arr [y2.v] 8 1)=U5 at B5 |-;have k2:y2.kind=s.kind:=by rw[Be];rfl
  have x2:y2.aw=s.aw:=by rw[Be];rfl
  have l2:y2.elems=s.elems:=by rw[Be];rfl
  have d2:y2.decls=s.decls:=by rw[Be];rfl
  have t2:y2.body=s.body:=by rw[Be];rfl
  obtain⟨h2,yg⟩:=eX (Ex.aN c.toPw (aE ts) true h s.targets);rw[<-yg]at B5;have hw:=Sm.OQ c.toPw (aE ts) n s;have hh:=Sm.M9 c.toPw (aE ts) n h s;have su:=Sm.NQ s;rw[<-yg]at hh;simp[ab,B5.b0,k2];by_cases h7:s.kind=7
  .rw[ak h7]at hw hh su;have WC:=mK (cK s.decls s.body) n 0;simp[h7,ab,B5.b0];refine bE (qxD y2 U5) ?_;rintro r U6 ⟨rfl,LX⟩;have B6:=B5.push ok [.arr [y2.v] 8 1];rw[<-LX]at B6;have c6:U6[U5.length]?=aJ [y2.v] 8:=by rw[LX];simp
   have hy:=qzP y2 (by rw[d2];exact O.decls) (by rw[t2];exact O.body) U5.length;rw[d2,t2]at hy;have lS5:=B5.st.k.len;simp;refine bE (SY c ok w n h2 F3 D3 v ts (cK s.decls s.body) 255 [ag U5.length] U5.length _ hy sM U6 B6.wk (Yb S) (by rintro l (rfl|rfl);exact aR B6.b0;exact aR B6.b1) (eh.yb B6.st) c6 (B5.wk.out ok cz) oM) ?_;rintro r U7 ⟨t,F4,D4,pG,k7,s7,SN⟩;have pF:=cy.NH pG;have vc:aE (t::ts)=ar (cK s.decls s.body) n::aE ts:=by simp only[aE,cQ,pG]
   have B7:=B6.step k7 s7;simp[ab,B7.b0,d2]
   have q:=qxE c ok w s.decls oM TY qrh _ _ F4 D4 U7 r v (t::ts) ts B7.wk (SN.sub λl hl=>hl.imp id .inl) (eh.step B7.st) (by
    intro d hd;rw[vc];exact(Jl _ _ _).sub λx hx=>E4 _ (yX.2 ⟨d,hd,hx⟩)) oM
   rw[vc]at q;refine bE q ?_;rintro r2 U8 ⟨rfl,F5,D5,k8,s8⟩;have B8:=B7.step k8 s8;obtain⟨y3,Gq⟩:=eX (α:=Sm) (.mk (ma c.toPw (aE ts) s.labels) s.kind s.text (Ex.bh c.toPw (aE ts) true s.targets) s.aw s.elems (De.bh c.toPw (ar (cK s.decls s.body) n::aE ts) (aE ts) (n+t.length) s.decls) s.body);have XD:V.agg [ah (y2.labels.map .str),af y2.kind,.str y2.text,ah (y2.targets.map Ex.v),ah (y2.aw.map Ex.v),ah (y2.elems.map El.v),ah ((De.bh c.toPw (ar (cK s.decls s.body) n::aE ts) (aE ts) (n+t.length) s.decls).map De.v),ah (y2.body.map Sm.v)]=y3.v:=by rw[BD,Be,Gq];rfl
   have B9:=B8.put ok y3
   have sc9:eu c.toPw (λl=>l=w\/F5 l) (U8.set S.length (.arr [y3.v] 8 1)) r (t::ts):=by
    refine(SN.mono ((s8.k.mono λl _ hh=>hh.imp id .inl).set _ (.inl (.inr (.inr (.inl rfl))))) (X':=λl=>l=w\/F5 l) λl hh=>?_);rcases hh with hh|hh
    .exact .inl (.inl hh)
    .exact(s8.gF l hh).imp (λa=>.inr (.inl a)) id
   simp[aI,B8.b0,vG,aU];rw[XD];generalize U8.set S.length (.arr [y3.v] 8 1)=U9 at B9 sc9 |-;have b3:y3.body=s.body:=by rw[Gq];rfl
   simp[ab,B9.b0,b3];have q3:=Zt c ok w s.body false ET iT _ _ F5 D5 U9 r (t::ts) B9.wk sc9 (by rw[vc];exact(Jl _ _ _).sub λx hx=>HN _ hx) oM;rw[vc]at q3;refine bE q3 ?_;rintro r3 KX ⟨rfl,F6,D6,k10,s10⟩;have B10:=B9.step k10 s10;obtain⟨y4,yr⟩:=eX (α:=Sm) (.mk (ma c.toPw (aE ts) s.labels) s.kind s.text (Ex.bh c.toPw (aE ts) true s.targets) s.aw s.elems (De.bh c.toPw (ar (cK s.decls s.body) n::aE ts) (aE ts) (n+t.length) s.decls) (Sm.bh c.toPw (ar (cK s.decls s.body) n::aE ts) (n+t.length+De.aX s.decls) s.body));have Nn:V.agg [ah (y3.labels.map .str),af y3.kind,.str y3.text,ah (y3.targets.map Ex.v),ah (y3.aw.map Ex.v),ah (y3.elems.map El.v),ah (y3.decls.map De.v),ah ((Sm.bh c.toPw (ar (cK s.decls s.body) n::aE ts) (n+t.length+De.aX s.decls) s.body).map Sm.v)]=y4.v:=by rw[BD,Gq,yr];rfl
   have jr:=B10.put ok y4;simp[aI,B10.b0,vG,aU];rw[Nn];generalize KX.set S.length (.arr [y4.v] 8 1)=PG at jr |-;have k4:y4.kind=7:=by rw[yr,<-h7];rfl
   simp[ab,jr.b0,jr.b1,k4,aI,aU];rw[hw,hh,su,<-pF,<-yr,show n+((ar (cK s.decls s.body) 0).length+De.aX s.decls+Sm.aX s.body)=n+t.length+De.aX s.decls+Sm.aX s.body by omega];exact jr.fin ok rfl
  by_cases h8:s.kind=8
  .rw[au h7,ak h8]at hw hh su;have WC:=mK (cr s.body) n 0;simp[h8,ab,B5.b0,t2];refine uc (Zu s.body false U5) ⟨_,_,rfl,rfl⟩ ?_;rintro r U6 ⟨rfl,LX⟩;have B6:=B5.push ok [.arr [ah (s.body.map Sm.v)] 1 1];rw[<-LX]at B6;have c6:U6[U5.length]?=aJ [ah (s.body.map Sm.v)] 1:=by rw[LX];simp
   have hy:=qam s.body O.body.1 O.body.2 U5.length;have hYb:∀l,Yb S l->l<U6.length:=by rintro l (rfl|rfl);exact aR B6.b0;exact aR B6.b1
   have scY:=eh.yb B6.st;have lS5:=B5.st.k.len;simp;refine uc (SY c ok w n h2 F3 D3 v ts (cr s.body) 187 [ag U5.length] U5.length _ hy sM U6 B6.wk (Yb S) hYb scY c6 (B5.wk.out ok cz) oM) (qlC ok B6.wk hYb scY _ (qnh ok _ B6.wk.cn)) ?_;rintro r U7 ⟨t,F4,D4,pG,k7,s7,SN⟩;have pF:=cy.NH pG;have vc:aE (t::ts)=ar (cr s.body) n::aE ts:=by simp only[aE,cQ,pG]
   have B7:=B6.step k7 s7;simp;have q3:=Zt c ok w s.body false ET iT _ _ F4 D4 U7 r (t::ts) B7.wk (SN.sub λl hl=>hl.imp id .inl) (by rw[vc];exact Jl _ _ _) oM;rw[vc]at q3;refine uc q3 (Wd.some ok B7.wk _ (qnj ok _ _ B7.wk.cn) _) ?_;rintro r3 KX ⟨rfl,F6,D6,k10,s10⟩;have B10:=B7.step k10 s10;obtain⟨y4,yr⟩:=eX (α:=Sm) (.mk (ma c.toPw (aE ts) s.labels) s.kind s.text (Ex.bh c.toPw (aE ts) true s.targets) s.aw s.elems s.decls (Sm.bh c.toPw (ar (cr s.body) n::aE ts) (n+t.length) s.body));have Nn:V.agg [ah (y2.labels.map .str),af y2.kind,.str y2.text,ah (y2.targets.map Ex.v),ah (y2.aw.map Ex.v),ah (y2.elems.map El.v),ah (y2.decls.map De.v),ah ((Sm.bh c.toPw (ar (cr s.body) n::aE ts) (n+t.length) s.body).map Sm.v)]=y4.v:=by rw[BD,Be,yr];rfl
   have jr:=B10.put ok y4;simp[aI,B10.b0,vG,aU,dP,eF,eZ,ab,B5.b0,B6.b0,B7.b0,t2];rw[Nn];generalize KX.set S.length (.arr [y4.v] 8 1)=PG at jr |-;have k4:y4.kind=8:=by rw[yr,<-h8];rfl
   simp[ab,jr.b0,jr.b1,k4,aI,aU];rw[hw,hh,su,<-pF,<-yr,show n+((ar (cr s.body) 0).length+Sm.aX s.body)=n+t.length+Sm.aX s.body by omega];exact jr.fin ok rfl
  rw[au h7,au h8]at hw hh su;simp[h7,h8,ab,B5.b0,x2];refine bE (Ou c ok w s.aw oM n h2 F3 D3 U5 v ts false B5.wk (eh.step B5.st)) ?_;rintro r U6 ⟨rfl,F4,D4,k6,s6⟩;have B6:=B5.step k6 s6;obtain⟨y3,Gq⟩:=eX (α:=Sm) (.mk (ma c.toPw (aE ts) s.labels) s.kind s.text (Ex.bh c.toPw (aE ts) true s.targets) (Ex.bh c.toPw (aE ts) false s.aw) s.elems s.decls s.body);have XD:V.agg [ah (y2.labels.map .str),af y2.kind,.str y2.text,ah (y2.targets.map Ex.v),ah ((Ex.bh c.toPw (aE ts) false s.aw).map Ex.v),ah (y2.elems.map El.v),ah (y2.decls.map De.v),ah (y2.body.map Sm.v)]=y3.v:=by rw[BD,Be,Gq];rfl
  have B7:=B6.put ok y3;simp[aI,B6.b0,vG,aU];rw[XD];generalize U6.set S.length (.arr [y3.v] 8 1)=U7 at B7 |-;have l3:y3.elems=s.elems:=by rw[Gq];rfl
  simp[ab,B7.b0,l3];refine bE (qxF c ok w s.elems oM n _ F4 D4 U7 v ts B7.wk (eh.step B7.st)) ?_;rintro r U8 ⟨rfl,F5,D5,k8,s8⟩;have B8:=B7.step k8 s8;obtain⟨y4,yr⟩:=eX (α:=Sm) (.mk (ma c.toPw (aE ts) s.labels) s.kind s.text (Ex.bh c.toPw (aE ts) true s.targets) (Ex.bh c.toPw (aE ts) false s.aw) (El.bh c.toPw (aE ts) s.elems) s.decls s.body);have Nn:V.agg [ah (y3.labels.map .str),af y3.kind,.str y3.text,ah (y3.targets.map Ex.v),ah (y3.aw.map Ex.v),ah ((El.bh c.toPw (aE ts) s.elems).map El.v),ah (y3.decls.map De.v),ah (y3.body.map Sm.v)]=y4.v:=by rw[BD,Gq,yr];rfl
  have B9:=B8.put ok y4;simp[aI,B8.b0,vG,aU];rw[Nn];generalize U8.set S.length (.arr [y4.v] 8 1)=U9 at B9 |-;have b4:y4.body=s.body:=by rw[yr];rfl
  simp[ab,B9.b0,b4];refine bE (Zo c ok w s.body false ET iT qrg n _ F5 D5 U9 v ts B9.wk (eh.step B9.st) oM) ?_;rintro r KX ⟨rfl,F6,D6,k10,s10⟩;have B10:=B9.step k10 s10;obtain⟨y5,Ji⟩:=eX (α:=Sm) (.mk (ma c.toPw (aE ts) s.labels) s.kind s.text (Ex.bh c.toPw (aE ts) true s.targets) (Ex.bh c.toPw (aE ts) false s.aw) (El.bh c.toPw (aE ts) s.elems) s.decls (Sm.gV c.toPw (aE ts) n s.body));have qr2:V.agg [ah (y4.labels.map .str),af y4.kind,.str y4.text,ah (y4.targets.map Ex.v),ah (y4.aw.map Ex.v),ah (y4.elems.map El.v),ah (y4.decls.map De.v),ah ((Sm.gV c.toPw (aE ts) n s.body).map Sm.v)]=y5.v:=by rw[BD,yr,Ji];rfl
  have jr:=B10.put ok y5;simp[aI,B10.b0,vG,aU];rw[qr2];generalize KX.set S.length (.arr [y5.v] 8 1)=PG at jr |-;have k5:y5.kind=s.kind:=by rw[Ji];rfl
  have t5:y5.text=s.text:=by rw[Ji];rfl
  obtain⟨h3,MF⟩:=eX (Sm.bw c.toPw (aE ts) n (El.aN c.toPw (aE ts) (Ex.aN c.toPw (aE ts) false h2 s.aw) s.elems) s.body);rw[<-MF]at jr hh;rw[hw,hh,su];by_cases h6:s.kind=6
  case neg=>
   simp[ab,jr.b0,jr.b1,k5,h6,aI,aU];have e1:c.toPw.wF (aE ts) s.kind s.text=s.text:=by unfold Pw.wF;rw[au h6]
   have e2:c.toPw.rU (aE ts) s.kind h3 s.text=h3:=by unfold Pw.rU;rw[au h6]
   rw[e1,e2,<-Ji];exact jr.fin ok rfl
  have tw:=jr.wk.tw;unfold ui at tw;have smT:∀z:Bz,V.agg [ah (y5.labels.map .str),af y5.kind,.str z,ah (y5.targets.map Ex.v),ah (y5.aw.map Ex.v),ah (y5.elems.map El.v),ah (y5.decls.map De.v),ah (y5.body.map Sm.v)]=(Sm.mk (ma c.toPw (aE ts) s.labels) s.kind z (Ex.bh c.toPw (aE ts) true s.targets) (Ex.bh c.toPw (aE ts) false s.aw) (El.bh c.toPw (aE ts) s.elems) s.decls (Sm.gV c.toPw (aE ts) n s.body)).v:=λz=>by rw[BD,Ji];rfl
  have u9:=eh.step jr.st
  cases lJ:c.cl with
  |none=>
   have WO:c.fc=.bY:=by have:=ok.cl;rw[lJ]at this;exact this
   rw[WO]at tw;have rZ:=Hm u9 s.text;have e2:c.toPw.rU (aE ts) s.kind h3 s.text=h3:=by unfold Pw.rU;rw[lJ];simp
   have e1:c.toPw.wF (aE ts) s.kind s.text=jo c.toPw (aE ts) s.text:=by unfold Pw.wF;rw[ak h6,lJ]
   rw[e1,e2];have jY:=CY ts s.text
   cases hf:qE ts s.text with
   |none=>
    have hr:jo c.toPw (aE ts) s.text=s.text:=by unfold jo;rw[jY,hf];rfl
    have hv:km ts s.text=.cu:=by simp[km,hf]
    rw[hv]at rZ;rw[hr,<-Ji];simp[ab,jr.b0,k5,t5,h6,dK,tw,gj,fH];refine aZ rZ ?_;simp[ab,jr.b0,jr.b1,gj,fH,aI,aU];exact jr.fin ok rfl
   |some q=>
    have hr:jo c.toPw (aE ts) s.text=c.f q.1 s.text:=by unfold jo;rw[jY,hf];rfl
    have hv:km ts s.text=ag q.2:=by simp[km,hf]
    rw[hv]at rZ;have hq:=u9.LA hf;unfold fP at hq;rw[hr];simp[ab,jr.b0,k5,t5,h6,dK,tw,gj,fH];refine aZ rZ ?_;obtain⟨z,hz⟩:=eX (α:=Sm) (.mk (ma c.toPw (aE ts) s.labels) s.kind (c.f q.1 s.text) (Ex.bh c.toPw (aE ts) true s.targets) (Ex.bh c.toPw (aE ts) false s.aw) (El.bh c.toPw (aE ts) s.elems) s.decls (Sm.gV c.toPw (aE ts) n s.body));have yu:=smT (c.f q.1 s.text);rw[<-hz]at yu;have EO:=jr.put ok z;rw[h6]at hz;rw[<-hz];rw[k5,h6]at yu;simp[ab,jr.b0,gj,fH,dK,hq,aI,vG,aU,k5,h6];rw[yu];generalize PG.set S.length (.arr [z.v] 8 1)=U12 at EO |-;simp[ab,EO.b0,aI,EO.b1,aU];exact EO.fin ok rfl
  |some g=>
   have jN:=ok.cl;rw[lJ]at jN;obtain⟨kf,cs,WO,yo⟩:=jN;rw[WO]at tw;have e2:c.toPw.rU (aE ts) s.kind h3 s.text=c.qZ h3 s.text (aE ts):=by unfold Pw.rU;rw[ak h6,lJ]
   have e1:c.toPw.wF (aE ts) s.kind s.text=g s.text (aE ts):=by unfold Pw.wF;rw[ak h6,lJ]
   rw[e1,e2];have Xo:=yo PG s.text v ts w h3 F6 D6 u9 jr.wk.st;obtain⟨Fi,Di,Ui,hi⟩:=ok.real jr.wk.st (c.qZ h3 s.text (aE ts));simp[ab,jr.b0,k5,t5,h6,dK,tw,gj,fH];refine uc Xo ⟨_,Ui,rfl,Fi,Di,hi⟩ ?_;rintro r U12 ⟨rfl,F7,D7,q1,q2,q3,q4⟩;obtain⟨k12,s12⟩:=jr.wk.call ok (ok.cc _ _ jr.wk.cn) q1 q2 q3 q4;have EO:=jr.step k12 s12;obtain⟨z,hz⟩:=eX (α:=Sm) (.mk (ma c.toPw (aE ts) s.labels) s.kind (g s.text (aE ts)) (Ex.bh c.toPw (aE ts) true s.targets) (Ex.bh c.toPw (aE ts) false s.aw) (El.bh c.toPw (aE ts) s.elems) s.decls (Sm.gV c.toPw (aE ts) n s.body));have yu:=smT (g s.text (aE ts));rw[<-hz]at yu;have OX:=EO.put ok z;rw[h6]at hz;rw[<-hz];rw[k5,h6]at yu;simp[aI,EO.b0,vG,aU,dP,eF,k5,h6];rw[yu];generalize U12.set S.length (.arr [z.v] 8 1)=U13 at OX |-;simp[ab,OX.b0,aI,OX.b1,aU];exact OX.fin ok rfl
def ZB(c:Cb)(ok:c.Ok)(w:Nat)(s:Sm)(hs:s.ok)(bF:(Pa.st s).size<=4000)(h:c.H)(F D:Np)(S:St)(hk:Wk c w 0 h F D S)(hn:Sm.bH [s]<=c.lim):
  aA prog 62 [ag w,s.v] S (λr U=>Wd c w (Sm.bH [s]) (s.ou c.toPw h) F D S (s.vM c.toPw).v r U):=by
 refine aA.ib C62 ?_;obtain⟨S1,bB⟩:=eX (α:=St) (S++[.arr [s.v] 8 1,.arr [bL] 8 1]);have b0:S1[S.length]?=aJ [s.v] 8:=by rw[bB,cx oM];simp
 have b1:S1[S.length+1]?=aJ [bL] 8:=by rw[bB,cx oM];simp
 have k1:Wk c w 0 h F D S1:=by rw[bB];exact hk.push ok _
 have s1:bJ w F D S F D S1:=by rw[bB];exact(bJ.refl _ _ _ _).push _
 have hf:=Sm.kj s;simp[C62,aL,ab,aU,Sm.kj];rw[<-bB];have q:=Zo c ok w [s] true (λx hx=>by simp at hx;subst hx;exact Zy c ok w 4000 x bF oM hs) sM (λx hx=>by simp at hx;subst hx;exact hs) 0 h F D S1 .cu [] k1 rfl oM;simp only[cQ,nK,mg]at q;refine bE q ?_;rintro r U ⟨rfl,F2,D2,k2,s2⟩;have o1:gy w F D (S.length+1):=hk.out ok oM;have l1:S.length+1<S1.length:=aR b1;have c1:=s2.at o1 b1;have p1:=o1.next l1 s2;have he:Sm.gV c.toPw (aE []) 0 [s]=[s.vM c.toPw]:=by simp only[Sm.gV,Sm.vM,aE,nK,mg]
 have FV:Sm.bw c.toPw (aE []) 0 h [s]=s.ou c.toPw h:=by simp only[Sm.bw,Sm.ou,aE,nK,mg]
 rw[FV]at k2;rw[he];simp only[cQ,nK];have iq:gP U 8 (ah [(s.vM c.toPw).v]) 0=some (.cq (s.vM c.toPw).v 0):=by simp[gP]
 simp[iq,ab,aI,c1,aU];have hz:(U.set (S.length+1) (.arr [(s.vM c.toPw).v] 8 1))[S.length+1]?=aJ [(s.vM c.toPw).v] 8:=bO (aR c1);exact bu (vs:=[(s.vM c.toPw).v]) (by simp[eL,ab,hz]) ⟨rfl,F2,D2,k2.set ok _ p1.1 p1.2.1 p1.2.2,(s1.trans s2).set _ oM⟩
def Bo(k:Nat):Bz:=⟨⟨[35]⟩⟩++⟨(iZ k).toArray⟩
def nuP(f:Nat->Bz):Pw where
 H:=Unit
 f k _:=f k
 nm:=none
 cl:=none
 nQ _ _ _:=()
 xh _ _ _ _:=()
 qZ _ _ _:=()
end Go.Proofs.YtbifpocccfkhhaaGreatDoor
