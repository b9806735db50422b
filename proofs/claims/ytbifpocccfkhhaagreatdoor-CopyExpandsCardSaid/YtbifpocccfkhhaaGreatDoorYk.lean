/- A part. -/
import Derived.Test.YtbifpocccfkhhaaGreatDoorYj
import Derived.Sort.Walk0
set_option linter.all false
noncomputable section
namespace Go.Proofs.YtbifpocccfkhhaaGreatDoor
open Go
structure xC(w:Nat)(P:Np->Np->St->Prop):Prop where
 push:∀{F D S},P F D S->∀os,P F D (S++os)
 set:∀{F D S},P F D S->∀{l} (o:Ob),gy w F D l->P F D (S.set l o)
 out:∀{F D S},P F D S->∀{l},S.length<=l->gy w F D l
def Gw.K1{w:Nat}{P:Np->Np->St->Prop}(fm:xC w P){sz bytes:Nat}{F0 D0 F D:Np}{xs ys:List V}{v x:V}{S0 S:St}(h:Gw sz S0.length w F D xs v S)(k:P F D S)(s:bJ w F0 D0 S0 F D S)(hx:elems S x=some ys)(hy:fits sz ys=true)(hr:(xs.length+ys.length)*bytes<=2^47):
  ∃v' S',fV S sz bytes v x=some (v',S')/\Gw sz S0.length w F D (xs++ys) v' S'/\P F D S'/\bJ w F0 D0 S0 F D S'/\(∀l o,S[l]?=some o->(∀a b c,v≠.arr l a b c)->S'[l]?=some o)/\(∀l a b c,v'=.arr l a b c->v=.arr l 0 xs.length xs.length\/l=S.length):=by
 have hlen:=s.k.len;rcases h with ⟨rfl,rfl⟩|⟨l,wr,h1,h2,rfl,h3,h4⟩
 .cases ys with
  |nil=>
   refine⟨sN,S,?_,.inl ⟨rfl,rfl⟩,k,s,λ_ _ h _=>h,λl a b c hh=>by cases hh⟩;unfold fV;rw[hx];rfl
  |cons y ys=>
   refine⟨.arr S.length 0 (y::ys).length (y::ys).length,S++[.arr (y::ys) sz (y::ys).length],?_,.inr ⟨S.length,(y::ys).length,hlen,fm.out k cz,sM,sM,sM⟩,fm.push k _,s.push _,λl o h _=>gp h,λl a b c hh=>by cases hh;exact .inr rfl⟩;unfold fV;rw[hx];have hc:true=true/\fits sz (y::ys)=true/\(([]:List V).all λv=>v.size==sz)=true/\(([]:List V).length+(y::ys).length)*bytes<=2^47:=⟨rfl,hy,rfl,hr⟩;show(if(y::ys).isEmpty=true then _ else _)=_;rw[au sM,ak hc];simp
 .have hc:0=0/\xs.length=xs.length/\xs.length=xs.length/\sz=sz/\fits sz ys=true/\(xs.length+ys.length)*bytes<=2^47:=⟨rfl,rfl,rfl,rfl,hy,hr⟩;have aB:l<S.length:=(br.1 h3).1;refine⟨.arr l 0 (xs.length+ys.length) (xs.length+ys.length),S.set l (.arr (xs++ys) sz wr),?_,.inr ⟨l,wr,h1,h2,sM,by rw[bO aB],by simp;omega⟩,fm.set k _ h2,s.set _ h1,λk o ho bZ=>?_,λl' a b c hh=>by cases hh;exact .inl rfl⟩
  .unfold fV;rw[hx];show(match S[l]? with|_=>_)=_;rw[h3];show(if _ then _ else _)=_;rw[ak hc]
  .rw[bG (by rintro rfl;exact bZ _ _ _ rfl)];exact ho
def Gw.xQ{w:Nat}{P:Np->Np->St->Prop}(fm:xC w P){sz bytes:Nat}{F0 D0 F D:Np}{xs:List V}{y v:V}{S0 S:St}{b:Bool}(h:Gw sz S0.length w F D xs v S)(k:P F D S)(s:bJ w F0 D0 S0 F D S)(hy:fits sz [y]=true)(hr:(xs.length+1)*bytes<=2^47):
  ∃v' S',fV S sz bytes v (.sl b [y])=some (v',S')/\Gw sz S0.length w F D (xs++[y]) v' S'/\P F D S'/\bJ w F0 D0 S0 F D S'/\(∀l o,S[l]?=some o->(∀a b c,v≠.arr l a b c)->S'[l]?=some o)/\(∀l a b c,v'=.arr l a b c->v=.arr l 0 xs.length xs.length\/l=S.length):=
 h.K1 fm k s (rW S b [y]) hy hr
def Gw.qoY{w:Nat}{P:Np->Np->St->Prop}(fm:xC w P){sz:Nat}{F0 D0 F D:Np}{xs:List V}{v:V}{S0 U:St}(h:Gw sz S0.length w F D xs v U)(k:P F D U)(s:bJ w F0 D0 S0 F D U):
  ∃U',dJ S0.length v U (ah (xs.map V.weak)) U'/\P F D U'/\bJ w F0 D0 S0 F D U':=by
 rcases h with ⟨rfl,rfl⟩|⟨l,wr,h1,h2,rfl,h3,h4⟩
 .exact⟨U,dJ.weak (r:=sN),k,s⟩
 .have g1:=dJ.freeze (n:=S0.length) (l:=l) (off:=0) (len:=xs.length) (st:=xs.length) h3 h4 oM;simp only[CG,gu]at g1;have g2:dJ S0.length (ah xs) (U.set l .dead) (ah xs).weak (U.set l .dead):=dJ.weak;simp only[V.weak,iO]at g2;exact⟨_,g1.trans g2,fm.set k _ h2,s.set _ h1⟩
def nn(w:Nat)(P':Np->Np->St->Prop)(F D:Np)(S:St)(x:V)(r:V)(U:St):Prop:=r=x/\∃F' D',P' F' D' U/\bJ w F D S F' D' U
def Lo{w:Nat}{P:Np->Np->St->Prop}(fm:xC w P){sz:Nat}{F0 D0 F D:Np}{xs:List V}{v:V}{S0 U:St}{rs:List RV}{e:ae}(hv:eL e U rs=some [v])(h:Gw sz S0.length w F D xs v U)(k:P F D U)(s:bJ w F0 D0 S0 F D U){ys:List V}(hx:xs.map V.weak=ys):
  eN rs S0.length (λr U=>nn w P F0 D0 S0 (ah ys) r U) .ret e U:=by
 obtain⟨U',g,k',s'⟩:=h.qoY fm k s;exact⟨_,hv,_,U',g,by rw[hx],F,D,k',s'⟩
def Pv(w sz:Nat)(F D:Np)(S:St)(len:Nat)(P:Nat->Np->Np->St->Prop)(xs:Nat->List V)(env:Nat->V->ae)(j:Nat)(e:ae)(U:St):Prop:=∃(i:Nat) (gv:V) (F' D':Np),j=len-i/\i<=len/\Gw sz S.length w F' D' (xs i) gv U/\P i F' D' U/\bJ w F D S F' D' U/\e=env i gv
def PH(w sz:Nat)(F D:Np)(S:St)(P:Np->Np->St->Prop)(reg:Nat)(xs:List V)(e:ae)(U:St):Prop:=∃(gv:V) (F' D':Np),e.get reg=some gv/\Gw sz S.length w F' D' xs gv U/\P F' D' U/\bJ w F D S F' D' U
def Gs(w:Nat)(F:Np)(xs:List Bz)(v:V)(S:St):Prop:=(xs=[]/\v=sN)\/∃l wr,F l/\l≠w/\v=.arr l 0 xs.length xs.length/\S[l]?=some (.arr (xs.map .str) 1 wr)/\wr<=xs.length
def Fr(D:Np)(fv:V)(fresh:List Bz)(S:St):Prop:=(∃b,fv=.sl b (fresh.map .str))\/∃l wr,D l/\fv=.arr l 0 fresh.length fresh.length/\S[l]?=some (.arr (fresh.map .str) 1 wr)/\wr<=fresh.length
def gn(r:Rp)(bf bt:Bool)(fv vb vf:V)(st:cd):Ob:=.arr [.agg [vb,vf,fv,.sl bf (r.rX.map .str),.sl bt (r.to.map Ex.v),.bool st.bad,.bool st.oG]] 7 1
structure Rk(r:Rp)(bf bt:Bool)(w:Nat)(fv:V)(aD:List Bz)(st:cd)(F D:Np)(S:St):Prop where
 wx:∃vb vf,S[w]?=some (gn r bf bt fv vb vf st)/\Gs w F aD vb S/\Gs w F st.free vf S/\∀l a b c,vb=.arr l a b c->∀a' b' c',vf≠.arr l a' b' c'
 fr:Fr D fv r.fresh S
 lt:∀l,F l\/D l->l<S.length
 nF:¬F w
 nD:¬D w
 di:∀l,F l->¬D l
 lw:w<S.length
def Gs.keep{w:Nat}{F:Np}{xs:List Bz}{v:V}{S U:St}(h:Gs w F xs v S)(hk:∀l o,F l->S[l]?=some o->U[l]?=some o):Gs w F xs v U:=by
 rcases h with h|⟨l,wr,h1,h2,h3,h4,h5⟩
 .exact .inl h
 .exact .inr ⟨l,wr,h1,h2,h3,hk l _ h1 h4,h5⟩
def Gs.flat{w:Nat}{F:Np}{xs:List Bz}{v:V}{S:St}(h:Gs w F xs v S):v.cells=[v]/\v.flat=true/\v.size=1/\sG v=some (af xs.length):=by
 rcases h with ⟨rfl,rfl⟩|⟨l,wr,h1,h2,rfl,h4,h5⟩<;>exact⟨rfl,rfl,rfl,rfl⟩
def Fr.keep{D:Np}{xs:List Bz}{v:V}{S U:St}(h:Fr D v xs S)(hk:∀l o,D l->S[l]?=some o->U[l]?=some o):Fr D v xs U:=by
 rcases h with h|⟨l,wr,h1,h3,h4,h5⟩
 .exact .inl h
 .exact .inr ⟨l,wr,h1,h3,hk l _ h1 h4,h5⟩
def Fr.rd{D:Np}{xs:List Bz}{v:V}{S:St}(h:Fr D v xs S):Rd v xs S:=by
 rcases h with ⟨b,rfl⟩|⟨l,wr,h1,rfl,h4,h5⟩
 .exact Rd.sl b xs S
 .exact Rd.arr h4 h5
def Rk.pZ(r:Rp)(bf bt:Bool)(w:Nat)(fv:V)(aD:List Bz)(st:cd):xC w (Rk r bf bt w fv aD st) where
 push {F D S} h os:=by
  have g:∀l o,S[l]?=some o->(S++os)[l]?=some o:=λl o h=>by rw[dh (br.1 h).1];exact h
  obtain⟨vb,vf,h1,h2,h3,h4⟩:=h.wx;exact⟨⟨vb,vf,g _ _ h1,h2.keep λl o _=>g l o,h3.keep λl o _=>g l o,h4⟩,h.fr.keep λl o _=>g l o,λl hl=>by have:=h.lt l hl;simp;omega,h.nF,h.nD,h.di,by simp;have:=h.lw;omega⟩
 set {F D S} h l o hl:=by
  have g:∀k o',(k=w\/F k\/D k)->S[k]?=some o'->(S.set l o)[k]?=some o':=λk o' hk h=>by
   rw[bG]
   .exact h
   .rintro rfl;rcases hk with hk|hk|hk
    .exact hl.1 hk
    .exact hl.2.1 hk
    .exact hl.2.2 hk
  obtain⟨vb,vf,h1,h2,h3,h4⟩:=h.wx;exact⟨⟨vb,vf,g _ _ (.inl rfl) h1,h2.keep λl o h=>g l o (.inr (.inl h)),h3.keep λl o h=>g l o (.inr (.inl h)),h4⟩,h.fr.keep λl o h=>g l o (.inr (.inr h)),λl hl=>by have:=h.lt l hl;simpa using this,h.nF,h.nD,h.di,by simpa using h.lw⟩
 out {F D S} h l hl:=⟨by have:=h.lw;omega,λhf=>by have:=h.lt l (.inl hf);omega,λhf=>by have:=h.lt l (.inr hf);omega⟩
def uI(sc:ai):Prop:=∀s,s∈sc->(s.map (·.1)).Nodup
def qmG{s:cy}(x:Bz)(h:(s.map (·.1)).Nodup):cy.at s.reverse x=cy.at s x:=by
 induction s with
 |nil=>rfl
 |cons e s ih=>
  rw[cQ,List.nodup_cons]at h;have ih:=ih h.2;unfold cy.at at ih |-;rw[Pq,yW,EY];by_cases hx:e.1=x
  .have hn:s.reverse.find? (λp=>decide (p.1=x))=none:=by
    rw[HL];intro e' uT hh;simp only[dT]at hh;exact h.1 (by rw[hx,<-hh];exact pS (List.mem_reverse.1 uT))
   rw[hn];simp[hx]
  .simp only[e9 hx];simp only[EY,e9 hx,List.find?_nil,Option.or_none];exact ih
def VT:∀(sc:ai) (x:Bz),uI sc->GH (ai.flat sc) x=sc.at x
 |[],x,_=>rfl
 |s::r,x,h=>by
  have ih:=VT r x λs hs=>h s (uE _ hs)
  have hs:=qmG x (h s (E5 ..));unfold GH cy.at at *;simp only[ai.flat,List.reverse_append,yW,ai.at,cy.at]
  cases hf:s.reverse.find? (λp=>decide (p.1=x)) with
  |some p=>rw[hf]at hs;rw[<-hs];simp
  |none=>rw[hf]at hs;rw[<-hs];simpa using ih
def US:∀(l:List Bz) (s:cy) (n:Nat),(s.map (·.1)).Nodup->((binds l s n).map (·.1)).Nodup
 |[],s,n,h=>h
 |x::l,s,n,h=>by
  simp only[binds];split
  .exact US l s n h
  .rename_i hx;refine US l _ _ ?_;rw[cJ,HO];refine⟨h,sM,?_⟩;intro a ha b hb;simp at hb;subst hb;rintro rfl;obtain⟨e,he,rfl⟩:=cY.1 ha;apply hx
   cases hf:cy.at s e.1 with
   |some k=>rfl
   |none=>exact absurd rfl (UI.1 hf e he)
def uI.bind{sc:ai}(h:uI sc)(l:List Bz)(n:Nat):uI (ar l n::sc):=λs hs=>by
 rcases dU.1 hs with rfl|hs
 .exact US l [] n uF
 .exact h s hs
def Ys:∀(k:Nat) (l:List Bz),l.length<=k->∀x,x∈dk l->x∈l
 |_,[],_,x,h=>by simp[dk,ar,binds]at h
 |0,_::_,h,_,_=>by simp at h
 |k+1,y::l',h,x,hx=>by
  obtain⟨l,z,hl⟩:∃l z,y::l'=l++[z]:=⟨(y::l').dropLast,(y::l').getLast sM,(T8 _).symm⟩;rw[hl]at h hx |-;have hk:l.length<=k:=by simp at h;exact h
  rw[qhf]at hx;split at hx
  .exact E4 _ (Ys k l hk x hx)
  .rcases cU.1 hx with hx|hx
   .exact E4 _ (Ys k l hk x hx)
   .exact HN _ hx
def NU{l:List Bz}{x:Bz}(h:x∈dk l):x∈l:=Ys _ l cz x h
def Sm.bounds(s:Sm):List Bz:=dk s.labels++s.bn
def ZG(h:bN.H):List Bz:=Prod.snd (α:=List Bz) (β:=List Bz) h
def qdR:iH bN λl h=>ZG h=l where
 e x h:=by subst h;rfl
 n {l h} x sc tg hq:=by
  show Prod.snd (pW h x.text sc)=l;unfold pW;split<;>exact hq
 c {l h} x sc hq:=by
  show Prod.snd (pW h x sc)=l;unfold pW;split<;>exact hq
def Sm.qld(s:Sm):ZG (s.ou bN te)=s.bounds:=by
 have h0:ZG te=[]:=rfl;have h1:=qdR.enters h0 _ s.labels cz;have h2:=qdR.sm [ar s.labels 0] s h1;rw[ig,mZ]at h2;exact h2
def Sm.wz(s:Sm):s.bounds.length=Sm.bH [s]:=by
 unfold Sm.bounds;simp only[dx,mZ,Sm.rT,Sm.bH,Ar]
def Sm.binds(s:Sm):List Bz:=zY (s.bounds.foldl eo [])
end Go.Proofs.YtbifpocccfkhhaaGreatDoor

namespace Go.Proofs.YtbifpocccfkhhaaGreatDoor
open Go
def mW(a b:Bz):Prop:=a.data.toList<b.data.toList
def Yl(a:Bz):¬mW a a:=List.lt_irrefl _
def qgU{a b c:Bz}(h:mW a b)(g:mW b c):mW a c:=List.lt_trans h g
def qtd{a b:Bz}(h:¬mW a b)(g:¬mW b a):a=b:=by
 have:=List.le_antisymm (List.not_lt.1 g) (List.not_lt.1 h);exact vT (xz this)
def qjC:∀{l m:List Bz},l.Pairwise mW->m.Pairwise mW->(∀x,x∈l↔x∈m)->l=m
 |[],[],_,_,_=>rfl
 |[],y::m,_,_,h=>absurd ((h y).2 sM) sM
 |x::l,[],_,_,h=>absurd ((h x).1 sM) sM
 |x::l,y::m,hl,hm,h=>by
  have cj:=KN.1 hl;have tz:=KN.1 hm
  have yq:x=y:=by
   by_cases yq:x=y
   .exact yq
   .have h1:x∈m:=(dU.1 ((h x).1 sM)).resolve_left yq;have h2:y∈l:=(dU.1 ((h y).2 sM)).resolve_left (Ne.symm yq);exact absurd (qgU (tz.1 x h1) (cj.1 y h2)) (Yl y)
  subst yq;congr 1;refine qjC cj.2 tz.2 λz=>⟨λhz=>?_,λhz=>?_⟩
  .rcases dU.1 ((h z).1 (uE _ hz)) with rfl|sD
   .exact absurd (cj.1 z hz) (Yl z)
   .exact sD
  .rcases dU.1 ((h z).2 (uE _ hz)) with rfl|sD
   .exact absurd (tz.1 z hz) (Yl z)
   .exact sD
def Oq{ks:List Bz}{x:Bz}:x∈zY ks↔x∈ks:=by
 unfold zY;rw[cY];constructor
 .rintro⟨y,hy,rfl⟩;rw[List.mem_mergeSort]at hy;obtain⟨k,hk,rfl⟩:=cY.1 hy;simpa using hk
 .intro hx;exact⟨x.data.toList,by rw[List.mem_mergeSort];exact pS hx,sM⟩
def qwL{ks:List Bz}(nd:ks.Nodup):(zY ks).Pairwise mW:=by
 unfold zY;rw[List.pairwise_map];have tr:∀a b c:List UInt8,decide (a<=b)=true->decide (b<=c)=true->decide (a<=c)=true:=λa b c h1 h2=>by simp only[dT]at *;exact List.le_trans h1 h2
 have to:∀a b:List UInt8,(decide (a<=b)||decide (b<=a))=true:=λa b=>by simp only[CC,dT];exact List.le_total a b
 have h1:=List.pairwise_mergeSort tr to (ks.map λk=>k.data.toList)
 have h2:((ks.map λk=>k.data.toList).mergeSort λx y=>decide (x<=y)).Nodup:=by
  refine((List.mergeSort_perm _ _).nodup_iff).2 ?_;exact List.Pairwise.map _ (λa b L1 hh=>L1 (vT (xz hh))) nd
 refine(h1.and h2).imp ?_;rintro a b ⟨h3,h4⟩;show a<b;simp only[dT]at h3;by_cases aB:a<b
 .exact aB
 .exact absurd (List.le_antisymm h3 (List.not_lt.1 aB)) h4
def j8:List Bz->Bz->List Bz
 |[],x=>[x]
 |y::l,x=>open Classical in if mW y x then y::j8 l x else if y=x then y::l else x::y::l
def XN{x z:Bz}:∀{l:List Bz},z∈j8 l x↔z∈l\/z=x
 |[]=>by simp[j8]
 |y::l=>by
  unfold j8;split
  .rw[dU,XN,dU,or_assoc]
  .split
   .rename_i h;subst h;simp only[dU];exact⟨.inl,λh=>h.elim id λh=>.inl h⟩
   .simp only[dU];constructor
    .rintro(h|h|h)
     .exact .inr h
     .exact .inl (.inl h)
     .exact .inl (.inr h)
    .rintro((h|h)|h)
     .exact .inr (.inl h)
     .exact .inr (.inr h)
     .exact .inl h
def qgo{x:Bz}:∀{l:List Bz},l.Pairwise mW->(j8 l x).Pairwise mW
 |[],_=>by simp[j8]
 |y::l,h=>by
  have h':=KN.1 h;unfold j8;split
  .rename_i XF;refine KN.2 ⟨λz hz=>?_,qgo h'.2⟩;rcases XN.1 hz with hz|rfl
   .exact h'.1 z hz
   .exact XF
  .rename_i XF;split
   .exact h
   .rename_i bZ
    have yq:mW x y:=by
     by_cases hh:mW x y
     .exact hh
     .exact absurd (qtd XF hh) bZ
    refine KN.2 ⟨λz hz=>?_,h⟩;rcases dU.1 hz with rfl|hz
    .exact yq
    .exact qgU yq (h'.1 z hz)
def Ru{z:Bz}:∀{l out:List Bz},out.Pairwise mW->(l.foldl j8 out).Pairwise mW/\(z∈l.foldl j8 out↔z∈out\/z∈l)
 |[],out,h=>⟨h,sM⟩
 |x::l,out,h=>by
  obtain⟨h1,h2⟩:=Ru (z:=z) (l:=l) (qgo (x:=x) h);refine⟨h1,?_⟩;rw[uD,h2,XN,dU,or_assoc]
def Zm{l ks:List Bz}(nd:ks.Nodup)(h:∀x,x∈l↔x∈ks):l.foldl j8 []=zY ks:=
 qjC (Ru (z:=⟨⟨[]⟩⟩) List.Pairwise.nil).1 (qwL nd) λx=>by
  rw[(Ru (z:=x) List.Pairwise.nil).2,Oq,h];simp
def Gr.nO{sz n0 bytes:Nat}{xs ys:List V}{v x:V}{S:St}(h:Gr sz n0 xs v S)(hx:elems S x=some ys)(hy:fits sz ys=true)(hr:(xs.length+ys.length)*bytes<=2^47)(hn:n0<=S.length):
  ∃v' S',fV S sz bytes v x=some (v',S')/\Gr sz n0 (xs++ys) v' S'/\S.length<=S'.length/\(∀l o,S[l]?=some o->(∀n,v≠.arr l 0 n n)->S'[l]?=some o)/\(∀l n,v'=.arr l 0 n n->(∃m,v=.arr l 0 m m)\/S.length<=l):=by
 rcases h with ⟨rfl,rfl⟩|⟨l,wr,h1,rfl,h3,h4⟩
 .by_cases he:ys=[]
  .subst he;refine⟨sN,S,?_,.inl ⟨rfl,rfl⟩,dl _,λ_ _ h _=>h,λl n h=>by cases h⟩;unfold fV;rw[hx];rfl
  .have ye:ys.isEmpty=false:=by cases ys with
    |nil=>exact absurd rfl he
    |cons=>rfl
   refine⟨.arr S.length 0 ys.length ys.length,S++[.arr ys sz ys.length],?_,.inr ⟨S.length,ys.length,hn,sM,sM,sM⟩,sM,λl o ho _=>gp ho,λl n h=>.inr (by injection h;omega)⟩;unfold fV;rw[hx];have hc:true=true/\fits sz ys=true/\(([]:List V).all λv=>v.size==sz)=true/\(([]:List V).length+ys.length)*bytes<=2^47:=⟨rfl,hy,rfl,hr⟩;show(if ys.isEmpty=true then _ else _)=_;rw[au (by rw[ye];simp),ak hc];simp
 .have hc:0=0/\xs.length=xs.length/\xs.length=xs.length/\sz=sz/\fits sz ys=true/\(xs.length+ys.length)*bytes<=2^47:=⟨rfl,rfl,rfl,rfl,hy,hr⟩;have aB:l<S.length:=(br.1 h3).1;refine⟨.arr l 0 (xs.length+ys.length) (xs.length+ys.length),S.set l (.arr (xs++ys) sz wr),?_,.inr ⟨l,wr,h1,sM,by rw[bO aB],by simp;omega⟩,sM,λk o ho hk=>?_,λk n h=>.inl ?_⟩
  .unfold fV;rw[hx];show(match S[l]? with|_=>_)=_;rw[h3];show(if _ then _ else _)=_;rw[ak hc]
  .rw[bG]
   .exact ho
   .rintro rfl;exact hk _ rfl
  .injection h with h;subst h;exact⟨_,rfl⟩
def qgl{x:Bz}:∀(l:List Bz) (k:Nat),k<=l.length->(∀j y,j<k->l[j]?=some y->mW y x)->(∀y,l[k]?=some y->¬mW y x)->j8 l x=if l[k]?=some x then l else l.take k++x::l.drop k
 |[],k,hk,_,_=>by
  have:k=0:=by simpa using hk
  subst this;simp[j8]
 |y::l,0,_,_,h2=>by
  have hy:=h2 y rfl;unfold j8;rw[au hy];by_cases h:y=x
  .subst h;simp
  .simp[h]
 |y::l,k+1,hk,h1,h2=>by
  have hy:=h1 0 y oM rfl;have ih:=qgl l k (by simpa using hk) (λj z hj hz=>h1 (j+1) z oM (by simpa using hz)) (λz hz=>h2 z (by simpa using hz));unfold j8;rw[ak hy,ih];simp only[CH,List.take_succ_cons,List.drop_succ_cons,dR];split<;>rfl
open Go.Proofs.Tryz
def Eo{r:Rp}{bf bt:Bool}{w:Nat}{fv:V}{aD:List Bz}{st:cd}{F D:Np}{S:St}(hk:Rk r bf bt w fv aD st F D S):∃vb vf,ab S (ag w) none=some vb/\ab S (eD w 1) none=some vf/\ab S (eD w 2) none=some fv/\ab S (eD w 3) none=some (.sl bf (r.rX.map .str))/\ab S (eD w 4) none=some (.sl bt (r.to.map Ex.v))/\ab S (eD w 5) none=some (.bool st.bad)/\ab S (eD w 6) none=some (.bool st.oG):=by
 obtain⟨vb,vf,h,_⟩:=hk.wx;unfold gn at h;refine⟨vb,vf,?_,?_,?_,?_,?_,?_,?_⟩<;>simp[ab,h]
def SZ(r:Rp)(bf bt:Bool)(w:Nat)(fv:V)(aD:List Bz)(st:cd)(F D:Np)(S:St)(hk:Rk r bf bt w fv aD st F D S)(b:Bool)(sc:ai)(hd:uI sc)(hl:(ai.flat sc).length<=1000000)(x:Bz):
  Fn prog 176 [ag w,.sl b ((ai.flat sc).map dB),.str x] S (.str (dX r sc x)):=by
 refine aA.ib qba ?_;obtain⟨vb,vf,_,_,jw,_⟩:=Eo hk;obtain⟨hlen,ny⟩:=hk.fr.rd;simp[qba];refine aZ (qkr _ b x hl S) ?_;unfold N1;rw[VT sc x hd]
 have hr:dX r sc x=match sc.at x with
  |some k=>(r.fresh[k]?).getD x
  |none=>x:=rfl
 cases jY:sc.at x with
 |none=>
  rw[jY]at hr;simp only at hr;rw[hr];simp;exact bu rfl ⟨rfl,rfl⟩
 |some k=>
  rw[jY]at hr;simp only at hr;have yi:(0:Int)<=k:=oM;by_cases aB:k<r.fresh.length
  .obtain⟨p,mA,mB⟩:=ny k aB;rw[hr,bX aB];simp[yi,↓jm,dK,jw,hlen,aB,mA,mB];exact bu rfl ⟨rfl,rfl⟩
  .rw[hr,rQ oM];simp[yi,↓jm,dK,jw,hlen,aB];exact bu rfl ⟨rfl,rfl⟩
def xU(l:List Bz):fits 1 (l.map V.str)=true:=by simp[fits]
def qkp(l:List Sm)(hl:bk (l.map Pa.st)<=4000)(b:Bool)(w:Nat)(P:Np->Np->St->Prop)(fm:xC w P)(F D:Np)(S:St)(hk:P F D S):
  aA prog 163 [.sl b (l.map Sm.v)] S (λr U=>nn w P F D S (ah ((cr l).map .str)) r U):=by
 have hlen:l.length<=4000:=by have:=oi (l.map Pa.st);rw[bQ]at this;omega
 have nW:∀i,i<=l.length->(cr (l.take i)).length<=4000:=λi _=>by
  have:∀m:List Sm,(cr m).length<=bk (m.map Pa.st):=by
   intro m
   induction m with
   |nil=>simp[cr]
   |cons x m ih=>
    have:=Sm.tR x;simp only[cr,nl,dx,cQ,iN]at ih |-;omega
  have h1:=this (l.take i);have h2:bk (l.map Pa.st)=bk ((l.take i).map Pa.st)+bk ((l.drop i).map Pa.st):=by rw[<-vD,<-cJ,qY]
  omega
 refine aA.yR ?_;simp only[V.cR,V.weak,nf];refine aA.ib qa3 ?_;simp[qa3];refine eA (PH w 1 F D S P 3 ((cr l).map .str)) ?_ ?_
 ·refine cE (Pv w 1 F D S l.length (λ_=>P) (λi=>(cr (l.take i)).map .str)
   (λi gv=>[(4,af i),(3,gv),(0,ah (l.map Sm.v))])) l.length _ ?_ ⟨0,_,F,D,sM,oM,by simp[cr];exact Gw.nil _ _ _ _ _ _,hk,bJ.refl _ _ _ _,rfl⟩ ?_
  .exact ba
  rintro j e U ⟨i,gv,F1,D1,rfl,hi,hg,bW,bw,rfl⟩;dsimp only at hg bW;by_cases aB:i<l.length
  ·obtain ⟨v',U3,ha,gz,gK,lO,_⟩:=hg.K1 fm (bytes:=16) (x:=ah (l[i].labels.map .str)) bW bw (rW _ _ _) (xU _) (by
    have:=nW i oM;have h2:=nc (l:=l.map Pa.st) (i:=i) (q:=Pa.st l[i]) (by simp[aB]);have h3:=Sm.tR l[i];rw[bQ,bQ];omega)
   have hn:(cr (l.take i)).map V.str++l[i].labels.map .str=(cr (l.take (i+1))).map .str:=by
    rw[dN,bX aB,iP,<-cJ];unfold cr;rw[KF];simp
   rw[hn]at gz;simp[aB,yv,ab,ha,cG i];refine⟨_,?_,_,?_,i+1,v',F1,D1,rfl,oM,gz,gK,lO,rfl⟩
   .omega
   .exact ba
  .have:i=l.length:=oM;subst this;simp only[gu]at hg bW;simp;exact⟨gv,F1,D1,rfl,hg,bW,bw⟩
 rintro e U ⟨gv,F1,D1,g5,hg,bW,bw⟩;simp[g5];exact Lo fm rfl hg bW bw (by rw[<-iO,oW])
set_option maxHeartbeats 0
set_option maxRecDepth 100000
noncomputable def C42:=aW func42
noncomputable def C10:=aW func10
def qkT(x y:Bz):zZ x y=true↔mW x y:=by
 unfold zZ mW;rw[EA,EA,Go.Proofs.bytesLess_eq,dT]
def qgn{x:Bz}:∀{l:List Bz},(j8 l x).length<=l.length+1
 |[]=>by simp[j8]
 |y::l=>by
  have:=qgn (x:=x) (l:=l);unfold j8;split
  .simp only[gq];omega
  .split<;>simp
def BB(S:St)(sz:Nat)(d:V)(lo hi:Option Int):Option V:=match d with
 |.sl ..=>kO S sz d lo hi
 |.arr ..=>kO S sz d lo hi
 |_=>none
def Ls(e:ae)(S:St)(sz:Nat)(x:bK)(lo hi:Option bK):cf e S (.slc false sz x lo hi)=(x.ev e).bind λd=>(oI e lo).bind λl=>(oI e hi).bind λh=>(BB S sz d l h).map λr=>(r,S):=by
 simp only[cf]
 cases x.ev e with
 |none=>rfl
 |some d=>cases oI e lo with
  |none=>rfl
  |some l=>cases oI e hi with
   |none=>rfl
   |some h=>cases d<;>rfl
def Gr.rd{n0:Nat}{ys:List Bz}{v:V}{S:St}(h:Gr 1 n0 (ys.map .str) v S):Rd v ys S:=by
 rcases h with ⟨h1,rfl⟩|⟨l,wr,h1,rfl,h3,h4⟩
 .have:ys=[]:=by simpa using h1
  subst this;exact Rd.sl true [] S
 .rw[bQ]at h4 |-;exact Rd.arr h3 h4
def Gr.ne{sz n0:Nat}{xs:List V}{v:V}{S:St}(h:Gr sz n0 xs v S){l:Nat}(hl:l<n0)(n:Nat):v≠.arr l 0 n n:=by
 rcases h with ⟨_,rfl⟩|⟨l',wr,h1,rfl,_⟩
 .simp
 .intro hh;injection hh with hh;omega
def Gr.fst{sz n0:Nat}{xs:List V}{v:V}{S:St}(h:Gr sz n0 xs v S){k:Nat}(hk:k<=xs.length):∃a,BB S sz v none (some (k:Int))=some a/\elems S a=some (xs.take k):=by
 rcases h with ⟨rfl,rfl⟩|⟨l,wr,h1,rfl,h3,h4⟩
 .have:k=0:=by simpa using hk
  subst this;exact⟨sN,rfl,rfl⟩
 .refine⟨.arr l 0 k xs.length,?_,?_⟩
  .simp only[BB,kO,KR,HQ];rw[ak ⟨oM,oM,oM⟩];simp
  .simp only[elems,h3];rw[ak ⟨h4,oM⟩];simp
def Gr.snd{sz n0:Nat}{xs:List V}{v:V}{S:St}(h:Gr sz n0 xs v S){k:Nat}(hk:k<=xs.length):∃a,BB S sz v (some (k:Int)) none=some a/\elems S a=some (xs.drop k):=by
 rcases h with ⟨rfl,rfl⟩|⟨l,wr,h1,rfl,h3,h4⟩
 .have:k=0:=by simpa using hk
  subst this;exact⟨sN,rfl,rfl⟩
 .simp only[BB,kO,KR,HQ];rw[ak ⟨oM,oM,oM⟩];by_cases h0:k=0
  .subst h0;refine⟨_,ak rfl,?_⟩;simp only[elems,h3];rw[ak ⟨h4,oM⟩];simp
  .rw[au oM];by_cases hn:k=xs.length
   .exact⟨_,ak oM,by rw[hn,List.drop_length];rfl⟩
   .rw[au oM,h3];simp only[];refine⟨_,ak ⟨h4,trivial⟩,?_⟩;simp only[elems,h3,EU,mg];rw[ak ⟨h4,oM⟩,mJ (by rw[List.length_drop];exact dl _)]
def Gr.put{n0 k:Nat}{xs:List V}{y ov:V}{U:St}(h:Gr 1 n0 xs ov U)(hn:n0<=U.length)(hk:k<=xs.length)(hy:fits 1 [y]=true)(hx:fits 1 xs=true)(hl:xs.length<=1000000)(b:Bool):
  ∃(a v1:V) (U1:St) (v2:V) (U2:St) (c v3:V) (U3:St),BB U 1 ov none (some (k:Int))=some a/\fV U 1 16 sN a=some (v1,U1)/\(∀(l:Nat) (o:Ob),U[l]?=some o->U1[l]?=some o)/\U.length<=U1.length/\fV U1 1 16 v1 (.sl b [y])=some (v2,U2)/\
   BB U2 1 ov (some (k:Int)) none=some c/\fV U2 1 16 v2 c=some (v3,U3)/\Gr 1 n0 (xs.take k++y::xs.drop k) v3 U3/\(∀(l:Nat) (o:Ob),U[l]?=some o->U3[l]?=some o)/\U.length<=U3.length:=by
 have ft:∀z:List V,(∀x,x∈z->x∈xs)->fits 1 z=true:=λz hz=>by
  unfold fits at hx |-;rw[fR]at hx |-;exactλx h=>hx x (hz x h)
 obtain⟨a,ha,ea⟩:=h.fst hk;obtain⟨v1,U1,p1,g1,l1,k1,_⟩:=(Gr.nil 1 U.length U).nO (bytes:=16) ea (ft _ λx hx=>E6 hx) (by simp;omega) cz;rw[ig]at g1;have k1:∀l o,U[l]?=some o->U1[l]?=some o:=λl o ho=>k1 l o ho λn=>by simp
 have e1:elems U1 (.sl b [y])=some [y]:=rfl;obtain⟨v2,U2,p2,g2,l2,k2,_⟩:=g1.nO (bytes:=16) e1 hy (by simp;omega) l1;have k2:∀l o,U[l]?=some o->U2[l]?=some o:=λl o ho=>k2 l o (k1 l o ho) λn=>g1.ne (aR ho) n
 have h2:Gr 1 n0 xs ov U2:=h.keep λl _ hl=>by
  rw[bX hl];exact k2 l _ (bX hl)
 obtain⟨c,hc,ec⟩:=h2.snd hk;obtain⟨v3,U3,p3,g3,l3,k3,_⟩:=g2.nO (bytes:=16) ec (ft _ λx hx=>KL hx) (by simp;omega) oM;refine⟨a,v1,U1,v2,U2,c,v3,U3,ha,p1,k1,l1,p2,hc,p3,?_,λl o ho=>k3 l o (k2 l o ho) λn=>g2.ne (aR ho) n,oM⟩;have:=g3.less hn;rw[dY]at this;exact this
def Sd(l:List Bz)(i:Nat):List Bz:=(l.take i).foldl j8 []
def ql2{l:List Bz}{i:Nat}(h:i<l.length):Sd l (i+1)=j8 (Sd l i) l[i]:=by
 unfold Sd;rw[dN,bX h,iP,uz];rfl
def qgm:∀{l out:List Bz},(l.foldl j8 out).length<=out.length+l.length
 |[],out=>by simp
 |x::l,out=>by
  have h1:=qgm (l:=l) (out:=j8 out x);have h2:=qgn (x:=x) (l:=out);rw[uD,gq];omega
def ql1(l:List Bz)(i:Nat):(Sd l i).length<=l.length:=by
 have h1:=qgm (l:=l.take i) (out:=[]);have h2:=List.length_take_le i l;unfold Sd;simp only[qy]at h1;have h3:(l.take i).length<=l.length:=by rw[qz];omega
 omega
structure Sq(l:List Bz)(S:St)(i:Nat)(ov:V)(U:St):Prop where
 g:Gr 1 S.length ((Sd l i).map .str) ov U
 k:bz S U
def aA.qpD{P:aG}{f:FuncId}{args:List V}{S:St}{R R':V->St->Prop}(h:aA P f args S R)(g:∀r U,R r U->∃r' U',dJ S.length r U r' U'/\R' r' U'):aA P f args S R':=
 ⟨h.1,λE w us n hs hv=>(h.2 E w us n hs hv).mono λe w' ⟨u,r,E1,S1,he,hR,hr,hS,hx,hl⟩=>by
  obtain⟨r',U',gh,hR'⟩:=g r S1 hR;obtain⟨E2,a1,a2,a3,a4⟩:=gh E1 w' u hS hr hl;exact⟨u,r',E2,U',he,hR',a1,a2,hx.trans a3,a4⟩⟩
def aA.qpq{P:aG}{f:FuncId}{args:List V}{S:St}{l:List Bz}(h:aA P f args S (λr U=>Gr 1 S.length (l.map .str) r U/\bz S U)):aA P f args S (λr U=>r=ah (l.map .str)/\bz S U):=
 h.qpD λr U ⟨hg,hk⟩=>by
  refine⟨ah (l.map .str),?_⟩;rcases hg with ⟨h1,rfl⟩|⟨m,wr,h1,rfl,h3,h4⟩
  .rw[h1];exact⟨U,dJ.weak (r:=sN),rfl,hk⟩
  .have g1:=dJ.freeze (n:=S.length) (l:=m) (off:=0) (len:=(l.map V.str).length) (st:=(l.map V.str).length) h3 h4 oM;simp only[CG,gu]at g1;exact⟨_,g1,rfl,hk.set _ (.inr h1)⟩
def qkD(v:V)(l:List Bz)(hl:l.length<=100000)(S:St)(hr:∀U,bz S U->Rd v l U):
  aA prog 42 [v] S (λr U=>Gr 1 S.length ((l.foldl j8 []).map .str) r U/\bz S U):=by
 refine aA.ib C42 ?_;simp[C42];refine eA (λe U=>∃ov,e.get 3=some ov/\Sq l S l.length ov U) ?_ ?_
 .refine cE (λj e U=>∃(i:Nat) (ov:V),j=l.length-i/\i<=l.length/\Sq l S i ov U/\e=[(4,af i),(3,ov),(0,v)]) l.length _ ?_ ⟨0,sN,sM,oM,⟨Gr.nil _ _ _,Kp.refl _ _⟩,rfl⟩ ?_
  .exact ba
  rintro j e U ⟨i,ov,rfl,hi,hq,rfl⟩;obtain⟨hlen,ny⟩:=hr U hq.k;have hU:=hq.k.len;by_cases h:i<l.length
  case neg=>
   have:i=l.length:=oM;subst this;simp[↓jm,hlen];exact hq
  obtain⟨p,mA,mB⟩:=ny i h;have aN:=ql1 l i;obtain⟨DF,uY⟩:=hq.g.rd;have Q4:=ql2 h;obtain⟨x,hx⟩:=eX (l[i]);rw[<-hx]at mB Q4;obtain⟨d,hd⟩:=eX (Sd l i);rw[<-hd]at Q4 aN DF uY;simp[↓jm,hlen,h];refine eA (λe' U'=>U'=U/\∃k:Nat,k<=d.length/\(∀j y,j<k->d[j]?=some y->mW y x)/\(∀y,d[k]?=some y->¬mW y x)/\e'.get 0=some v/\e'.get 3=some ov/\e'.get 4=some (af i)/\e'.get 5=some (af k)) ?_ ?_
  .refine cE (λj e' U'=>∃k:Nat,j=d.length-k/\k<=d.length/\U'=U/\(∀j y,j<k->d[j]?=some y->mW y x)/\e'=[(5,af k),(4,af i),(3,ov),(0,v)]) d.length _ ?_ ⟨0,sM,oM,rfl,λj y hj=>by omega,rfl⟩ ?_
   .exact ba
   rintro j e' U' ⟨k,rfl,hk,rfl,aB,rfl⟩;by_cases mz:k<d.length
   .obtain⟨q,rn,oP⟩:=uY k mz
    cases hs:zZ d[k] x with
    |true=>
     simp[↓jm,DF,mz,rn,oP,mA,mB,hs];refine rV rfl rfl ?_;simp[hs,cG k];refine⟨_,?_,_,?_,k+1,rfl,oM,λj y hj hy=>?_,rfl⟩
     .omega
     .exact ba
     .by_cases ML:j=k
      .subst ML;rw[bX mz]at hy;cases hy;exact(qkT _ _).1 hs
      .exact aB j y oM hy
    |false=>
     simp[↓jm,DF,mz,rn,oP,mA,mB,hs];refine rV rfl rfl ?_;simp[hs];refine⟨k,hk,aB,λy hy=>?_,rfl⟩;rw[bX mz]at hy;cases hy;rw[<-qkT,hs];simp
   .have:k=d.length:=oM;subst this;simp[↓jm,DF];refine rV rfl rfl ?_;simp;exact⟨d.length,dl _,aB,λy hy=>by simp at hy,rfl⟩
  rintro e' U' ⟨rfl,k,hk,h1,h2,g0,g3,g4,g5⟩;have jY:=qgl d k hk h1 h2;by_cases Gf:d[k]?=some x
  .obtain⟨mz,qqX⟩:=br.1 Gf;obtain⟨q,rn,oP⟩:=uY k mz;rw[qqX]at oP;rw[ak Gf]at jY;simp[↓jm,g0,g3,g4,g5,DF,mz,rn,oP,mA,mB];refine rV rfl rfl ?_;simp[g0,g3,g4,g5,cG i];refine⟨_,?_,_,?_,i+1,rfl,oM,ov,⟨by rw[Q4,jY,hd];exact hq.g,hq.k⟩,rfl⟩
   .omega
   .repeat' first|exact ae.gZ _|refine ae.fp (by simp[g0,g3]) ?_
  .rw[au Gf]at jY;have hg:Gr 1 S.length (d.map .str) ov U':=by rw[hd];exact hq.g
   obtain⟨a,v1,U1,v2,U2,c,v3,U3,q1,q2,q3,q4,q5,q6,q7,q8,q9,q10⟩:=hg.put (y:=.str x) (b:=true) hU (by rw[bQ];exact hk) rfl (xU d) (by rw[bQ];omega)
   have kU:∀{Y:St},(∀(l:Nat) (o:Ob),U'[l]?=some o→Y[l]?=some o)→U'.length≤Y.length→bz S Y:=λ{Y} hV hl=>⟨oM,λm hm hn=>by
    have h1:=hq.k.get m hm hn;have h2:m<U'.length:=oM;rw[<-h1,bX h2];exact hV m _ (bX h2)⟩
   obtain⟨_,Xh⟩:=hr U1 (kU q3 q4);obtain⟨p',M1,Xb⟩:=Xh i h;rw[<-hx]at Xb;have mN:fits 1 [V.str x]=true:=rfl;have Ja:Sq l S (i+1) v3 U3:=⟨by rw[Q4,jY];simpa using q8,kU q9 q10⟩;by_cases mz:k<d.length
   .obtain⟨q,rn,oP⟩:=uY k mz;have bZ:¬d[k]=x:=λhh=>Gf (by rw[bX mz,hh])
    simp[↓jm,↓Ls,g0,g3,g4,g5,DF,mz,rn,oP,mA,mB,bZ];refine rV rfl rfl ?_;simp[↓jm,↓Ls,oI,g0,g3,g4,g5,q1,q2,M1,Xb,mN,q5,q6,q7,cG i];refine⟨_,?_,_,?_,i+1,rfl,oM,v3,Ja,rfl⟩
    .omega
    .repeat' first|exact ae.gZ _|refine ae.fp (by simp[g0,g3]) ?_
   .simp[↓jm,↓Ls,g0,g3,g4,g5,DF,mz];refine rV rfl rfl ?_;simp[↓jm,↓Ls,oI,g0,g3,g4,g5,q1,q2,M1,Xb,mN,q5,q6,q7,cG i];refine⟨_,?_,_,?_,i+1,rfl,oM,v3,Ja,rfl⟩
    .omega
    .repeat' first|exact ae.gZ _|refine ae.fp (by simp[g0,g3]) ?_
 rintro e U ⟨ov,g3,hq⟩;simp[g3];have hsd:Sd l l.length=l.foldl j8 []:=by unfold Sd;rw[gu]
 have rn:=hq.g;rw[hsd]at rn;exact⟨_,rfl,_,U,dJ.refl _ _ _,rn,hq.k⟩
def qkC(v:V)(l:List Bz)(hl:l.length<=100000)(S:St)(hr:∀U,bz S U->Rd v l U):
 aA prog 42 [v] S (λr U=>r=ah ((l.foldl j8 []).map .str)/\bz S U):=(qkD v l hl S hr).qpq
def qw4(x:Bz){p3 p5 p7 t3 t5 m:Nat}{mF VS:List Bz}{b1 b2:List Nat}{c1 c2:Nat}{c:Bz->Int}{S:St}(h3:S[p3]?=aJ [.map t3] 1)(II:S[t3]?=some (.map (mF.map kv) b1 c1))(h5:S[p5]?=aJ [.map t5] 1)(IJ:S[t5]?=some (.map (VS.map kv) b2 c2))(h7:S[p7]?=aJ [.map m] 1)(hc:Cm c m S):
  Fn prog 146 [.str x,ag p3,ag p5,ag p7] S (.bool (eJ x mF||eJ x VS||decide (0<c x))):=by
 refine aA.ib O0 ?_;have l1:=RL x II;have l2:=RL x IJ;have l3:=hc.get x
 cases h1:eJ x mF with
 |true=>
  rw[h1]at l1;simp[O0,ab,h3,bI,l1,V.part,V.cells];exact bu rfl ⟨rfl,rfl⟩
 |false=>
  rw[h1]at l1
  cases h2:eJ x VS with
  |true=>
   rw[h2]at l2;simp[O0,ab,h3,h5,bI,l1,l2,V.part,V.cells];exact bu rfl ⟨rfl,rfl⟩
  |false=>
   rw[h2]at l2;simp[O0,ab,h3,h5,h7,bI,l1,l2,l3,V.part,V.cells];exact bu rfl ⟨by simp[aY],rfl⟩
def Rd.flat{v:V}{l:List Bz}{S:St}(h:Rd v l S):v.cells=[v]/\v.flat=true/\v.size=1:=by
 have:=h.1;cases v<;>simp[sG]at this<;>exact⟨rfl,rfl,rfl⟩
def qw5(p c k:Nat)(x y:Bz)(tv:V)(l:List Bz)(U:St)(hp:U[p]?=some (fP x k y))(hc:U[c]?=aJ [tv] 1)(hr:Rd tv l U)(hk:k<l.length):
  aA prog 147 [ag p,ag c] U (λ_ U'=>U'=U.set p (fP x k (lf l k))):=by
 refine aA.ib qaQ ?_;have W4:lf l k=l[k]:=by unfold lf;rw[bX hk];rfl
 have qd:=hr.flat;obtain⟨q,q1,q2⟩:=hr.2 k hk;rw[W4];unfold fP at hp |-;have e1:ab U (ag p) none=some (af k):=by simp[ab,hp]
 have e2:ab U (ag c) none=some tv:=by simp[ab,hc,qd]
 have e3:aI U (eD p 2) 1 (.str l[k])=some (U.set p (.arr [.agg [af k,.str x,.str l[k]]] 3 1)):=by simp[aI,hp,aU]
 simp[qaQ,e1,e2,dK,q1,q2,e3];refine rV rfl rfl ?_;exact mM rfl rfl
structure Ap(l:List Bz)(c:Nat)(tv:V)(F D:Np)(U:St):Prop where
 f:∀x,¬F x
 d:∀x,D x↔x=c\/∃n,tv=.arr x 0 n n
 c:U[c]?=aJ [tv] 1
 t:(l=[]/\tv=sN)\/∃a wr,tv=.arr a 0 l.length l.length/\U[a]?=some (.arr (l.map .str) 1 wr)/\wr<=l.length
section
variable {l:List Bz} {c:Nat} {tv:V} {F D:Np} {U:St}
theorem Ap.rd(k:Ap l c tv F D U):Rd tv l U:=by
 rcases k.t with ⟨rfl,rfl⟩|⟨a,wr,rfl,h1,h2⟩
 .exact Rd.sl true [] U
 .exact Rd.arr h1 h2
theorem Ap.gD(k:Ap l c tv F D U){x:Nat}(h:D x):∃o,U[x]?=some o/\(∀i,o≠.loop i)/\∀y k z,o≠fP y k z:=by
 rcases(k.d x).1 h with rfl|⟨n,hn⟩
 .refine⟨_,k.c,sM,λy i z hh=>?_⟩;unfold fP at hh;simp at hh
 .rcases k.t with ⟨_,rfl⟩|⟨a,wr,rfl,h1,h2⟩
  .cases hn
  .cases hn;refine⟨_,h1,sM,λy i z hh=>?_⟩;unfold fP at hh;simp at hh
theorem Ap.fr{U':St}{M:Np}(k:Ap l c tv F D U)(hk:Kp M U U')(hM:∀l,M l->l<U.length->¬F l/\¬D l):Ap l c tv F D U':=by
 have g:∀{x o},U[x]?=some o->D x->U'[x]?=some o:=λho hd=>hk.at ho λhm=>(hM _ hm (aR ho)).2 hd
 refine⟨k.f,k.d,g k.c ((k.d _).2 (.inl rfl)),k.t.imp id λ⟨a,wr,h1,h2,h3⟩=>⟨a,wr,h1,g h2 ((k.d _).2 (.inr ⟨_,h1⟩)),h3⟩⟩
end
def Un(l:List Bz)(c:Nat):Cb where
 toPw:=nuP (lf l)
 fe:=.fn (.func 147) [] [ag c]
 fn:=.bY
 fc:=.bY
 I _ F D U:=∃tv,Ap l c tv F D U
 cn _ _:=True
 lim:=l.length
theorem qmi(l:List Bz)(c:Nat)(hl:l.length<=100001):(Un l c).Ok where
 lim:=hl
 lt:=λ⟨tv,k⟩ x hx=>by
  rcases hx with hx|hx
  .exact absurd hx (k.f x)
  .obtain⟨o,ho,_⟩:=k.gD hx;exact aR ho
 fr:=λ⟨tv,k⟩ hk hM=>⟨tv,k.fr hk hM⟩
 lp:=λ⟨tv,k⟩ x o ho=>⟨k.f x,λhd=>by
  obtain⟨o',fC,h1,_⟩:=k.gD hd;rw[ho]at fC;cases fC;exact h1 _ rfl⟩
 ce _ _:=trivial
 cm _ _ _ _:=trivial
 cc _ _ _:=trivial
 real:=λ{h F D S} ⟨tv,k⟩ h'=>⟨F,D,S,⟨tv,k⟩,Kp.refl _ _,grow.refl _ _,grow.refl _ _⟩
 en:=.inr ⟨147,[ag c],rfl,λU p k x h F D hp hF hD hk _ ⟨tv,hI⟩=>by
  refine aA.mono (qw5 p c k x x tv l U hp hI.c hI.rd hk) λv U' hU=>?_
  subst hU;exact⟨F,D,⟨tv,hI.fr (M:=λy=>y=p) ((Kp.refl _ _).set _ (.inl rfl)) λy hy _=>by rw[hy];exact⟨hF,hD⟩⟩,bO (aR hp),(Kp.refl _ _).set _ (.inl (.inl rfl)),grow.refl _ _,λ_ h=>.inl h⟩⟩
 nm:=rfl
 cl:=rfl
structure Az(h:List Bz×List Bz)(m c4 c5 c6:Nat)(v:V)(ps:List Nat)(F D:Np)(q5 q7 mm:Nat)(c:Bz->Int)(U:St):Prop where
 co:Co m c4 c5 c6 h v ps F D U
 x5:U[q5]?=aJ [.map m] 1
 x7:U[q7]?=aJ [.map mm] 1
 xm:Cm c mm U
 o5:¬F q5/\¬D q5
 o7:¬F q7/\¬D q7
 om:¬F mm/\¬D mm
section
variable {h:List Bz×List Bz} {m c4 c5 c6:Nat} {v:V} {ps:List Nat} {F D:Np} {q5 q7 mm:Nat} {c:Bz->Int} {U:St}
theorem Az.mo(k:Az h m c4 c5 c6 v ps F D q5 q7 mm c U):∃ms bs ck,U[mm]?=some (.map (List.map ki ms) bs ck):=by
 obtain⟨ms,bs,ck,h,_⟩:=k.xm;exact⟨ms,bs,ck,h⟩
theorem Az.fr{U':St}{M:Np}(k:Az h m c4 c5 c6 v ps F D q5 q7 mm c U)(hk:Kp M U U')(hM:∀l,M l->l<U.length->¬F l/\¬D l/\l≠q5/\l≠q7/\l≠mm):Az h m c4 c5 c6 v ps F D q5 q7 mm c U':=
 ⟨k.co.fr hk λl hl hh=>⟨(hM l hl hh).1,(hM l hl hh).2.1⟩,hk.at k.x5 λhh=>(hM _ hh (aR k.x5)).2.2.1 rfl,hk.at k.x7 λhh=>(hM _ hh (aR k.x7)).2.2.2.1 rfl,k.xm.keep λo ho=>hk.at ho λhh=>(hM _ hh (aR ho)).2.2.2.2 rfl,k.o5,k.o7,k.om⟩
theorem Az.put(k:Az h m c4 c5 c6 v ps F D q5 q7 mm c U)(s:Bz)(n:Int):∃o,og U .str (.map mm) (.str s) (af n)=some (U.set mm o)/\Az h m c4 c5 c6 v ps F D q5 q7 mm (λx=>if x=s then n else c x) (U.set mm o):=by
 obtain⟨es,bs,ck,h1,h2⟩:=k.xm.put s n;obtain⟨ms,b0,k0,h3⟩:=k.mo;refine⟨_,h1,k.co.set _ k.om.1 k.om.2,?_,?_,h2 _ (bO (aR h3)),k.o5,k.o7,k.om⟩
 .rw[bG (zK h3 k.x5 sM)];exact k.x5
 .rw[bG (zK h3 k.x7 sM)];exact k.x7
end
mutual
theorem Sm.K7{nm:Bz->Bool}:∀(s:Sm),(Pa.st s).valid nm=true->∀x,x∈s.bn->nm x=true
 |.mk l k t g e f d b,v,x,hx=>by
  have vd:=Sm.BQ v;have vb:=Sm.pN v;simp only[Sm.decls,Sm.body]at vd vb
  have lab:x∈cr b->nm x=true:=λhx=>by
   obtain⟨y,hy,hx⟩:=yX.1 hx;exact Sm.Ti (vb y hy) x hx
  rw[Sm.bn]at hx;split at hx
  .rcases cU.1 hx with hx|hx
   .rcases cU.1 hx with hx|hx
    .rcases cU.1 (NU hx) with hx|hx
     .obtain⟨y,hy,hx⟩:=yX.1 hx;exact De.qk9 (vd y hy) x hx
     .exact lab hx
    .exact De.H3 d vd x hx
   .exact Sm.H3 b vb x hx
  .split at hx
   .rcases cU.1 hx with hx|hx
    .exact lab (NU hx)
    .exact Sm.H3 b vb x hx
   .exact Sm.UX b vb x hx
theorem De.K7{nm:Bz->Bool}:∀(s:De),(Pa.de s).valid nm=true->∀x,x∈s.bn->nm x=true
 |.mk k o t ns e fo b,v,x,hx=>by
  have vb:=De.pN v;have vf:=De.qk8 v;simp only[De.body,De.aj]at vb vf;rw[De.bn]at hx;split at hx
  .rcases cU.1 hx with hx|hx
   .obtain⟨y,hy,rfl⟩:=cY.1 (NU hx);exact vf y hy
   .exact Sm.UX b vb x hx
  .simp at hx
theorem De.H3{nm:Bz->Bool}:∀(l:List De),(∀y,y∈l->(Pa.de y).valid nm=true)->∀x,x∈De.dp l->nm x=true
 |[],_,x,hx=>by simp[De.dp]at hx
 |y::l,v,x,hx=>by
  rw[De.dp]at hx;rcases cU.1 hx with hx|hx
  .exact De.K7 y (v y sM) x hx
  .exact De.H3 l (λz hz=>v z (by simp[hz])) x hx
theorem Sm.H3{nm:Bz->Bool}:∀(l:List Sm),(∀y,y∈l->(Pa.st y).valid nm=true)->∀x,x∈Sm.dp l->nm x=true
 |[],_,x,hx=>by simp[Sm.dp]at hx
 |y::l,v,x,hx=>by
  rw[Sm.dp]at hx;rcases cU.1 hx with hx|hx
  .exact Sm.K7 y (v y sM) x hx
  .exact Sm.H3 l (λz hz=>v z (by simp[hz])) x hx
theorem Sm.UX{nm:Bz->Bool}:∀(l:List Sm),(∀y,y∈l->(Pa.st y).valid nm=true)->∀x,x∈Sm.jk l->nm x=true
 |[],_,x,hx=>by simp[Sm.jk]at hx
 |y::l,v,x,hx=>by
  rw[Sm.jk]at hx;rcases cU.1 hx with hx|hx
  .rcases cU.1 hx with hx|hx
   .exact Sm.Ti (v y sM) x (NU hx)
   .exact Sm.K7 y (v y sM) x hx
  .exact Sm.UX l (λz hz=>v z (by simp[hz])) x hx
end
def Sm.La{nm:Bz->Bool}(s:Sm)(v:(Pa.st s).valid nm=true):∀x,x∈s.bounds->nm x=true:=λx hx=>(cU.1 hx).elim (λh=>Sm.Ti v x (NU h)) (Sm.K7 s v x)
def qpl(s:Sm)(b:Bz):eJ b ((eO (s.ou bN te)).foldl eo [])=eJ b s.fu:=by
 rw[eR,mU,mU];unfold Sm.fu;rw[Oq]
def qnk(l:List Bz)(y x:Bz):eY (l++[y]) x=if x=y then eY l y+1 else eY l x:=by
 rw[Vl];simp only[eY];split
 .rename_i h;rw[h];omega
 .omega
def qnl(a b:List Bz)(y t x:Bz):eY (a++t::b) x=if x=t then(if t=y then eY (a++y::b) y-1 else eY (a++y::b) t)+1 else if x=y then eY (a++y::b) y-1 else eY (a++y::b) x:=by
 simp only[Vl,eY];by_cases h1:x=t
 .subst h1;by_cases h2:x=y
  .subst h2;simp
  .simp[h2];omega
 .by_cases h2:x=y
  .subst h2;simp[h1];omega
  .simp[h1,h2]
def ZZ{v y:V}(hv:v.size=1)(hy:y.cells=[y]/\y.flat=true/\y.size=1):V.fZ v 0 1 y=some y:=by
 unfold V.fZ;rw[ak ⟨hy.2.2,by rw[hy.1];simp[hy.2.1]⟩,ak ⟨rfl,hv.symm⟩]
def qyn(s:Sm)(hs:s.ok)(va:(Pa.st s).valid aH=true)(bF:(Pa.st s).size<=4000)(mF:List Bz)(vm:s.fu.length+Sm.bH [s]+mF.length<=899)(tk:Nat)(b1:List Nat)(k1:Nat)(S:St)(htS:S[tk]?=some (.map (mF.map kv) b1 k1)):
    aA prog 95 [s.v,.map tk] S (λr U=>r=(s.whole (lf (jt mF s.fu [] s.bounds))).v/\bz S U):=by
  refine aA.ib C95 ?_;obtain⟨S1,bB⟩:=eX (α:=St) (S++[.arr [s.v] 8 1,.arr [.map tk] 1 1,.arr [bL] 8 1]);have p0:S1[S.length]?=aJ [s.v] 8:=by rw[bB];simp
  have p1:S1[S.length+1]?=aJ [.map tk] 1:=by rw[bB,cx oM];simp
  have p2:S1[S.length+2]?=aJ [bL] 8:=by rw[bB,cx oM];simp
  have l1:S1.length=S.length+3:=by rw[bB];simp
  have kS:bz S S1:=by rw[bB];exact(Kp.refl _ _).push _
  have pt:S1[tk]?=some (.map (mF.map kv) b1 k1):=kS.at htS id;have d0:ab S1 (ag S.length) (some 8)=some s.v:=by simp[ab,p0]
  have hN:=s.wz;simp[C95,aL];rw[<-bB];simp[d0];refine bE (qkF s hs oM oM S1) ?_;rintro r U ⟨m,c4,c5,c6,v,ps,F,D,rfl,co,kU,far⟩;have pw:(s.ou bN ([],[]):List Bz×List Bz).2=s.bounds:=s.qld;have lL:=co.sG;rw[pw]at lL;have Nh:v.cells=[v]/\v.flat=true/\v.size=1:=by rcases co.gr with ⟨_,rfl⟩|⟨a,wr,rfl,_⟩<;>exact⟨rfl,rfl,rfl⟩
  have lU:=kU.len;obtain⟨h,hh⟩:=eX (α:=List Bz×List Bz) ((s.ou bN ([],[]):List Bz×List Bz));obtain⟨U2,dG⟩:=eX (α:=St) (U++[.arr [.map m] 1 1,.map [] [] 0,.arr [.map (U.length+1)] 1 1]);have out:∀l,U.length<=l->¬F l/\¬D l:=λl hl=>⟨λhf=>by have:=co.lt (.inl hf);omega,λhf=>by have:=co.lt (.inr hf);omega⟩
  have az:Az h m c4 c5 c6 v ps F D U.length (U.length+2) (U.length+1) (λ_=>0) U2:=by
    rw[dG,hh];refine⟨co.push _,sM,by rw[cx oM];simp,⟨[],[],0,by rw[cx oM];simp,λ_=>rfl⟩,out _ oM,out _ oM,out _ oM⟩
  have mV:bz S1 U2:=by rw[dG];exact kU.push _
  have iT:s.bounds.length<900:=oM;simp[aL,bI,aI,Tf,↓jm,lL];rw[<-dG];refine eA (λe X=>Az h m c4 c5 c6 v ps F D U.length (U.length+2) (U.length+1) (eY s.bounds) X/\bz S1 X/\U2.length<=X.length/\e.get 2=some (ag S.length)/\e.get 3=some (ag (S.length+1))/\e.get 4=some (ag (S.length+2))/\e.get 5=some (ag U.length)/\e.get 6=some v/\e.get 7=some (ag (U.length+2))) ?_ ?_
  · refine cE (λj e X=>∃i:Nat,j=s.bounds.length - i∧i≤s.bounds.length∧Az h m c4 c5 c6 v ps F D U.length (U.length+2) (U.length+1) (eY (s.bounds.take i)) X∧bz S1 X∧U2.length≤X.length∧
      e=[(23,af i),(22,af s.bounds.length),(21,v),(7,ag (U.length+2)),(6,v),(5,ag U.length),(4,ag (S.length+2)),(3,ag (S.length+1)),(2,ag S.length)]) s.bounds.length _ ?_ ⟨0,sM,oM,az,mV,dl _,rfl⟩ ?_
    · exact ba
    rintro j e X ⟨i,rfl,hi,az,kX,lX,rfl⟩;by_cases aB:i<s.bounds.length
    · have Gg:i<h.2.length:=by rw[hh,pw];exact aB
      obtain⟨p,l,st,h1,h2,h3⟩:=az.co.at Gg;have hx:h.2[i]=s.bounds[i]:=by simp only[hh,pw]
      rw[hx]at h3;obtain⟨x,rr⟩:=eX (s.bounds[i]);rw[<-rr]at h3;unfold fP at h3;have h4:ab X (eD p 1) none=some (.str x):=by simp only[ab,h3];rfl
      have h7:ab X (ag (U.length+2)) none=some (.map (U.length+1)):=by simp[ab,az.x7,V.part,V.cells]
      have hg:=az.xm.get x;have hle:=Le x (s.bounds.take i);have pF:(s.bounds.take i).length<=900:=by rw[qz];omega
      obtain⟨o,hp,Fg⟩:=az.put x (eY (s.bounds.take i) x+1)
      have hc:(λy=>if y=x then eY (s.bounds.take i) x+1 else eY (s.bounds.take i) y)=eY (s.bounds.take (i+1)):=by
        funext y;rw[dN,bX aB,iP,<-rr,qnk]
      rw[hc]at Fg;have i1:=fO (n:=eY (s.bounds.take i) x+1) oM oM;simp[aB,h1,h2,dK,h7,h4,bI,hg,i1,hp];refine rV rfl rfl ?_;simp[cG i];refine⟨_,?_,_,?_,i+1,rfl,oM,Fg,kX.set _ (.inr oM),by simpa using lX,rfl⟩
      · omega
      · exact ba
    · have:i=s.bounds.length:=oM;subst this;rw[gu]at az;simp;exact⟨az,kX,lX⟩
  clear az mV;rintro e X ⟨az,kX,lX,g2,g3,g4,g5,g6,g7⟩;simp[g2,g3,g4,g5,g6,g7,aL,aI,↓jm,lL];obtain⟨Q,hQ⟩:=eX (X.length);rw[<-hQ];obtain⟨dn,yd⟩:=eX (α:=Nat->List Bz) (λi=>rS mF s.fu [] s.bounds i);have Qc:dn 0=[]:=by rw[yd];simp[rS]
  have Ic:∀i,i<=s.bounds.length->(dn i).length=i:=λi hi=>by rw[yd];simpa using Ur mF s.fu s.bounds [] i hi
  have dns:∀i (hi:i<s.bounds.length),dn (i+1)=dn i++[mj mF s.fu (dn i) s.bounds[i] (s.bounds.drop (i+1))]:=λi hi=>by rw[yd];exact Ut mF s.fu s.bounds [] i hi
  have qAa:U2.length=U.length+3:=by rw[dG];simp
  have lo:∀l,Q<=l->¬F l/\¬D l/\l≠U.length/\l≠U.length+2/\l≠U.length+1:=λl hl=>⟨λhf=>by have:=az.co.lt (.inl hf);omega,λhf=>by have:=az.co.lt (.inr hf);omega,oM,oM,oM⟩
  obtain⟨Inv,zk⟩:∃Inv:Nat->V->St->Prop,∀i tv Y,Inv i tv Y↔(Az h m c4 c5 c6 v ps F D U.length (U.length+2) (U.length+1) (eY (dn i++s.bounds.drop i)) Y/\bz S1 Y/\Y[Q]?=aJ [tv] 1/\Gr 1 (Q+1) ((dn i).map .str) tv Y):=⟨_,λ_ _ _=>Iff.rfl⟩;have step:∀(i:Nat) (hi:i<s.bounds.length) (Y:St) (tv:V),Az h m c4 c5 c6 v ps F D U.length (U.length+2) (U.length+1) (eY (dn (i+1)++s.bounds.drop (i+1))) Y->bz S1 Y->Y[Q]?=aJ [tv] 1->Gr 1 (Q+1) ((dn i).map .str) tv Y->
      ∃oj Z,fV Y 1 16 tv (.sl true [.str (mj mF s.fu (dn i) s.bounds[i] (s.bounds.drop (i+1)))])=some (oj,Z)/\Z[Q]?=aJ [tv] 1/\oj.cells=[oj]/\oj.flat=true/\oj.size=1/\Inv (i+1) oj (Z.set Q (.arr [oj] 1 1)):=λi hi Y tv az kY hq hg=>by
    have lY:=aR hq;obtain⟨oj,Z,h1,h2,h3,h4⟩:=hg.CN (bytes:=16) (y:=.str (mj mF s.fu (dn i) s.bounds[i] (s.bounds.drop (i+1)))) (b:=true) rfl (by rw[bQ,Ic i oM];omega) oM;have h5:(dn i).map V.str++[.str (mj mF s.fu (dn i) s.bounds[i] (s.bounds.drop (i+1)))]=(dn (i+1)).map .str:=by rw[dns i hi,cJ];rfl
    rw[h5]at h2;have hf:=h2.rd.flat;have kZ:Kp (λl=>Q<=l) Y Z:=⟨h3,λl hl hn=>h4 l oM⟩;refine⟨oj,Z,h1,?_,hf.1,hf.2.1,hf.2.2,(zk _ _ _).2 ⟨?_,?_,?_,?_⟩⟩
    · rw[h4 Q oM];exact hq
    · exact az.fr (M:=λl=>Q<=l) (kZ.set _ (.inl cz)) λl hl _=>lo l hl
    · have h6:bz S1 Z:=⟨by have:=kY.len;omega,λl hl hn=>by rw[h4 l (by have:=kX.len;omega)];exact kY.get l hl hn⟩;exact h6.set _ (.inr (by have:=kX.len;omega))
    · exact bO oM
    · refine h2.keep λl hl _=>?_
      rw[bG oM]
  refine eA (λe Y=>∃tv,Inv s.bounds.length tv Y/\e.get 2=some (ag S.length)/\e.get 4=some (ag (S.length+2))/\e.get 10=some (ag Q)) ?_ ?_
  · refine cE (λj e Y=>∃(i:Nat) (tv:V),j=s.bounds.length - i∧i≤s.bounds.length∧Inv i tv Y∧
      e=[(37,af i),(36,af s.bounds.length),(35,v),(10,ag Q),(7,ag (U.length+2)),(5,ag U.length),(4,ag (S.length+2)),(3,ag (S.length+1)),(2,ag S.length)]) s.bounds.length _ ?_ ⟨0,sN,sM,oM,(zk _ _ _).2 ⟨?_,?_,?_,?_⟩,rfl⟩ ?_
    · repeat' first|exact ae.gZ _|refine ae.fp (by simp[g2,g3,g4,g5,g6,g7]) ?_
    · rw[Qc,CG,ig];exact az.fr (M:=λ_=>False) ((Kp.refl _ _).push _) λ_ h=>h.elim
    · exact kX.push _
    · rw[hQ];simp
    · rw[Qc];exact Gr.nil _ _ _
    rintro j e Y ⟨i,tv,rfl,hi,hI,rfl⟩;obtain⟨az,kY,hq,hg⟩:=(zk _ _ _).1 hI;by_cases aB:i<s.bounds.length
    · have Gg:i<h.2.length:=by rw[hh,pw];exact aB
      obtain⟨p,l,st,h1,h2,h3⟩:=az.co.at Gg;have hx:h.2[i]=s.bounds[i]:=by simp only[hh,pw]
      rw[hx]at h3;have pq:mj mF s.fu (dn i) s.bounds[i] (s.bounds.drop (i+1))=if eJ s.bounds[i] mF=true then xX s.bounds[i] (s.fu++(dn i++s.bounds[i]::s.bounds.drop (i+1))++mF) else s.bounds[i]:=rfl
      have bg:=step i aB;have IW:=Ic i hi;have io:=dns i aB;have wP:s.bounds.drop i=s.bounds[i]::s.bounds.drop (i+1):=xE aB;have sC:s.bounds[i].size<=16:=GU (s.La va _ (dz aB));rw[wP]at az;obtain⟨rest,DG⟩:=eX (s.bounds.drop (i+1));have Gl:rest.length=s.bounds.length-(i+1):=by rw[DG,List.length_drop]
      obtain⟨x,rr⟩:=eX (s.bounds[i]);rw[<-rr,<-DG]at pq bg io az;rw[<-rr]at h3 sC;unfold fP at h3;have h4:ab Y (eD p 1) none=some (.str x):=by simp only[ab,h3];rfl
      have e1:=kY.at p1 id;have q3:ab Y (ag (S.length+1)) none=some (.map tk):=by simp[ab,e1,V.part,V.cells]
      have tkY:=kY.at pt id;have wU:=RL x tkY;have Xs:=hg.rd.flat;have lq:∀{Z:St},Z[Q]?=aJ [tv] 1->ab Z (ag Q) none=some tv:=λhZ=>by simp[ab,hZ,Xs]
      cases jP:eJ x mF with
      |false=>
        rw[jP]at pq wU;rw[au sM]at pq;rw[pq]at bg io;obtain⟨oj,Z,a1,a2,a3,a4,a5,a6⟩:=bg Y tv (by rw[io,dY];exact az) kY hq hg;have sq:aI Z (ag Q) 1 oj=some (Z.set Q (.arr [oj] 1 1)):=by simp[aI,a2,ZZ Xs.2.2 ⟨a3,a4,a5⟩]
        have mN:fits 1 [V.str x]=true:=rfl;simp[aB,h1,h2,dK,h4,q3,bI,wU,lq hq,mN,a1,sq,cG i];refine⟨_,?_,_,?_,i+1,rfl,oM,⟨oj,a6⟩,rfl⟩
        · omega
        · exact ba
      |true=>
        rw[jP]at pq wU;rw[ak rfl]at pq;obtain⟨bs,ck,_,hm⟩:=az.co.fm;obtain⟨gW,Ds⟩:=eX (dn i++x::rest);rw[<-Ds]at az pq
        have lJ:gW.length=s.bounds.length:=by
          have h8:=Ic i oM;rw[Ds,dx,gq];omega
        have se:h.1=eO (s.ou bN te):=by rw[hh];rfl
        obtain⟨all,dq⟩:=eX (s.fu++gW++mF);rw[<-dq]at pq;simp[aB,h1,h2,dK,h4,q3,bI,wU];refine bE (qkK x 146 [ag (S.length+1),ag U.length,ag (U.length+2)] (λy=>eJ y mF||eJ y (h.1.foldl eo [])||decide (0<eY gW y)) all Y (λy=>qw4 y e1 tkY az.x5 hm az.x7 az.xm) (λy=>?_) sC ?_) ?_
        · rw[se,qpl,dq];simp only[CC,mU,dT,qdN,cU];constructor
          · rintro((hh|hh)|hh)<;>simp[hh]
          · rintro((hh|hh)|hh)<;>simp[hh]
        · rw[dq];simp;omega
        rintro r Y' ⟨⟨t,rfl,jw⟩,rfl⟩;rw[LF jw]at pq;rw[pq]at bg io;have lm:∀{Z:St} {c:Bz->Int},Az h m c4 c5 c6 v ps F D U.length (U.length+2) (U.length+1) c Z->ab Z (ag (U.length+2)) none=some (.map (U.length+1)):=λk=>by simp[ab,k.x7,V.part,V.cells]
        have lm0:=lm az;have hg0:=az.xm.get x;have Dq:=Le x gW;obtain⟨o1,w1,PP⟩:=az.put x (eY gW x-1);have lm1:=lm PP;have wS:=PP.xm.get t;have lI:=Le t gW;have ri:-1<=(if t=x then eY gW x-1 else eY gW t)/\(if t=x then eY gW x-1 else eY gW t)<=1000:=by split<;>omega
        obtain⟨o2,w2,Fg⟩:=PP.put t ((if t=x then eY gW x-1 else eY gW t)+1)
        have wO:(λy=>if y=t then(if t=x then eY gW x-1 else eY gW t)+1 else if y=x then eY gW x-1 else eY gW y)=eY (dn i++t::rest):=by
          funext y;rw[Ds,qnl (dn i) rest x t y]
        rw[wO]at Fg;obtain⟨Y1,pj⟩:=eX (Y'.set (U.length+1) o1);rw[<-pj]at lm1 wS w2 PP Fg w1;obtain⟨Y2,x8⟩:=eX (Y1.set (U.length+1) o2);rw[<-x8]at Fg w2;have kk:∀l,l≠U.length+1->Y2[l]?=Y'[l]?:=λl hl=>by rw[x8,bG (Ne.symm hl),pj,bG (Ne.symm hl)]
        have ll:Y2.length=Y'.length:=by rw[x8,xG,pj,xG]
        have NA:bz S1 Y2:=⟨by rw[ll];exact kY.len,λl hl hn=>by rw[kk l oM];exact kY.get l hl hn⟩;have oP:Y2[Q]?=aJ [tv] 1:=by rw[kk Q oM];exact hq
        have iz:Gr 1 (Q+1) ((dn i).map .str) tv Y2:=hg.keep λl hl _=>kk l oM
        obtain⟨oj,Z,a1,a2,a3,a4,a5,a6⟩:=bg Y2 tv (by rw[io,dY];exact Fg) NA oP iz;have sq:aI Z (ag Q) 1 oj=some (Z.set Q (.arr [oj] 1 1)):=by simp[aI,a2,ZZ Xs.2.2 ⟨a3,a4,a5⟩]
        have mN:fits 1 [V.str t]=true:=rfl;have i1:=fO (n:=eY gW x-1) oM oM;have i2:=fO (n:=(if t=x then eY gW x-1 else eY gW t)+1) oM oM;simp[dK,lm0,h4,bI,hg0,i1,w1];refine rV rfl rfl ?_;simp[lm1,bI,wS,i2,w2,lq oP,mN,a1,sq,cG i];refine⟨_,?_,_,?_,i+1,rfl,oM,⟨oj,a6⟩,rfl⟩
        · omega
        · exact ba
    · have:i=s.bounds.length:=oM;subst this;simp;exact⟨tv,hI⟩
  rintro e Y ⟨tv,hI,g2,g4,g10⟩;obtain⟨az,kY,hq,hg⟩:=(zk _ _ _).1 hI;have AZ:dn s.bounds.length=jt mF s.fu [] s.bounds:=by rw[yd];exact Uo mF s.fu s.bounds []
  rw[AZ]at hg;obtain⟨L,hL⟩:=eX (jt mF s.fu [] s.bounds);have hLl:L.length=s.bounds.length:=by rw[hL,Uu];simp
  rw[<-hL]at hg |-;have e0:=kY.at p0 id;have e2:=kY.at p2 id;have X8:=kX.len;have lQ:=aR hq
  have qoX:∀x n,tv=.arr x 0 n n->Q<x/\x<Y.length:=λx n hx=>by
    rcases hg with ⟨_,rfl⟩|⟨l,wr,h1,rfl,h3,_⟩
    · cases hx
    · cases hx;exact⟨oM,aR h3⟩
  have ap:Ap L Q tv (λ_=>False) (λx=>x=Q∨∃n,tv=.arr x 0 n n) Y:=⟨λ_=>id,λ_=>Iff.rfl,hq,by
    rcases hg with ⟨h1,h2⟩|⟨l,wr,h1,h2,h3,h4⟩
    · exact .inl ⟨by simpa using h1,h2⟩
    · rw[bQ]at h2 h4;exact .inr ⟨l,wr,h2,h3,h4⟩⟩
  obtain⟨Y1,pj⟩:=eX (α:=St) (Y++[.arr [.agg [z0,.fn (.func 147) [] [ag Q],.bY,.bY]] 4 1]);have w1:Y1[Y.length]?=aJ [.agg [z0,.fn (.func 147) [] [ag Q],.bY,.bY]] 4:=by rw[pj];simp
  have Nz:bz Y Y1:=by rw[pj];exact(Kp.refl _ _).push _
  have ld1:ab Y1 (ag S.length) (some 8)=some s.v:=by
    have:=Nz.at e0 id;simp[ab,this]
  have hw:Wk (Un L Q) Y.length 0 () (λ_=>False) (λx=>x=Q\/∃n,tv=.arr x 0 n n) Y1:=⟨w1,⟨tv,ap.fr Nz λ_ hf=>hf.elim⟩,id,by rintro(h|⟨n,h⟩);omega;have:=qoX _ _ h;omega,trivial⟩;simp[g2,g4,g10,bR,bP,aU,Td,aL];rw[<-pj];simp[ld1];refine bE (ZB (Un L Q) (qmi L Q oM) Y.length s hs oM () _ _ Y1 hw (by show Sm.bH [s]<=L.length;omega)) ?_;rintro r Z ⟨hr,F2,D2,kw,sw⟩;have jx:r=(s.whole (lf L)).v:=by rw[hr];exact mn Sm.v (Sm.qzj rfl rfl (λ_ _=>rfl) s va)
  have kZ:bz S1 Z:=⟨by have:=kY.len;have:=Nz.len;have:=sw.k.len;omega,λl hl hn=>by
    rw[sw.k.get l (by have:=kY.len;have:=Nz.len;omega) (by rintro(hh|hh);have:=kY.len;omega;exact hh),Nz.get l (by have:=kY.len;omega) id];exact kY.get l hl hn⟩
  have f2:=kZ.at p2 id;have M3:r.size=8/\r.cells.all V.flat=true/\V.part r 0 (some 8)=some r:=by rw[jx];exact⟨Sm.iF _,sM,yF _⟩
  have bg:aI Z (ag (S.length+2)) 8 r=some (Z.set (S.length+2) (.arr [r] 8 1)):=by simp[aI,f2,aU,M3]
  simp[bg,g4];have hz:(Z.set (S.length+2) (.arr [r] 8 1))[S.length+2]?=aJ [r] 8:=bO (aR f2);exact bu (vs:=[r]) (by simp[eL,g4,ab,hz,M3]) ⟨jx,(kS.trans kZ).set _ (.inr oM)⟩
set_option maxHeartbeats 0
set_option maxRecDepth 100000
noncomputable def C47:=aW func47
def qmn{tk BK fr fr':List Bz}(h1:∀x,x∈tk↔x∈BK)(h2:∀x,x∈fr↔x∈fr')(done:List Bz)(x:Bz)(rest:List Bz):mj tk fr done x rest=mj BK fr' done x rest:=by
 have hi:eJ x tk=eJ x BK:=by rw[eR,mU,mU];exact h1 x
 have hf:xX x (fr++(done++x::rest)++tk)=xX x (fr'++(done++x::rest)++BK):=qpp λy=>by
  simp only[cU,h1,h2]
 unfold mj;rw[hi,hf]
def PN{tk BK fr fr':List Bz}(h1:∀x,x∈tk↔x∈BK)(h2:∀x,x∈fr↔x∈fr'):∀(rest done:List Bz),jt tk fr done rest=jt BK fr' done rest
 |[],done=>by simp[jt]
 |x::rest,done=>by rw[jt,jt,qmn h1 h2,PN h1 h2 rest]
def Sm.jj(s:Sm)(taken:List Bz):List Bz:=jt (taken.foldl eo []) s.fu [] s.bounds
def Sm.UA(s:Sm)(taken:List Bz):(s.jj taken).length=Sm.bH [s]:=by
 unfold Sm.jj;rw[Uu,s.wz];simp
def qs5{l:List Bz}(h:∀x,x∈l->x.size<=16)(k:Nat):(lf l k).size<=bi:=by
 unfold lf
 cases hk:l[k]? with
 |none=>exact fS _
 |some x=>exact js (h x (dZ hk)) (by decide)
def Sm.ap(s:Sm)(taken:List Bz):Sm:=s.whole (lf (s.jj taken))
def ZD(x:Sm)(hx:x.ok)(S:St):aA prog 82 [x.v] S (λr U=>r=.aV [if(Pa.st x).err aH=0 then x.v else bL,af ((Pa.st x).err aH)]/\bz S U):=by
 refine aA.ib C82 ?_;obtain⟨S1,bB⟩:=eX (α:=St) (S++[.arr [x.v] 8 1,.arr [bL] 8 1]);have b0:S1[S.length]?=aJ [x.v] 8:=by rw[bB];simp
 have b1:S1[S.length+1]?=aJ [bL] 8:=by rw[bB,cx oM];simp
 have kS:bz S S1:=by rw[bB];exact(Kp.refl _ _).push _
 have d0:ab S1 (ag S.length) (some 8)=some x.v:=by simp[ab,b0]
 simp[C82,aL];rw[<-bB];simp[d0];refine aZ (qya x hx S1) ?_;by_cases h0:(Pa.st x).err aH=0
 .simp[h0,d0,aI,b1,aU];have hz:(S1.set (S.length+1) (.arr [x.v] 8 1))[S.length+1]?=aJ [x.v] 8:=bO (aR b1);exact bu (vs:=[x.v,z0]) (by simp[eL,ab,hz]) ⟨rfl,kS.set _ (.inr oM)⟩
 .simp[h0,bR,bP,aI,b1,aU];have hz:(S1.set (S.length+1) (.arr [bL] 8 1))[S.length+1]?=aJ [bL] 8:=bO (aR b1);exact bu (vs:=[bL,af ((Pa.st x).err aH)]) (by simp[eL,ab,hz,dL]) ⟨rfl,kS.set _ (.inr oM)⟩
def Sm.qtm(s:Sm)(x:Bz):x∈s.fu↔x∈eO (s.ou bN te):=by
 unfold Sm.fu;rw[Oq,qi];simp
def je.new{x:Bz}{all:List Bz}{t:Bz}(h:je x all t):t∉all:=by
 rcases h with ⟨h,rfl⟩|⟨_,n,_,rfl,h,_⟩
 .exact h
 .exact h
def qml{tk fr done rest:List Bz}{x:Bz}(hl:fr.length+(done.length+(rest.length+1))+tk.length<=899):
  (mj tk fr done x rest=x/\x∉tk)\/mj tk fr done x rest∉fr++(done++x::rest)++tk:=by
 unfold mj;split
 .obtain⟨t,ht⟩:=je.exists x (fr++(done++x::rest)++tk) (by simp only[dx,gq];omega);rw[LF ht];exact .inr ht.new
 .rename_i h;exact .inl ⟨rfl,λhx=>h (mU.2 hx)⟩
structure OU(tk fr od done rest:List Bz):Prop where
 len:done.length=od.length
 a:∀(j k:Nat) (x:Bz),done[j]?=some x->done[k]?=some x->od[j]?=od[k]?
 b:∀(j:Nat) (x:Bz),done[j]?=some x->x∈rest->od[j]?=some x
 c:∀(j:Nat) (x:Bz),done[j]?=some x->x∈fr->od[j]?=some x
 d:∀x,x∈done->x∉tk
def SX{l:List Bz}{y x:Bz}{j:Nat}(h:(l++[y])[j]?=some x):l[j]?=some x\/(j=l.length/\x=y):=by
 by_cases hj:j<l.length
 .rw[dh hj]at h;exact .inl h
 .rw[cx oM]at h;have:j-l.length=0:=by have:=(br.1 h).1;simp at this;omega
  rw[this]at h;simp at h;exact .inr ⟨oM,h.symm⟩
def qdo{tk fr:List Bz}:∀(rest od done:List Bz),OU tk fr od done rest->fr.length+(done.length+rest.length)+tk.length<=899->OU tk fr (od++rest) (jt tk fr done rest) []
 |[],od,done,i,_=>by rw[jt,pR];exact i
 |y::rest,od,done,i,hl=>by
  rw[jt,show od++y::rest=(od++[y])++rest by simp];rw[gq]at hl;have hn:=qml (tk:=tk) (fr:=fr) (done:=done) (rest:=rest) (x:=y) oM;refine qdo rest _ _ ?_ (by simp;omega);obtain⟨t,ht⟩:=eX (mj tk fr done y rest);rw[<-ht]at hn |-;have hlen:=i.len;have uY:(od++[y])[od.length]?=some y:=sM
  have kL:∀(j:Nat) (x:Bz),done[j]?=some x->(od++[y])[j]?=od[j]?:=λj x h=>by
   have:=(br.1 h).1;rw[dh oM]
  have zr:∀(j:Nat),done[j]?=some t->od[j]?=some y:=λj h=>by
   rcases hn with ⟨h1,_⟩|h1
   .rw[h1]at h;exact i.b j y h sM
   .exact absurd (by have:=dZ h;simp[this]) h1
  refine⟨by simp[hlen],λj k x h1 h2=>?_,λj x h1 h2=>?_,λj x h1 h2=>?_,λx h1=>?_⟩
  .rcases SX h1 with g1|⟨g1,e1⟩<;>rcases SX h2 with g2|⟨g2,e2⟩
   .rw[kL j x g1,kL k x g2];exact i.a j k x g1 g2
   .rw[kL j x g1,g2,hlen,uY];exact zr j (e2 ▸ g1)
   .rw[kL k x g2,g1,hlen,uY];exact(zr k (e1 ▸ g2)).symm
   .rw[g1,g2]
  .rcases SX h1 with g1|⟨g1,e1⟩
   .rw[kL j x g1];exact i.b j x g1 (by simp[h2])
   .rw[g1,hlen,uY,e1];rcases hn with ⟨g,_⟩| g
    .rw[g]
    .exact absurd (by rw[<-e1];simp[h2]) g
  .rcases SX h1 with g1|⟨g1,e1⟩
   .rw[kL j x g1];exact i.c j x g1 h2
   .rw[g1,hlen,uY,e1];rcases hn with ⟨g,_⟩| g
    .rw[g]
    .exact absurd (by rw[<-e1];simp[h2]) g
  .rcases cU.1 h1 with h1|h1
   .exact i.d x h1
   .simp at h1;rw[h1];rcases hn with ⟨g,g2⟩| g
    .rw[g];exact g2
    .exactλhh=>g (by simp[hh])
def qmj{tk fr l:List Bz}(hl:fr.length+l.length+tk.length<=899):OU tk fr l (jt tk fr [] l) []:=
 qdo l [] [] ⟨rfl,sM,sM,sM,sM⟩ (by simp;omega)
def qhc{x:Bz}(h:aH x=true):x≠⟨⟨[]⟩⟩:=λhx=>by
 rw[hx]at h;simp[aH,ByteArray.size]at h
def qs6{l:List Bz}{j:Nat}{x:Bz}(h:lf l j=x)(hx:x≠⟨⟨[]⟩⟩):l[j]?=some x:=by
 unfold lf at h
 cases hg:l[j]? with
 |none=>rw[hg]at h;exact absurd h.symm hx
 |some y=>rw[hg]at h;rw[<-h];rfl
def NJ{l:List Bz}{j:Nat}{x:Bz}(h:l[j]?=some x):lf l j=x:=by unfold lf;rw[h];rfl
def qs3(l:List Bz):mH (lf l) 0 l:=λi x h=>by rw[mg];exact NJ h
def Sm.UB(s:Sm){taken:List Bz}(hl:s.fu.length+Sm.bH [s]+taken.length<=899):OU (taken.foldl eo []) s.fu s.bounds (s.jj taken) []:=by
 have h1:=Gy (l:=taken) (ks:=[]);have h2:=s.wz;simp only[qy]at h1;exact qmj oM
def qnK(n:Nat):iZ n≠[]:=by
 by_cases h:n<10
 .rw[Ax h];simp
 .rw[AA h];simp
def qmX(x:Bz)(n:Nat):jl x n≠⟨⟨[]⟩⟩:=λh=>by
 have:=mn (λb:Bz=>b.data.toList) h;simp[jl,qnK]at this
def qmm{tk fr done rest:List Bz}{x:Bz}(hx:x≠⟨⟨[]⟩⟩):mj tk fr done x rest≠⟨⟨[]⟩⟩:=by
 unfold mj;split
 .unfold xX YG;split
  .rename_i h;rcases Classical.choose_spec h with ⟨_,g⟩|⟨_,n,_,g,_⟩
   .rw[g];exact hx
   .rw[g];exact qmX x n
  .exact hx
 .exact hx
def qdq{tk fr:List Bz}:∀(rest done:List Bz),(∀x,x∈done->x≠⟨⟨[]⟩⟩)->(∀x,x∈rest->x≠⟨⟨[]⟩⟩)->∀x,x∈jt tk fr done rest->x≠⟨⟨[]⟩⟩
 |[],done,h,_=>by rw[jt];exact h
 |y::rest,done,h,g=>by
  rw[jt];refine qdq rest _ (λx hx=>?_) λx hx=>g x (by simp[hx])
  rcases cU.1 hx with hx|hx
  .exact h x hx
  .simp at hx;rw[hx];exact qmm (g y sM)
def qs4(l:List Bz):(List.range' 0 l.length).map (lf l)=l:=by
 refine vV λi=>?_
 rw[dS];by_cases h:i<l.length
 .rw[List.getElem?_range' h,bX h,fG,mg,Nat.one_mul,NJ (bX h)]
 .rw[rQ (by simpa using h),rQ oM];rfl
set_option linter.unusedSectionVars false
section
variable {s:Sm} {taken:List Bz} (va:(Pa.st s).valid aH=true) (hl:s.fu.length+Sm.bH [s]+taken.length<=899)
include va hl
theorem Sm.Uz:∀j k,lf (s.jj taken) j=lf (s.jj taken) k->lf s.bounds j=lf s.bounds k:=λj k h=>by
 have hi:=s.UB (taken:=taken) hl;have hp:∀x,x∈s.jj taken->x≠⟨⟨[]⟩⟩:=qdq _ _ sM λx hx=>qhc (s.La va x hx)
 cases hj:(s.jj taken)[j]? with
 |none=>
  cases hk:(s.jj taken)[k]? with
  |none=>
   have h1:=T9.1 hj;have h2:=T9.1 hk;rw[hi.len]at h1 h2;unfold lf;rw[rQ h1,rQ h2]
  |some y=>
   rw[NJ hk]at h;unfold lf at h;rw[hj]at h;exact absurd h.symm (hp y (dZ hk))
 |some x=>
  rw[NJ hj]at h;have h2:=hi.a j k x hj (qs6 h.symm (hp x (dZ hj)));unfold lf;rw[h2]
theorem Sm.Uy:mH (lf s.bounds) 0 (dk s.labels++s.bn):=qs3 _
theorem Sm.qzk:oZ (lf s.bounds) [ar s.labels 0]:=oZ.cons (sc:=[]) (λs hs=>by cases hs) (Uy va hl).fst
theorem Sm.qdz:mH (lf s.bounds) (ar s.labels 0).length s.bn:=by
 have:=(Uy va hl).snd;rwa [mZ,mg]at this
theorem Sm.qmq:(s.ap taken).labels=s.labels.map (fQ (lf (s.jj taken)) [ar s.labels 0]):=Sm.Z9 _ _ _ _
theorem Sm.qmp:ar (s.ap taken).labels 0=vz (lf (s.jj taken)) (ar s.labels 0):=by
 rw[qmq va hl];exact qdv (Uz va hl) (Uy va hl).fst
theorem Sm.qds:(s.ap taken).bounds=s.jj taken:=by
 have h1:=Uz va hl;have hi:=s.UB (taken:=taken) hl;unfold Sm.bounds;rw[qhe 0,qmp va hl];have h2:=Sm.K8 h1 s [ar s.labels 0] (ar s.labels 0).length (qdz va hl);rw[show(s.ap taken).bn=_ from h2]
 have h3:(vz (lf (s.jj taken)) (ar s.labels 0)).map (·.1)=(List.range' 0 (ar s.labels 0).length).map (lf (s.jj taken)):=by
  rw[<-qdw];unfold vz;rw[nJ,nJ];rfl
 have h4:=Ao (s:=0) (m:=(ar s.labels 0).length) (n:=s.nb);rw[mg]at h4
 have h5:(ar s.labels 0).length+s.nb=(s.jj taken).length:=by
  rw[hi.len,Sm.bounds,dx,mZ,Sm.rT]
 rw[h3,<-cJ,h4,h5,qs4]
end
structure Ug(p:Pw):Prop where
 ok:∀g,p.nm=some g->∀(x:Ex) sc tg,x.ok->(g x sc tg).ok
 f:∀k x,x.size<=bi->(p.f k x).size<=bi
 cl:∀c,p.cl=some c->∀x sc,x.size<=bi->(c x sc).size<=bi
structure Shp(p:Pw):Prop extends Ug p where
 le:∀g,p.nm=some g->∀x sc tg,(Pa.ex (g x sc tg)).le (.ex x)
section
variable {p:Pw} (i:Shp p)
include i
end
section
variable {p:Pw} (i:Ug p)
include i
theorem Oa(sc:ai){x:Bz}(hx:x.size<=bi):(jo p sc x).size<=bi:=by
 unfold jo
 cases sc.at x with
 |none=>exact hx
 |some k=>exact i.f k x hx
mutual
theorem Ex.Cc(sc:ai)(tg:Bool):∀x:Ex,x.ok->(x.wr p sc tg).ok
 |.mk k o n m e t a,v=>by
  obtain⟨h1,h2,h3⟩:=v;have h4:∀t':Bz,t'.size<=bi->(Ex.mk k o n m e t' (Ex.bh p sc false a)).ok:=λt' ht=>⟨ht,by rw[Ex.Ce,bQ];exact h2,Ex.rM sc false a h3⟩
  rw[Ex.wr];unfold Pw.yD;split
  .split
   .exact h4 _ (Oa i sc h1)
   .rename_i g hg;exact i.ok g hg _ _ _ (h4 _ h1)
  .exact h4 _ h1
theorem Ex.rM(sc:ai)(tg:Bool):∀l:List Ex,Ex.cH l->Ex.cH (Ex.bh p sc tg l)
 |[],_=>trivial
 |x::l,⟨h1,h2⟩=>⟨Ex.Cc sc tg x h1,Ex.rM sc tg l h2⟩
end
theorem El.Cc(sc:ai)(e:El)(v:e.ok):(e.wr p sc).ok:=
 ⟨by unfold El.wr;rw[Ex.Ce,bQ];exact v.1,Ex.rM i sc false e.aw v.2⟩
omit i in
theorem Sm.Cd(sc:ai):∀(m:List Sm) (n:Nat),(Sm.bh p sc n m).length=m.length
 |[],_=>by rw[Sm.bh]
 |x::m,n=>by simp only[Sm.bh,gq,Sm.Cd sc m]
omit i in
theorem Sm.J4(sc:ai):∀(m:List Sm) (n:Nat),(Sm.gV p sc n m).length=m.length
 |[],_=>by rw[Sm.gV]
 |x::m,n=>by simp only[Sm.gV,gq,Sm.J4 sc m]
omit i in
theorem De.Cd(own sc:ai):∀(m:List De) (n:Nat),(De.bh p own sc n m).length=m.length
 |[],_=>by rw[De.bh]
 |x::m,n=>by simp only[De.bh,gq,De.Cd own sc m]
mutual
theorem Sm.Cc:∀(s:Sm) (sc:ai) (n:Nat),s.ok->(s.wr p sc n).ok
 |.mk l k t gs e hh d b,sc,n,v=>by
  have V:=(Sm.fh _).1 v;have hl:=R2 V.labels λx hx=>Oa i sc (V.labels.2 x hx)
  have hg:gs.length<=bi->(Ex.bh p sc true gs).length<=bi:=λh=>by rw[Ex.Ce,bQ];exact h
  rw[Sm.wr];split
  .refine(Sm.fh _).2 ⟨hl,V.text,⟨hg V.targets.1,Ex.rM i sc true gs V.targets.2⟩,V.aw,V.elems,⟨?_,De.rM d _ _ _ V.decls.2⟩,?_,Sm.rM b _ _ V.body.2⟩
   .have:=V.decls.1;simp only[Sm.decls]at this |-;rw[De.Cd];exact this
   .have:=V.body.1;simp only[Sm.body]at this |-;rw[Sm.Cd];exact this
  .split
   .refine(Sm.fh _).2 ⟨hl,V.text,⟨hg V.targets.1,Ex.rM i sc true gs V.targets.2⟩,V.aw,V.elems,V.decls,?_,Sm.rM b _ _ V.body.2⟩;have:=V.body.1;simp only[Sm.body]at this |-;rw[Sm.Cd];exact this
   .refine(Sm.fh _).2 ⟨hl,?_,⟨hg V.targets.1,Ex.rM i sc true gs V.targets.2⟩,⟨?_,Ex.rM i sc false e V.aw.2⟩,⟨?_,?_⟩,V.decls,?_,Sm.qaf b _ _ V.body.2⟩
    .have:=V.text;simp only[Sm.text]at this |-;unfold Pw.wF;split
     .split
      .exact Oa i sc this
      .rename_i c hc;exact i.cl c hc _ _ this
     .exact this
    .have:=V.aw.1;simp only[Sm.aw]at this |-;rw[Ex.Ce,bQ];exact this
    .have:=V.elems.1;simp only[Sm.elems]at this |-;rw[bQ];exact this
    .intro x hx;simp only[Sm.elems]at hx;obtain⟨y,hy,rfl⟩:=cY.1 hx;exact El.Cc i sc y (V.elems.2 y hy)
    .have:=V.body.1;simp only[Sm.body]at this |-;rw[Sm.J4];exact this
theorem De.Cc:∀(s:De) (own sc:ai) (n:Nat),s.ok->(s.wr p own sc n).ok
 |.mk k o t ns e fo b,own,sc,n,v=>by
  have V:=(De.fh _).1 v;have hl:=R2 V.names λx hx=>Oa i own (V.names.2 x hx)
  have he:∀sc,e.length<=bi->(Ex.bh p sc false e).length<=bi:=λsc h=>by rw[Ex.Ce,bQ];exact h
  rw[De.wr];split
  .refine(De.fh _).2 ⟨hl,⟨he own V.aw.1,Ex.rM i own false e V.aw.2⟩,⟨?_,?_⟩,?_,Sm.qaf b _ _ V.body.2⟩
   .have:=V.aj.1;simp only[De.aj]at this |-;rw[bQ];exact this
   .intro x hx;simp only[De.aj]at hx;obtain⟨y,hy,rfl⟩:=cY.1 hx;exact Oa i _ (V.aj.2 y hy)
   .have:=V.body.1;simp only[De.body]at this |-;rw[Sm.J4];exact this
  .exact(De.fh _).2 ⟨hl,⟨he _ V.aw.1,Ex.rM i _ false e V.aw.2⟩,V.aj,V.body⟩
theorem De.rM:∀(l:List De) (own sc:ai) (n:Nat),De.cH l->De.cH (De.bh p own sc n l)
 |[],_,_,_,_=>by rw[De.bh];exact trivial
 |x::l,own,sc,n,v=>by
  rw[De.cH]at v;rw[De.bh,De.cH];exact⟨De.Cc x own sc n v.1,De.rM l own sc _ v.2⟩
theorem Sm.rM:∀(l:List Sm) (sc:ai) (n:Nat),Sm.cH l->Sm.cH (Sm.bh p sc n l)
 |[],_,_,_=>by rw[Sm.bh];exact trivial
 |x::l,sc,n,v=>by
  rw[Sm.cH]at v;rw[Sm.bh,Sm.cH];exact⟨Sm.Cc x sc n v.1,Sm.rM l sc _ v.2⟩
theorem Sm.qaf:∀(l:List Sm) (sc:ai) (n:Nat),Sm.cH l->Sm.cH (Sm.gV p sc n l)
 |[],_,_,_=>by rw[Sm.gV];exact trivial
 |x::l,sc,n,v=>by
  rw[Sm.cH]at v;rw[Sm.gV,Sm.cH];exact⟨Sm.Cc x _ _ v.1,Sm.qaf l sc _ v.2⟩
end
theorem Sm.qad(s:Sm)(v:s.ok):(s.vM p).ok:=Sm.Cc i s _ _ v
end
def Gs.fq{w:Nat}{F D:Np}{xs:List Bz}{v:V}{S:St}(h:Gs w F xs v S)(aB:∀l,F l\/D l->l<S.length)(hw:w<S.length)(x:Bz)(hr:(xs.length+1)*16<=2^47)(b:Bool):
  ∃v' S' F',fV S 1 16 v (.sl b [.str x])=some (v',S')/\Gs w F' (xs++[x]) v' S'/\S.length<=S'.length/\(∀l o,S[l]?=some o->(∀a b c,v≠.arr l a b c)->S'[l]?=some o)/\(∀l,F' l↔F l\/v=sN/\l=S.length)/\(∀l,l<S.length->¬F l->S'[l]?=S[l]?)/\(∀l,F' l->l<S'.length)/\(v=sN->v'=.arr S.length 0 1 1)/\(∀l a b c,v=.arr l a b c->v'=.arr l 0 (xs.length+1) (xs.length+1)):=by
 have hy:fits 1 [V.str x]=true:=rfl;rcases h with ⟨rfl,rfl⟩|⟨l,wr,h1,h2,rfl,h3,h4⟩
 .refine⟨.arr S.length 0 1 1,S++[.arr [.str x] 1 1],λl=>F l\/l=S.length,?_,.inr ⟨S.length,1,.inr rfl,oM,sM,sM,sM⟩,sM,λl o h _=>gp h,λl=>by simp,λl hl _=>by rw[dh hl],?_,λ_=>rfl,λl a b c hh=>by cases hh⟩
  .unfold fV;rw[rW];have hc:true=true/\fits 1 [V.str x]=true/\(([]:List V).all λv=>v.size==1)=true/\(([]:List V).length+[V.str x].length)*16<=2^47:=⟨rfl,hy,rfl,sM⟩;show(if [V.str x].isEmpty=true then _ else _)=_;rw[au sM,ak hc];simp
  .rintro l (hl|rfl)
   .have:=aB l (.inl hl);simp;omega
   .simp
 .have hc:0=0/\xs.length=(xs.map V.str).length/\xs.length=(xs.map V.str).length/\1=1/\fits 1 [V.str x]=true/\((xs.map V.str).length+[V.str x].length)*16<=2^47:=⟨rfl,sM,sM,rfl,hy,by simpa using hr⟩;have Gg:l<S.length:=(br.1 h3).1;refine⟨.arr l 0 (xs.length+1) (xs.length+1),S.set l (.arr (xs.map .str++[.str x]) 1 wr),F,?_,.inr ⟨l,wr,h1,h2,sM,by rw[bO Gg];simp,by simp;omega⟩,sM,λk o ho bZ=>?_,λl=>by simp,λk hk hn=>?_,λk hk=>by have:=aB k (.inl hk);simpa using this,λhh=>(by cases hh),λl a b c hh=>by cases hh;rfl⟩
  .unfold fV;rw[rW];show(match S[l]? with|_=>_)=_;rw[h3];show(if _ then _ else _)=_;rw[ak hc];simp
  .rw[bG (by rintro rfl;exact bZ _ _ _ rfl)];exact ho
  .rw[bG (by rintro rfl;exact hn h1)]
def Rk.qmb{r:Rp}{bf bt:Bool}{w:Nat}{fv:V}{aD:List Bz}{st:cd}{F D:Np}{S:St}(h:Rk r bf bt w fv aD st F D S)(x:Bz)(hr:(aD.length+1)*16<=2^47)(b:Bool):
  ∃vb vf xu S' F',S[w]?=some (gn r bf bt fv vb vf st)/\fV S 1 16 vb (.sl b [.str x])=some (xu,S')/\S'[w]?=some (gn r bf bt fv vb vf st)/\xu.cells=[xu]/\xu.flat=true/\xu.size=1/\sG vb=some (af aD.length)/\Rk r bf bt w fv (aD++[x]) st F' D (S'.set w (gn r bf bt fv xu vf st))/\bJ w F D S F' D (S'.set w (gn r bf bt fv xu vf st)):=by
 obtain⟨vb,vf,h1,h2,h3,h4⟩:=h.wx;obtain⟨xu,S',F',a1,a2,a3,a4,a5,a6,a7,a8,a9⟩:=h2.fq h.lt h.lw x hr b;have hlw:=h.lw;have cM:S'[w]?=some (gn r bf bt fv vb vf st):=by rw[a6 w h.lw h.nF];exact h1
 have mP:∀l o,l≠w->S'[l]?=some o->(S'.set w (gn r bf bt fv xu vf st))[l]?=some o:=λl o hl ho=>by rw[bG (Ne.symm hl)];exact ho
 have AM:∀l,F' l->F l\/S.length<=l:=λl hl=>((a5 l).1 hl).imp id λhh=>by omega
 have Ni:Gs w F' st.free vf (S'.set w (gn r bf bt fv xu vf st)):=by
  rcases h3 with hh|⟨l,wr,z1,z2,z3,z4,z5⟩
  .exact .inl hh
  .refine .inr ⟨l,wr,(a5 l).2 (.inl z1),z2,z3,mP _ _ z2 (a4 l _ z4 λa b c hh=>h4 l a b c hh _ _ _ z3),z5⟩
 obtain⟨f1,f2,f3,_⟩:=a2.flat;refine⟨vb,vf,xu,S',F',h1,a1,cM,f1,f2,f3,h2.flat.2.2.2,⟨⟨xu,vf,?_,?_,?_,?_⟩,?_,?_,?_,h.nD,?_,?_⟩,⟨?_,?_⟩,AM,grow.refl _ _⟩
 .exact bO oM
 .exact a2.keep λl o hl ho=>mP _ _ (λhh=>by subst hh;rcases AM _ hl with hh|hh;exact h.nF hh;omega) ho
 .exact Ni
 .intro l a b c hb a' b' c' hf;rcases h2 with ⟨_,rfl⟩|⟨l0,wr,z1,z2,rfl,z4,z5⟩
  .rw[a8 rfl]at hb;cases hb;rcases h3 with ⟨_,hh⟩|⟨l1,gV,y1,y2,y3,y4,y5⟩
   .rw[hh]at hf;cases hf
   .rw[y3]at hf;cases hf;have:=aR y4;omega
  .rw[a9 _ _ _ _ rfl]at hb;cases hb;exact h4 _ _ _ _ rfl _ _ _ hf
 .exact h.fr.keep λl o hl ho=>mP _ _ (λhh=>h.nD (hh ▸ hl)) (by rw[a6 l (h.lt l (.inr hl)) (λhf=>h.di l hf hl)];exact ho)
 .rintro l (hl|hl)
  .have:=a7 l hl;simpa using this
  .have:=h.lt l (.inr hl);simp;omega
 .intro hf;rcases AM _ hf with hh|hh
  .exact h.nF hh
  .omega
 .intro l hl hd;rcases AM _ hl with hh|hh
  .exact h.di l hh hd
  .have:=h.lt l (.inr hd);omega
 .simp;omega
 .simp;omega
 .intro l hl hn;rw[bG (λhh=>hn (.inl hh.symm)),a6 l hl λhf=>hn (.inr hf)]
def Rk.qmc{r:Rp}{bf bt:Bool}{w:Nat}{fv:V}{aD:List Bz}{st:cd}{F D:Np}{S:St}(h:Rk r bf bt w fv aD st F D S)(x:Bz)(hr:(st.free.length+1)*16<=2^47)(b:Bool):
  ∃vb vf sW S' F',S[w]?=some (gn r bf bt fv vb vf st)/\fV S 1 16 vf (.sl b [.str x])=some (sW,S')/\S'[w]?=some (gn r bf bt fv vb vf st)/\sW.cells=[sW]/\sW.flat=true/\sW.size=1/\Rk r bf bt w fv aD { st with free:=st.free++[x] } F' D (S'.set w (gn r bf bt fv vb sW st))/\bJ w F D S F' D (S'.set w (gn r bf bt fv vb sW st)):=by
 obtain⟨vb,vf,h1,h3,h2,h4⟩:=h.wx;obtain⟨sW,S',F',a1,a2,a3,a4,a5,a6,a7,a8,a9⟩:=h2.fq h.lt h.lw x hr b;have hlw:=h.lw;have cM:S'[w]?=some (gn r bf bt fv vb vf st):=by rw[a6 w h.lw h.nF];exact h1
 have mP:∀l o,l≠w->S'[l]?=some o->(S'.set w (gn r bf bt fv vb sW st))[l]?=some o:=λl o hl ho=>by rw[bG (Ne.symm hl)];exact ho
 have AM:∀l,F' l->F l\/S.length<=l:=λl hl=>((a5 l).1 hl).imp id λhh=>by omega
 have Ni:Gs w F' aD vb (S'.set w (gn r bf bt fv vb sW st)):=by
  rcases h3 with hh|⟨l,wr,z1,z2,z3,z4,z5⟩
  .exact .inl hh
  .refine .inr ⟨l,wr,(a5 l).2 (.inl z1),z2,z3,mP _ _ z2 (a4 l _ z4 λa b c hh=>h4 l _ _ _ z3 a b c hh),z5⟩
 obtain⟨f1,f2,f3,_⟩:=a2.flat;refine⟨vb,vf,sW,S',F',h1,a1,cM,f1,f2,f3,⟨⟨vb,sW,?_,?_,?_,?_⟩,?_,?_,?_,h.nD,?_,?_⟩,⟨?_,?_⟩,AM,grow.refl _ _⟩
 .exact bO oM
 .exact Ni
 .exact a2.keep λl o hl ho=>mP _ _ (λhh=>by subst hh;rcases AM _ hl with hh|hh;exact h.nF hh;omega) ho
 .intro l a b c hb a' b' c' hf;rcases h2 with ⟨_,rfl⟩|⟨l0,wr,z1,z2,rfl,z4,z5⟩
  .rw[a8 rfl]at hf;cases hf;rcases h3 with ⟨_,hh⟩|⟨l1,gV,y1,y2,y3,y4,y5⟩
   .rw[hh]at hb;cases hb
   .rw[y3]at hb;cases hb;have:=aR y4;omega
  .rw[a9 _ _ _ _ rfl]at hf;cases hf;exact h4 _ _ _ _ hb _ _ _ rfl
 .exact h.fr.keep λl o hl ho=>mP _ _ (λhh=>h.nD (hh ▸ hl)) (by rw[a6 l (h.lt l (.inr hl)) (λhf=>h.di l hf hl)];exact ho)
 .rintro l (hl|hl)
  .have:=a7 l hl;simpa using this
  .have:=h.lt l (.inr hl);simp;omega
 .intro hf;rcases AM _ hf with hh|hh
  .exact h.nF hh
  .omega
 .intro l hl hd;rcases AM _ hl with hh|hh
  .exact h.di l hh hd
  .have:=h.lt l (.inr hd);omega
 .simp;omega
 .simp;omega
 .intro l hl hn;rw[bG (λhh=>hn (.inl hh.symm)),a6 l hl λhf=>hn (.inr hf)]
def Rk.flag{r:Rp}{bf bt:Bool}{w:Nat}{fv:V}{aD:List Bz}{st:cd}{F D:Np}{S:St}(h:Rk r bf bt w fv aD st F D S)(b c:Bool):
  ∃vb vf,S[w]?=some (gn r bf bt fv vb vf st)/\vb.cells=[vb]/\vf.cells=[vf]/\Rk r bf bt w fv aD { st with bad:=b,oG:=c } F D (S.set w (gn r bf bt fv vb vf { st with bad:=b,oG:=c }))/\bJ w F D S F D (S.set w (gn r bf bt fv vb vf { st with bad:=b,oG:=c })):=by
 obtain⟨vb,vf,h1,h2,h3,h4⟩:=h.wx;have g:∀l o,l≠w->S[l]?=some o->(S.set w (gn r bf bt fv vb vf { st with bad:=b,oG:=c }))[l]?=some o:=λl o hl ho=>by rw[bG (Ne.symm hl)];exact ho
 refine⟨vb,vf,h1,h2.flat.1,h3.flat.1,⟨⟨vb,vf,bO h.lw,h2.keep λl o hl=>g l o (λhh=>h.nF (hh ▸ hl)),h3.keep λl o hl=>g l o (λhh=>h.nF (hh ▸ hl)),h4⟩,h.fr.keep λl o hl=>g l o (λhh=>h.nD (hh ▸ hl)),λl hl=>by have:=h.lt l hl;simpa using this,h.nF,h.nD,h.di,by simpa using h.lw⟩,⟨(Kp.refl _ _).set _ (.inl (.inl rfl)),grow.refl _ _,grow.refl _ _⟩⟩
def Nr(w:Nat)(F D:Np)(names:List Bz)(v:V)(S:St):Prop:=(∃b,v=.sl b (names.map .str))\/∃l wr,gy w F D l/\v=.arr l 0 names.length names.length/\S[l]?=some (.arr (names.map .str) 1 wr)/\wr<=names.length
def Nr.step{w:Nat}{F D F' D':Np}{names:List Bz}{v:V}{S U:St}(h:Nr w F D names v S)(s:bJ w F D S F' D' U):Nr w F' D' names v U:=by
 rcases h with h|⟨l,wr,h2,h3,h4,h5⟩
 .exact .inl h
 .exact .inr ⟨l,wr,h2.next (aR h4) s,h3,s.at h2 h4,h5⟩
def Nr.rd{w:Nat}{F D:Np}{names:List Bz}{v:V}{S:St}(h:Nr w F D names v S):Rd v names S:=by
 rcases h with ⟨b,rfl⟩|⟨l,wr,h1,rfl,h4,h5⟩
 .exact Rd.sl b names S
 .exact Rd.arr h4 h5
def Gw.other{sz n0 w:Nat}{F D:Np}{xs:List V}{v:V}{S U:St}(h:Gw sz n0 w F D xs v S)(hk:∀l o,S[l]?=some o->(∀a b c,v=.arr l a b c->U[l]?=some o)):Gw sz n0 w F D xs v U:=by
 rcases h with h|⟨l,wr,h1,h2,h3,h4,h5⟩
 .exact .inl h
 .exact .inr ⟨l,wr,h1,h2,h3,hk l _ h4 _ _ _ h3,h5⟩
def Gw.rd{n0 w:Nat}{F D:Np}{names:List Bz}{v:V}{S:St}(h:Gw 1 n0 w F D (names.map .str) v S):Rd v names S:=by
 rcases h with ⟨h1,rfl⟩|⟨l,wr,h1,h2,rfl,h4,h5⟩
 .rw[List.map_eq_nil_iff]at h1;subst h1;exact Rd.sl true [] S
 .rw[bQ]at h5 |-;exact Rd.arr h4 h5
def qsi(s:cy)(x:Bz):eJ x (s.map (·.1))=(cy.at s x).isSome:=by
 cases h:cy.at s x with
 |none=>
  rw[zB.2]
  .rfl
  intro hm;obtain⟨e,he,rfl⟩:=cY.1 hm;exact UI.1 h e he rfl
 |some k=>
  rw[mU.2]
  .rfl
  unfold cy.at at h;rw[ep]at h;obtain⟨e,he,_⟩:=h;have h1:=List.find?_some he;simp only[dT]at h1;rw[<-h1];exact pS (KJ he)
def FA(v u:V):Prop:=∀l a b c,v=.arr l a b c->∀a' b' c',u≠.arr l a' b' c'
structure Ei(r:Rp)(bf bt:Bool)(w:Nat)(fv:V)(aD:List Bz)(st:cd)(F D:Np)(S:St)(sc:ai)(names:List Bz)(nv:V)(i:Nat)(hv ov:V)(F' D':Np)(U:St):Prop where
 rk:Rk r bf bt w fv (aD++(ar (names.take i) aD.length).map (·.1)) st F' D' U
 st:bJ w F D S F' D' U
 kC:Gw 1 S.length w F' D' (((ar (names.take i) aD.length).map (·.1)).map .str) hv U
 out:Gw 2 S.length w F' D' ((ai.flat sc++ar (names.take i) aD.length).map dB) ov U
 nr:Nr w F' D' names nv U
 df:FA hv ov
def EiL(r:Rp)(bf bt:Bool)(w:Nat)(fv:V)(aD:List Bz)(st:cd)(F D:Np)(S:St)(sc:ai)(names:List Bz)(nv:V)(j:Nat)(e:ae)(U:St):Prop:=
 ∃(i:Nat) (hv ov:V) (F' D':Np),j=names.length-i/\i<=names.length/\Ei r bf bt w fv aD st F D S sc names nv i hv ov F' D' U/\e=[(9,af i),(7,hv),(8,ov),(0,ag w),(2,nv)]
def EiE(r:Rp)(bf bt:Bool)(w:Nat)(fv:V)(aD:List Bz)(st:cd)(F D:Np)(S:St)(sc:ai)(names:List Bz)(nv:V)(e:ae)(U:St):Prop:=
 ∃(hv ov:V) (F' D':Np),Ei r bf bt w fv aD st F D S sc names nv names.length hv ov F' D' U/\e.get 8=some ov
def qmP(l:cy):V.cR (l.map dB)=l.map dB:=Hw (λ_=>rfl) l
def Zw(r:Rp)(bf bt:Bool)(w:Nat)(fv:V)(aD:List Bz)(st:cd)(F D:Np)(S:St)(hk:Rk r bf bt w fv aD st F D S)(b:Bool)(sc:ai)(names:List Bz)(nv:V)(uX:Nr w F D names nv S)
  (hl:(ai.flat sc).length+names.length<=100000) (hb:aD.length+names.length<=100000):
  aA prog 162 [ag w,.sl b ((ai.flat sc).map dB),nv] S (λv U=>nn w (Rk r bf bt w fv (aD++dk names) st) F D S (ah ((ai.flat (ar names aD.length::sc)).map dB)) v U):=by
 refine aA.ib qa1 ?_;have fm:=Rk.pZ r bf bt w fv aD st;have hfb:fits 2 ((ai.flat sc).map dB)=true:=by simp[fits,dB,V.size,V.cells,V.flat]
 obtain⟨ov,S1,ha,hg,bW,bw,_⟩:=(Gw.nil 2 S.length w F D S).K1 fm (bytes:=24) (x:=.sl b ((ai.flat sc).map dB)) hk (bJ.refl _ _ _ _) (rW _ _ _) hfb (by simp;omega);rw[ig]at hg;have WN:fits 2 []=true:=rfl;simp[qa1,WN,ha];refine eA (EiE r bf bt w fv aD st F D S sc names nv) ?_ ?_
 .refine cE (EiL r bf bt w fv aD st F D S sc names nv) names.length _ ?_ ⟨0,sN,ov,F,D,sM,oM,⟨by simpa[ar,binds]using bW,bw,by simpa[ar,binds]using Gw.nil 1 S.length w F D S1,by simpa[ar,binds]using hg,uX.step bw,λl a b c hh=>by cases hh⟩,rfl⟩ ?_
  .exact ba
  rintro j e U ⟨i,hv,ov,F1,D1,rfl,hi,ei,rfl⟩;obtain⟨hlen,ny⟩:=ei.nr.rd;by_cases aB:i<names.length
  .obtain⟨p,mA,mB⟩:=ny i aB;have sA:=Fh names[i] (names.take i) aD.length;have Xr:names.take i++[names[i]]=names.take (i+1):=by rw[dN,bX aB];rfl
   rw[Xr]at sA;have iT:=PS names aD.length (names.length-i) i oM;have qAf:=qmL names aD.length;have jP:=OA hv ((ar (names.take i) aD.length).map (·.1)) names[i] U (by rw[bQ];omega) ei.kC.rd;rw[qsi]at jP;simp[↓jm,hlen,aB,mA,mB];refine aZ jP ?_
   cases jY:(cy.at (ar (names.take i) aD.length) names[i]).isSome with
   |true=>
    rw[jY]at sA;simp only[if_true]at sA;simp[cG i];refine⟨_,?_,_,?_,i+1,hv,ov,F1,D1,rfl,oM,⟨by rw[sA];exact ei.rk,ei.st,by rw[sA];exact ei.kC,by rw[sA];exact ei.out,ei.nr,ei.df⟩,rfl⟩
    .omega
    .exact ba
   |false=>
    rw[jY]at sA;simp only[mf,if_false]at sA;have fmi:=Rk.pZ r bf bt w fv (aD++(ar (names.take i) aD.length).map (·.1)) st;have kG:fits 1 [V.str names[i]]=true:=rfl;obtain⟨eV,U1,a1,a2,a3,a4,a5,a6⟩:=ei.kC.xQ fmi (bytes:=16) (b:=true) (y:=.str names[i]) ei.rk ei.st kG (by simp;omega);have out1:Gw 2 S.length w F1 D1 ((ai.flat sc++ar (names.take i) aD.length).map dB) ov U1:=ei.out.other λl o ho a b c yn=>a5 l o ho λa' b' c' hh=>ei.df l a' b' c' hh a b c yn
    have nr1:=uX.step a4;obtain⟨qAo,Xh⟩:=nr1.rd;obtain⟨p',rn,oP⟩:=Xh i aB;obtain⟨vb,vf,r0,_⟩:=Eo a3
    have hlb:sG vb=some (af (aD.length+(ar (names.take i) aD.length).length:Nat)):=by
     obtain⟨vb2,vf2,h1,h2,_⟩:=a3.wx;unfold gn at h1;have:vb=vb2:=by simpa[ab,h1,h2.flat.1]using r0.symm
     rw[this,h2.flat.2.2.2];simp
    have hfe:fits 2 [dB (names[i],aD.length+(ar (names.take i) aD.length).length)]=true:=rfl;obtain⟨ov',U2,b1,b2,b3,b4,b5,b6⟩:=out1.xQ fmi (bytes:=24) (b:=true) (y:=dB (names[i],aD.length+(ar (names.take i) aD.length).length)) a3 a4 hfe (by simp;omega);have dlt:=a2.lt;have olt:=ei.out.lt;have qfF:=ei.kC.lt
    have df1:FA eV ov:=λl a b c hh a' b' c' ho=>by
     rcases a6 l a b c hh with h1|h1
     .exact ei.df l _ _ _ h1 a' b' c' ho
     .have:=olt l a' b' c' ho;omega
    have qp9:Gw 1 S.length w F1 D1 (((ar (names.take i) aD.length).map (·.1)).map .str++[.str names[i]]) eV U2:=a2.other λl o ho a b c hh=>b5 l o ho λa' b' c' fC=>df1 l a b c hh a' b' c' fC
    have nr2:=uX.step b4;obtain⟨qAp,qrs⟩:=nr2.rd;obtain⟨p2,qrz,qrA⟩:=qrs i aB;obtain⟨wb,wf,wb',U3,F2,c1,c2,c3,c4,c5,c6,c7,c8,c9⟩:=b3.qmb names[i] (by simp;omega) true
    have df2:FA eV ov':=λl a b c hh a' b' c' ho=>by
     rcases b6 l a' b' c' ho with h1|h1
     .exact df1 l a b c hh _ _ _ h1
     .have:=dlt l a b c hh;omega
    have qf:aD++(ar (names.take (i+1)) aD.length).map (·.1)=aD++(ar (names.take i) aD.length).map (·.1)++[names[i]]:=by rw[sA,cJ,dY];rfl
    have nw:((ar (names.take (i+1)) aD.length).map (·.1)).map V.str=((ar (names.take i) aD.length).map (·.1)).map .str++[.str names[i]]:=by rw[sA,cJ,cJ];rfl
    have Dz:(ai.flat sc++ar (names.take (i+1)) aD.length).map dB=(ai.flat sc++ar (names.take i) aD.length).map dB++[dB (names[i],aD.length+(ar (names.take i) aD.length).length)]:=by rw[sA,<-dY,cJ];rfl
    have c1':=c1;have c3':=c3;unfold gn at c1' c3';have wN:bP (.agg [.str ⟨⟨[]⟩⟩,z0]) [(0,1,.str names[i]),(1,1,af ((aD.length+(ar (names.take i) aD.length).length:Nat):Int))]=some (dB (names[i],aD.length+(ar (names.take i) aD.length).length)):=by simp[bP,aU,dB]
    have hwb:ab U2 (ag w) none=some wb:=by
     have:wb.cells=wb.cells:=rfl;simp[ab,c1']
    push_cast at wN;simp[mA,mB,kG,a1,dK,↓jm,rn,oP,r0,hlb,bR,wN,hfe,b1];refine rV rfl rfl ?_;simp[dK,hwb,qrz,qrA,kG,c2,aI,c3',aU,c4,c5,c6];refine rV rfl rfl ?_;simp[cG i];refine⟨_,?_,_,?_,i+1,eV,ov',F2,D1,rfl,oM,⟨by rw[qf];exact c8,b4.trans c9,by rw[nw];exact qp9.step c9,by rw[Dz];exact b2.step c9,uX.step (b4.trans c9),df2⟩,rfl⟩
    .omega
    .exact ba
  .have:i=names.length:=oM;subst this;simp[↓jm,hlen];exact⟨hv,ov,F1,D1,ei,rfl⟩
 rintro e U ⟨hv,ov,F1,D1,ei,g8⟩;simp[g8];have h1:=ei.out;have h2:=ei.rk;rw[gu]at h1 h2;have qg:(ar names aD.length).map (·.1)=dk names:=by unfold dk;exact HY 0 names [] [] _ _ rfl
 rw[qg]at h2;exact Lo (Rk.pZ r bf bt w fv (aD++dk names) st) rfl h1 h2 ei.st (by rw[<-iO,qmP];rfl)
structure za(r:Rp):Prop where
 le:r.rX.length<=r.to.length
 small:r.to.length<=1000000
def qg5:∀(fs:List Bz) (es:List Ex) (x:Bz),(∀f,f∈fs->f≠x)->tM fs es x=none
 |[],_,_,_=>by simp[tM]
 |f::fs,[],_,_=>by simp[tM]
 |f::fs,e::es,x,h=>by
  rw[tM,au (h f (E5 ..))];exact qg5 fs es x λg hg=>h g (uE _ hg)
def qg6:∀(fs:List Bz) (es:List Ex) (x:Bz) (i:Nat) (hi:i<fs.length) (hj:i<es.length),fs[i]=x->(∀j,(h:j<fs.length)->j<i->fs[j]≠x)->tM fs es x=some es[i]
 |f::fs,e::es,x,0,_,_,h,_=>by rw[tM,ak (by simpa using h)];rfl
 |f::fs,e::es,x,i+1,hi,hj,h,g=>by
  rw[tM,au (by have:=g 0 sM oM;simpa using this)]
  exact qg6 fs es x i (by simpa using hi) (by simpa using hj) (by simpa using h) λj fg rl=>by
   have:=g (j+1) (by simpa using fg) oM;simpa using this
def Rk.qvg{r:Rp}{bf bt:Bool}{w:Nat}{fv:V}{aD:List Bz}{st:cd}{F D:Np}{S:St}(h:Rk r bf bt w fv aD st F D S)(c:Bool):
  ∃U,aI S (eD w 6) 1 (.bool c)=some U/\Rk r bf bt w fv aD { st with oG:=c } F D U/\bJ w F D S F D U:=by
 obtain⟨vb,vf,h1,h2,h3,h4,h5⟩:=h.flag st.bad c;refine⟨_,?_,h4,h5⟩;obtain⟨_,_,hw,g1,g2,_⟩:=h.wx;rw[hw]at h1;unfold gn at hw h1 |-;simp only[Option.some.injEq,Ob.arr.injEq,List.cons.injEq,V.agg.injEq]at h1;obtain⟨⟨⟨rfl,rfl,_⟩,_⟩,_⟩:=h1;simp[aI,hw,aU]
def Rk.YJ{r:Rp}{bf bt:Bool}{w:Nat}{fv:V}{aD:List Bz}{st:cd}{F D:Np}{S:St}(h:Rk r bf bt w fv aD st F D S)(c:Bool):
  ∃U,aI S (eD w 5) 1 (.bool c)=some U/\Rk r bf bt w fv aD { st with bad:=c } F D U/\bJ w F D S F D U:=by
 obtain⟨vb,vf,h1,h2,h3,h4,h5⟩:=h.flag c st.oG;refine⟨_,?_,h4,h5⟩;obtain⟨_,_,hw,g1,g2,_⟩:=h.wx;rw[hw]at h1;unfold gn at hw h1 |-;simp only[Option.some.injEq,Ob.arr.injEq,List.cons.injEq,V.agg.injEq]at h1;obtain⟨⟨⟨rfl,rfl,_⟩,_⟩,_⟩:=h1;simp[aI,hw,aU]
abbrev il:V:=zX
def qez:il.weak=Ex.z.v:=by simp only[il,V.weak,V.cR,Ex.eW];rfl
theorem qey:V.part il 0 (some 7)=some il:=rfl
def Io(y:V)(h:y.size=7)(hf:y.cells.all V.flat=true):V.fZ il 0 7 y=some y:=by unfold il;rw[aU];simp[h,hf]
def BP(r:Rp)(sc:ai)(x:Bz):V:=.aV [.str (match ql r sc x with|some _=>x|none=>dX r sc x),(match ql r sc x with|some e=>e.v|none=>Ex.z.v),.bool (ql r sc x).isSome]
def uM(e:Ex)(sc:ai)(k:Nat):Bool:=decide (e.kind=6)&&((ai.flat sc).take k).any λp=>decide (p.1=e.text)
def qnf(e:Ex)(sc:ai):uM e sc 0=false:=by simp[uM]
def qne(e:Ex)(sc:ai)(k:Nat)(h:k<(ai.flat sc).length):uM e sc (k+1)=(uM e sc k||(decide (e.kind=6)&&decide ((ai.flat sc)[k].1=e.text))):=by
 unfold uM;rw[dN,bX h,iP,EX];simp only[List.any_cons,List.any_nil,ni];cases decide (e.kind=6)<;>simp
def qnd(e:Ex)(sc:ai):uM e sc (ai.flat sc).length=(decide (e.kind=6)&&(ai.flat sc).any λp=>decide (p.1=e.text)):=by
 unfold uM;rw[gu]
def qkk(r:Rp)(ho:za r)(bf bt:Bool)(w:Nat)(fv:V)(aD:List Bz)(st:cd)(F D:Np)(S:St)(hk:Rk r bf bt w fv aD st F D S)(b:Bool)(sc:ai)(hd:uI sc)(hl:(ai.flat sc).length<=1000000)(x:Bz)(qd:st.free.length<=1000000):
  aA prog 143 [ag w,.sl b ((ai.flat sc).map dB),.str x] S (λv U=>nn w (Rk r bf bt w fv aD (oS r sc x st)) F D S (BP r sc x) v U):=by
 refine aA.ib qaN ?_;obtain⟨S1,bB⟩:=eX (α:=St) (S++[.arr [il] 7 1]);have fm:=Rk.pZ r bf bt w fv aD st;have k1:Rk r bf bt w fv aD st F D S1:=by rw[bB];exact fm.push hk _
 have s1:bJ w F D S F D S1:=by rw[bB];exact(bJ.refl _ _ _ _).push _
 have b1:S1[S.length]?=aJ [il] 7:=by rw[bB];simp
 have o1:gy w F D S.length:=fm.out hk cz;have fin:∀(bc:cd) (F' D':Np) (U:St) (y:Bz) (ev:V) (z:Ex) (is:Bool) (e:ae),Rk r bf bt w fv aD bc F' D' U->bJ w F D S F' D' U->U[S.length]?=aJ [il] 7->gy w F' D' S.length->ev.weak=z.v->
   V.part ev 0 (some 7)=some ev->e.get 6=some (.str y)->e.get 7=some (ag S.length)->e.get 8=some (.bool is)->
   eN [.t 6,.cell 7 (some 7),.t 8] S.length (λv U=>nn w (Rk r bf bt w fv aD bc) F D S (.aV [.str y,z.v,.bool is]) v U) .ret e (U.set S.length (.arr [ev] 7 1)):=λbc F' D' U y ev z is e cI kJ hb fC hw hp g6 g7 g8=>by
  have mP:(U.set S.length (.arr [ev] 7 1))[S.length]?=aJ [ev] 7:=bO (aR hb);refine⟨[.str y,ev,.bool is],by simp[eL,g6,g7,g8,ab,mP,hp],_,_,dJ.weak,?_,F',D',(Rk.pZ r bf bt w fv aD bc).set cI _ fC,kJ.set _ cz⟩;simp only[aY,V.weak,V.cR,hw]
 have A8:oS r sc x st=match sc.at x with
  |some _=>st
  | none=>{ free:=st.free++[x],bad:=st.bad,oG:=st.oG || (match mt r x with
   |some e=>decide (e.kind=6)&&(ai.flat sc).any λp=>decide (p.1=e.text)
   |none=>false) }:=rfl
 have Gm:ql r sc x=match sc.at x with
  |some _=>none
  |none=>mt r x:=rfl
 have M7:dX r sc x=match sc.at x with
  |some k=>(r.fresh[k]?).getD x
  |none=>x:=rfl
 simp[qaN];show J0 _ _ _ (S++[.arr [il] 7 1]) _;rw[<-bB];refine aZ (qkr _ b x hl S1) ?_;unfold N1;rw[VT sc x hd]
 cases jY:sc.at x with
 |some k=>
  rw[jY]at A8 Gm;simp only at A8 Gm;have hu:BP r sc x=.aV [.str (dX r sc x),Ex.z.v,.bool false]:=by unfold BP;rw[Gm];rfl
  rw[A8,hu];have yi:(0:Int)<=k:=oM;simp[yi];refine aZ (SZ r bf bt w fv aD st F D S1 k1 b sc hd hl x) ?_;have wN:bP il []=some il:=rfl;unfold il at wN;simp[bR,wN];have bg:aI S1 (ag S.length) 7 il=some (S1.set S.length (.arr [il] 7 1)):=by simp[aI,b1,Io il rfl rfl]
  unfold il at bg;simp[bg];exact fin st F D S1 (dX r sc x) il Ex.z false _ k1 s1 b1 o1 qez qey rfl rfl rfl
 |none=>
  rw[jY]at A8 Gm M7;simp only at A8 Gm M7;obtain⟨vb,vf,sW,U1,F1,a1,a2,a3,a4,a5,a6,k2,s2⟩:=k1.qmc x oM true;have kG:fits 1 [V.str x]=true:=rfl;obtain⟨U2,dG⟩:=eX (U1.set w (gn r bf bt fv vb sW st));rw[<-dG]at k2 s2;have W4:ab S1 (eD w 1) none=some vf:=by unfold gn at a1;simp[ab,a1]
  have bg:aI U1 (eD w 1) 1 sW=some U2:=by
   rw[dG];unfold gn at a3 |-;simp[aI,a3,aU,a4,a5,a6]
  have s3:=s1.trans s2;have b2:=s2.at o1 b1;have o2:=o1.next (aR b1) s2;simp[dK,W4,kG,a2,bg];refine eA (λe U=>mt r x=none/\U=U2/\e.get 0=some (ag w)/\e.get 2=some (.str x)/\e.get 7=some (ag S.length)) ?_ ?_
  ·refine cE (λj e U=>∃i:Nat,j=r.rX.length - i∧i≤r.rX.length∧(∀j,(h:j<r.rX.length)→j<i→r.rX[j]≠x)∧U=U2∧
    e=[(9,af i),(0,ag w),(1,.sl b ((ai.flat sc).map dB)),(2,.str x),(7,ag S.length)]) r.rX.length _ ?_ ⟨0,sM,oM,oM,rfl,rfl⟩ ?_
   .exact ba
   rintro j e U ⟨i,rfl,hi,cB,rfl,rfl⟩;obtain⟨_,_,r0,r1,r2,r3,r4,r5,r6⟩:=Eo k2;by_cases aB:i<r.rX.length
   .have iq:=oR aB bf U;by_cases IX:r.rX[i]=x
    .have hj:i<r.to.length:=by have:=ho.le;omega
     have I6:mt r x=some r.to[i]:=qg6 r.rX r.to x i aB hj IX cB;have hu:BP r sc x=.aV [.str x,r.to[i].v,.bool true]:=by unfold BP;rw[Gm,I6];rfl
     rw[hu,A8,I6];rw[IX]at iq;simp[dK,r3,aB,iq];obtain⟨y,hy⟩:=eX (r.to[i]);rw[<-hy];refine eA (λe U=>∃F' D',Rk r bf bt w fv aD { free:=st.free++[x],bad:=st.bad,oG:=st.oG||uM y sc (ai.flat sc).length } F' D' U/\bJ w F D S F' D' U/\U[S.length]?=aJ [il] 7/\gy w F' D' S.length/\e.get 0=some (ag w)/\e.get 2=some (.str x)/\e.get 7=some (ag S.length)/\e.get 9=some (af i)) ?_ ?_
     ·refine cE (λj e U=>∃(k:Nat) (F' D':Np),j=(ai.flat sc).length - k∧k≤(ai.flat sc).length∧Rk r bf bt w fv aD { free:=st.free++[x],bad:=st.bad,oG:=st.oG || uM y sc k } F' D' U∧bJ w F D S F' D' U∧U[S.length]?=aJ [il] 7∧gy w F' D' S.length∧
       e=[(10,af k),(9,af i),(0,ag w),(1,.sl b ((ai.flat sc).map dB)),(2,.str x),(7,ag S.length)]) (ai.flat sc).length _ ?_ ⟨0,F1,D,sM,oM,by rw[qnf,ni];exact k2,s3,b2,o2,rfl⟩ ?_
      .exact ba
      rintro j e U ⟨k,F3,D3,rfl,cI,kU,sU,bU,oU,rfl⟩;obtain⟨_,_,q0,q1,q2,q3,q4,q5,q6⟩:=Eo kU;by_cases wU:k<(ai.flat sc).length
      .have hib:=XK wU b U;have tu:=qJ hj bt U;rw[<-hy]at tu;obtain⟨U4,p1,p2,p3⟩:=kU.qvg (st.oG||uM y sc (k+1));have wO:=qne y sc k wU;have WC:V.part (dB (ai.flat sc)[k]) 0 none=some (.str (ai.flat sc)[k].1):=rfl;have UK:=p3.at oU bU;have Yx:=oU.next (aR bU) p3;simp only at q6
       cases hc:(st.oG||uM y sc k) with
       |true=>
        have lI:(st.oG||uM y sc (k+1))=true:=by rw[wO,<-nh,hc,Bool.true_or]
        rw[hc]at q6;rw[lI]at p1;simp[wU,dK,q6,p1];refine rV rfl rfl ?_;simp[cG k];refine⟨_,?_,_,?_,k+1,rfl,oM,F3,D3,p2,sU.trans p3,UK,Yx,rfl⟩
        .omega
        .exact ba
       |false=>
        rw[hc]at q6;have lI:(st.oG||uM y sc (k+1))=(decide (y.kind=6)&&decide ((ai.flat sc)[k].1=y.text)):=by rw[wO,<-nh,hc,Kr]
        rw[lI]at p1;by_cases h6:y.kind=6
        .simp[h6]at p1;simp[wU,dK,q6,q4,tu,hib,WC,h6,p1];refine rV rfl rfl ?_;simp[cG k];refine⟨_,?_,_,?_,k+1,rfl,oM,F3,D3,p2,sU.trans p3,UK,Yx,rfl⟩
         .omega
         .exact ba
        .simp[h6]at p1;simp[wU,dK,q6,q4,tu,h6,p1];refine rV rfl rfl ?_;simp[cG k];refine⟨_,?_,_,?_,k+1,rfl,oM,F3,D3,p2,sU.trans p3,UK,Yx,rfl⟩
         .omega
         .exact ba
      .have:k=(ai.flat sc).length:=oM;subst this;simp;exact⟨F3,D3,kU,sU,bU,oU⟩
     rintro e U ⟨F3,D3,kU,sU,bU,oU,g0,g2,g7,g9⟩;obtain⟨_,_,q0,q1,q2,q3,q4,q5,q6⟩:=Eo kU;have tu:=qJ hj bt U;rw[<-hy]at tu;have vi:aI U (ag S.length) 7 y.v=some (U.set S.length (.arr [y.v] 7 1)):=by simp[aI,bU,Io y.v (Ex.iF y) sM]
     simp[g0,g2,g7,g9,dK,q4,tu,vi];refine rV rfl rfl ?_;rw[qnd]at kU;simp;exact fin _ F3 D3 U x y.v y true _ kU sU bU oU (Ex.jq y) (Sj y) rfl g7 rfl
    .simp[dK,r3,aB,iq,IX,fO (n:=(i:Int)+1) (by have:=ho.le;have:=ho.small;omega) (by have:=ho.le;have:=ho.small;omega)];refine⟨_,?_,_,?_,i+1,rfl,oM,λj hj rl=>?_,rfl⟩
     .omega
     .exact ba
     .by_cases fg:j=i
      .subst fg;exact IX
      .exact cB j hj oM
   .simp[dK,r3,aB];refine qg5 _ _ _ λf hf=>?_
    obtain⟨j,hj,rfl⟩:=xF hf;exact cB j hj oM
  rintro e U ⟨I6,rfl,g0,g2,g7⟩;have hu:BP r sc x=.aV [.str x,Ex.z.v,.bool false]:=by unfold BP;rw[Gm,I6,M7];rfl
  rw[I6]at A8;simp only[ni]at A8;rw[hu,A8];have wN:bP il []=some il:=rfl;have vi:aI U (ag S.length) 7 il=some (U.set S.length (.arr [il] 7 1)):=by simp[aI,b2,Io il rfl rfl]
  unfold il at wN vi;simp[g2,g7,bR,wN,vi];exact fin _ F1 D U x il Ex.z false _ k2 s3 b2 o2 qez qey rfl g7 rfl
def qjP(r:Rp)(sc:ai)(x:Bz)(st:cd):(oS r sc x st).free.length<=st.free.length+1:=by
 unfold oS;cases sc.at x<;>simp
def SH(r:Rp)(sc:ai)(x:Bz)(st:cd):(oh r sc x st).free.length<=st.free.length+1:=qjP r sc x st
def JR{α:Type}(f:α->Pa)(l:List α)(i:Nat)(h:i<l.length):bk ((l.take i).map f)+(f l[i]).size<=bk (l.map f):=by
 have h1:=qY i l;rw[xE h]at h1;have h2:=mn (λm=>bk (m.map f)) h1;simp only[cJ,cQ,vD,iN]at h2;omega
mutual
theorem Ex.BA(r:Rp)(sc:ai):∀(x:Ex) (st:cd),(x.rs r sc st).free.length<=st.free.length+(Pa.ex x).size
 |.mk k o n m e t a,st=>by
  have bF:(Pa.ex (.mk k o n m e t a)).size=1+bk (a.map Pa.ex):=by rw[Pa.size_eq];rfl
  rw[Ex.rs];split
  .have:=qjP r sc t st;omega
  .have h1:=Ex.mc r sc a (if k=7\/k=8 then oh r sc t st else st)
   have h2:(if k=7\/k=8 then oh r sc t st else st).free.length<=st.free.length+1:=by
    split
    .exact SH r sc t st
    .omega
   omega
theorem Ex.mc(r:Rp)(sc:ai):∀(l:List Ex) (st:cd),(Ex.bC r sc st l).free.length<=st.free.length+bk (l.map Pa.ex)
 |[],st=>by simp[Ex.bC]
 |x::l,st=>by
  have h1:=Ex.BA r sc x st;have h2:=Ex.mc r sc l (x.rs r sc st);simp only[Ex.bC,cQ,iN];omega
end
def qkl(r:Rp)(ho:za r)(bf bt:Bool)(w:Nat)(fv:V)(aD:List Bz)(st:cd)(F D:Np)(S:St)(hk:Rk r bf bt w fv aD st F D S)(b:Bool)(sc:ai)(hd:uI sc)(hl:(ai.flat sc).length<=1000000)(x:Bz)(qd:st.free.length<=1000000):
  aA prog 144 [ag w,.sl b ((ai.flat sc).map dB),.str x] S (λv U=>nn w (Rk r bf bt w fv aD (oh r sc x st)) F D S (.str (qm r sc x)) v U):=by
 refine aA.ib qaO ?_;have hS:oh r sc x st={ oS r sc x st with bad:=(oS r sc x st).bad||(match ql r sc x with|some e=>!decide (e.kind=6)|none=>false) }:=rfl;have hT:qm r sc x=match ql r sc x with|some e=>if e.kind=6 then e.text else x|none=>dX r sc x:=rfl
 rw[hS,hT];simp[qaO];refine bE (qkk r ho bf bt w fv aD st F D S hk b sc hd hl x qd) ?_;rintro v U ⟨rfl,F1,D1,k1,s1⟩;generalize oS r sc x st=fw at k1 |-;unfold BP
 cases hm:ql r sc x with
 |some e=>
  obtain⟨U2,dG⟩:=eX (U++[.arr [e.v] 7 1]);have k2:Rk r bf bt w fv aD fw F1 D1 U2:=by rw[dG];exact(Rk.pZ _ _ _ _ _ _ _).push k1 _
  have s2:bJ w F D S F1 D1 U2:=by rw[dG];exact s1.push _
  have c2:U2[U.length]?=aJ [e.v] 7:=by rw[dG];simp
  simp[aL,bI,aI,aU];rw[<-dG];by_cases h6:e.kind=6
  .simp[ab,c2,h6];exact bu rfl ⟨rfl,F1,D1,k2,s2⟩
  .obtain⟨_,_,q0,q1,q2,q3,q4,q5,q6⟩:=Eo k2;obtain⟨U3,p1,p2,p3⟩:=k2.YJ true;have h0:ab U2 (ag U.length) none=some (af e.kind):=by simp[ab,c2]
   have hb:(fw.bad||!decide (e.kind=6))=true:=by simp[h6]
   rw[hb]
   cases L6:fw.bad with
   |true=>
    rw[L6]at q5;simp[h0,h6,dK,q5,p1];exact bu rfl ⟨rfl,F1,D1,p2,s2.trans p3⟩
   |false=>
    rw[L6]at q5;simp[h0,h6,dK,q5,p1];exact bu rfl ⟨rfl,F1,D1,p2,s2.trans p3⟩
 |none=>
  obtain⟨U2,dG⟩:=eX (U++[.arr [Ex.z.v] 7 1]);have k2:Rk r bf bt w fv aD fw F1 D1 U2:=by rw[dG];exact(Rk.pZ _ _ _ _ _ _ _).push k1 _
  have s2:bJ w F D S F1 D1 U2:=by rw[dG];exact s1.push _
  simp[aL,bI,aI,aU];rw[<-dG];obtain⟨_,_,q0,q1,q2,q3,q4,q5,q6⟩:=Eo k2;obtain⟨U3,p1,p2,p3⟩:=k2.YJ fw.bad
  cases L6:fw.bad with
  |true=>
   rw[L6]at q5 p1 p2;simp[dK,q5,p1];exact bu rfl ⟨rfl,F1,D1,p2,s2.trans p3⟩
  |false=>
   rw[L6]at q5 p1 p2;simp[dK,q5,p1];exact bu rfl ⟨rfl,F1,D1,p2,s2.trans p3⟩
def Ua(r:Rp)(bf bt:Bool)(w:Nat)(fv:V)(x:Ex):Prop:=∀(aD:List Bz) (st:cd) (F D:Np) (S:St) (b:Bool) (sc:ai),Rk r bf bt w fv aD st F D S->uI sc->(ai.flat sc).length<=1000000->st.free.length+(Pa.ex x).size<=1000000->
 aA prog 92 [ag w,x.v,.sl b ((ai.flat sc).map dB)] S (λv U=>nn w (Rk r bf bt w fv aD (x.rs r sc st)) F D S (x.rw r sc).v v U)
def qkm(r:Rp)(bf bt:Bool)(w:Nat)(fv:V)(l:List Ex)(H:∀x,x∈l->Ua r bf bt w fv x)(hl:l.length<=4000)(aD:List Bz)(st:cd)(F D:Np)(S:St)(bl b:Bool)(sc:ai)(hk:Rk r bf bt w fv aD st F D S)(hd:uI sc)(hf:(ai.flat sc).length<=1000000)(hs:st.free.length+bk (l.map Pa.ex)<=1000000):
  aA prog 145 [ag w,.sl bl (l.map Ex.v),.sl b ((ai.flat sc).map dB)] S (λv U=>nn w (Rk r bf bt w fv aD (Ex.bC r sc st l)) F D S (ah ((Ex.b9 r sc l).map Ex.v)) v U):=by
 refine aA.ib qaP ?_;simp[qaP];refine eA (PH w 7 F D S (Rk r bf bt w fv aD (Ex.bC r sc st l)) 7 ((Ex.b9 r sc l).map Ex.v)) ?_ ?_
 ·refine cE (Pv w 7 F D S l.length (λi=>Rk r bf bt w fv aD (Ex.bC r sc st (l.take i))) (λi=>(Ex.b9 r sc (l.take i)).map Ex.v)
   (λi gv=>[(8,af i),(7,gv),(0,ag w),(1,.sl bl (l.map Ex.v)),(2,.sl b ((ai.flat sc).map dB))])) l.length _ ?_ ⟨0,_,F,D,sM,oM,Gw.nil _ _ _ _ _ _,hk,bJ.refl _ _ _ _,rfl⟩ ?_
  .exact ba
  rintro j e U ⟨i,gv,F1,D1,rfl,hi,hg,bW,bw,rfl⟩;dsimp only at hg bW;by_cases aB:i<l.length
  .have bg:=JR Pa.ex l i aB;have Gl:=Ex.mc r sc (l.take i) st;simp[aB,qJ];refine bE (H l[i] (dz aB) aD _ F1 D1 U b sc bW hd hf oM) ?_;rintro v U2 ⟨rfl,F2,D2,eU,iU⟩;have iz:=hg.step iU;have lN:=bw.trans iU;obtain⟨v',U3,ha,gz,gK,lO,_⟩:=iz.xQ (Rk.pZ r bf bt w fv aD _) (bytes:=80) (b:=true) eU lN (Ex.kj (l[i].rw r sc)) (by rw[bQ,Ex.Oi,bQ,qz];omega)
   have hn:(Ex.b9 r sc (l.take i)).map Ex.v++[(l[i].rw r sc).v]=(Ex.b9 r sc (l.take (i+1))).map Ex.v:=by
    rw[Ex.Oi,Ex.Oi,dN,bX aB,iP,cJ,cJ];rfl
   have nw:Ex.rs r sc (Ex.bC r sc st (l.take i)) l[i]=Ex.bC r sc st (l.take (i+1)):=by
    rw[dN,bX aB,iP,Ex.zT];rfl
   rw[hn]at gz;rw[nw]at gK;simp[Ex.kj,ha,cG i];refine⟨_,?_,_,?_,i+1,v',F2,D2,rfl,oM,gz,gK,lO,rfl⟩
   .omega
   .exact ba
  .have:i=l.length:=oM;subst this;simp only[gu]at hg bW;simp;exact⟨gv,F1,D1,rfl,hg,bW,bw⟩
 rintro e U ⟨gv,F1,D1,g9,hg,bW,bw⟩;simp[g9];exact Lo (Rk.pZ _ _ _ _ _ _ _) rfl hg bW bw (by rw[<-iO,oq])
def Ex.Of(r:Rp)(sc:ai)(st:cd)(x:Ex):x.rs r sc st=if x.kind=6 then oS r sc x.text st else Ex.bC r sc (if x.kind=7\/x.kind=8 then oh r sc x.text st else st) x.args:=by cases x;rw[Ex.rs];rfl
def Ex.Og(r:Rp)(sc:ai)(x:Ex):x.rw r sc=if x.kind=6 then (match ql r sc x.text with
  |some y=>y
  |none=>.mk 6 0 0 0 0 (dX r sc x.text) [])
 else .mk x.kind x.op x.n x.dQ x.exp (if x.kind=7\/x.kind=8 then qm r sc x.text else x.text) (Ex.b9 r sc x.args):=by cases x;rw[Ex.rw];rfl
def Ea(t:Bz):V:=.agg [af 6,z0,z0,z0,z0,.str t,sN]
def qtz(t:Bz):bP il [(0,1,af 6),(5,1,.str t)]=some (Ea t):=by
 unfold Ea;simp[bP,aU]
def qtA(t:Bz):(Ea t).weak=(Ex.mk 6 0 0 0 0 t []).v:=by
 simp only[Ea,V.weak,V.cR,Ex.eW];rfl
def ZE(r:Rp)(ho:za r)(bf bt:Bool)(w:Nat)(fv:V):∀(m:Nat) (x:Ex),(Pa.ex x).size<=m->m<=4000->Ua r bf bt w fv x
 |0,x,hx,_=>by have:=(Pa.ex x).size_pos;omega
 |m+1,x,hx,hm=>by
  intro aD st F D S b sc hk hd hf jw;have bF:(Pa.ex x).size=1+bk (x.args.map Pa.ex):=by rw[Pa.size_eq];rfl
  have hl:x.args.length<=4000:=by have:=oi (x.args.map Pa.ex);rw[bQ]at this;omega
  have IH:∀y,y∈x.args→Ua r bf bt w fv y:=λy hy=>ZE r ho bf bt w fv m y (by
   obtain⟨i,hi⟩:=oY (pS (f:=Pa.ex) hy);have:=nc hi;omega) oM
  refine aA.ib C92 ?_;obtain⟨S1,bB⟩:=eX (α:=St) (S++[.arr [x.v] 7 1,.arr [il] 7 1]);have b0:S1[S.length]?=aJ [x.v] 7:=by rw[bB,cx oM];simp
  have b1:S1[S.length+1]?=aJ [il] 7:=by rw[bB,cx oM];simp
  have l1:S1.length=S.length+2:=by rw[bB];simp
  have fm:=λbo s=>Rk.pZ r bf bt w fv bo s
  have k1:Rk r bf bt w fv aD st F D S1:=by rw[bB];exact(fm _ _).push hk _
  have s1:bJ w F D S F D S1:=by rw[bB];exact(bJ.refl _ _ _ _).push _
  have o0:gy w F D S.length:=(fm _ _).out hk cz;have o1:gy w F D (S.length+1):=(fm _ _).out hk oM;have h0:ab S1 (ag S.length) none=some (af x.kind):=by simp[ab,b0]
  have h5:ab S1 (eD S.length 5) none=some (.str x.text):=by simp[ab,b0]
  rw[Ex.Of,Ex.Og];have fin:∀(bc:cd) (F' D':Np) (U:St) (z:Ex) (o:V) (e:ae),Rk r bf bt w fv aD bc F' D' U->bJ w F D S F' D' U->U[S.length+1]?=aJ [il] 7->gy w F' D' (S.length+1)->o.weak=z.v->V.part o 0 (some 7)=some o->e.get 6=some (ag (S.length+1))->
    eN [.cell 6 (some 7)] S.length (λv U=>nn w (Rk r bf bt w fv aD bc) F D S z.v v U) .ret e (U.set (S.length+1) (.arr [o] 7 1)):=λbc F' D' U z o e cI kJ hb fC hw hp g6=>by
   have mP:(U.set (S.length+1) (.arr [o] 7 1))[S.length+1]?=aJ [o] 7:=bO (aR hb);refine⟨[o],by simp[eL,g6,ab,mP,hp],_,_,dJ.weak,?_,F',D',(fm _ _).set cI _ fC,kJ.set _ oM⟩;simp only[aY,hw]
  simp[C92,aL];rw[<-bB];by_cases h6:x.kind=6
  .rw[ak h6,ak h6];simp[h0,h5,h6];refine bE (qkk r ho bf bt w fv aD st F D S1 k1 b sc hd hf x.text oM) ?_;rintro v U ⟨rfl,F1,D1,k2,s2⟩;have c1:=s2.at o1 b1;have p1:=o1.next (aR b1) s2;have s2':=s1.trans s2;unfold BP
   cases I6:ql r sc x.text with
   |some y=>
    obtain⟨U2,dG⟩:=eX (U++[.arr [y.v] 7 1]);have k3:=(fm _ _).push k2 [.arr [y.v] 7 1];have s3:=s2'.push [.arr [y.v] 7 1];have d1:U2[S.length+1]?=aJ [il] 7:=by rw[dG];exact gp c1
    have c2:U2[U.length]?=aJ [y.v] 7:=by rw[dG];simp
    rw[<-dG]at k3 s3;have bg:aI U2 (ag (S.length+1)) 7 y.v=some (U2.set (S.length+1) (.arr [y.v] 7 1)):=by simp[aI,d1,Io y.v (Ex.iF y) sM]
    have MP:ab U2 (ag U.length) (some 7)=some y.v:=by simp[ab,c2]
    simp[aL,bI,aI,aU];rw[<-dG];simp[MP,bg];exact fin _ F1 D1 U2 y y.v _ k3 s3 d1 p1 (Ex.jq y) (Sj y) rfl
   |none=>
    obtain⟨U2,dG⟩:=eX (U++[.arr [Ex.z.v] 7 1]);have k3:=(fm _ _).push k2 [.arr [Ex.z.v] 7 1];have s3:=s2'.push [.arr [Ex.z.v] 7 1];have d1:U2[S.length+1]?=aJ [il] 7:=by rw[dG];exact gp c1
    rw[<-dG]at k3 s3;have wN:=qtz (dX r sc x.text);have bg:aI U2 (ag (S.length+1)) 7 (Ea (dX r sc x.text))=some (U2.set (S.length+1) (.arr [Ea (dX r sc x.text)] 7 1)):=by simp[aI,d1,Io (Ea (dX r sc x.text)) rfl rfl]
    simp[aL,bI,aI,aU];rw[<-dG];simp[bR,wN];simp[bg];exact fin _ F1 D1 U2 _ (Ea (dX r sc x.text)) _ k3 s3 d1 p1 (qtA _) rfl rfl
  .rw[au h6,au h6];obtain⟨S2,lD⟩:=eX (α:=St) (S1++[.arr [x.v] 7 1]);have k2:Rk r bf bt w fv aD st F D S2:=by rw[lD];exact(fm _ _).push k1 _
   have s2:bJ w F D S F D S2:=by rw[lD];exact s1.push _
   have d0:S2[S.length]?=aJ [x.v] 7:=by rw[lD];exact gp b0
   have d1:S2[S.length+1]?=aJ [il] 7:=by rw[lD];exact gp b1
   have d2:S2[S.length+2]?=aJ [x.v] 7:=by rw[lD,cx oM];simp[l1]
   have o2:gy w F D (S.length+2):=(fm _ _).out hk oM;have MP:ab S1 (ag S.length) (some 7)=some x.v:=by simp[ab,b0]
   have rest:∀(bc:cd) (F' D':Np) (U:St) (y:Ex),y.kind=x.kind->y.op=x.op->y.n=x.n->y.dQ=x.dQ->y.exp=x.exp->bc.free.length<=st.free.length+1->Rk r bf bt w fv aD bc F' D' U->bJ w F D S F' D' U->U[S.length+1]?=aJ [il] 7->U[S.length+2]?=aJ [y.v] 7->
     gy w F' D' (S.length+1)→gy w F' D' (S.length+2)→∀(Φ:V→St→Prop),(∀(U2 U3 U4:St) (z:Ex),aI U2 (eD (S.length+2) 6) 1 (ah ((Ex.b9 r sc x.args).map Ex.v))=some U3→ab U3 (ag (S.length+2)) (some 7)=some z.v→aI U3 (ag (S.length+1)) 7 z.v=some U4→
      (∀e:ae,e.get 6=some (ag (S.length+1))->eN [.cell 6 (some 7)] S.length (λv U=>nn w (Rk r bf bt w fv aD (Ex.bC r sc bc x.args)) F D S (Ex.mk x.kind x.op x.n x.dQ x.exp y.text (Ex.b9 r sc x.args)).v v U) .ret e U4)->Φ (ah ((Ex.b9 r sc x.args).map Ex.v)) U2)->
     J0 prog 145 [ag w,ah (x.args.map Ex.v),.sl b ((ai.flat sc).map dB)] U Φ:=by
    intro bc F' D' U y y1 y2 y3 y4 y5 qfo kU sU e1 e2 Sl N2 Φ hΦ;refine bE (qkm r bf bt w fv x.args IH hl aD bc F' D' U false b sc kU hd hf oM) ?_;rintro v U2 ⟨rfl,F2,D2,k3,s3⟩;have f1:=s3.at Sl e1;have f2:=s3.at N2 e2;have quw:=Sl.next (aR e1) s3;have quy:=N2.next (aR e2) s3;obtain⟨z,hz⟩:=eX (α:=Ex) (.mk x.kind x.op x.n x.dQ x.exp y.text (Ex.b9 r sc x.args))
    have bg:aI U2 (eD (S.length+2) 6) 1 (ah ((Ex.b9 r sc x.args).map Ex.v))=some (U2.set (S.length+2) (.arr [z.v] 7 1)):=by
     simp[aI,f2,yP,aU,y1,y2,y3,y4,y5,hz];rw[Ex.eW];rfl
    have WZ:ab (U2.set (S.length+2) (.arr [z.v] 7 1)) (ag (S.length+2)) (some 7)=some z.v:=by
     have:(U2.set (S.length+2) (.arr [z.v] 7 1))[S.length+2]?=aJ [z.v] 7:=bO (aR f2);simp[ab,this]
    have e1':(U2.set (S.length+2) (.arr [z.v] 7 1))[S.length+1]?=aJ [il] 7:=by rw[bG oM];exact f1
    have vi:aI (U2.set (S.length+2) (.arr [z.v] 7 1)) (ag (S.length+1)) 7 z.v=some ((U2.set (S.length+2) (.arr [z.v] 7 1)).set (S.length+1) (.arr [z.v] 7 1)):=by simp[aI,e1',Io z.v (Ex.iF z) sM]
    refine hΦ _ _ _ z bg WZ vi λe g6=>?_
    rw[<-hz];exact fin _ F2 D2 _ z z.v _ ((fm _ _).set k3 _ quy) ((sU.trans s3).set _ oM) e1' quw (Ex.jq z) (Sj z) g6
   simp[h0,h6,MP,aL,bI,aI,aU];rw[<-lD];have Df:ab S2 (ag S.length) none=some (af x.kind):=by simp[ab,d0]
   have IJ:ab S2 (eD S.length 5) none=some (.str x.text):=by simp[ab,d0]
   have V8:ab S2 (eD S.length 6) none=some (ah (x.args.map Ex.v)):=by simp[ab,d0]
   by_cases kn:x.kind=7\/x.kind=8
   .rw[ak kn,ak kn];have q:=qkl r ho bf bt w fv aD st F D S2 k2 b sc hd hf x.text oM
    have hc:decide (x.kind=7)=true\/(decide (x.kind=7)=false/\decide (x.kind=8)=true):=by
     by_cases h7:x.kind=7
     .exact .inl (by simp[h7])
     .exact .inr ⟨by simp[h7],by simp[kn.resolve_left h7]⟩
    rcases hc with hc|⟨hc,ri⟩
    all_goals
     simp only[dT,decide_eq_false_iff_not]at hc
     try simp only[dT]at ri
     first
      |simp[Df,IJ,hc,ri,l1]
      |simp[Df,IJ,hc,l1]
     refine bE q ?_
     rintro v U ⟨rfl,F1,D1,k3,s3⟩
     have e0:=s3.at o0 d0
     have e1:=s3.at o1 d1
     have e2:=s3.at o2 d2
     have po0:=o0.next (aR d0) s3
     have Sl:=o1.next (aR d1) s3
     have N2:=o2.next (aR d2) s3
     obtain⟨y,hy⟩:=eX (α:=Ex) (.mk x.kind x.op x.n x.dQ x.exp (qm r sc x.text) x.args)
     have bg:aI U (eD (S.length+2) 5) 1 (.str (qm r sc x.text))=some (U.set (S.length+2) (.arr [y.v] 7 1)):=by
      simp[aI,e2,yP,aU,hy];rw[Ex.eW];rfl
     have e0':(U.set (S.length+2) (.arr [y.v] 7 1))[S.length]?=aJ [x.v] 7:=by rw[bG oM];exact e0
     have e1':(U.set (S.length+2) (.arr [y.v] 7 1))[S.length+1]?=aJ [il] 7:=by rw[bG oM];exact e1
     have e2':(U.set (S.length+2) (.arr [y.v] 7 1))[S.length+2]?=aJ [y.v] 7:=bO (aR e2)
     have k4:=(fm _ _).set k3 (.arr [y.v] 7 1) N2
     have s4:=(s2.trans s3).set (l:=S.length+2) (.arr [y.v] 7 1) oM
     have ha:ab (U.set (S.length+2) (.arr [y.v] 7 1)) (eD S.length 6) none=some (ah (x.args.map Ex.v)):=by simp[ab,e0']
     simp[bg,ha]
     have hr:=SH r sc x.text st
     refine rest _ F1 D1 _ y (by rw[hy];rfl) (by rw[hy];rfl) (by rw[hy];rfl) (by rw[hy];rfl) (by rw[hy];rfl) hr k4 s4 e1' e2' Sl N2 _ ?_
     intro U2 U3 U4 z a1 a2 a3 a4
     have hyt:y.text=qm r sc x.text:=by rw[hy];rfl
     rw[hyt]at a4
     simp[a1,a2,a3]
     first
      |exact a4 _ rfl
      |(simp only[ri]at a4;exact a4 _ rfl)
      |(simp only[hc]at a4;exact a4 _ rfl)
   .rw[au kn,au kn];have h7:x.kind≠7:=λhh=>kn (.inl hh)
    have h8:x.kind≠8:=λhh=>kn (.inr hh)
    simp[Df,h7,h8,V8];refine rest st F D S2 x rfl rfl rfl rfl rfl oM k2 s2 d1 d2 o1 o2 _ ?_;intro U2 U3 U4 z a1 a2 a3 a4;simp[l1,a1,a2,a3];exact a4 _ rfl
def qyO(l:List Ex)(i:Nat)(h:i<l.length):qo (l.take (i+1))=(qo (l.take i)||(decide (l[i].kind≠6)&&decide (l[i].kind≠7))):=by
 unfold qo;rw[dN,bX h,iP,EX];simp
def Ov(r:Rp)(ho:za r)(bf bt:Bool)(w:Nat)(fv:V)(l:List Ex)(hl:bk (l.map Pa.ex)<=4000)(aD:List Bz)(st:cd)(F D:Np)(S:St)(bl b:Bool)(sc:ai)(hk:Rk r bf bt w fv aD st F D S)(hd:uI sc)(hf:(ai.flat sc).length<=1000000)(hs:st.free.length+bk (l.map Pa.ex)<=1000000):
  aA prog 145 [ag w,.sl bl (l.map Ex.v),.sl b ((ai.flat sc).map dB)] S (λv U=>nn w (Rk r bf bt w fv aD (Ex.bC r sc st l)) F D S (ah ((Ex.b9 r sc l).map Ex.v)) v U):=
 qkm r bf bt w fv l (λx hx=>ZE r ho bf bt w fv 4000 x (by
  obtain⟨i,hi⟩:=oY (pS (f:=Pa.ex) hx);have:=nc hi;omega) cz) (by have:=oi (l.map Pa.ex);rw[bQ]at this;omega) aD st F D S bl b sc hk hd hf hs
def qxM(r:Rp)(ho:za r)(bf bt:Bool)(w:Nat)(fv:V)(l:List Ex)(hl:bk (l.map Pa.ex)<=4000)(aD:List Bz)(st:cd)(F D:Np)(S:St)(bl b:Bool)(sc:ai)(hk:Rk r bf bt w fv aD st F D S)(hd:uI sc)(hf:(ai.flat sc).length<=1000000)(hs:st.free.length+bk (l.map Pa.ex)<=1000000):
  aA prog 231 [ag w,.sl bl (l.map Ex.v),.sl b ((ai.flat sc).map dB)] S (λv U=>nn w (Rk r bf bt w fv aD (yO r sc st l)) F D S (ah ((Ex.b9 r sc l).map Ex.v)) v U):=by
 refine aA.ib qbL ?_;have qI:l.length<=4000:=by have:=oi (l.map Pa.ex);rw[bQ]at this;omega
 simp[qbL];refine bE (Ov r ho bf bt w fv l hl aD st F D S bl b sc hk hd hf hs) ?_;rintro v U ⟨rfl,F1,D1,k1,s1⟩;have hT:yO r sc st l={ Ex.bC r sc st l with bad:=(Ex.bC r sc st l).bad||qo (Ex.b9 r sc l) }:=rfl;rw[hT];obtain⟨fw,wZ⟩:=eX (Ex.bC r sc st l);obtain⟨o,fC⟩:=eX (Ex.b9 r sc l);have DF:o.length=l.length:=by rw[fC,Ex.Oi,bQ]
 rw[<-wZ]at k1 |-;rw[<-fC];simp;refine eA (λe U=>Rk r bf bt w fv aD { fw with bad:=fw.bad||qo o } F1 D1 U/\bJ w F D S F1 D1 U/\e.get 7=some (ah (o.map Ex.v))) ?_ ?_
 ·refine cE (λj e U=>∃i:Nat,j=o.length - i∧i≤o.length∧Rk r bf bt w fv aD { fw with bad:=fw.bad || qo (o.take i) } F1 D1 U∧bJ w F D S F1 D1 U∧
   e=[(8,af i),(7,ah (o.map Ex.v)),(0,ag w)]) o.length _ ?_ ⟨0,sM,oM,by simpa[qo]using k1,s1,rfl⟩ ?_
  .exact ba
  rintro j e U ⟨i,rfl,hi,bW,bw,rfl⟩;by_cases aB:i<o.length
  .have iq:=qJ aB false U;obtain⟨_,_,q0,q1,q2,q3,q4,q5,q6⟩:=Eo bW;obtain⟨U2,p1,p2,p3⟩:=bW.YJ (fw.bad||qo (o.take (i+1)));have ht:=qyO o i aB;simp only at q5
   cases hb:fw.bad||qo (o.take i) with
   |true=>
    have nV:(fw.bad||qo (o.take (i+1)))=true:=by rw[ht,<-nh,hb,Bool.true_or]
    rw[hb]at q5;rw[nV]at p1;simp[aB,dK,q5,p1,cG i];refine⟨_,?_,_,?_,i+1,rfl,oM,p2,bw.trans p3,rfl⟩
    .omega
    .exact ba
   |false=>
    have nV:(fw.bad||qo (o.take (i+1)))=(decide (o[i].kind≠6)&&decide (o[i].kind≠7)):=by rw[ht,<-nh,hb,Kr]
    rw[hb]at q5;rw[nV]at p1;by_cases h6:o[i].kind=6
    .simp[h6]at p1;simp[aB,dK,q5,iq,h6,p1,cG i];refine⟨_,?_,_,?_,i+1,rfl,oM,p2,bw.trans p3,rfl⟩
     .omega
     .exact ba
    .simp[h6]at p1;simp[aB,dK,q5,iq,h6,p1,cG i];refine⟨_,?_,_,?_,i+1,rfl,oM,p2,bw.trans p3,rfl⟩
     .omega
     .exact ba
  .have:i=o.length:=oM;subst this;rw[gu]at bW;simp;exact⟨bW,bw⟩
 rintro e U ⟨bW,bw,g7⟩;simp[g7];exact bu rfl ⟨by rw[fC];rfl,F1,D1,bW,bw⟩
def El.mc(r:Rp)(sc:ai):∀(l:List El) (st:cd),(El.bC r sc st l).free.length<=st.free.length+bk (l.map Pa.el)
 |[],st=>by simp[El.bC]
 |x::l,st=>by
  have h1:=Ex.mc r sc x.aw st;have h2:=El.mc r sc l (Ex.bC r sc st x.aw);have h3:(Pa.el x).size=1+bk (x.aw.map Pa.ex):=by rw[Pa.size_eq];rfl
  have h4:El.bC r sc st (x::l)=El.bC r sc (Ex.bC r sc st x.aw) l:=rfl;rw[h4,cQ,iN];omega
def qkZ(r:Rp)(sc:ai)(st:cd)(l:List Ex):(yO r sc st l).free.length<=st.free.length+bk (l.map Pa.ex):=Ex.mc r sc l st
mutual
theorem Sm.BA(r:Rp):∀(s:Sm) (sc:ai) (n:Nat) (st:cd),(s.rs r sc n st).free.length<=st.free.length+(Pa.st s).size
 |.mk l k t g e h d b,sc,n,st=>by
  have bF:=Sm.tR (.mk l k t g e h d b);simp only[Sm.labels,Sm.targets,Sm.aw,Sm.elems,Sm.decls,Sm.body]at bF;rw[Sm.rs];split
  .have h1:=De.mc r d (ar (cK d b) n::sc) sc (n+(ar (cK d b) n).length) st;have h2:=Sm.mc r b (ar (cK d b) n::sc) (n+(ar (cK d b) n).length+De.aX d) (De.bC r (ar (cK d b) n::sc) sc (n+(ar (cK d b) n).length) st d);omega
  .split
   .have h2:=Sm.mc r b (ar (cr b) n::sc) (n+(ar (cr b) n).length) st;omega
   .have h0:(if k=6 then oh r sc t st else st).free.length<=st.free.length+1:=by
     split
     .exact SH r sc t st
     .omega
    have h1:=qkZ r sc (if k=6 then oh r sc t st else st) g;have h2:=El.mc r sc h (yO r sc (if k=6 then oh r sc t st else st) g);have h3:=Ex.mc r sc e (El.bC r sc (yO r sc (if k=6 then oh r sc t st else st) g) h);have h4:=Sm.SG r b sc n (Ex.bC r sc (El.bC r sc (yO r sc (if k=6 then oh r sc t st else st) g) h) e);omega
theorem De.BA(r:Rp):∀(s:De) (own sc:ai) (n:Nat) (st:cd),(s.rs r own sc n st).free.length<=st.free.length+(Pa.de s).size
 |.mk k o t nm e fo b,own,sc,n,st=>by
  have bF:=De.tR (.mk k o t nm e fo b);simp only[De.names,De.aj,De.aw,De.body]at bF;rw[De.rs];split
  .have h1:=Ex.mc r own e st;have h2:=Sm.SG r b (ar (fo.map Fo.name) n::own) (n+(ar (fo.map Fo.name) n).length) (Ex.bC r own st e);omega
  .have h1:=Ex.mc r (if k=2 then sc else own) e st;omega
theorem De.mc(r:Rp):∀(l:List De) (own sc:ai) (n:Nat) (st:cd),(De.bC r own sc n st l).free.length<=st.free.length+bk (l.map Pa.de)
 |[],own,sc,n,st=>by simp[De.bC]
 |x::l,own,sc,n,st=>by
  have h1:=De.BA r x own sc n st;have h2:=De.mc r l own sc (n+De.nb x) (x.rs r own sc n st);simp only[De.bC,cQ,iN];omega
theorem Sm.mc(r:Rp):∀(l:List Sm) (sc:ai) (n:Nat) (st:cd),(Sm.bC r sc n st l).free.length<=st.free.length+bk (l.map Pa.st)
 |[],sc,n,st=>by simp[Sm.bC]
 |x::l,sc,n,st=>by
  have h1:=Sm.BA r x sc n st;have h2:=Sm.mc r l sc (n+Sm.nb x) (x.rs r sc n st);simp only[Sm.bC,cQ,iN];omega
theorem Sm.SG(r:Rp):∀(l:List Sm) (sc:ai) (n:Nat) (st:cd),(Sm.mb r sc n st l).free.length<=st.free.length+bk (l.map Pa.st)
 |[],sc,n,st=>by simp[Sm.mb]
 |x::l,sc,n,st=>by
  have h1:=Sm.BA r x (ar x.labels n::sc) (n+(ar x.labels n).length) st;have h2:=Sm.SG r l sc (n+(ar x.labels n).length+Sm.nb x) (x.rs r (ar x.labels n::sc) (n+(ar x.labels n).length) st);simp only[Sm.mb,cQ,iN];omega
end
def NT(l:List Bz)(n:Nat):(dk l).length=(ar l n).length:=by rw[mZ];exact mK l 0 n
def qo4(s:cy)(sc:ai):(ai.flat (s::sc)).length=(ai.flat sc).length+s.length:=by simp[ai.flat]
def Rk.real{r:Rp}{bf bt:Bool}{w:Nat}{fv:V}{aD:List Bz}{st:cd}{F D:Np}{S:St}(h:Rk r bf bt w fv aD st F D S)(bound':List Bz)(bc:cd):∃F' D' U,Rk r bf bt w fv bound' bc F' D' U/\bJ w F D S F' D' U:=by
 have hlw:=h.lw;obtain⟨U,hU⟩:=eX (α:=St) ((S++[Ob.arr (bound'.map V.str) 1 0,Ob.arr (bc.free.map V.str) 1 0]).set w (gn r bf bt fv (.arr S.length 0 bound'.length bound'.length) (.arr (S.length+1) 0 bc.free.length bc.free.length) bc));have u0:U[S.length]?=some (.arr (bound'.map .str) 1 0):=by rw[hU,bG oM,cx oM];simp
 have u1:U[S.length+1]?=some (.arr (bc.free.map .str) 1 0):=by rw[hU,bG oM,cx oM];simp
 have uw:U[w]?=some (gn r bf bt fv (.arr S.length 0 bound'.length bound'.length) (.arr (S.length+1) 0 bc.free.length bc.free.length) bc):=by rw[hU,bO (by simp;omega)]
 have uo:∀l o,l≠w->S[l]?=some o->U[l]?=some o:=λl o hl ho=>by rw[hU,bG (Ne.symm hl)];exact ID ho
 have lU:U.length=S.length+2:=by rw[hU];simp
 refine⟨λl=>F l\/l=S.length\/l=S.length+1,D,U,⟨⟨_,_,uw,.inr ⟨S.length,0,.inr (.inl rfl),oM,rfl,u0,oM⟩,.inr ⟨S.length+1,0,.inr (.inr rfl),oM,rfl,u1,oM⟩,?_⟩,h.fr.keep λl o hl ho=>uo l o (λhh=>h.nD (hh ▸ hl)) ho,?_,?_,h.nD,?_,oM⟩,⟨?_,?_⟩,?_,grow.refl _ _⟩
 .intro l a b c hb a' b' c' hf;simp only[V.arr.injEq]at hb hf;omega
 .rintro l ((hl|rfl|rfl)|hl)
  .have:=h.lt l (.inl hl);omega
  .omega
  .omega
  .have:=h.lt l (.inr hl);omega
 .rintro(hf|hf|hf)
  .exact h.nF hf
  .omega
  .omega
 .rintro l (hl|rfl|rfl) hd
  .exact h.di l hl hd
  .have:=h.lt _ (.inr hd);omega
  .have:=h.lt _ (.inr hd);omega
 .omega
 .intro l hl hn;rw[hU,bG (λhh=>hn (.inl hh.symm)),dh hl]
 .rintro l (hl|hl|hl)
  .exact .inl hl
  .exact .inr oM
  .exact .inr oM
structure vZ(aD:List Bz)(st:cd)(sc:ai)(nb size:Nat):Prop where
 nd:uI sc
 fl:(ai.flat sc).length<=aD.length
 bo:aD.length+nb<=50000
 fr:st.free.length+size<=1000000
def Fa(r:Rp)(bf bt:Bool)(w:Nat)(fv:V)(s:Sm):Prop:=∀(aD:List Bz) (st:cd) (F D:Np) (S:St) (b:Bool) (sc:ai),Rk r bf bt w fv aD st F D S->vZ aD st sc s.nb (Pa.st s).size->
 aA prog 194 [ag w,s.v,.sl b ((ai.flat sc).map dB)] S (λv U=>nn w (Rk r bf bt w fv (aD++s.bn) (s.rs r sc aD.length st)) F D S (s.rw r sc aD.length).v v U)
def qtI(l:List Sm)(i:Nat)(h:i<l.length):Sm.aX (l.take (i+1))=Sm.aX (l.take i)+l[i].nb/\Sm.aX (l.take (i+1))<=Sm.aX l:=by
 have ht:l.take (i+1)=l.take i++[l[i]]:=by rw[dN,bX h];rfl
 refine⟨by rw[ht,Sm.yC];simp[Sm.aX],?_⟩;have:Sm.aX l=Sm.aX (l.take (i+1))+Sm.aX (l.drop (i+1)):=by rw[<-Sm.yC,qY]
 omega
def qtG(l:List Sm)(i:Nat)(h:i<l.length):Sm.bH (l.take (i+1))=Sm.bH (l.take i)+((ar l[i].labels 0).length+l[i].nb)/\Sm.bH (l.take (i+1))<=Sm.bH l:=by
 have ht:l.take (i+1)=l.take i++[l[i]]:=by rw[dN,bX h];rfl
 refine⟨by rw[ht,Sm.NP];simp[Sm.bH],?_⟩;have:Sm.bH l=Sm.bH (l.take (i+1))+Sm.bH (l.drop (i+1)):=by rw[<-Sm.NP,qY]
 omega
def qko(r:Rp)(bf bt:Bool)(w:Nat)(fv:V)(l:List Sm)(H:∀s,s∈l->Fa r bf bt w fv s)(hl:l.length<=4000)(aD:List Bz)(st:cd)(F D:Np)(S:St)(bl b:Bool)(sc:ai)(hk:Rk r bf bt w fv aD st F D S)(ok:vZ aD st sc (Sm.aX l) (bk (l.map Pa.st))):
  aA prog 161 [ag w,.sl bl (l.map Sm.v),.sl b ((ai.flat sc).map dB)] S (λv U=>nn w (Rk r bf bt w fv (aD++Sm.dp l) (Sm.bC r sc aD.length st l)) F D S (ah ((Sm.b9 r sc aD.length l).map Sm.v)) v U):=by
 refine aA.ib qaZ ?_;simp[qaZ];refine eA (PH w 8 F D S (Rk r bf bt w fv (aD++Sm.dp l) (Sm.bC r sc aD.length st l)) 7 ((Sm.b9 r sc aD.length l).map Sm.v)) ?_ ?_
 ·refine cE (Pv w 8 F D S l.length (λi=>Rk r bf bt w fv (aD++Sm.dp (l.take i)) (Sm.bC r sc aD.length st (l.take i))) (λi=>(Sm.b9 r sc aD.length (l.take i)).map Sm.v)
   (λi gv=>[(8,af i),(7,gv),(0,ag w),(1,.sl bl (l.map Sm.v)),(2,.sl b ((ai.flat sc).map dB))])) l.length _ ?_ ⟨0,_,F,D,sM,oM,Gw.nil _ _ _ _ _ _,by simpa[Sm.dp,Sm.bC]using hk,bJ.refl _ _ _ _,rfl⟩ ?_
  .exact ba
  rintro j e U ⟨i,gv,F1,D1,rfl,hi,hg,bW,bw,rfl⟩;dsimp only at hg bW;by_cases aB:i<l.length
  .have bg:=JR Pa.st l i aB;have Gl:=Sm.mc r (l.take i) sc aD.length st;obtain⟨n1,n2⟩:=qtI l i aB;have iT:(aD++Sm.dp (l.take i)).length=aD.length+Sm.aX (l.take i):=by rw[dx,Sm.uK]
   have ht:l.take (i+1)=l.take i++[l[i]]:=by rw[dN,bX aB];rfl
   have q:=H l[i] (dz aB) _ _ F1 D1 U b sc bW ⟨ok.nd,by have:=ok.fl;omega,by have:=ok.bo;omega,by have:=ok.fr;omega⟩;rw[iT]at q;simp[aB,yv];refine bE q ?_;rintro v U2 ⟨rfl,F2,D2,eU,iU⟩;have iz:=hg.step iU;have lN:=bw.trans iU;obtain⟨v',U3,ha,gz,gK,lO,_⟩:=iz.xQ (Rk.pZ r bf bt w fv _ _) (bytes:=168) (b:=true) eU lN (Sm.kj (l[i].rw r sc (aD.length+Sm.aX (l.take i)))) (by rw[bQ,qjW,qz];omega)
   have qf:(Sm.b9 r sc aD.length (l.take i)).map Sm.v++[(l[i].rw r sc (aD.length+Sm.aX (l.take i))).v]=(Sm.b9 r sc aD.length (l.take (i+1))).map Sm.v:=by
    rw[ht,Sm.Oh,cJ];rfl
   have nw:Sm.rs r sc (aD.length+Sm.aX (l.take i)) (Sm.bC r sc aD.length st (l.take i)) l[i]=Sm.bC r sc aD.length st (l.take (i+1)):=by
    rw[ht,Sm.zT];rfl
   have Dz:aD++Sm.dp (l.take i)++l[i].bn=aD++Sm.dp (l.take (i+1)):=by
    rw[ht,Sm.K9,dY];simp[Sm.dp]
   rw[qf]at gz;rw[nw,Dz]at gK;simp[Sm.kj,ha,cG i];refine⟨_,?_,_,?_,i+1,v',F2,D2,rfl,oM,gz,gK,lO,rfl⟩
   .omega
   .exact ba
  .have:i=l.length:=oM;subst this;simp only[gu]at hg bW;simp;exact⟨gv,F1,D1,rfl,hg,bW,bw⟩
 rintro e U ⟨gv,F1,D1,g9,hg,bW,bw⟩;simp[g9];exact Lo (Rk.pZ _ _ _ _ _ _ _) rfl hg bW bw (by rw[<-iO,nf])
def vZ.enter{aD:List Bz}{st:cd}{sc:ai}{nb size m:Nat}(ok:vZ aD st sc nb size)(l:List Bz)(h:(ar l 0).length+m<=nb):vZ (aD++dk l) st (ar l aD.length::sc) m size:=by
 have h1:=NT l 0;have h2:=NT l aD.length;refine⟨ok.nd.bind l _,?_,?_,ok.fr⟩
 .rw[qo4,dx];have:=ok.fl;omega
 .rw[dx];have:=ok.bo;omega
def X9:∀l:List Sm,(cr l).length<=bk (l.map Pa.st)
 |[]=>by simp[cr]
 |x::m=>by
  have ih:=X9 m;have:=Sm.tR x;simp only[cr,nl,dx,cQ,iN]at ih |-;omega
def Zq(r:Rp)(bf bt:Bool)(w:Nat)(fv:V)(l:List Sm)(H:∀s,s∈l->Fa r bf bt w fv s)(hl:bk (l.map Pa.st)<=4000)(aD:List Bz)(st:cd)(F D:Np)(S:St)(bl b:Bool)(sc:ai)(hk:Rk r bf bt w fv aD st F D S)(ok:vZ aD st sc ((ar (cr l) 0).length+Sm.aX l) (bk (l.map Pa.st))):
  aA prog 117 [ag w,.sl bl (l.map Sm.v),.sl b ((ai.flat sc).map dB)] S (λv U=>nn w (Rk r bf bt w fv (aD++(dk (cr l)++Sm.dp l)) (Sm.bC r (ar (cr l) aD.length::sc) (aD.length+(ar (cr l) aD.length).length) st l)) F D S (ah ((Sm.b9 r (ar (cr l) aD.length::sc) (aD.length+(ar (cr l) aD.length).length) l).map Sm.v)) v U):=by
 refine aA.ib qaF ?_;have hlen:l.length<=4000:=by have:=oi (l.map Pa.st);rw[bQ]at this;omega
 have nW:=X9 l;have iT:(aD++dk (cr l)).length=aD.length+(ar (cr l) aD.length).length:=by rw[dx,NT _ aD.length]
 simp[qaF];refine bE (qkp l hl bl w _ (Rk.pZ r bf bt w fv aD st) F D S hk) ?_;rintro v U ⟨rfl,F1,D1,k1,s1⟩;simp;have qAj:=ok.fl;have my:=ok.bo;refine bE (Zw r bf bt w fv aD st F1 D1 U k1 b sc (cr l) _ (.inl ⟨false,rfl⟩) oM oM) ?_;rintro v U2 ⟨rfl,F2,D2,k2,s2⟩;simp;have q:=qko r bf bt w fv l H hlen _ st F2 D2 U2 bl false (ar (cr l) aD.length::sc) k2 (ok.enter (cr l) cz);rw[iT,dY]at q;refine bE q ?_;rintro v U3 ⟨rfl,F3,D3,k3,s3⟩;simp;exact bu rfl ⟨rfl,F3,D3,k3,(s1.trans s2).trans s3⟩
def qkA(r:Rp)(bf bt:Bool)(w:Nat)(fv:V)(l:List Sm)(H:∀s,s∈l->Fa r bf bt w fv s)(hl:bk (l.map Pa.st)<=4000)(aD:List Bz)(st:cd)(F D:Np)(S:St)(bl b:Bool)(sc:ai)(hk:Rk r bf bt w fv aD st F D S)(ok:vZ aD st sc (Sm.bH l) (bk (l.map Pa.st))):
  aA prog 232 [ag w,.sl bl (l.map Sm.v),.sl b ((ai.flat sc).map dB)] S (λv U=>nn w (Rk r bf bt w fv (aD++Sm.jk l) (Sm.mb r sc aD.length st l)) F D S (ah ((Sm.jR r sc aD.length l).map Sm.v)) v U):=by
 refine aA.ib qbM ?_;have hlen:l.length<=4000:=by have:=oi (l.map Pa.st);rw[bQ]at this;omega
 simp[qbM];refine eA (PH w 8 F D S (Rk r bf bt w fv (aD++Sm.jk l) (Sm.mb r sc aD.length st l)) 7 ((Sm.jR r sc aD.length l).map Sm.v)) ?_ ?_
 ·refine cE (Pv w 8 F D S l.length (λi=>Rk r bf bt w fv (aD++Sm.jk (l.take i)) (Sm.mb r sc aD.length st (l.take i))) (λi=>(Sm.jR r sc aD.length (l.take i)).map Sm.v)
   (λi gv=>[(8,af i),(7,gv),(0,ag w),(1,.sl bl (l.map Sm.v)),(2,.sl b ((ai.flat sc).map dB))])) l.length _ ?_ ⟨0,_,F,D,sM,oM,Gw.nil _ _ _ _ _ _,by simpa[Sm.jk,Sm.mb]using hk,bJ.refl _ _ _ _,rfl⟩ ?_
  .exact ba
  rintro j e U ⟨i,gv,F1,D1,rfl,hi,hg,bW,bw,rfl⟩;dsimp only at hg bW;by_cases aB:i<l.length
  .have bg:=JR Pa.st l i aB;have Gl:=Sm.SG r (l.take i) sc aD.length st;obtain⟨n1,n2⟩:=qtG l i aB;have iT:(aD++Sm.jk (l.take i)).length=aD.length+Sm.bH (l.take i):=by rw[dx,Sm.PX]
   have ht:l.take (i+1)=l.take i++[l[i]]:=by rw[dN,bX aB];rfl
   have nW:cr [l[i]]=l[i].labels:=by simp[cr]
   have q:=Zq r bf bt w fv [l[i]] (λs hs=>by simp at hs;subst hs;exact H _ (dz aB)) (by simp;omega) _ _ F1 D1 U true b sc bW ⟨ok.nd,by have:=ok.fl;omega,by have:=ok.bo;rw[nW];simp only[Sm.aX];omega,by have:=ok.fr;simp;omega⟩;rw[iT,nW]at q;simp only[cQ,nK,Sm.dp,Sm.bC,Sm.b9,pR]at q;simp[aB,yv,Sm.kj];refine bE q ?_;rintro v U2 ⟨rfl,F2,D2,eU,iU⟩;have iz:=hg.step iU;have lN:=bw.trans iU;obtain⟨v',U3,ha,gz,gK,lO,_⟩:=iz.xQ (Rk.pZ r bf bt w fv _ _) (bytes:=168) (b:=false) eU lN (Sm.kj (l[i].rw r (ar l[i].labels (aD.length+Sm.bH (l.take i))::sc) (aD.length+Sm.bH (l.take i)+(ar l[i].labels (aD.length+Sm.bH (l.take i))).length))) (by rw[bQ,qjS,qz];omega)
   have qf:(Sm.jR r sc aD.length (l.take i)).map Sm.v++[(l[i].rw r (ar l[i].labels (aD.length+Sm.bH (l.take i))::sc) (aD.length+Sm.bH (l.take i)+(ar l[i].labels (aD.length+Sm.bH (l.take i))).length)).v]=(Sm.jR r sc aD.length (l.take (i+1))).map Sm.v:=by
    rw[ht,Sm.qjR,cJ];rfl
   have nw:Sm.rs r (ar l[i].labels (aD.length+Sm.bH (l.take i))::sc) (aD.length+Sm.bH (l.take i)+(ar l[i].labels (aD.length+Sm.bH (l.take i))).length) (Sm.mb r sc aD.length st (l.take i)) l[i]=Sm.mb r sc aD.length st (l.take (i+1)):=by
    rw[ht,Sm.qjH];rfl
   have Dz:aD++Sm.jk (l.take i)++(dk l[i].labels++l[i].bn)=aD++Sm.jk (l.take (i+1)):=by
    rw[ht,Sm.qdy,dY];simp[Sm.jk]
   rw[qf]at gz;rw[nw,Dz]at gK;simp[ha,cG i];refine⟨_,?_,_,?_,i+1,v',F2,D2,rfl,oM,gz,gK,lO,rfl⟩
   .omega
   .exact ba
  .have:i=l.length:=oM;subst this;simp only[gu]at hg bW;simp;exact⟨gv,F1,D1,rfl,hg,bW,bw⟩
 rintro e U ⟨gv,F1,D1,g9,hg,bW,bw⟩;simp[g9];exact Lo (Rk.pZ _ _ _ _ _ _ _) rfl hg bW bw (by rw[<-iO,nf])
end Go.Proofs.YtbifpocccfkhhaaGreatDoor
end
