/- A part. -/
import Derived.Test.YtbifpocccfkhhaaGreatDoorYi
import Derived.Test.YtbifpocccfkhhaaGreatDoorYf
set_option linter.all false
noncomputable section
namespace Go.Proofs.YtbifpocccfkhhaaGreatDoor
open Go
section
variable {p:Pw} {f:Nat->Bz} (hn:p.nm=none) (hc:p.cl=none) (hf:∀k x,p.f k x=f k)
include hf
theorem SA(sc:ai)(x:Bz):jo p sc x=fQ f sc x:=by
 unfold jo fQ;cases sc.at x<;>simp[hf]
theorem N9(sc:ai)(l:List Bz):l.map (jo p sc)=l.map (fQ f sc):=rR λx _=>SA hf sc x
include hn
mutual
theorem Ex.yS(sc:ai)(tg:Bool):∀x:Ex,x.wr p sc tg=x.w f sc
 |.mk k o n m e t a=>by
  rw[Ex.wr,Ex.w,Ex.vR sc false a];unfold Pw.yD;rw[hn];simp only[Ex.kind,Ex.op,Ex.n,Ex.dQ,Ex.exp,Ex.text,Ex.args,SA hf];split<;>rfl
theorem Ex.vR(sc:ai)(tg:Bool):∀l:List Ex,Ex.bh p sc tg l=Ex.wl f sc l
 |[]=>rfl
 |x::l=>by rw[Ex.bh,Ex.wl,Ex.yS sc tg x,Ex.vR sc tg l]
end
theorem El.yS(sc:ai)(e:El):e.wr p sc=e.w f sc:=by
 unfold El.wr El.w;rw[Ex.vR hn hf,Ex.pO]
theorem Fo.yS(sc:ai)(x:Fo):x.wr p sc=x.w f sc:=by
 unfold Fo.wr Fo.w;rw[SA hf]
end
def Sm.EH{nm:Bz->Bool}{l:List Bz}{k:Int}{t:Bz}{g e:List Ex}{h:List El}{d:List De}{b:List Sm}(v:(Pa.st (.mk l k t g e h d b)).valid nm=true):
  (k=7->g=[]/\e=[]/\h=[])/\(k=8->g=[]/\e=[]/\h=[]/\d=[])/\(k≠7->k≠8->d=[]):=by
 have h1:=(Pa.gU.1 v).1;simp only[Pa.bp,Sm.bp,cT]at h1;have h1:=h1.2;refine⟨?_,?_,?_⟩
 .rintro rfl;simp at h1;simp[h1]
 .rintro rfl;simp at h1;simp[h1]
 .intro h7 h8
  repeat' split at h1
  all_goals first
   |(simp at h1;done)
   |(simp at h1;simp[h1];done)
   |omega
def De.EI{nm:Bz->Bool}{k:Int}{o:Bool}{t:Int}{n:List Bz}{e:List Ex}{f:List Fo}{b:List Sm}(v:(Pa.de (.mk k o t n e f b)).valid nm=true):
  (k=4->e=[])/\(k≠4->f=[]/\b=[]):=by
 have h1:=(Pa.gU.1 v).1;simp only[Pa.bp,De.bp,cT]at h1;have h1:=h1.2;refine⟨?_,?_⟩
 .rintro rfl;simp at h1;simp[h1]
 .intro h4
  repeat' split at h1
  all_goals first
   |(simp at h1;done)
   |(simp at h1;simp[h1];done)
   |omega
section
variable {p:Pw} {f:Nat->Bz} (hn:p.nm=none) (hc:p.cl=none) (hf:∀k x,p.f k x=f k) {nm:Bz->Bool}
include hn hc hf
mutual
theorem Sm.yS:∀(s:Sm) (sc:ai) (n:Nat),(Pa.st s).valid nm=true->s.wr p sc n=s.w f sc n
 |.mk l k t g e h d b,sc,n,v=>by
  obtain⟨v7,v8,v9⟩:=Sm.EH v;have vd:=Sm.BQ v;have vb:=Sm.pN v;simp only[Sm.decls,Sm.body]at vd vb;rw[Sm.wr,Sm.w];by_cases h7:k=7
  .obtain⟨rfl,rfl,rfl⟩:=v7 h7;rw[ak h7,ak h7,N9 hf,De.vR d _ _ _ vd,Sm.vR b _ _ vb];rfl
  .rw[au h7,au h7];by_cases h8:k=8
   .obtain⟨rfl,rfl,rfl,rfl⟩:=v8 h8;rw[ak h8,ak h8,N9 hf,Sm.vR b _ _ vb];rfl
   .obtain rfl:=v9 h7 h8;have lJ:p.wF sc k t=if k=6 then fQ f sc t else t:=by unfold Pw.wF;rw[hc];simp only[SA hf]
    rw[au h8,au h8,N9 hf,Ex.vR hn hf,Ex.vR hn hf,Sm.qag b _ _ vb,lJ,rR λx _=>El.yS hn hf sc x]
theorem De.yS:∀(s:De) (own sc:ai) (n:Nat),(Pa.de s).valid nm=true->s.wr p own sc n=s.w f own sc n
 |.mk k o t ns e fo b,own,sc,n,v=>by
  obtain⟨v4,v5⟩:=De.EI v;have vb:=De.pN v;simp only[De.body]at vb;rw[De.wr,De.w];by_cases h4:k=4
  .obtain rfl:=v4 h4;rw[ak h4,ak h4,N9 hf,Sm.qag b _ _ vb,rR λx _=>Fo.yS hn hf _ x];rfl
  .obtain⟨rfl,rfl⟩:=v5 h4;rw[au h4,au h4,N9 hf,Ex.vR hn hf]
theorem De.vR:∀(l:List De) (own sc:ai) (n:Nat),(∀x,x∈l->(Pa.de x).valid nm=true)->De.bh p own sc n l=De.wl f own sc n l
 |[],_,_,_,_=>rfl
 |x::l,own,sc,n,v=>by rw[De.bh,De.wl,De.yS x own sc n (v x sM),De.vR l own sc _ λy hy=>v y (by simp[hy])]
theorem Sm.vR:∀(l:List Sm) (sc:ai) (n:Nat),(∀x,x∈l->(Pa.st x).valid nm=true)->Sm.bh p sc n l=Sm.wl f sc n l
 |[],_,_,_=>rfl
 |x::l,sc,n,v=>by rw[Sm.bh,Sm.wl,Sm.yS x sc n (v x sM),Sm.vR l sc _ λy hy=>v y (by simp[hy])]
theorem Sm.qag:∀(l:List Sm) (sc:ai) (n:Nat),(∀x,x∈l->(Pa.st x).valid nm=true)->Sm.gV p sc n l=Sm.w1 f sc n l
 |[],_,_,_=>rfl
 |x::l,sc,n,v=>by rw[Sm.gV,Sm.w1,Sm.yS x _ _ (v x sM),Sm.qag l sc _ λy hy=>v y (by simp[hy])]
end
theorem Sm.qzj(s:Sm)(v:(Pa.st s).valid nm=true):s.vM p=s.whole f:=Sm.yS hn hc hf s _ _ v
end
def iI(N:Nat)(sc:ai):Prop:=∀x k,sc.at x=some k->k<N
def UQ(base:Nat):∀(l:List Bz) (s:cy) (n:Nat),(∀e,e∈s->e.2<base+s.length)->n=base+s.length->∀e,e∈binds l s n->e.2<base+(binds l s n).length
 |[],s,n,h,_=>h
 |x::l,s,n,h,hn=>by
  simp only[binds];split
  .exact UQ base l s n h hn
  .refine UQ base l _ _ (λe he=>?_) (by simp;omega);rcases cU.1 he with he|he
   .have:=h e he;simp;omega
   .simp at he;subst he;simp;omega
def iI.bind{N:Nat}{sc:ai}(h:iI N sc)(l:List Bz)(n:Nat)(hn:n+(ar l n).length<=N):iI N (ar l n::sc):=by
 intro x k hk;unfold ai.at at hk
 cases ha:cy.at (ar l n) x with
 |none=>rw[ha]at hk;exact h x k hk
 |some j=>
  rw[ha]at hk;cases hk;unfold cy.at at ha;rw[ep]at ha;obtain⟨e,he,rfl⟩:=ha;have:=UQ n l [] n sM sM e (KJ he);unfold ar at hn;omega
structure qlX(r:Rp)(g:Nat->Bz)(N:Nat):Prop where
 fresh:∀k,k<N->r.fresh[k]?=some (g k)
 rX:r.rX=[]
def CP(l:List Bz)(n:Nat):(ar l n).length=(ar l 0).length:=mK l n 0
section
variable {r:Rp} {g:Nat->Bz} {N:Nat} (ok:qlX r g N) {nm:Bz->Bool}
include ok
theorem qjD(sc:ai)(x:Bz):ql r sc x=none:=by
 unfold ql mt;rw[ok.rX];cases sc.at x<;>simp[tM]
theorem SE{sc:ai}(h:iI N sc)(x:Bz):dX r sc x=fQ g sc x:=by
 unfold dX fQ
 cases ha:sc.at x with
 |none=>rfl
 |some k=>simp[ok.fresh k (h x k ha)]
theorem qjJ{sc:ai}(h:iI N sc)(x:Bz):qm r sc x=fQ g sc x:=by
 unfold qm;rw[qjD ok];exact SE ok h x
theorem Oe{sc:ai}(h:iI N sc)(l:List Bz):l.map (dX r sc)=l.map (fQ g sc):=rR λx _=>SE ok h x
mutual
theorem Ex.yJ{sc:ai}(h:iI N sc):∀x:Ex,(Pa.ex x).valid nm=true->x.rw r sc=x.w g sc
 |.mk k o n m e t a,v=>by
  have va:=Ex.Hu v;simp only[Ex.args]at va;have h1:=(Pa.gU.1 v).1;rw[Ex.rw,Ex.w,Ex.vC h a va];by_cases h6:k=6
  .subst h6;simp[Pa.bp,Ex.bp]at h1;obtain⟨⟨⟨⟨_,rfl⟩,rfl⟩,rfl⟩,rfl,rfl⟩:=h1;rw[ak rfl,qjD ok,SE ok h];rfl
  .rw[au h6];by_cases kn:k=7\/k=8
   .have:Ex.named k=true:=by unfold Ex.named;rcases kn with rfl|rfl<;>rfl
    rw[ak kn,this,qjJ ok h];rfl
   .have:Ex.named k=false:=by unfold Ex.named;simp;omega
    rw[au kn,this];rfl
theorem Ex.vC{sc:ai}(h:iI N sc):∀l:List Ex,(∀x,x∈l->(Pa.ex x).valid nm=true)->Ex.b9 r sc l=Ex.wl g sc l
 |[],_=>rfl
 |x::l,v=>by rw[Ex.b9,Ex.wl,Ex.yJ h x (v x sM),Ex.vC h l λy hy=>v y (by simp[hy])]
end
theorem El.yJ{sc:ai}(h:iI N sc)(e:El)(v:(Pa.el e).valid nm=true):e.rw r sc=e.w g sc:=by
 unfold El.rw El.w;rw[Ex.vC ok h e.aw λx hx=>(Pa.gU.1 v).2 _ (by simp only[Pa.kids,cY];exact⟨x,hx,rfl⟩),Ex.pO]
theorem Fo.yJ{sc:ai}(h:iI N sc)(x:Fo):x.rw r sc=x.w g sc:=by
 unfold Fo.rw Fo.w;rw[SE ok h]
mutual
theorem Sm.yJ:∀(s:Sm) (sc:ai) (n:Nat),iI N sc->n+s.nb<=N->(Pa.st s).valid nm=true->s.rw r sc n=s.w g sc n
 |.mk l k t gs e hh d b,sc,n,h,hN,v=>by
  obtain⟨v7,v8,v9⟩:=Sm.EH v;have vd:=Sm.BQ v;have vb:=Sm.pN v;have vg:=Sm.JZ v;have ve:=Sm.qU v;have vh:=Sm.JY v;simp only[Sm.decls,Sm.body,Sm.targets,Sm.aw,Sm.elems]at vd vb vg ve vh;rw[Sm.nb]at hN;rw[Sm.rw,Sm.w];by_cases h7:k=7
  .rw[ak h7]at hN;obtain⟨rfl,rfl,rfl⟩:=v7 h7;have hb:=CP (cK d b) n;have h':=h.bind (cK d b) n oM;rw[ak h7,ak h7,Oe ok h,De.vC d _ _ _ h' h oM vd,Sm.vC b _ _ h' oM vb]
  .rw[au h7]at hN;rw[au h7,au h7];by_cases h8:k=8
   .rw[ak h8]at hN;obtain⟨rfl,rfl,rfl,rfl⟩:=v8 h8;have hb:=CP (cr b) n;rw[ak h8,ak h8,Oe ok h,Sm.vC b _ _ (h.bind (cr b) n oM) oM vb]
   .rw[au h8]at hN;obtain rfl:=v9 h7 h8;rw[au h8,au h8,Oe ok h,Ex.vC ok h gs vg,Ex.vC ok h e ve,Sm.YX b _ _ h oM vb,rR λx hx=>El.yJ ok h x (vh x hx),qjJ ok h]
theorem De.yJ:∀(s:De) (own sc:ai) (n:Nat),iI N own->iI N sc->n+s.nb<=N->(Pa.de s).valid nm=true->s.rw r own sc n=s.w g own sc n
 |.mk k o t ns e fo b,own,sc,n,h,h2,hN,v=>by
  obtain⟨v4,v5⟩:=De.EI v;have vb:=De.pN v;have ve:=De.qU v;simp only[De.body,De.aw]at vb ve;rw[De.nb]at hN;rw[De.rw,De.w];by_cases h4:k=4
  .rw[ak h4]at hN;obtain rfl:=v4 h4;have hb:=CP (fo.map Fo.name) n;have h':=h.bind (fo.map Fo.name) n oM;rw[ak h4,ak h4,Oe ok h,Sm.YX b _ _ h' oM vb,rR λx _=>Fo.yJ ok h' x];rfl
  .obtain⟨rfl,rfl⟩:=v5 h4;have h':iI N (if k=2 then sc else own):=by split<;>assumption
   rw[au h4,au h4,Oe ok h,Ex.vC ok h' e ve]
theorem De.vC:∀(l:List De) (own sc:ai) (n:Nat),iI N own->iI N sc->n+De.aX l<=N->(∀x,x∈l->(Pa.de x).valid nm=true)->De.b9 r own sc n l=De.wl g own sc n l
 |[],_,_,_,_,_,_,_=>rfl
 |x::l,own,sc,n,h,h2,hN,v=>by
  rw[De.aX]at hN;rw[De.b9,De.wl,De.yJ x own sc n h h2 oM (v x sM),De.vC l own sc _ h h2 oM λy hy=>v y (by simp[hy])]
theorem Sm.vC:∀(l:List Sm) (sc:ai) (n:Nat),iI N sc->n+Sm.aX l<=N->(∀x,x∈l->(Pa.st x).valid nm=true)->Sm.b9 r sc n l=Sm.wl g sc n l
 |[],_,_,_,_,_=>rfl
 |x::l,sc,n,h,hN,v=>by
  rw[Sm.aX]at hN;rw[Sm.b9,Sm.wl,Sm.yJ x sc n h oM (v x sM),Sm.vC l sc _ h oM λy hy=>v y (by simp[hy])]
theorem Sm.YX:∀(l:List Sm) (sc:ai) (n:Nat),iI N sc->n+Sm.bH l<=N->(∀x,x∈l->(Pa.st x).valid nm=true)->Sm.jR r sc n l=Sm.w1 g sc n l
 |[],_,_,_,_,_=>rfl
 |x::l,sc,n,h,hN,v=>by
  rw[Sm.bH]at hN;have hb:=CP x.labels n;rw[Sm.jR,Sm.w1,Sm.yJ x _ _ (h.bind x.labels n oM) oM (v x sM),Sm.YX l sc _ h oM λy hy=>v y (by simp[hy])]
end
theorem Sm.qzi(s:Sm)(hN:Sm.bH [s]<=N)(v:(Pa.st s).valid nm=true):s.BX r=s.whole g:=by
 simp only[Sm.bH,Ar]at hN;have hb:iI N [ar s.labels 0]:=iI.bind (sc:=[]) (λx k h=>by cases h) s.labels 0 oM;exact Sm.yJ ok s _ _ hb oM v
end
def R2{l:List Bz}(h:Bq l){f:Bz->Bz}(hf:∀x,x∈l->(f x).size<=bi):Bq (l.map f):=by
 refine⟨by rw[bQ];exact h.1,λs hs=>?_⟩;obtain⟨x,hx,rfl⟩:=cY.1 hs;exact hf x hx
def Sm.BZ(f:Nat->Bz)(sc:ai):∀(m:List Sm) (n:Nat),(Sm.wl f sc n m).length=m.length
 |[],_=>by rw[Sm.wl]
 |x::m,n=>by simp only[Sm.wl,gq,Sm.BZ f sc m]
def Sm.ON(f:Nat->Bz)(sc:ai):∀(m:List Sm) (n:Nat),(Sm.w1 f sc n m).length=m.length
 |[],_=>by rw[Sm.w1]
 |x::m,n=>by simp only[Sm.w1,gq,Sm.ON f sc m]
def De.BZ(f:Nat->Bz)(own sc:ai):∀(m:List De) (n:Nat),(De.wl f own sc n m).length=m.length
 |[],_=>by rw[De.wl]
 |x::m,n=>by simp only[De.wl,gq,De.BZ f own sc m]
section
variable {f:Nat->Bz} {N:Nat} (hf:∀k,k<N->(f k).size<=bi)
include hf
theorem N8{sc:ai}(h:iI N sc){x:Bz}(hx:x.size<=bi):(fQ f sc x).size<=bi:=by
 unfold fQ
 cases ha:sc.at x with
 |none=>exact hx
 |some k=>exact hf k (h x k ha)
mutual
theorem Ex.BU{sc:ai}(h:iI N sc):∀x:Ex,x.ok->(x.w f sc).ok
 |.mk k o n m e t a,v=>by
  obtain⟨h1,h2,h3⟩:=v;rw[Ex.w];refine⟨?_,by rw[Ex.pO,bQ];exact h2,Ex.vP h a h3⟩;split
  .exact N8 hf h h1
  .exact h1
theorem Ex.vP{sc:ai}(h:iI N sc):∀l:List Ex,Ex.cH l->Ex.cH (Ex.wl f sc l)
 |[],_=>trivial
 |x::l,⟨h1,h2⟩=>⟨Ex.BU h x h1,Ex.vP h l h2⟩
end
theorem El.BU{sc:ai}(h:iI N sc)(e:El)(v:e.ok):(e.w f sc).ok:=by
 have:=Ex.vP hf h e.aw v.2;rw[Ex.pO]at this;exact⟨by unfold El.w;rw[bQ];exact v.1,this⟩
mutual
theorem Sm.BU:∀(s:Sm) (sc:ai) (n:Nat),iI N sc->n+s.nb<=N->s.ok->(s.w f sc n).ok
 |.mk l k t gs e hh d b,sc,n,h,hN,v=>by
  have V:=(Sm.fh _).1 v;have hl:=R2 V.labels λx hx=>N8 hf h (V.labels.2 x hx)
  rw[Sm.nb]at hN;rw[Sm.w];by_cases h7:k=7
  .rw[ak h7]at hN;have hb:=CP (cK d b) n;have h':=h.bind (cK d b) n oM;rw[ak h7];refine(Sm.fh _).2 ⟨hl,V.text,⟨fS _,trivial⟩,⟨fS _,trivial⟩,⟨fS _,λx hx=>by cases hx⟩,⟨?_,De.vP d _ _ _ h' h oM V.decls.2⟩,?_,Sm.vP b _ _ h' oM V.body.2⟩
   .have:=V.decls.1;simp only[Sm.decls]at this |-;rw[De.BZ];exact this
   .have:=V.body.1;simp only[Sm.body]at this |-;rw[Sm.BZ];exact this
  .rw[au h7]at hN;rw[au h7];by_cases h8:k=8
   .rw[ak h8]at hN;have hb:=CP (cr b) n;rw[ak h8];refine(Sm.fh _).2 ⟨hl,V.text,⟨fS _,trivial⟩,⟨fS _,trivial⟩,⟨fS _,λx hx=>by cases hx⟩,⟨fS _,trivial⟩,?_,Sm.vP b _ _ (h.bind _ _ oM) oM V.body.2⟩;have:=V.body.1;simp only[Sm.body]at this |-;rw[Sm.BZ];exact this
   .rw[au h8]at hN;rw[au h8];refine(Sm.fh _).2 ⟨hl,?_,⟨?_,Ex.vP hf h gs V.targets.2⟩,⟨?_,Ex.vP hf h e V.aw.2⟩,⟨?_,?_⟩,⟨fS _,trivial⟩,?_,Sm.Z7 b _ _ h oM V.body.2⟩
    .have:=V.text;simp only[Sm.text]at this |-;split
     .exact N8 hf h this
     .exact this
    .have:=V.targets.1;simp only[Sm.targets]at this |-;rw[Ex.pO,bQ];exact this
    .have:=V.aw.1;simp only[Sm.aw]at this |-;rw[Ex.pO,bQ];exact this
    .have:=V.elems.1;simp only[Sm.elems]at this |-;rw[bQ];exact this
    .intro x hx;simp only[Sm.elems]at hx;obtain⟨y,hy,rfl⟩:=cY.1 hx;exact El.BU hf h y (V.elems.2 y hy)
    .have:=V.body.1;simp only[Sm.body]at this |-;rw[Sm.ON];exact this
theorem De.BU:∀(s:De) (own sc:ai) (n:Nat),iI N own->iI N sc->n+s.nb<=N->s.ok->(s.w f own sc n).ok
 |.mk k o t ns e fo b,own,sc,n,h,h2,hN,v=>by
  have V:=(De.fh _).1 v;have hl:=R2 V.names λx hx=>N8 hf h (V.names.2 x hx)
  rw[De.nb]at hN;rw[De.w];by_cases h4:k=4
  .rw[ak h4]at hN;have hb:=CP (fo.map Fo.name) n;have h':=h.bind (fo.map Fo.name) n oM;rw[ak h4];refine(De.fh _).2 ⟨hl,⟨fS _,trivial⟩,⟨?_,?_⟩,?_,Sm.Z7 b _ _ h' oM V.body.2⟩
   .have:=V.aj.1;simp only[De.aj]at this |-;rw[bQ];exact this
   .intro x hx;simp only[De.aj]at hx;obtain⟨y,hy,rfl⟩:=cY.1 hx;exact N8 hf h' (V.aj.2 y hy)
   .have:=V.body.1;simp only[De.body]at this |-;rw[Sm.ON];exact this
  .have h':iI N (if k=2 then sc else own):=by split<;>assumption
   rw[au h4];refine(De.fh _).2 ⟨hl,⟨?_,Ex.vP hf h' e V.aw.2⟩,⟨fS _,λx hx=>by cases hx⟩,fS _,trivial⟩;have:=V.aw.1;simp only[De.aw]at this |-;rw[Ex.pO,bQ];exact this
theorem De.vP:∀(l:List De) (own sc:ai) (n:Nat),iI N own->iI N sc->n+De.aX l<=N->De.cH l->De.cH (De.wl f own sc n l)
 |[],_,_,_,_,_,_,_=>by rw[De.wl];exact trivial
 |x::l,own,sc,n,h,h2,hN,v=>by
  rw[De.aX]at hN;rw[De.cH]at v;rw[De.wl,De.cH];exact⟨De.BU x own sc n h h2 oM v.1,De.vP l own sc _ h h2 oM v.2⟩
theorem Sm.vP:∀(l:List Sm) (sc:ai) (n:Nat),iI N sc->n+Sm.aX l<=N->Sm.cH l->Sm.cH (Sm.wl f sc n l)
 |[],_,_,_,_,_=>by rw[Sm.wl];exact trivial
 |x::l,sc,n,h,hN,v=>by
  rw[Sm.aX]at hN;rw[Sm.cH]at v;rw[Sm.wl,Sm.cH];exact⟨Sm.BU x sc n h oM v.1,Sm.vP l sc _ h oM v.2⟩
theorem Sm.Z7:∀(l:List Sm) (sc:ai) (n:Nat),iI N sc->n+Sm.bH l<=N->Sm.cH l->Sm.cH (Sm.w1 f sc n l)
 |[],_,_,_,_,_=>by rw[Sm.w1];exact trivial
 |x::l,sc,n,h,hN,v=>by
  rw[Sm.bH]at hN;rw[Sm.cH]at v;have hb:=CP x.labels n;rw[Sm.w1,Sm.cH];exact⟨Sm.BU x _ _ (h.bind x.labels n oM) oM v.1,Sm.Z7 l sc _ h oM v.2⟩
end
theorem Sm.qzl(s:Sm)(hN:Sm.bH [s]<=N)(v:s.ok):(s.whole f).ok:=by
 simp only[Sm.bH,Ar]at hN;have hb:iI N [ar s.labels 0]:=iI.bind (sc:=[]) (λx k h=>by cases h) s.labels 0 oM;exact Sm.BU hf s _ _ hb oM v
end
def qsX{l:List Ex}{deep n:Int}(h:n<=0):Ex.eQ l deep n<=0:=by
 unfold Ex.eQ;split
 .omega
 .rw[Ex.yz l deep n h];exact h
mutual
theorem Ex.Jr:∀(x:Ex) (deep n:Int),0<x.left deep n->x.left deep n=n-(Pa.ex x).size
 |.mk k o n' m e t a,deep,n,h=>by
  have bF:(Pa.ex (.mk k o n' m e t a)).size=1+bk (a.map Pa.ex):=by rw[Pa.size_eq];rfl
  rw[Ex.left]at h |-;split at h
  .omega
  .rename_i hd;rw[au hd,Ex.vx a _ _ h];omega
theorem Ex.vx:∀(l:List Ex) (deep n:Int),0<Ex.leftG l deep n->Ex.leftG l deep n=n-bk (l.map Pa.ex)
 |[],_,n,h=>by simp[Ex.leftG]
 |x::l,deep,n,h=>by
  rw[Ex.leftG]at h |-;split at h
  .rename_i h0;rw[ak h0];by_cases hx:0<x.left deep n
   .rw[Ex.vx l _ _ h,Ex.Jr x deep n hx,cQ,iN];omega
   .rw[Ex.yz l _ _ oM]at h;omega
  .omega
end
def Ex.NE(l:List Ex)(deep n:Int)(h:0<Ex.eQ l deep n):Ex.eQ l deep n=n-bk (l.map Pa.ex):=by
 unfold Ex.eQ at h |-;split at h
 .omega
 .rename_i hd;rw[au hd,Ex.vx l _ _ h]
def El.vx:∀(l:List El) (deep n:Int),0<El.leftG l deep n->El.leftG l deep n=n-bk (l.map Pa.el)
 |[],_,n,h=>by simp[El.leftG]
 |x::l,deep,n,h=>by
  have bF:(Pa.el x).size=1+bk (x.aw.map Pa.ex):=by rw[Pa.size_eq];rfl
  rw[El.leftG]at h |-;split at h
  .rename_i h0;rw[ak h0];by_cases hx:0<Ex.eQ x.aw (deep+1) (n-1)
   .rw[El.vx l _ _ h,Ex.NE _ _ _ hx,cQ,iN];omega
   .have:El.leftG l deep (Ex.eQ x.aw (deep+1) (n-1))=Ex.eQ x.aw (deep+1) (n-1):=by cases l<;>simp[El.leftG,hx]
    rw[this]at h;omega
  .omega
def El.DV{l:List El}{deep n:Int}(h:¬0<n):El.leftG l deep n=n:=by cases l<;>simp[El.leftG,h]
def De.DV{l:List De}{deep n:Int}(h:¬0<n):De.leftG l deep n=n:=by cases l<;>simp[De.leftG,h]
def Sm.DV{l:List Sm}{deep n:Int}(h:¬0<n):Sm.leftG l deep n=n:=by cases l<;>simp[Sm.leftG,h]
def Sm.Hl(s:Sm):(Pa.st s).size=1+s.labels.length+bk (s.targets.map Pa.ex)+bk (s.aw.map Pa.ex)+bk (s.elems.map Pa.el)+bk (s.decls.map Pa.de)+bk (s.body.map Pa.st):=by
 rw[Pa.size_eq];simp only[Pa.own,Pa.kids,vD];omega
def De.Hl(d:De):(Pa.de d).size=1+d.names.length+d.aj.length+bk (d.aw.map Pa.ex)+bk (d.body.map Pa.st):=by
 rw[Pa.size_eq];simp only[Pa.own,Pa.kids,vD];omega
mutual
theorem Sm.Jr:∀(s:Sm) (deep n:Int),0<s.left deep n->s.left deep n=n-(Pa.st s).size
 |.mk l k t g e f d b,deep,n,h=>by
  have bF:=Sm.Hl (.mk l k t g e f d b);simp only[Sm.labels,Sm.targets,Sm.aw,Sm.elems,Sm.decls,Sm.body]at bF;rw[Sm.left]at h |-;split at h
  .omega
  .rename_i hd;rw[au hd];have h5:=Sm.vx b _ _ h
   have h4:0<De.leftG d deep (El.leftG f deep (Ex.eQ g (deep+1) (Ex.eQ e (deep+1) (n-1-l.length)))):=by
    by_cases hh:0<De.leftG d deep (El.leftG f deep (Ex.eQ g (deep+1) (Ex.eQ e (deep+1) (n-1-l.length))))
    .exact hh
    .rw[Sm.DV hh]at h;exact h
   have h4':=De.vx d _ _ h4
   have h3:0<El.leftG f deep (Ex.eQ g (deep+1) (Ex.eQ e (deep+1) (n-1-l.length))):=by
    by_cases hh:0<El.leftG f deep (Ex.eQ g (deep+1) (Ex.eQ e (deep+1) (n-1-l.length)))
    .exact hh
    .rw[De.DV hh]at h4;exact h4
   have II:=El.vx f _ _ h3
   have h2:0<Ex.eQ g (deep+1) (Ex.eQ e (deep+1) (n-1-l.length)):=by
    by_cases hh:0<Ex.eQ g (deep+1) (Ex.eQ e (deep+1) (n-1-l.length))
    .exact hh
    .rw[El.DV hh]at h3;exact h3
   have IG:=Ex.NE g _ _ h2
   have h1:0<Ex.eQ e (deep+1) (n-1-l.length):=by
    by_cases hh:0<Ex.eQ e (deep+1) (n-1-l.length)
    .exact hh
    .have:=qsX (l:=g) (deep:=deep+1) (n:=Ex.eQ e (deep+1) (n-1-l.length)) oM;omega
   have LL:=Ex.NE e _ _ h1;omega
theorem De.Jr:∀(s:De) (deep n:Int),0<s.left deep n->s.left deep n=n-(Pa.de s).size
 |.mk k o t nm e f b,deep,n,h=>by
  have bF:=De.Hl (.mk k o t nm e f b);simp only[De.names,De.aj,De.aw,De.body]at bF;rw[De.left]at h |-;have h5:=Sm.vx b _ _ h
  have h1:0<Ex.eQ e (deep+1) (n-1-nm.length-f.length):=by
   by_cases hh:0<Ex.eQ e (deep+1) (n-1-nm.length-f.length)
   .exact hh
   .rw[Sm.DV hh]at h;exact h
  have LL:=Ex.NE e _ _ h1;omega
theorem De.vx:∀(l:List De) (deep n:Int),0<De.leftG l deep n->De.leftG l deep n=n-bk (l.map Pa.de)
 |[],_,n,h=>by simp[De.leftG]
 |x::l,deep,n,h=>by
  rw[De.leftG]at h |-;split at h
  .rename_i h0;rw[ak h0];by_cases hx:0<x.left deep n
   .rw[De.vx l _ _ h,De.Jr x deep n hx,cQ,iN];omega
   .rw[De.DV hx]at h;omega
  .omega
theorem Sm.vx:∀(l:List Sm) (deep n:Int),0<Sm.leftG l deep n->Sm.leftG l deep n=n-bk (l.map Pa.st)
 |[],_,n,h=>by simp[Sm.leftG]
 |x::l,deep,n,h=>by
  rw[Sm.leftG]at h |-;split at h
  .rename_i h0;rw[ak h0];by_cases hx:0<x.left deep n
   .rw[Sm.vx l _ _ h,Sm.Jr x deep n hx,cQ,iN];omega
   .rw[Sm.DV hx]at h;omega
  .omega
end
def UP:∀(l:List Bz) (s:cy) (n:Nat),(binds l s n).length<=s.length+l.length
 |[],s,n=>by simp[binds]
 |x::l,s,n=>by
  simp only[binds];split
  .have:=UP l s n;simp;omega
  .have:=UP l (s++[(x,n)]) (n+1);simp at this |-;omega
def PR(l:List Bz)(n:Nat):(ar l n).length<=l.length:=by have:=UP l [] n;simpa[ar]using this
def qsF(x:Sm)(l:List Sm):(cr (x::l)).length=x.labels.length+(cr l).length:=by simp[cr]
def qtC(x:De)(l:List De):((x::l).flatMap De.names).length=x.names.length+(l.flatMap De.names).length:=sM
mutual
theorem Sm.RU:∀s:Sm,s.labels.length+s.nb<=(Pa.st s).size
 |.mk l k t g e f d b=>by
  have bF:=Sm.Hl (.mk l k t g e f d b);have hd:=De.NS d;have hb:=Sm.NS b;have h1:=Sm.RS b;simp only[Sm.labels,Sm.targets,Sm.aw,Sm.elems,Sm.decls,Sm.body]at bF |-;rw[Sm.nb];split
  .have:=PR (cK d b) 0;unfold cK at this |-;rw[dx]at this;omega
  .split
   .have:=PR (cr b) 0;omega
   .omega
theorem De.RU:∀s:De,s.names.length+s.nb<=(Pa.de s).size
 |.mk k o t nm e f b=>by
  have bF:=De.Hl (.mk k o t nm e f b);have h1:=Sm.RS b;simp only[De.names,De.aj,De.aw,De.body]at bF |-;rw[De.nb];split
  .have:=PR (f.map Fo.name) 0;rw[bQ]at this;omega
  .omega
theorem De.NS:∀l:List De,(l.flatMap De.names).length+De.aX l<=bk (l.map Pa.de)
 |[]=>by simp[De.aX]
 |x::l=>by
  have h1:=De.RU x;have h2:=De.NS l;rw[qtC,De.aX,cQ,iN];omega
theorem Sm.NS:∀l:List Sm,(cr l).length+Sm.aX l<=bk (l.map Pa.st)
 |[]=>by simp[Sm.aX,cr]
 |x::l=>by
  have h1:=Sm.RU x;have h2:=Sm.NS l;rw[qsF,Sm.aX,cQ,iN];omega
theorem Sm.RS:∀l:List Sm,Sm.bH l<=bk (l.map Pa.st)
 |[]=>by simp[Sm.bH]
 |x::l=>by
  have h1:=Sm.RU x;have h2:=Sm.RS l;have h3:=PR x.labels 0;rw[Sm.bH,cQ,iN];omega
end
def qvc(c:UInt8)(l:List UInt8):((⟨⟨[c]⟩⟩:Bz)++⟨l.toArray⟩).data.toList=c::l:=by
 simp[ByteArray.data_append]
def qvb{c:UInt8}{l:List UInt8}(h:qK c.toNat=false):aH ((⟨⟨[c]⟩⟩:Bz)++⟨l.toArray⟩)=false:=by
 unfold aH;rw[qvc];simp[QP,h]
def Yw(k:Nat):aH (Bo k)=false:=qvb (by decide)
def zh{p:Pa}{nm:Bz->Bool}(h:p.err nm=0):p.fits/\p.valid nm=true:=by
 unfold Pa.err at h;split at h
 .rename_i hf;split at h
  .rename_i hv;exact⟨hf,hv⟩
  .omega
 .omega
def qs7{s:Sm}(h:s.NK=true):(Pa.st s).size<150:=by
 unfold Sm.NK at h;rw[dT]at h;have:=Sm.Jr s 0 150 h;omega
end Go.Proofs.YtbifpocccfkhhaaGreatDoor
namespace Go.Proofs.YtbifpocccfkhhaaGreatDoor
open Go Go.ChangeShapes Go.WideShapes Go.ChangeAt Go.RowKit
def CR(W:World)(vs:List V)(cs:List Value):Prop:=vs.length=cs.length/\∀(j:Nat) (v:V) (c:Value),vs[j]?=some v->cs[j]?=some c->VR (E0 W) v c
def jF{H:Type}(t:TypeId)(d:DataW H):Prop:=∀n,n∈d.weights Tryz.prog t->n<=reachBytes
theorem YP{n:Nat}(h:n<=reachBytes):n<=bi:=by unfold reachBytes at h;unfold bi;omega
section
variable {H:Type} {enc:TypeId×Value->H} {W:World}
theorem weightsAll_mem{e:TypeId}{n:Nat}:∀{l:List (DataW H)} {d:DataW H},d∈l->n∈d.weights Tryz.prog e->n∈DataW.weightsAll Tryz.prog e l
 |x::l,d,hd,hn=>by
  rw[DataW.weightsAll];rcases dU.1 hd with rfl|hd
  .exact E4 _ hn
  .exact HN _ (weightsAll_mem hd hn)
theorem qac{n:Nat}:∀{ts:List TypeId} {l:List (DataW H)} {i:Nat} {t:TypeId} {d:DataW H},ts[i]?=some t->l[i]?=some d->n∈d.weights Tryz.prog t->n∈DataW.weightsEach Tryz.prog ts l
 |t0::ts,d0::l,0,t,d,ht,hd,hn=>by
  simp at ht hd;subst ht;subst hd;rw[DataW.weightsEach];exact E4 _ hn
 |t0::ts,d0::l,i+1,t,d,ht,hd,hn=>by
  rw[DataW.weightsEach];exact HN _ (qac (i:=i) (by simpa using ht) (by simpa using hd) hn)
theorem jF.part{t:TypeId}{fs:Array Field}(ht:Tryz.prog.underlying t=some (.struct fs)){l:List (DataW H)}(h:jF t (.agg l)){i:Nat}{f:Field}{d:DataW H}(hf:fs[i]?=some f)(hd:l[i]?=some d):jF f.type d:=λn hn=>h n (by
 rw[DataW.weights,ht];exact qac (i:=i) (t:=f.type) (by simp[hf]) hd hn)
theorem jF.elem{t e:TypeId}(ht:Tryz.prog.underlying t=some (.slice e)){l r:List (DataW H)}(h:jF t (.slice l r)){d:DataW H}(hd:d∈l):jF e d:=λn hn=>h n (by
 rw[DataW.weights,ht];exact uE _ (E4 _ (weightsAll_mem hd hn)))
theorem jF.len{t e:TypeId}(ht:Tryz.prog.underlying t=some (.slice e))(hb:0<Tryz.prog.bytesOf e){l r:List (DataW H)}(h:jF t (.slice l r)):l.length<=bi:=by
 have:=h ((l.length+r.length)*Tryz.prog.bytesOf e) (by rw[DataW.weights,ht];exact E5 ..);refine YP (js ?_ this)
 calc l.length<=(l.length+r.length)*1:=by omega
  _<=_:=Nat.mul_le_mul_left _ hb
theorem qyq{a:Addr}{v:Value}(h:W.cell? a=some v):a.spot=none:=by
 unfold World.cell? at h;split at h
 .split at h
  .cases h
  .rename_i hs;simpa using hs
 .cases h
theorem qdk{b o k:Nat}:(Addr.add ⟨b,o,none⟩ k)=⟨b,o+k,none⟩:=by
 unfold Addr.add;split
 .rename_i h;subst h;rfl
 .rfl
theorem qkb{α:Type}(f:α->V)(ok:α->Prop){sz:Nat}(bF:∀a,(f a).cells.length=sz)(hz:0<sz){t e:TypeId}(ht:Tryz.prog.underlying t=some (.slice e))(hc:Tryz.prog.cellsOf e=sz)(hb:0<Tryz.prog.bytesOf e){eg:Nat}
  (pz:∀n,n<eg->∀cs (x:DataW H×List MemPlace),DataW.trod enc Tryz.prog W 0 (λ_=>true) true n e cs=some x->jF e x.1->∃a,ok a/\CR W (f a).cells cs)
  {cs:List Value} {x:DataW H×List MemPlace} (h:DataW.trod enc Tryz.prog W 0 (λ_=>true) true eg t cs=some x) (hw:jF t x.1):
  ∃l:List α,(∀a,a∈l->ok a)/\l.length<=bi/\∃v,cs=[v]/\VR (E0 W) (.sl false (l.map f)) v:=by
 rcases DataW.trod_slice ht h with ⟨rfl,_⟩|⟨a,len,cap,elems,rest,n,rfl,rfl,rfl,_,hl,_,hlen,h1,h2,_⟩
 .exact⟨[],λa ha=>(by cases ha),fS _,_,rfl,.slnil _⟩
 obtain⟨h2a,h2b⟩:=h2 rfl;rw[hc]at h1 h2b;have hle:=jF.len ht hb hw;rw[bQ]at hle
 have each:∀i,i<len->∃b,ok b/\∃pe,W.cells? 0 (a.add (i*sz)) sz=some pe/\CR W (f b).cells pe:=λi hi=>by
  have eI:i<elems.length:=by omega
  have:=h1 i hi;rw[bX eI,xJ]at this;obtain⟨pe,k1,k2⟩:=this;obtain⟨b,k3,k4⟩:=pz n (by omega) pe _ k2 (jF.elem ht hw (pS (dz eI)));exact⟨b,k3,pe,k1,k4⟩
 by_cases iJ:cap=0
 .have:len=0:=by omega
  subst iJ;subst this;exact⟨[],λa ha=>(by cases ha),fS _,_,rfl,.pL _ _⟩
 have qfY:a.spot=none:=by
  have read:∀pe,W.cells? 0 (a.add (0*sz)) sz=some pe->a.spot=none:=λpe k=>by
   obtain⟨_,q1,q2⟩:=World.cells?_some k;have:=q2 0 hz;have wO:0<pe.length:=by omega
   rw[bX wO]at this;have:=qyq this;simpa[Addr.add]using this
  by_cases h0:0<len
  .obtain⟨_,_,pe,k,_⟩:=each 0 h0;exact read pe k
  .have I4:len=0:=by omega
   have:=h2b 0 (by omega);obtain⟨y0,DO⟩:∃y,rest[0]?=some y:=⟨_,bX (by omega)⟩;rw[DO,xJ]at this;obtain⟨pe,k,_⟩:=this;rw[I4]at k;exact read pe (by simpa using k)
 obtain⟨b,o,spot⟩:=a;simp only at qfY;subst qfY;obtain⟨g,hg⟩:∃g:Fin len->α,∀i,ok (g i)/\∃pe,W.cells? 0 (Addr.add ⟨b,o,none⟩ (i.1*sz)) sz=some pe/\CR W (f (g i)).cells pe:=⟨λi=>Classical.choose (each i.1 i.2),λi=>Classical.choose_spec (each i.1 i.2)⟩;have qI:(List.ofFn g).length=len:=List.length_ofFn;have yj:((List.ofFn g).map f).length=len:=by rw[bQ,qI]
 have cell:∀i (hi:i<len) j,j<sz->∃c,W.cell? ⟨b,o+i*sz+j,none⟩=some c/\∀v,(f (g ⟨i,hi⟩)).cells[j]?=some v->VR (E0 W) v c:=λi hi j hj=>by
  obtain⟨_,pe,k1,k2,k3⟩:=hg ⟨i,hi⟩;obtain⟨_,q1,q2⟩:=World.cells?_some k1;have q:=q2 j hj;have fg:j<pe.length:=by omega
  rw[bX fg,qdk,qdk]at q;exact⟨_,q,λv hv=>k3 j v _ hv (bX fg)⟩
 refine⟨List.ofFn g,λa ha=>?_,by omega,_,rfl,?_⟩
 .obtain⟨i,rfl⟩:=List.mem_ofFn.1 ha;exact(hg i).1
 .have:=@VR.sl (E0 W) false ((List.ofFn g).map f) b o cap sz (by omega) (λh=>by cases h) (λv hv=>?_) (λi j hi hj=>?_) (λi v j c' c hv hc hI=>?_)
  .rw[yj]at this;exact this
  .obtain⟨y,_,rfl⟩:=cY.1 hv;exact bF y
  .rw[yj]at hi;obtain⟨c,hc,_⟩:=cell i hi j hj;simp only[E0,hc];rfl
  .rw[dS,ep]at hv;obtain⟨y,hy,rfl⟩:=hv;rw[List.getElem?_ofFn]at hy;split at hy
   .rename_i hi;cases hy;have hj:j<sz:=by have:=(br.1 hc).1;rw[bF]at this;exact this
    obtain⟨c2,ri,rq⟩:=cell i hi j hj;simp only[E0,ri]at hI;cases hI;exact rq _ hc
   .cases hy
theorem piece{cs l:List Value}{o k i:Nat}(h:(cs.drop o).take k=l)(hi:i<k):cs[o+i]?=l[i]?:=by
 rw[<-h,qx hi,qw]
theorem Kz{vs:List V}{cs:List Value}(hl:vs.length=cs.length)(h:∀(j:Nat) (v:V),vs[j]?=some v->∃c,cs[j]?=some c/\VR (E0 W) v c):CR W vs cs:=
 ⟨hl,λj v c hv hc=>by
  obtain⟨c',h1,h2⟩:=h j v hv;rw[h1]at hc;cases hc;exact h2⟩
theorem Ex.xl:∀{l:List Ex},(∀x,x∈l->x.ok)->Ex.cH l
 |[],_=>trivial
 |x::l,h=>⟨h x (by simp),Ex.xl λy hy=>h y (by simp[hy])⟩
theorem De.xl:∀{l:List De},(∀x,x∈l->x.ok)->De.cH l
 |[],_=>by rw[De.cH];exact trivial
 |x::l,h=>by rw[De.cH];exact⟨h x (by simp),De.xl λy hy=>h y (by simp[hy])⟩
theorem Sm.xl:∀{l:List Sm},(∀x,x∈l->x.ok)->Sm.cH l
 |[],_=>by rw[Sm.cH];exact trivial
 |x::l,h=>by rw[Sm.cH];exact⟨h x (by simp),Sm.xl λy hy=>h y (by simp[hy])⟩
theorem kc3:Tryz.prog.cellsOf 3=1:=by kernel_rfl
theorem qsq:Tryz.prog.cellsOf 4=1:=by kernel_rfl
theorem kc9:Tryz.prog.cellsOf 9=1:=by kernel_rfl
theorem qsl:Tryz.prog.cellsOf 22=1:=by kernel_rfl
theorem XV:Tryz.prog.cellsOf 23=1:=by kernel_rfl
theorem qsm:Tryz.prog.cellsOf 24=1:=by kernel_rfl
theorem qsn:Tryz.prog.cellsOf 25=1:=by kernel_rfl
theorem qgw:Tryz.prog.cellsOf 26=1:=by kernel_rfl
theorem qsp:Tryz.prog.cellsOf 40=1:=by kernel_rfl
theorem qgy:Tryz.prog.cellsOf 52=2:=by kernel_rfl
theorem NB:Tryz.prog.cellsOf 54=7:=by kernel_rfl
theorem qgv:Tryz.prog.cellsOf 135=2:=by kernel_rfl
theorem qgz:Tryz.prog.cellsOf 87=4:=by kernel_rfl
theorem qgx:Tryz.prog.cellsOf 42=7:=by kernel_rfl
theorem XW:Tryz.prog.cellsOf 28=8:=by kernel_rfl
theorem y9:0<Tryz.prog.bytesOf 9:=by decide+kernel
theorem TA:0<Tryz.prog.bytesOf 54:=by decide+kernel
theorem qzM:0<Tryz.prog.bytesOf 135:=by decide+kernel
theorem y87:0<Tryz.prog.bytesOf 87:=by decide+kernel
theorem y42:0<Tryz.prog.bytesOf 42:=by decide+kernel
theorem y28:0<Tryz.prog.bytesOf 28:=by decide+kernel
theorem yx{n o:Nat}{cs:List Value}{y:DataW H×List MemPlace}(h:DataW.trod enc Tryz.prog W 0 (λ_=>true) true n 3 ((cs.drop o).take (Tryz.prog.cellsOf 3))=some y):∃k,cs[o]?=some (.int .i64 k):=by
 obtain⟨k,hk,_⟩:=DataW.trod_int Tryz.underlying3 h;rw[kc3]at hk;exact⟨k,by have:=piece hk (i:=0) (by omega);simpa using this⟩
theorem qdA{n o:Nat}{cs:List Value}{y:DataW H×List MemPlace}(h:DataW.trod enc Tryz.prog W 0 (λ_=>true) true n 4 ((cs.drop o).take (Tryz.prog.cellsOf 4))=some y):∃k,cs[o]?=some (.bool k):=by
 obtain⟨k,hk,_⟩:=DataW.trod_bool Tryz.underlying4 h;rw[qsq]at hk;exact⟨k,by have:=piece hk (i:=0) (by omega);simpa using this⟩
theorem ZP{n o:Nat}{cs:List Value}{y:DataW H×List MemPlace}(h:DataW.trod enc Tryz.prog W 0 (λ_=>true) true n 9 ((cs.drop o).take (Tryz.prog.cellsOf 9))=some y)(hw:jF 9 y.1):∃s:ByteArray,cs[o]?=some (.string s)/\s.size<=bi:=by
 obtain⟨k,hk,hy,_⟩:=DataW.trod_string Tryz.underlying9 h;rw[kc9]at hk;refine⟨k,by have:=piece hk (i:=0) (by omega);simpa using this,?_⟩;have:=hw k.size (by rw[hy,DataW.weights];exact sZ.2 (by rw[yT];rfl));exact YP this
theorem BC{α:Type}(f:α->V)(ok:α->Prop){sz:Nat}(bF:∀a,(f a).cells.length=sz)(hz:0<sz){t e:TypeId}(ht:Tryz.prog.underlying t=some (.slice e))(hc:Tryz.prog.cellsOf e=sz)(hb:0<Tryz.prog.bytesOf e)(h1:Tryz.prog.cellsOf t=1){n o:Nat}
  (pz:∀m,m<n->∀cs (x:DataW H×List MemPlace),DataW.trod enc Tryz.prog W 0 (λ_=>true) true m e cs=some x->jF e x.1->∃a,ok a/\CR W (f a).cells cs)
  {cs:List Value} {y:DataW H×List MemPlace} (h:DataW.trod enc Tryz.prog W 0 (λ_=>true) true n t ((cs.drop o).take (Tryz.prog.cellsOf t))=some y) (hw:jF t y.1):
  ∃l:List α,(∀a,a∈l->ok a)/\l.length<=bi/\∃v,cs[o]?=some v/\VR (E0 W) (.sl false (l.map f)) v:=by
 obtain⟨l,k1,k2,v,k3,k4⟩:=qkb f ok bF hz ht hc hb pz h hw;rw[h1]at k3;exact⟨l,k1,k2,v,by have:=piece k3 (i:=0) (by omega);simpa using this,k4⟩
theorem qyE{n:Nat}:∀m,m<n->∀cs (x:DataW H×List MemPlace),DataW.trod enc Tryz.prog W 0 (λ_=>true) true m 9 cs=some x->jF 9 x.1->∃s:ByteArray,s.size<=bi/\CR W (V.str s).cells cs:=by
 intro m _ cs x h hw;obtain⟨k,rfl,hy,_⟩:=DataW.trod_string Tryz.underlying9 h;refine⟨k,YP (hw k.size (by rw[hy,DataW.weights];exact sZ.2 (by rw[yT];rfl))),rfl,λj v c hv hc=>?_⟩
 match j,hv,hc with
 |0,hv,hc=>simp at hv hc;subst hv;subst hc;exact .str k
theorem parts{t:TypeId}{fs:Array Field}(ht:Tryz.prog.underlying t=some (.struct fs)){eg:Nat}{cs:List Value}{x:DataW H×List MemPlace}(h:DataW.trod enc Tryz.prog W 0 (λ_=>true) true eg t cs=some x)(hw:jF t x.1):
  ∃n,n<eg/\cs.length=Tryz.prog.cellsOf t/\∀(i:Nat) (f:Field),fs[i]?=some f->∃y:DataW H×List MemPlace,DataW.trod enc Tryz.prog W 0 (λ_=>true) true n f.type ((cs.drop f.offset).take (Tryz.prog.cellsOf f.type))=some y/\jF f.type y.1:=by
 obtain⟨xs,n,rfl,rfl,h1,h2,h3⟩:=DataW.trod_struct ht h;refine⟨n,by omega,h1,λi f hf=>?_⟩
 have hi:i<xs.length:=by
  have:=(kQ.1 hf).1;omega
 have:=h3 i f hf;rw[bX hi]at this;exact⟨xs[i],this,jF.part ht hw hf (by simp[hi])⟩
theorem Qk:∀(m eg:Nat),eg<=m->∀cs (x:DataW H×List MemPlace),DataW.trod enc Tryz.prog W 0 (λ_=>true) true eg 54 cs=some x->jF 54 x.1->∃a:Ex,a.ok/\CR W a.v.cells cs
 |0,eg,hm,cs,x,h,hw=>by
  obtain⟨n,hn,_⟩:=parts Tryz.underlying54 h hw;omega
 |m+1,eg,hm,cs,x,h,hw=>by
  obtain⟨n,hn,hl,hp⟩:=parts Tryz.underlying54 h hw;obtain⟨y0,p0,q0⟩:=hp 0 _ rfl;obtain⟨y1,p1,q1⟩:=hp 1 _ rfl;obtain⟨y2,p2,q2⟩:=hp 2 _ rfl;obtain⟨y3,p3,q3⟩:=hp 3 _ rfl;obtain⟨y4,p4,q4⟩:=hp 4 _ rfl;obtain⟨y5,p5,q5⟩:=hp 5 _ rfl;obtain⟨k0,e0⟩:=yx p0;obtain⟨k1,e1⟩:=yx p1;obtain⟨k2,e2⟩:=yx p2;obtain⟨n3,Dz,hl3,M1⟩:=parts Tryz.underlying52 p3 q3;obtain⟨z0,r0,_⟩:=M1 0 _ rfl;obtain⟨z1,r1,_⟩:=M1 1 _ rfl;obtain⟨k3,e3⟩:=yx r0;obtain⟨k4,e4⟩:=yx r1;obtain⟨s,e5,hs⟩:=ZP p4 q4;obtain⟨l,oL,qI,v,e6,hv⟩:=BC Ex.v Ex.ok (sz:=7) (λa=>by simp) (by omega) Tryz.underlying23 NB TA XV (λm' tz=>Qk m m' (by omega)) p5 q5;have e3:((cs.drop 3).take 2)[0]?=some (.int .i64 k3):=by rw[<-qgy];exact e3
  have e4:((cs.drop 3).take 2)[1]?=some (.int .i64 k4):=by rw[<-qgy];exact e4
  rw[qx (by omega),qw]at e3 e4;refine⟨.mk k0 k1 k2 k3 k4 s l,⟨hs,qI,Ex.xl oL⟩,Kz ?_ ?_⟩
  .rw[hl,NB];simp
  .intro j w cM;rw[Ex.sS]at cM
   match j,cM with
   |0,cM=>cases cM;exact⟨_,e0,.int _ _⟩
   |1,cM=>cases cM;exact⟨_,e1,.int _ _⟩
   |2,cM=>cases cM;exact⟨_,e2,.int _ _⟩
   |3,cM=>cases cM;exact⟨_,e3,.int _ _⟩
   |4,cM=>cases cM;exact⟨_,e4,.int _ _⟩
   |5,cM=>cases cM;exact⟨_,e5,.str _⟩
   |6,cM=>cases cM;exact⟨_,e6,hv⟩
theorem qn1{eg:Nat}{cs:List Value}{x:DataW H×List MemPlace}(h:DataW.trod enc Tryz.prog W 0 (λ_=>true) true eg 135 cs=some x)(hw:jF 135 x.1):∃a:El,a.ok/\CR W a.v.cells cs:=by
 obtain⟨n,hn,hl,hp⟩:=parts Tryz.underlying135 h hw;obtain⟨y0,p0,q0⟩:=hp 0 _ rfl;obtain⟨y1,p1,q1⟩:=hp 1 _ rfl;obtain⟨k0,e0⟩:=yx p0;obtain⟨l,oL,qI,v,e1,hv⟩:=BC Ex.v Ex.ok (sz:=7) (λa=>by simp) (by omega) Tryz.underlying23 NB TA XV (λm' tz=>Qk m' m' (dl _)) p1 q1;refine⟨⟨k0,l⟩,⟨qI,Ex.xl oL⟩,Kz ?_ ?_⟩
 .rw[hl,qgv];rfl
 .intro j w cM;rw[El.sS]at cM
  match j,cM with
  |0,cM=>cases cM;exact⟨_,e0,.int _ _⟩
  |1,cM=>cases cM;exact⟨_,e1,hv⟩
theorem qph{eg:Nat}{cs:List Value}{x:DataW H×List MemPlace}(h:DataW.trod enc Tryz.prog W 0 (λ_=>true) true eg 87 cs=some x)(hw:jF 87 x.1):∃a:Fo,a.ok/\CR W a.v.cells cs:=by
 obtain⟨n,hn,hl,hp⟩:=parts Tryz.underlying87 h hw;obtain⟨y0,p0,q0⟩:=hp 0 _ rfl;obtain⟨y1,p1,q1⟩:=hp 1 _ rfl;obtain⟨y2,p2,q2⟩:=hp 2 _ rfl;obtain⟨y3,p3,q3⟩:=hp 3 _ rfl;obtain⟨s,e0,hs⟩:=ZP p0 q0;obtain⟨k1,e1⟩:=qdA p1;obtain⟨k2,e2⟩:=yx p2;obtain⟨k3,e3⟩:=yx p3;refine⟨⟨s,k1,k2,k3⟩,hs,Kz ?_ ?_⟩
 .rw[hl,qgz];rfl
 .intro j w cM;rw[Fo.sS]at cM
  match j,cM with
  |0,cM=>cases cM;exact⟨_,e0,.str _⟩
  |1,cM=>cases cM;exact⟨_,e1,.bool _⟩
  |2,cM=>cases cM;exact⟨_,e2,.int _ _⟩
  |3,cM=>cases cM;exact⟨_,e3,.int _ _⟩
theorem VG{n o:Nat}{cs:List Value}{y:DataW H×List MemPlace}(h:DataW.trod enc Tryz.prog W 0 (λ_=>true) true n 23 ((cs.drop o).take (Tryz.prog.cellsOf 23))=some y)(hw:jF 23 y.1):
  ∃l:List Ex,(l.length<=bi/\Ex.cH l)/\∃v,cs[o]?=some v/\VR (E0 W) (.sl false (l.map Ex.v)) v:=by
 obtain⟨l,oL,qI,hv⟩:=BC Ex.v Ex.ok (sz:=7) (λa=>by simp) (by omega) Tryz.underlying23 NB TA XV (λm' tz=>Qk m' m' (dl _)) h hw;exact⟨l,⟨qI,Ex.xl oL⟩,hv⟩
theorem qkV{n o:Nat}{cs:List Value}{y:DataW H×List MemPlace}(h:DataW.trod enc Tryz.prog W 0 (λ_=>true) true n 22 ((cs.drop o).take (Tryz.prog.cellsOf 22))=some y)(hw:jF 22 y.1):
  ∃l:List ByteArray,Bq l/\∃v,cs[o]?=some v/\VR (E0 W) (.sl false (l.map .str)) v:=by
 obtain⟨l,oL,qI,hv⟩:=BC V.str (λs=>s.size<=bi) (sz:=1) (λa=>rfl) (by omega) Tryz.underlying22 kc9 y9 qsl qyE h hw;exact⟨l,⟨qI,oL⟩,hv⟩
theorem Tc:∀(m eg:Nat),eg<=m->(∀cs (x:DataW H×List MemPlace),DataW.trod enc Tryz.prog W 0 (λ_=>true) true eg 42 cs=some x->jF 42 x.1->∃a:De,a.ok/\CR W a.v.cells cs)/\
  ∀cs (x:DataW H×List MemPlace),DataW.trod enc Tryz.prog W 0 (λ_=>true) true eg 28 cs=some x->jF 28 x.1->∃a:Sm,a.ok/\CR W a.v.cells cs
 |0,eg,hm=>by
  refine⟨λcs x h hw=>?_,λcs x h hw=>?_⟩
  .obtain⟨n,hn,_⟩:=parts Tryz.underlying42 h hw;omega
  .obtain⟨n,hn,_⟩:=parts Tryz.underlying28 h hw;omega
 |m+1,eg,hm=>by
  refine⟨λcs x h hw=>?_,λcs x h hw=>?_⟩
  .obtain⟨n,hn,hl,hp⟩:=parts Tryz.underlying42 h hw;obtain⟨y0,p0,q0⟩:=hp 0 _ rfl;obtain⟨y1,p1,q1⟩:=hp 1 _ rfl;obtain⟨y2,p2,q2⟩:=hp 2 _ rfl;obtain⟨y3,p3,q3⟩:=hp 3 _ rfl;obtain⟨y4,p4,q4⟩:=hp 4 _ rfl;obtain⟨y5,p5,q5⟩:=hp 5 _ rfl;obtain⟨y6,p6,q6⟩:=hp 6 _ rfl;obtain⟨k0,e0⟩:=yx p0;obtain⟨k1,e1⟩:=qdA p1;obtain⟨k2,e2⟩:=yx p2;obtain⟨nm,on,v3,e3,h3⟩:=qkV p3 q3;obtain⟨ex,oe,v4,e4,h4⟩:=VG p4 q4;obtain⟨fo,of,lf,v5,e5,h5⟩:=BC Fo.v Fo.ok (sz:=4) (λa=>rfl) (by omega) Tryz.underlying40 qgz y87 qsp (λm' tz cs x=>qph) p5 q5;obtain⟨bo,ob,lb,v6,e6,h6⟩:=BC Sm.v Sm.ok (sz:=8) (λa=>by simp) (by omega) Tryz.underlying26 XW y28 qgw (λm' tz=>(Tc m m' (by omega)).2) p6 q6;refine⟨.mk k0 k1 k2 nm ex fo bo,(De.fh _).2 ⟨on,oe,⟨lf,of⟩,⟨lb,Sm.xl ob⟩⟩,Kz ?_ ?_⟩
   .rw[hl,qgx];simp
   .intro j w cM;rw[De.sS]at cM
    match j,cM with
    |0,cM=>cases cM;exact⟨_,e0,.int _ _⟩
    |1,cM=>cases cM;exact⟨_,e1,.bool _⟩
    |2,cM=>cases cM;exact⟨_,e2,.int _ _⟩
    |3,cM=>cases cM;exact⟨_,e3,h3⟩
    |4,cM=>cases cM;exact⟨_,e4,h4⟩
    |5,cM=>cases cM;exact⟨_,e5,h5⟩
    |6,cM=>cases cM;exact⟨_,e6,h6⟩
  .obtain⟨n,hn,hl,hp⟩:=parts Tryz.underlying28 h hw;obtain⟨y0,p0,q0⟩:=hp 0 _ rfl;obtain⟨y1,p1,q1⟩:=hp 1 _ rfl;obtain⟨y2,p2,q2⟩:=hp 2 _ rfl;obtain⟨y3,p3,q3⟩:=hp 3 _ rfl;obtain⟨y4,p4,q4⟩:=hp 4 _ rfl;obtain⟨y5,p5,q5⟩:=hp 5 _ rfl;obtain⟨y6,p6,q6⟩:=hp 6 _ rfl;obtain⟨y7,p7,q7⟩:=hp 7 _ rfl;obtain⟨lb,ol,v0,e0,h0⟩:=qkV p0 q0;obtain⟨k1,e1⟩:=yx p1;obtain⟨s,e2,hs⟩:=ZP p2 q2;obtain⟨tg,ot,v3,e3,h3⟩:=VG p3 q3;obtain⟨ex,oe,v4,e4,h4⟩:=VG p4 q4;obtain⟨el,oel,lel,v5,e5,h5⟩:=BC El.v El.ok (sz:=2) (λa=>rfl) (by omega) Tryz.underlying24 qgv qzM qsm (λm' tz cs x=>qn1) p5 q5;obtain⟨de,od,ld,v6,e6,h6⟩:=BC De.v De.ok (sz:=7) (λa=>by simp) (by omega) Tryz.underlying25 qgx y42 qsn (λm' tz=>(Tc m m' (by omega)).1) p6 q6;obtain⟨bo,ob,lbo,v7,e7,h7⟩:=BC Sm.v Sm.ok (sz:=8) (λa=>by simp) (by omega) Tryz.underlying26 XW y28 qgw (λm' tz=>(Tc m m' (by omega)).2) p7 q7;refine⟨.mk lb k1 s tg ex el de bo,(Sm.fh _).2 ⟨ol,hs,ot,oe,⟨lel,oel⟩,⟨ld,De.xl od⟩,⟨lbo,Sm.xl ob⟩⟩,Kz ?_ ?_⟩
   .rw[hl,XW];simp
   .intro j w cM;rw[Sm.sS]at cM
    match j,cM with
    |0,cM=>cases cM;exact⟨_,e0,h0⟩
    |1,cM=>cases cM;exact⟨_,e1,.int _ _⟩
    |2,cM=>cases cM;exact⟨_,e2,.str _⟩
    |3,cM=>cases cM;exact⟨_,e3,h3⟩
    |4,cM=>cases cM;exact⟨_,e4,h4⟩
    |5,cM=>cases cM;exact⟨_,e5,h5⟩
    |6,cM=>cases cM;exact⟨_,e6,h6⟩
    |7,cM=>cases cM;exact⟨_,e7,h7⟩
set_option maxRecDepth 100000
theorem qme{vs:List V}{v:Value}{cs:Array Value}(hv:v=.agg cs)(h:CR W vs v.cells.toList):VR (E0 W) (.agg vs) v:=by
 subst hv;refine .agg (by have:=h.1;simpa[Value.cells]using this) λi x u hx hu=>h.2 i x u hx (by simpa[Value.cells]using hu)
theorem qnC{base:Nat}{v:Value}{d:DataW H}{p:List MemPlace}(cF:Value.okWide Tryz.prog W .any base 42 v)(h:DataW.Trod enc Tryz.prog W 0 (λ_=>true) true 42 v d p)(hw:jF 42 d):∃s:De,s.ok/\VR (E0 W) s.v v:=by
 obtain⟨eg,h⟩:=h;obtain⟨s,hs,hc⟩:=(Tc eg eg (dl _)).1 _ _ h hw;unfold Value.okWide at cF;rw[Tryz.underlying42]at cF;obtain⟨cs,hv,_⟩:=cF;rw[De.sS]at hc;exact⟨s,hs,by rw[De.eW];exact qme hv hc⟩
theorem qeE{ts:List TypeId}{ds:List (DataW H)}(h:(DataW.weightsEach Tryz.prog ts ds).all (·<=reachBytes)=true){i:Nat}{t:TypeId}{d:DataW H}(ht:ts[i]?=some t)(hd:ds[i]?=some d):jF t d:=λn hn=>by
 have:=fR.1 h n (qac ht hd hn);simpa using this
end
end Go.Proofs.YtbifpocccfkhhaaGreatDoor
namespace Go.Proofs.YtbifpocccfkhhaaGreatDoor
open Go Go.ChangeShapes Go.WideShapes Go.ChangeAt Go.RowKit
set_option maxRecDepth 100000
section
variable {H:Type} {enc:TypeId×Value->H} {W:World}
theorem trodAll_cons{P:Program}{t:TypeId}{ts:List TypeId}{vs:List Value}{ds:List (DataW H)}{ps:List MemPlace}(h:DataW.TrodAll enc P W 0 (λ_=>true) true (t::ts) vs ds ps):
  ∃v vI d ds' p q,vs=v::vI/\ds=d::ds'/\DataW.Trod enc P W 0 (λ_=>true) true t v d p/\DataW.TrodAll enc P W 0 (λ_=>true) true ts vI ds' q:=by
 cases vs with
 |nil=>exact h.elim
 |cons v vs=>
  cases ds with
  |nil=>exact h.elim
  |cons d ds=>
   obtain⟨p,q,h1,h2,_⟩:=h;exact⟨v,vs,d,ds,p,q,rfl,rfl,h1,h2⟩
theorem trodAll_nil{P:Program}{vs:List Value}{ds:List (DataW H)}{ps:List MemPlace}(h:DataW.TrodAll enc P W 0 (λ_=>true) true [] vs ds ps):vs=[]/\ds=[]:=by
 cases vs with
 |nil=>
  cases ds with
  |nil=>exact⟨rfl,rfl⟩
  |cons d ds=>exact h.elim
 |cons v vs=>cases ds<;>exact h.elim
theorem qwI{base:Nat}{t e:TypeId}{v v':Value}(ht:Tryz.prog.underlying t=some (.slice e))(cF:Value.okWide Tryz.prog W .any base t v)(h:v.cells.toList=[v']):v'=v:=by
 obtain⟨a0,len,cap,rfl⟩:=okWide_slice ht cF;simp[Value.cells]at h;exact h.symm
theorem qon{base:Nat}{v:Value}{d:DataW H}{p:List MemPlace}(cF:Value.okWide Tryz.prog W .any base 23 v)(h:DataW.Trod enc Tryz.prog W 0 (λ_=>true) true 23 v d p)(hw:jF 23 d):∃l:List Ex,(l.length<=bi/\Ex.cH l)/\VR (E0 W) (.sl false (l.map Ex.v)) v:=by
 obtain⟨eg,hf⟩:=h;obtain⟨l,oL,qI,v',hc,hv⟩:=qkb Ex.v Ex.ok (sz:=7) (λa=>by simp) (by omega) Tryz.underlying23 NB TA (λm' tz=>Qk m' m' (dl _)) hf hw;rw[qwI Tryz.underlying23 cF hc]at hv;exact⟨l,⟨qI,Ex.xl oL⟩,hv⟩
end
open Go.Proofs.Tryz
set_option maxHeartbeats 0
set_option maxRecDepth 100000
noncomputable def qaR:=aW func148
noncomputable def C9:=aW func9
def Rr:Pw where
 H:=Unit
 f _ x:=x
 nm:=none
 cl:=none
 nQ h _ _:=h
 xh h _ _ _:=h
 qZ h _ _:=h
def Rq:Cb where
 toPw:=Rr
 fe:=.bY
 fn:=.bY
 fc:=.bY
 I _ F D _:=∀l,¬F l/\¬D l
 cn _ _:=True
 lim:=100001
theorem qsb:Rq.Ok where
 lim:=dl _
 lt:=λ{h F D S} k l hl=>by
  have k:∀l,¬F l/\¬D l:=k;exact(hl.elim (k l).1 (k l).2).elim
 fr:=λ{h F D S U M} k hk hM=>k
 lp:=λ{h F D S} k l o ho=>(show ∀l,¬F l/\¬D l from k) l
 ce _ _:=trivial
 cm _ _ _ _:=trivial
 cc _ _ _:=trivial
 real:=λ{h F D S} k h'=>⟨F,D,S,k,Kp.refl _ _,grow.refl _ _,grow.refl _ _⟩
 en:=.inl ⟨rfl,λ_ _=>rfl,λ_ _ _=>rfl⟩
 nm:=rfl
 cl:=rfl
mutual
theorem Ex.qll:∀(x:Ex) (tg:Bool),Ex.wr Rr [] tg x=x
 |.mk k o n m e t a,tg=>by
  rw[Ex.wr,Ex.qlp a false];unfold Pw.yD;show(if Ex.named k=true then _ else _)=_;split<;>rfl
theorem Ex.qlp:∀(l:List Ex) (tg:Bool),Ex.bh Rr [] tg l=l
 |[],_=>rfl
 |x::l,tg=>by rw[Ex.bh,Ex.qll x tg,Ex.qlp l tg]
end
def HA:V:=zX
def OD(x:Ex)(hx:(Pa.ex x).size<=4000)(S:St):aA prog 80 [x.v] S (λr U=>r=x.v/\bz S U):=by
 refine aA.ib C80 ?_;simp[C80,aL,ab,aI,bP,bR,bI];obtain⟨S1,bB⟩:=eX (α:=St) (S++[.arr [x.v] 7 1,.arr [HA] 7 1,.arr [.agg [z0,.bY,.bY,.bY]] 4 1]);have l1:S1.length=S.length+3:=by rw[bB];simp
 have b1:S1[S.length+1]?=aJ [HA] 7:=by rw[bB,cx oM];simp
 have b2:S1[S.length+2]?=aJ [.agg [z0,.bY,.bY,.bY]] 4:=by rw[bB,cx oM];simp
 have kS:bz S S1:=by rw[bB];exact(Kp.refl _ _).push _
 have hw:Wk Rq (S.length+2) 0 () (λ_=>False) (λ_=>False) S1:=⟨b2,λ_=>⟨id,id⟩,id,id,trivial⟩;rw[show HA=zX from rfl]at bB;rw[<-bB];refine bE (ZF Rq qsb (S.length+2) 4000 x hx cz 0 () _ _ S1 .cu [] false hw rfl) ?_;rintro r U ⟨rfl,F2,D2,k2,s2⟩;have kK:Ex.wr Rr (aE []) false x=x:=Ex.qll x false;rw[show Ex.wr Rq.toPw (aE []) false x=x from kK];have c1:=s2.k.at b1 (by rintro(hh|hh)<;>omega);unfold HA at c1;simp[aI,c1,aU];have hz:(U.set (S.length+1) (.arr [x.v] 7 1))[S.length+1]?=aJ [x.v] 7:=bO (aR c1);refine bu (vs:=[x.v]) (by simp[eL,ab,hz]) ⟨rfl,?_⟩
 have kU:bz S U:=⟨js kS.len s2.k.len,λl hl hn=>by
  rw[s2.k.get l (by have:=kS.len;omega) (by rintro(hh|hh)<;>omega)];exact kS.get l hl hn⟩
 exact kU.set _ (.inr oM)
abbrev Oc:=Bz×ai
structure Obs(p:Pw)(α:Type)(ob:p.H->α)(w:α->Oc->α):Prop where
 nm:p.nm≠none
 cl:p.cl≠none
 n:∀h x sc tg,ob (p.xh h x sc tg)=w (ob h) (x.text,sc)
 c:∀h x sc,ob (p.qZ h x sc)=w (ob h) (x,sc)
 e:∀h k x,ob (p.nQ h k x)=ob h
section
variable {p:Pw} {α:Type} {ob:p.H->α} {w:α->Oc->α} (i:Obs p α ob w) {nm:Bz->Bool}
include i
end
structure qlW(r:Rp)(ob:cd->Prop)(q:Oc->Prop):Prop where
 u:∀sc x st,ob (oS r sc x st)↔ob st\/q (x,sc)
 b:∀st c,ob { st with bad:=c }↔ob st
section
variable {r:Rp} {ob:cd->Prop} {q:Oc->Prop} (i:qlW r ob q) {nm:Bz->Bool}
include i
end
def mH(bs:Nat->Bz)(n:Nat)(l:List Bz):Prop:=∀i x,l[i]?=some x->bs (n+i)=x
def mH.fst{bs:Nat->Bz}{n:Nat}{l m:List Bz}(h:mH bs n (l++m)):mH bs n l:=λi x hx=>h i x (by rw[dh (br.1 hx).1];exact hx)
def mH.snd{bs:Nat->Bz}{n:Nat}{l m:List Bz}(h:mH bs n (l++m)):mH bs (n+l.length) m:=λi x hx=>by
 have:=h (l.length+i) x (by rw[cx oM,E8];exact hx);rwa [<-jU]at this
def oZ(bs:Nat->Bz)(sc:ai):Prop:=∀s,s∈sc->∀e,e∈s->bs e.2=e.1
def vz(f:Nat->Bz)(s:cy):cy:=s.map λe=>(f e.2,e.2)
section
variable {f bs:Nat->Bz} (h1:∀j k,f j=f k->bs j=bs k)
theorem UH{s:cy}{x:Bz}{k:Nat}(h:s.at x=some k):(x,k)∈s:=by
 unfold cy.at at h;obtain⟨e,he,hk⟩:=ep.1 h;have h2:=List.find?_some he;simp only[dT]at h2;subst h2 hk;exact KJ he
theorem qmF{s:cy}{x:Bz}(h:s.at x=none):∀e,e∈s->e.1≠x:=by
 unfold cy.at at h;rw[Option.map_eq_none_iff,HL]at h;intro e he hx;exact h e he (by simp[hx])
include h1
theorem qtq{s:cy}(hb:∀e,e∈s->bs e.2=e.1){x:Bz}{k:Nat}(hx:bs k=x):cy.at (vz f s) (f k)=(if s.at x=none then none else s.at x)\/∃j,s.at x=some j:=by
 cases h:s.at x with
 |some j=>exact .inr ⟨j,rfl⟩
 |none=>
  refine .inl ?_;rw[ak rfl];unfold cy.at vz;rw[Option.map_eq_none_iff,HL];intro e he hh;obtain⟨e',uT,rfl⟩:=cY.1 he;simp only[dT]at hh;exact qmF h e' uT (by rw[<-hb e' uT,h1 _ _ hh,hx])
theorem qg4{x:Bz}{k:Nat}:∀{s:cy},(∀e,e∈s->bs e.2=e.1)->s.at x=some k->cy.at (vz f s) (f k)=some k
 |[],_,h=>by cases h
 |e::s,hb,h=>by
  unfold cy.at at h |-;unfold vz;rw[cQ,EY];rw[EY]at h;by_cases hx:e.1=x
  .rw[pf hx]at h;cases h;simp
  .rw[e9 hx]at h;have hm:(x,k)∈s:=UH (s:=s) h;have hk:=hb _ (uE _ hm);have hf:¬f e.2=f k:=λhh=>hx (by rw[<-hb e (E5 ..),h1 _ _ hh,hk])
   rw[e9 hf];exact qg4 (λe he=>hb e (uE _ he)) h
theorem qtr{x:Bz}{k:Nat}{s:cy}(hb:∀e,e∈s->bs e.2=e.1)(h:s.at x=none)(hk:bs k=x):cy.at (vz f s) (f k)=none:=by
 rcases qtq h1 hb hk with h2|⟨j,h2⟩
 .rw[h2,ak h]
 .rw[h]at h2;cases h2
omit h1 in
theorem PO{x:Bz}{k:Nat}:∀{sc:ai},oZ bs sc->sc.at x=some k->bs k=x
 |[],_,h=>by cases h
 |s::sc,hb,h=>by
  unfold ai.at at h
  cases ha:cy.at s x with
  |some j=>
   rw[ha]at h;cases h;exact hb s (E5 ..) _ (UH ha)
  |none=>
   rw[ha]at h;exact PO (λt ht=>hb t (uE _ ht)) h
omit h1 in
theorem PT{x:Bz}{k:Nat}:∀(l:List Bz) (s:cy) (n:Nat),s.at x=some k->(binds l s n).at x=some k
 |[],s,n,h=>h
 |y::l,s,n,h=>by
  simp only[binds];split
  .exact PT l s n h
  .refine PT l _ _ ?_;unfold cy.at at h |-;rw[yW]
   cases hf:s.find? (λp=>decide (p.1=x)) with
   |some p=>rw[hf]at h;exact h
   |none=>rw[hf]at h;cases h
omit h1 in
theorem qmI{s:cy}{x:Bz}{n:Nat}(h:s.at x=none):cy.at (s++[(x,n)]) x=some n:=by
 unfold cy.at at h |-;rw[Option.map_eq_none_iff]at h;rw[yW,h];simp
def G6(f:Nat->Bz)(S:cy)(x:Bz):Bz:=match S.at x with
 |some k=>f k
 |none=>x
theorem UR{S:cy}(hS:∀e,e∈S->bs e.2=e.1):∀(l:List Bz) (s:cy) (n:Nat),binds l s n=S->(∀e,e∈s->bs e.2=e.1)->binds (l.map (G6 f S)) (vz f s) n=vz f S
 |[],s,n,h,_=>by rw[<-h];rfl
 |x::l,s,n,h,hs=>by
  rw[cQ];simp only[binds]at h |-
  cases hx:s.at x with
  |some k=>
   rw[hx]at h;simp only[Option.isSome_some,if_true]at h;have hk:S.at x=some k:=by rw[<-h];exact PT l s n hx
   have hr:G6 f S x=f k:=by unfold G6;rw[hk]
   rw[hr,qg4 h1 hs hx];simp only[Option.isSome_some,if_true];exact UR hS l s n h hs
  |none=>
   rw[hx]at h;simp only[PD,mf,if_false]at h;have hk:S.at x=some n:=by rw[<-h];exact PT l _ _ (qmI hx)
   have hb:bs n=x:=hS _ (UH hk);have hr:G6 f S x=f n:=by unfold G6;rw[hk]
   rw[hr,qtr h1 hs hx hb];simp only[PD,mf,if_false]
   have:=UR hS l (s++[(x,n)]) (n+1) h λe he=>by
    rcases cU.1 he with he|he
    .exact hs e he
    .simp at he;subst he;exact hb
   rw[<-this];unfold vz;rw[cJ];rfl
omit h1 in
theorem PW(b:Nat):∀(l:List Bz) (s:cy) (n:Nat),n=b+s.length->(∀i e,s[i]?=some e->e.2=b+i)->∀i e,(binds l s n)[i]?=some e->e.2=b+i
 |[],s,n,_,h=>h
 |x::l,s,n,hn,h=>by
  simp only[binds];split
  .exact PW b l s n hn h
  .refine PW b l _ _ (by simp;omega) λi e he=>?_
   by_cases hi:i<s.length
   .rw[dh hi]at he;exact h i e he
   .rw[cx oM]at he;have:i-s.length=0:=by have:=(br.1 he).1;simp at this;omega
    rw[this]at he;simp at he;subst he;show n=b+i;omega
omit h1 in
theorem qdu{l:List Bz}{n:Nat}(h:mH bs n (dk l)):∀e,e∈ar l n->bs e.2=e.1:=λe he=>by
 obtain⟨i,hi⟩:=qX.1 he;have hp:=PW n l [] n sM sM i e hi;have hm:(ar l n).map (·.1)=dk l:=HY 0 l [] [] n 0 rfl;have h2:(dk l)[i]?=some e.1:=by rw[<-hm,dS,hi];rfl
 rw[hp];exact h i _ h2
theorem qdv{l:List Bz}{n:Nat}{sc:ai}(h:mH bs n (dk l)):ar (l.map (fQ f (ar l n::sc))) n=vz f (ar l n):=by
 have hb:=qdu h
 have hm:l.map (fQ f (ar l n::sc))=l.map (G6 f (ar l n)):=rR λx hx=>by
  have hi:=PU x l [] n hx;unfold fQ G6 ai.at
  cases ha:cy.at (ar l n) x with
  |some k=>rfl
  |none=>unfold ar at ha;rw[ha]at hi;cases hi
 rw[hm];exact UR h1 hb l [] n rfl (λe he=>by cases he)
omit h1 in
theorem oZ.cons{sc:ai}{l:List Bz}{n:Nat}(h:oZ bs sc)(g:mH bs n (dk l)):oZ bs (ar l n::sc):=λs hs=>by
 rcases dU.1 hs with rfl|hs
 .exact qdu g
 .exact h s hs
end
def De.qlg(f:Nat->Bz)(own sc:ai):∀(l:List De) (n:Nat),(De.wl f own sc n l).flatMap De.names=(l.flatMap De.names).map (fQ f own)
 |[],_=>rfl
 |x::l,n=>by
  rw[De.wl,nl,nl,cJ,De.qlg f own sc l];congr 1;cases x;rw[De.w];split<;>rfl
def Sm.Z9(f:Nat->Bz)(sc:ai)(n:Nat)(x:Sm):(x.w f sc n).labels=x.labels.map (fQ f sc):=by
 cases x;rw[Sm.w];split
 .rfl
 .split<;>rfl
def Sm.qae(f:Nat->Bz)(sc:ai):∀(l:List Sm) (n:Nat),cr (Sm.wl f sc n l)=(cr l).map (fQ f sc)
 |[],_=>rfl
 |x::l,n=>by
  have:=Sm.qae f sc l (n+Sm.nb x);unfold cr at this |-;rw[Sm.wl,nl,nl,cJ,this,Sm.Z9]
def qmN(f:Nat->Bz)(own sc:ai)(d:List De)(b:List Sm)(n m:Nat):cK (De.wl f own sc n d) (Sm.wl f own m b)=(cK d b).map (fQ f own):=by
 unfold cK;rw[De.qlg,Sm.qae,cJ]
def Fos.qy4(f:Nat->Bz)(sc:ai)(l:List Fo):(l.map (Fo.w f sc)).map Fo.name=(l.map Fo.name).map (fQ f sc):=by
 rw[nJ,nJ];rfl
def qdw(l:List Bz)(n:Nat):(ar l n).map (·.2)=List.range' n (ar l n).length:=by
 refine vV λi=>?_
 rw[dS]
 cases h:(ar l n)[i]? with
 |none=>
  have:=T9.1 h;rw[rQ (by simpa using this)];rfl
 |some e=>
  have:=(br.1 h).1;rw[List.getElem?_range' this,fG,PW n l [] n sM sM i e h,Nat.one_mul]
def qhe{l:List Bz}(n:Nat):dk l=(ar l n).map (·.1):=HY 0 l [] [] 0 n rfl
set_option linter.unusedSectionVars false
section
variable {f bs:Nat->Bz} (h1:∀j k,f j=f k->bs j=bs k)
include h1
theorem RX{l:List Bz}{n:Nat}{sc:ai}(h:mH bs n (dk l)):dk (l.map (fQ f (ar l n::sc)))=(List.range' n (ar l 0).length).map f:=by
 rw[qhe n,qdv h1 h,<-mK l n 0,<-qdw];unfold vz;rw[nJ,nJ];rfl
mutual
theorem Sm.K8:∀(s:Sm) (sc:ai) (n:Nat),mH bs n s.bn->(s.w f sc n).bn=(List.range' n s.nb).map f
 |.mk l k t g e hh d b,sc,n,ha=>by
  rw[Sm.bn]at ha;rw[Sm.w,Sm.nb];by_cases h7:k=7
  .rw[ak h7]at ha |-;rw[ak h7,Sm.bn,ak h7,qmN,RX h1 ha.fst.fst];have hd:=ha.fst.snd;have hb:=ha.snd;rw[dx,De.uK,mZ,<-jU]at hb;rw[mZ]at hd;rw[mK _ n 0,De.H4 d _ _ _ hd,Sm.H4 b _ _ hb,<-cJ,Ao,<-cJ,jU,Ao]
  .rw[au h7]at ha |-;by_cases h8:k=8
   .rw[ak h8]at ha |-;rw[au h7,ak h8,Sm.bn,au h7,ak h8,Sm.qae,RX h1 ha.fst];have hb:=ha.snd;rw[mZ]at hb;rw[mK _ n 0,Sm.H4 b _ _ hb,<-cJ,Ao]
   .rw[au h8]at ha |-;rw[au h7,au h8,Sm.bn,au h7,au h8,Sm.UY b _ _ ha]
theorem De.K8:∀(s:De) (own sc:ai) (n:Nat),mH bs n s.bn->(s.w f own sc n).bn=(List.range' n s.nb).map f
 |.mk k o t ns e fo b,own,sc,n,ha=>by
  rw[De.bn]at ha;rw[De.w,De.nb];by_cases h4:k=4
  .rw[ak h4]at ha |-;have hb:=ha.snd;rw[mZ]at hb;rw[ak h4,De.bn,ak h4,Fos.qy4,RX h1 ha.fst,mK _ n 0,Sm.UY b _ _ hb,<-cJ,Ao]
  .rw[au h4,au h4,De.bn,au h4];rfl
theorem De.H4:∀(l:List De) (own sc:ai) (n:Nat),mH bs n (De.dp l)->De.dp (De.wl f own sc n l)=(List.range' n (De.aX l)).map f
 |[],_,_,_,_=>rfl
 |x::l,own,sc,n,ha=>by
  rw[De.dp]at ha;have h2:=ha.snd;rw[De.rT]at h2;rw[De.wl,De.dp,De.aX,De.K8 x own sc n ha.fst,De.H4 l own sc _ h2,<-cJ,Ao]
theorem Sm.H4:∀(l:List Sm) (sc:ai) (n:Nat),mH bs n (Sm.dp l)->Sm.dp (Sm.wl f sc n l)=(List.range' n (Sm.aX l)).map f
 |[],_,_,_=>rfl
 |x::l,sc,n,ha=>by
  rw[Sm.dp]at ha;have h2:=ha.snd;rw[Sm.rT]at h2;rw[Sm.wl,Sm.dp,Sm.aX,Sm.K8 x sc n ha.fst,Sm.H4 l sc _ h2,<-cJ,Ao]
theorem Sm.UY:∀(l:List Sm) (sc:ai) (n:Nat),mH bs n (Sm.jk l)->Sm.jk (Sm.w1 f sc n l)=(List.range' n (Sm.bH l)).map f
 |[],_,_,_=>rfl
 |x::l,sc,n,ha=>by
  rw[Sm.jk]at ha;have h2:=ha.snd;have h3:=ha.fst.snd;rw[dx,Sm.rT,mZ,<-jU]at h2;rw[mZ]at h3;rw[Sm.w1,Sm.jk,Sm.bH,Sm.Z9,RX h1 ha.fst.fst,mK _ n 0,Sm.K8 x _ _ h3,Sm.UY l sc _ h2,<-cJ,Ao,<-cJ,jU,Ao]
end
omit h1 in
theorem qeM(l:List Fo)(n:Nat)(sc:ai):DR (ar (l.map Fo.name) n::sc) (l.map Fo.name):=Jl _ _ _
end
abbrev Lk:=Bz->Option Ex
def Et(lk:Lk)(t:Bz):Bz:=match lk t with
 |some y=>y.text
 |none=>t
def Bn(lk:Lk)(t:Bz):Bool:=match lk t with
 |some y=>decide (y.kind≠6)
 |none=>false
def BI(lk:Lk)(tg:Bool)(t:Bz):Bool:=match lk t with
 |some y=>tg&&decide (y.kind≠6)&&decide (y.kind≠7)
 |none=>false
mutual
def Ex.sb(lk:Lk):Ex->Ex
 | .mk k o n m e t a=>if k=6 then (match lk t with
   |some y=>y
   |none=>.mk k o n m e t (Ex.tQ lk a))
  else .mk k o n m e (if Ex.named k then Et lk t else t) (Ex.tQ lk a)
def Ex.tQ(lk:Lk):List Ex->List Ex
 |[]=>[]
 |x::l=>Ex.sb lk x::Ex.tQ lk l
end
mutual
def Ex.gY(lk:Lk)(tg:Bool):Ex->Bool
 |.mk k _ _ _ _ t a=>Ex.cP lk false a||(if k=6 then BI lk tg t else Ex.named k&&Bn lk t)
def Ex.cP(lk:Lk)(tg:Bool):List Ex->Bool
 |[]=>false
 |x::l=>Ex.gY lk tg x||Ex.cP lk tg l
end
def El.sb(lk:Lk)(e:El):El:=⟨e.kind,Ex.tQ lk e.aw⟩
def El.cP(lk:Lk):List El->Bool
 |[]=>false
 |x::l=>Ex.cP lk false x.aw||El.cP lk l
mutual
def Sm.sb(lk:Lk):Sm->Sm
 |.mk l k t g e h d b=>.mk l k (if k=6 then Et lk t else t) (Ex.tQ lk g) (Ex.tQ lk e) (h.map (El.sb lk)) (De.tQ lk d) (Sm.tQ lk b)
def De.sb(lk:Lk):De->De
 |.mk k o t n e f b=>.mk k o t n (Ex.tQ lk e) f (Sm.tQ lk b)
def De.tQ(lk:Lk):List De->List De
 |[]=>[]
 |x::l=>De.sb lk x::De.tQ lk l
def Sm.tQ(lk:Lk):List Sm->List Sm
 |[]=>[]
 |x::l=>Sm.sb lk x::Sm.tQ lk l
end
mutual
def Sm.gY(lk:Lk):Sm->Bool
 |.mk _ k t g e h d b=>Ex.cP lk true g||Ex.cP lk false e||El.cP lk h||De.cP lk d||Sm.cP lk b||(decide (k=6)&&Bn lk t)
def De.gY(lk:Lk):De->Bool
 |.mk _ _ _ _ e _ b=>Ex.cP lk false e||Sm.cP lk b
def De.cP(lk:Lk):List De->Bool
 |[]=>false
 |x::l=>De.gY lk x||De.cP lk l
def Sm.cP(lk:Lk):List Sm->Bool
 |[]=>false
 |x::l=>Sm.gY lk x||Sm.cP lk l
end
def pJ(lk:Lk)(sc:ai)(t:Bz):Bz:=match sc.at t with
 |some _=>t
 |none=>Et lk t
def o9(lk:Lk)(sc:ai)(t:Bz):Bool:=match sc.at t with
 |some _=>false
 |none=>Bn lk t
def xp(lk:Lk)(sc:ai)(x:Ex):Ex:=match sc.at x.text with
 |some _=>x
 |none=>(lk x.text).getD x
def xy(lk:Lk)(sc:ai)(tg:Bool)(t:Bz):Bool:=match sc.at t with
 |some _=>false
 |none=>BI lk tg t
def eT(lk:Lk):Pw where
 H:=Bool
 f _ x:=x
 nm:=some λx sc _=>if x.kind=6 then xp lk sc x else .mk x.kind x.op x.n x.dQ x.exp (pJ lk sc x.text) x.args
 cl:=some λx sc=>pJ lk sc x
 nQ h _ _:=h
 xh h x sc tg:=h||(if x.kind=6 then xy lk sc tg x.text else o9 lk sc x.text)
 qZ h x sc:=h||o9 lk sc x
section
variable {p:Pw} (hp:∀k x,p.f k x=x)
include hp
theorem qjy(sc:ai)(x:Bz):jo p sc x=x:=by
 unfold jo;cases sc.at x<;>simp[hp]
theorem qjz(sc:ai)(l:List Bz):l.map (jo p sc)=l:=by
 rw[rR λx _=>qjy hp sc x];simp
theorem Fo.qzt(sc:ai)(l:List Fo):l.map (Fo.wr p sc)=l:=by
 rw[rR λx _=>(show Fo.wr p sc x=x by unfold Fo.wr;rw[qjy hp])];simp
variable {nm:Bz->Bool}
end
set_option maxHeartbeats 0
set_option maxRecDepth 100000
noncomputable def qaz:=aW func110
noncomputable def C6:=aW func6
abbrev JI(p:Nat):V:=ag p
def pW(h:List Bz×List Bz)(x:Bz)(sc:ai):List Bz×List Bz:=match sc.at x with
 |some _=>h
 |none=>(h.1++[x],h.2)
def bN:Pw where
 H:=List Bz×List Bz
 f _ x:=x
 nm:=some λx _ _=>x
 cl:=some λx _=>x
 nQ h _ x:=(h.1,h.2++[x])
 xh h x sc _:=pW h x.text sc
 qZ h x sc:=pW h x sc
structure Co(m c4 c5 c6:Nat)(h:List Bz×List Bz)(v:V)(ps:List Nat)(F D:Np)(U:St):Prop where
 f4:U[c4]?=aJ [.map m] 1
 fm:∃bs ck,ii bs ck/\U[m]?=some (.map ((h.1.foldl eo []).map kv) bs ck)
 f5:U[c5]?=aJ [v] 1
 f6:U[c6]?=aJ [.fn (.func 107) [] [ag c4]] 1
 gr:(ps=[]/\v=sN)\/∃a wr,v=.arr a 0 ps.length ps.length/\U[a]?=some (.arr (ps.map JI) 1 wr)/\wr<=ps.length/\F a/\a≠c5
 pn:ps.length=h.2.length
 pl:∀i p x,ps[i]?=some p->h.2[i]?=some x->D p/\U[p]?=some (fP x i x)
 dF:∀l,F l->l=m\/l=c5\/∃n,v=.arr l 0 n n
 dD:∀l,D l->l=c4\/l=c6\/l∈ps
 hm:F m
 h5:F c5
 h4:D c4
 h6:D c6
def Vm(m c4 c5 c6:Nat):Cb where
 toPw:=bN
 fe:=.fn (.func 108) [] [ag c5]
 fn:=.fn (.func 109) [] [ag c6]
 fc:=.fn (.func 110) [] [ag c6]
 I h F D U:=∃v ps,Co m c4 c5 c6 h v ps F D U
 cn h n:=h.2.length=n
 lim:=100001
def zK{U:St}{i j:Nat}{a b:Ob}(h:U[i]?=some a)(g:U[j]?=some b)(n:a≠b):i≠j:=by
 rintro rfl;rw[h]at g;cases g;exact n rfl
section
variable {m c4 c5 c6:Nat} {h:List Bz×List Bz} {v:V} {ps:List Nat} {F D:Np} {U:St}
theorem Co.place(k:Co m c4 c5 c6 h v ps F D U){p:Nat}(hp:p∈ps):∃x i,D p/\U[p]?=some (fP x i x):=by
 obtain⟨i,hi⟩:=qX.1 hp;have h1:=(br.1 hi).1;rw[k.pn]at h1;exact⟨_,i,k.pl i p _ hi (bX h1)⟩
theorem Co.gF(k:Co m c4 c5 c6 h v ps F D U){l:Nat}(hl:F l):∃o,U[l]?=some o/\(∀i,o≠.loop i)/\¬D l:=by
 have nD:∀o,U[l]?=some o->o≠.arr [.map m] 1 1->o≠.arr [.fn (.func 107) [] [ag c4]] 1 1->(∀x i,o≠fP x i x)->¬D l:=λo ho n1 n2 n3 hD=>by
  rcases k.dD l hD with rfl|rfl|hp
  .rw[k.f4]at ho;cases ho;exact n1 rfl
  .rw[k.f6]at ho;cases ho;exact n2 rfl
  .obtain⟨x,i,_,h2⟩:=k.place hp;rw[h2]at ho;cases ho;exact n3 x i rfl
 rcases k.dF l hl with rfl|rfl|⟨n,hv⟩
 .obtain⟨bs,ck,bg,hm⟩:=k.fm;exact⟨_,hm,sM,nD _ hm sM sM (by simp[fP])⟩
 .refine⟨_,k.f5,sM,nD _ k.f5 ?_ ?_ (by simp[fP])⟩
  .rcases k.gr with ⟨_,rfl⟩|⟨a,wr,rfl,_⟩<;>simp
  .rcases k.gr with ⟨_,rfl⟩|⟨a,wr,rfl,_⟩<;>simp
 .rcases k.gr with ⟨_,rfl⟩|⟨a,wr,rfl,ha,_,_⟩
  .cases hv
  .cases hv;refine⟨_,ha,sM,nD _ ha ?_ ?_ (by simp[fP])⟩
   .intro hh;injection hh with hh;cases ps<;>simp at hh
   .intro hh;injection hh with hh;cases ps<;>simp at hh
theorem Co.gD(k:Co m c4 c5 c6 h v ps F D U){l:Nat}(hl:D l):∃o,U[l]?=some o/\∀i,o≠.loop i:=by
 rcases k.dD l hl with rfl|rfl|hp
 .exact⟨_,k.f4,sM⟩
 .exact⟨_,k.f6,sM⟩
 .obtain⟨x,i,_,h2⟩:=k.place hp;exact⟨_,h2,by simp[fP]⟩
theorem Co.fr{U':St}{M:Np}(k:Co m c4 c5 c6 h v ps F D U)(hk:Kp M U U')(hM:∀l,M l->l<U.length->¬F l/\¬D l):Co m c4 c5 c6 h v ps F D U':=by
 have nF:∀{l o},U[l]?=some o->F l->U'[l]?=some o:=λho hf=>hk.at ho λhm=>(hM _ hm (aR ho)).1 hf
 have nD:∀{l o},U[l]?=some o->D l->U'[l]?=some o:=λho hf=>hk.at ho λhm=>(hM _ hm (aR ho)).2 hf
 obtain⟨bs,ck,bg,hm⟩:=k.fm;exact⟨nD k.f4 k.h4,⟨bs,ck,bg,nF hm k.hm⟩,nF k.f5 k.h5,nD k.f6 k.h6,k.gr.imp id λ⟨a,wr,h1,h2,h3,h4,h5⟩=>⟨a,wr,h1,nF h2 h4,h3,h4,h5⟩,k.pn,λi p x h1 h2=>⟨(k.pl i p x h1 h2).1,nD (k.pl i p x h1 h2).2 (k.pl i p x h1 h2).1⟩,k.dF,k.dD,k.hm,k.h5,k.h4,k.h6⟩
theorem Co.use(k:Co m c4 c5 c6 h v ps F D U)(x:Bz){bs:List Nat}{ck:Nat}(bg:ii bs ck):Co m c4 c5 c6 (h.1++[x],h.2) v ps F D (U.set m (.map (((h.1++[x]).foldl eo []).map kv) bs ck)):=by
 obtain⟨Ve,Vj,_,hm⟩:=k.fm
 have g:∀{l o},U[l]?=some o->(∀a b c,o≠Ob.map a b c)->(U.set m (.map (((h.1++[x]).foldl eo []).map kv) bs ck))[l]?=some o:=λ{l o} ho n=>by
  rw[bG]
  .exact ho
  .exact zK hm ho (Ne.symm (n _ _ _))
 exact⟨g k.f4 sM,⟨bs,ck,bg,bO (aR hm)⟩,g k.f5 sM,g k.f6 sM,k.gr.imp id λ⟨a,wr,h1,h2,h3,h4,h5⟩=>⟨a,wr,h1,g h2 sM,h3,h4,h5⟩,k.pn,λi p x h1 h2=>⟨(k.pl i p x h1 h2).1,g (k.pl i p x h1 h2).2 (by simp[fP])⟩,k.dF,k.dD,k.hm,k.h5,k.h4,k.h6⟩
end
def qmx{S:St}{sz bytes:Nat}{y:V}{b:Bool}(hy:fits sz [y]=true)(hr:bytes<=2^47):fV S sz bytes sN (.sl b [y])=some (.arr S.length 0 1 1,S++[.arr [y] sz 1]):=by
 unfold fV;rw[rW];have hc:true=true/\fits sz [y]=true/\(([]:List V).all λv=>v.size==sz)=true/\(([]:List V).length+[y].length)*bytes<=2^47:=⟨rfl,hy,rfl,by simpa using hr⟩;show(if([y]:List V).isEmpty=true then _ else _)=_;rw[au sM,ak hc];simp
def qmw{S:St}{sz bytes l wr:Nat}{xs:List V}{y:V}{b:Bool}(h3:S[l]?=some (.arr xs sz wr))(hy:fits sz [y]=true)(hr:(xs.length+1)*bytes<=2^47):fV S sz bytes (.arr l 0 xs.length xs.length) (.sl b [y])=some (.arr l 0 (xs.length+1) (xs.length+1),S.set l (.arr (xs++[y]) sz wr)):=by
 have hc:0=0/\xs.length=xs.length/\xs.length=xs.length/\sz=sz/\fits sz [y]=true/\(xs.length+[y].length)*bytes<=2^47:=⟨rfl,rfl,rfl,rfl,hy,hr⟩;unfold fV;rw[rW];show(match S[l]? with|_=>_)=_;rw[h3];show(if _ then _ else _)=_;rw[ak hc];rfl
def qwS{m c4 c5 c6:Nat}{h:List Bz×List Bz}{v:V}{ps:List Nat}{F D:Np}{U:St}(k:Co m c4 c5 c6 h v ps F D U)(p:Nat)(x:Bz)(hp:U[p]?=some (fP x h.2.length x))(nF:¬F p)(hn:h.2.length<=100000):
  aA prog 108 [ag p,ag c5] U (λ_ U'=>∃v' F',Co m c4 c5 c6 (h.1,h.2++[x]) v' (ps++[p]) F' (λl=>D l\/l=p) U'/\U'[p]?=some (fP x h.2.length x)/\Kp (λl=>l=p\/F l) U U'/\grow U F F'):=by
 refine aA.ib TF ?_;have Xd:=k.pn;obtain⟨bs,ck,bg,hm⟩:=k.fm;have fin:∀(U1:St) (a wr:Nat),U1[a]?=some (.arr ((ps++[p]).map JI) 1 wr)->wr<=ps.length+1->(F a\/U.length<=a)->a≠c5->a≠m->U.length<=U1.length->(∀l o,U[l]?=some o->l≠a->U1[l]?=some o)->
   ∃v' F',Co m c4 c5 c6 (h.1,h.2++[x]) v' (ps++[p]) F' (λl=>D l\/l=p) (U1.set c5 (.arr [.arr a 0 (ps.length+1) (ps.length+1)] 1 1))/\(U1.set c5 (.arr [.arr a 0 (ps.length+1) (ps.length+1)] 1 1))[p]?=some (fP x h.2.length x)/\Kp (λl=>l=p\/F l) U (U1.set c5 (.arr [.arr a 0 (ps.length+1) (ps.length+1)] 1 1))/\grow U F F':=by
  intro U1 a wr h2 h3 h4 h5 IJ V8 h6
  have q:∀{l o},U[l]?=some o->l≠c5->l≠a->(U1.set c5 (.arr [.arr a 0 (ps.length+1) (ps.length+1)] 1 1))[l]?=some o:=λ{l o} ho n1 n2=>by
   rw[bG (Ne.symm n1)];exact h6 l o ho n2
  have nq:∀{l o},U[l]?=some o->¬F l->(U1.set c5 (.arr [.arr a 0 (ps.length+1) (ps.length+1)] 1 1))[l]?=some o:=λ{l o} ho hF=>
   q ho (by rintro rfl;exact hF k.h5) (by rintro rfl;exact h4.elim hF λhh=>by have:=aR ho;omega)
  have Jx:∀{l},D l->¬F l:=λhD hF=>by obtain⟨_,_,_,h⟩:=k.gF hF;exact h hD
  refine⟨.arr a 0 (ps.length+1) (ps.length+1),λl=>l=m\/l=c5\/l=a,⟨nq k.f4 (Jx k.h4),⟨bs,ck,bg,q hm ?_ (Ne.symm IJ)⟩,bO ?_,nq k.f6 (Jx k.h6),.inr ⟨a,wr,sM,?_,by simpa using h3,.inr (.inr rfl),h5⟩,by simp[Xd],λi p' x' g1 g2=>?_,λl hl=>?_,λl hl=>?_,.inl rfl,.inr (.inl rfl),.inl k.h4,.inl k.h6⟩,nq hp nF,⟨by simpa using V8,λl hl hn=>?_⟩,λl hl=>?_⟩
  .refine zK hm k.f5 sM
  .have:=aR k.f5;omega
  .rw[bG (Ne.symm h5)];exact h2
  .by_cases hi:i<ps.length
   .rw[dh hi]at g1;rw[dh oM]at g2;obtain⟨e1,e2⟩:=k.pl i p' x' g1 g2;exact⟨.inl e1,nq e2 (Jx e1)⟩
   .have h1:=(br.1 g1).1;rw[dx,List.length_singleton]at h1;have:i=ps.length:=oM;subst this;simp at g1;rw[Xd]at g2;simp at g2;subst g1 g2;have e:=nq hp nF;rw[<-Xd]at e;exact⟨.inr rfl,e⟩
  .exact hl.imp id λhl=>hl.imp id λhl=>⟨ps.length+1,by rw[hl]⟩
  .rcases hl with hl|rfl
   .exact(k.dD l hl).imp id λhl=>hl.imp id λhl=>by simp[hl]
   .exact .inr (.inr sM)
  .have:∃o,U[l]?=some o:=⟨_,bX hl⟩;obtain⟨o,ho⟩:=this;rw[ho];exact nq ho λhf=>hn (.inr hf)
  .rcases hl with rfl|rfl|rfl
   .exact .inl k.hm
   .exact .inl k.h5
   .exact h4
 have hf:=k.f5;have mN:fits 1 [ag p]=true:=rfl;rcases k.gr with ⟨rfl,rfl⟩|⟨a,wr,rfl,ha,hw,hF,bZ⟩
 .have QL:=qmx (S:=U) (sz:=1) (bytes:=8) (y:=ag p) (b:=true) rfl oM;have hs:(U++[Ob.arr [ag p] 1 1])[c5]?=aJ [sN] 1:=gp hf;simp[TF,ab,hf,mN,bI,QL,aI,hs];refine mM rfl ?_;exact(fin (U++[Ob.arr [JI p] 1 1]) U.length 1 sM sM (.inr cz) (by have:=aR hf;omega) (by have:=aR hm;omega) sM λl o ho _=>gp ho)
 .have QL:=qmw (S:=U) (sz:=1) (bytes:=8) (y:=ag p) (b:=true) ha rfl (by rw[bQ];omega);simp at QL;have hs:(U.set a (Ob.arr (ps.map JI++[ag p]) 1 wr))[c5]?=aJ [.arr a 0 ps.length ps.length] 1:=by rw[bG bZ];exact hf
  simp[TF,ab,hf,mN,bI,QL,aI,hs];refine mM rfl ?_;exact(fin (U.set a (Ob.arr (ps.map JI++[ag p]) 1 wr)) a wr (by rw[bO (aR ha),cJ];rfl) oM (.inl hF) bZ (zK ha hm sM) sM λl o ho hl=>by rw[bG (Ne.symm hl)];exact ho)
section
variable {m c4 c5 c6:Nat} {h:List Bz×List Bz} {v:V} {ps:List Nat} {F D:Np} {U:St}
theorem Co.lt(k:Co m c4 c5 c6 h v ps F D U){l:Nat}(hl:F l\/D l):l<U.length:=by
 rcases hl with hl|hl
 .obtain⟨_,h,_⟩:=k.gF hl;exact aR h
 .obtain⟨_,h,_⟩:=k.gD hl;exact aR h
theorem Co.push(k:Co m c4 c5 c6 h v ps F D U)(os:List Ob):Co m c4 c5 c6 h v ps F D (U++os):=k.fr (M:=λ_=>False) ((Kp.refl _ _).push _) λ_ h=>h.elim
theorem Co.set(k:Co m c4 c5 c6 h v ps F D U){l:Nat}(o:Ob)(hF:¬F l)(hD:¬D l):Co m c4 c5 c6 h v ps F D (U.set l o):=k.fr (M:=λx=>x=l) ((Kp.refl _ _).set _ (.inl rfl)) λx hx _=>by rw[hx];exact⟨hF,hD⟩
end
def qkg{m c4 c5 c6:Nat}{h:List Bz×List Bz}{v:V}{ps:List Nat}{F D:Np}{U:St}(k:Co m c4 c5 c6 h v ps F D U){X:Np}{w:V}{ts:List ey}(eh:eu bN X U w ts)(x:Bz):
  aA prog 107 [.str x,w,ag c4] U (λ_ U'=>Co m c4 c5 c6 (pW h x (aE ts)) v ps F D U'/\Kp F U U'):=by
 refine aA.ib qax ?_;simp[qax];refine aZ (Hm eh x) ?_;have jY:=CY ts x;unfold pW;rw[jY];have h4:=k.f4;obtain⟨bs,ck,bg,hm⟩:=k.fm
 cases hf:qE ts x with
 |some q=>
  simp[km,hf,gj,fH];exact mM rfl ⟨k,Kp.refl _ _⟩
 |none=>
  simp[km,hf,gj,fH,ab,h4];have mN:fits 1 [V.str x]=true:=rfl;simp[mN];refine bE (ZC true [x] _ bs ck m U sM hm) ?_;rintro r U' ⟨fA,iw,zu,rfl⟩;simp;have:=k.use x (zu bg);rw[uz]at this;exact mM rfl ⟨this,(Kp.refl _ _).set _ (.inl k.hm)⟩
def qwT{m c4 c5 c6:Nat}{h:List Bz×List Bz}{v:V}{ps:List Nat}{F D:Np}{U:St}(k:Co m c4 c5 c6 h v ps F D U){X:Np}{w:V}{ts:List ey}(eh:eu bN X U w ts)(x:Ex)(tg:Bool):
  aA prog 109 [x.v,w,.bool tg,ag c6] U (λr U'=>r=x.v/\Co m c4 c5 c6 (pW h x.text (aE ts)) v ps F D U'/\Kp F U U'):=by
 refine aA.ib qay ?_;simp[qay,aL];obtain⟨U1,eP⟩:=eX (α:=St) (U++[.arr [x.v] 7 1,.arr [zX] 7 1]);rw[<-eP];have l1:U1.length=U.length+2:=by rw[eP];simp
 have b0:U1[U.length]?=aJ [x.v] 7:=by rw[eP];simp
 have b1:U1[U.length+1]?=aJ [zX] 7:=by rw[eP,cx oM];simp
 have k1:Co m c4 c5 c6 h v ps F D U1:=by rw[eP];exact k.push _
 have s1:eu bN X U1 w ts:=by rw[eP];exact eh.push _
 have nZ:Kp F U U1:=by rw[eP];exact(Kp.refl _ _).push _
 clear eP;have h6:=k1.f6;have nF:∀j,¬F (U.length+j):=λj hf=>by have:=k.lt (.inl hf);omega
 have nD:∀j,¬D (U.length+j):=λj hf=>by have:=k.lt (.inr hf);omega
 simp[ab,h6,b0];refine bE (qkg k1 s1 x.text) ?_;rintro r U2 ⟨k2,ry⟩;have c0:=ry.at b0 (nF 0);have c1:=ry.at b1 (nF 1);simp[ab,c0,aI,c1,aU];have hz:(U2.set (U.length+1) (.arr [x.v] 7 1))[U.length+1]?=aJ [x.v] 7:=bO (aR c1);exact bu (vs:=[x.v]) (by simp[eL,ab,hz]) ⟨rfl,k2.set _ (nF 1) (nD 1),(nZ.trans ry).set _ (.inr oM)⟩
def qwU{m c4 c5 c6:Nat}{h:List Bz×List Bz}{v:V}{ps:List Nat}{F D:Np}{U:St}(k:Co m c4 c5 c6 h v ps F D U){X:Np}{w:V}{ts:List ey}(eh:eu bN X U w ts)(x:Bz):
  aA prog 110 [.str x,w,ag c6] U (λr U'=>r=.str x/\Co m c4 c5 c6 (pW h x (aE ts)) v ps F D U'/\Kp F U U'):=by
 refine aA.ib qaz ?_;have h6:=k.f6;simp[qaz,ab,h6];refine bE (qkg k eh x) ?_;rintro r U2 ⟨k2,ry⟩;simp;exact bu rfl ⟨rfl,k2,ry⟩
def Co.real{m c4 c5 c6:Nat}{h:List Bz×List Bz}{v:V}{ps:List Nat}{F D:Np}{S:St}(k:Co m c4 c5 c6 h v ps F D S)(h':List Bz×List Bz):∃F' D' U v' ps',Co m c4 c5 c6 h' v' ps' F' D' U/\Kp F S U/\grow S F F'/\grow S D D':=by
 obtain⟨bs,ck,bg,hm⟩:=k.fm;obtain⟨n,hn⟩:=eX (h'.2.length);obtain⟨ps',oO⟩:=eX (α:=List Nat) ((List.range n).map (S.length+·));have lps:ps'.length=n:=by rw[oO];simp
 obtain⟨os,wY⟩:=eX (α:=List Ob) ((h'.2.zipIdx.map λe=>fP e.1 e.2 e.1)++[.arr (ps'.map JI) 1 0]);have los:os.length=n+1:=by rw[wY,hn];simp
 obtain⟨U,hU⟩:=eX (α:=St) (((S++os).set m (.map ((h'.1.foldl eo []).map kv) [] 0)).set c5 (.arr [.arr (S.length+n) 0 n n] 1 1));have lm:=aR hm;have l5:=aR k.f5;have Jx:∀{l},D l->¬F l:=λhD hF=>by obtain⟨_,_,_,h⟩:=k.gF hF;exact h hD
 have q:∀{l o},S[l]?=some o->¬F l->U[l]?=some o:=λ{l o} ho hf=>by
  rw[hU,bG (by rintro rfl;exact hf k.h5),bG (by rintro rfl;exact hf k.hm)];rw[dh (aR ho)];exact ho
 have new:∀j o,os[j]?=some o->U[S.length+j]?=some o:=λj o ho=>by
  rw[hU,bG oM,bG oM,cx oM,E8];exact ho
 refine⟨λl=>l=m\/l=c5\/l=S.length+n,λl=>l=c4\/l=c6\/l∈ps',U,.arr (S.length+n) 0 n n,ps',⟨q k.f4 (Jx k.h4),⟨[],0,ii.nil,?_⟩,?_,q k.f6 (Jx k.h6),.inr ⟨S.length+n,0,by rw[lps],new n _ ?_,fS _,.inr (.inr rfl),oM⟩,by rw[lps,hn],λi p x h1 h2=>⟨.inr (.inr (dZ h1)),?_⟩,λl hl=>hl.imp id λhl=>hl.imp id λhl=>⟨n,by rw[hl]⟩,λl hl=>hl,.inl rfl,.inr (.inl rfl),.inl rfl,.inr (.inl rfl)⟩,⟨?_,λl hl hf=>?_⟩,λl hl=>?_,λl hl=>?_⟩
 .rw[hU,bG (zK k.f5 hm sM),bO (by simp;omega)]
 .rw[hU,bO (by simp;omega)]
 .rw[wY,cx (by simp[hn])];simp[hn]
 .rw[oO]at h1;simp at h1;obtain⟨j,hj,rfl⟩:=h1;obtain⟨h3,h4⟩:=br.1 hj;rw[List.getElem_range]at h4;rw[List.length_range]at h3;subst h4;refine new i _ ?_;rw[wY,dh (by simp;omega)];simp[h2]
 .rw[hU];simp
 .obtain⟨o,ho⟩:∃o,S[l]?=some o:=⟨_,bX hl⟩;rw[ho];exact q ho hf
 .rcases hl with rfl|rfl|rfl
  .exact .inl k.hm
  .exact .inl k.h5
  .exact .inr oM
 .rcases hl with rfl|rfl|hl
  .exact .inl k.h4
  .exact .inl k.h6
  .rw[oO]at hl;simp at hl;omega
def qnm(m c4 c5 c6:Nat):(Vm m c4 c5 c6).Ok where
 lim:=dl _
 lt:=λ⟨v,ps,k⟩ l hl=>k.lt hl
 fr:=λ⟨v,ps,k⟩ hk hM=>⟨v,ps,k.fr hk hM⟩
 lp:=λ⟨v,ps,k⟩ l o ho=>⟨λhf=>by obtain⟨_,h1,h2,_⟩:=k.gF hf;rw[ho]at h1;cases h1;exact h2 _ rfl,λhf=>by obtain⟨_,h1,h2⟩:=k.gD hf;rw[ho]at h1;cases h1;exact h2 _ rfl⟩
 ce x hc:=by
  show(_++[x]).length=_+1;rw[dx];exact mn (·+1) hc
 cm x sc tg hc:=by
  show(pW _ x.text sc).2.length=_;unfold pW;split<;>exact hc
 cc x sc hc:=by
  show(pW _ x sc).2.length=_;unfold pW;split<;>exact hc
 real:=λ{h F D S} ⟨v,ps,k⟩ h'=>by
  obtain⟨F',D',U,v',ps',a,b,c,d⟩:=k.real h';exact⟨F',D',U,⟨v',ps',a⟩,b,c,d⟩
 en:=.inr ⟨108,[ag c5],rfl,λU p k x h F D hp hF hD hk hc ⟨v,ps,kk⟩=>by
  have hc:h.2.length=k:=hc;subst hc;refine aA.mono (qwS kk p x hp hF (Nat.le_of_lt_succ hk)) λr U' ⟨v',F',a,b,c,d⟩=>?_
  exact⟨F',λl=>D l\/l=p,⟨v',ps++[p],a⟩,b,c,d,λl hl=>hl.imp id .inl⟩⟩
 nm:=⟨109,[ag c6],rfl,λU x w ts tg w' h F D eh ⟨v,ps,k⟩=>aA.mono (qwT k eh x tg) λr U' ⟨a,b,c⟩=>⟨a,F,D,⟨v,ps,b⟩,c,grow.refl _ _,grow.refl _ _⟩⟩
 cl:=⟨110,[ag c6],rfl,λU x w ts w' h F D eh ⟨v,ps,k⟩=>aA.mono (qwU k eh x) λr U' ⟨a,b,c⟩=>⟨a,F,D,⟨v,ps,b⟩,c,grow.refl _ _,grow.refl _ _⟩⟩
def qlF(s:Sm)(S:St)(r:V)(U:St):Prop:=∃(m c4 c5 c6:Nat) (v:V) (ps:List Nat) (F D:Np),r=.aV [.map m,v]/\Co m c4 c5 c6 (s.ou bN ([],[])) v ps F D U/\bz S U/\(∀l,F l\/D l->S.length<=l)
theorem Tf(y:V):V.fZ .dI 0 1 y=if y.size=1/\y.cells.all V.flat=true then some y else none:=rfl
def qkF(s:Sm)(hs:s.ok)(bF:(Pa.st s).size<=4000)(hn:Sm.bH [s]<=100000)(S:St):aA prog 58 [s.v] S (λr U=>qlF s S r U):=by
 refine aA.ib C58 ?_;simp[C58,aL,ab,aI,aU,bP,bR,bI,Tf,Td];obtain⟨B,hB⟩:=eX (S.length);obtain⟨S1,bB⟩:=eX (α:=St) (S++[.arr [s.v] 8 1,.map [] [] 0,.arr [.map (B+1)] 1 1,.arr [sN] 1 1,.arr [.fn (.func 107) [] [ag (B+2)]] 1 1,.arr [.agg [z0,.fn (.func 108) [] [ag (B+3)],.fn (.func 109) [] [ag (B+4)],.fn (.func 110) [] [ag (B+4)]]] 4 1]);rw[<-hB,<-bB];have l1:S1.length=B+6:=by rw[bB,hB];simp
 have g:∀j o,[Ob.arr [s.v] 8 1,.map [] [] 0,.arr [.map (B+1)] 1 1,.arr [sN] 1 1,.arr [.fn (.func 107) [] [ag (B+2)]] 1 1,.arr [.agg [z0,.fn (.func 108) [] [ag (B+3)],.fn (.func 109) [] [ag (B+4)],.fn (.func 110) [] [ag (B+4)]]] 4 1][j]?=some o->S1[B+j]?=some o:=λj o ho=>by
  rw[bB,cx oM,hB,E8,<-hB];exact ho
 have kS:bz S S1:=by rw[bB];exact(Kp.refl _ _).push _
 have k1:Co (B+1) (B+2) (B+3) (B+4) ([],[]) sN [] (λl=>l=B+1\/l=B+3) (λl=>l=B+2\/l=B+4) S1:=
  ⟨g 2 _ rfl,⟨[],0,ii.nil,g 1 _ rfl⟩,g 3 _ rfl,g 4 _ rfl,.inl ⟨rfl,rfl⟩,rfl,λi p x h=>by simp at h,λl hl=>hl.imp id .inl,λl hl=>hl.imp id .inl,.inl rfl,.inr rfl,.inl rfl,.inr rfl⟩
 have hw:Wk (Vm (B+1) (B+2) (B+3) (B+4)) (B+5) 0 ([],[]) (λl=>l=B+1\/l=B+3) (λl=>l=B+2\/l=B+4) S1:=⟨g 5 _ rfl,⟨_,_,k1⟩,oM,oM,rfl⟩;clear g bB k1;refine bE (ZB (Vm (B+1) (B+2) (B+3) (B+4)) (qnm _ _ _ _) (B+5) s hs bF ([],[]) _ _ S1 hw (Nat.le_succ_of_le hn)) ?_;rintro r U ⟨rfl,F2,D2,k2,s2⟩;obtain⟨v,ps,kk⟩:=k2.st;have h4:=kk.f4;have h5:=kk.f5;have Nh:v.cells=[v]:=by rcases kk.gr with ⟨_,rfl⟩|⟨a,wr,rfl,_⟩<;>rfl
 simp[ab,h4,h5,Nh,dP,eF,eZ];refine bu rfl ⟨_,_,_,_,_,_,_,_,rfl,kk,⟨js kS.len s2.k.len,λl hl hn=>?_⟩,λl hl=>?_⟩
 .rw[s2.k.get l oM (by rintro(hh|hh|hh)<;>omega)];exact kS.get l hl hn
 .rcases hl with hl|hl
  .rcases s2.gF l hl with (h|h)|h<;>omega
  .rcases s2.gD l hl with (h|h)|h<;>omega
mutual
def Ex.gm:Ex->List Bz
 |.mk k _ _ _ _ t a=>Ex.cL a++(if Ex.named k then [t] else [])
def Ex.cL:List Ex->List Bz
 |[]=>[]
 |x::l=>Ex.gm x++Ex.cL l
end
def El.cL:List El->List Bz
 |[]=>[]
 |x::l=>Ex.cL x.aw++El.cL l
mutual
def Sm.gm:Sm->List Bz
 |.mk _ k t g e h d b=>if k=7 then De.cL d++Sm.cL b else if k=8 then Sm.cL b else Ex.cL g++Ex.cL e++El.cL h++Sm.cL b++(if k=6 then [t] else [])
def De.gm:De->List Bz
 |.mk k _ _ _ e _ b=>if k=4 then Sm.cL b else Ex.cL e
def De.cL:List De->List Bz
 |[]=>[]
 |x::l=>De.gm x++De.cL l
def Sm.cL:List Sm->List Bz
 |[]=>[]
 |x::l=>Sm.gm x++Sm.cL l
end
section
variable {f:Nat->Bz} {nm:Bz->Bool} (hf:∀k,nm (f k)=false)
def eO(h:bN.H):List Bz:=Prod.fst (α:=List Bz) (β:=List Bz) h
theorem zg(s:cy):∀h:bN.H,eO (enters bN h s)=eO h:=by
 induction s with
 |nil=>intro h;rfl
 |cons e s ih=>intro h;exact ih _
include hf
theorem qdO(h:bN.H)(sc:ai)(t:Bz)(ht:nm t=true):eO (bN.qZ h t sc)=eO h++[fQ f sc t].filter nm:=by
 show Prod.fst (pW h t sc)=_;unfold pW fQ eO
 cases sc.at t with
 |none=>simp[ht]
 |some k=>simp[hf]
omit hf in
theorem qdS(sc:ai)(tg:Bool)(h:bN.H)(k o n m e:Int)(t:Bz)(a:List Ex):bN.sO sc tg h (.mk k o n m e t a)=if Ex.named k=true then bN.qZ h t sc else h:=rfl
omit hf in
theorem qdQ(sc:ai)(k:Int)(h:bN.H)(t:Bz):bN.rU sc k h t=if k=6 then bN.qZ h t sc else h:=rfl
def te:bN.H:=(([],[]):List Bz×List Bz)
mutual
theorem Ex.fr(sc:ai)(tg:Bool):∀(x:Ex) (h:bN.H),(Pa.ex x).valid nm=true->eO (Ex.hs bN sc tg h x)=eO h++(Ex.gm (x.w f sc)).filter nm
 |.mk k o n m e t a,h,v=>by
  have ha:=Ex.re sc false a h (Ex.Hu v);rw[Ex.hs,Ex.w,Ex.gm,qu,<-dY,<-ha];rw[qdS];by_cases hk:Ex.named k=true
  .rw[ak hk,ak hk,ak hk];exact qdO hf _ sc t (Ex.EJ v hk)
  .rw[au hk,au hk,List.filter_nil,pR]
theorem Ex.re(sc:ai)(tg:Bool):∀(l:List Ex) (h:bN.H),(∀x,x∈l->(Pa.ex x).valid nm=true)->eO (Ex.aN bN sc tg h l)=eO h++(Ex.cL (Ex.wl f sc l)).filter nm
 |[],h,_=>by simp[Ex.aN,Ex.wl,Ex.cL]
 |x::l,h,v=>by
  rw[Ex.aN,Ex.wl,Ex.cL,Ex.re sc tg l _ λy hy=>v y (by simp[hy])];have:=Ex.fr sc tg x h (v x sM);rw[qu,<-dY,<-this]
end
theorem El.re(sc:ai):∀(l:List El) (h:bN.H),(∀x,x∈l->(Pa.el x).valid nm=true)->eO (El.aN bN sc h l)=eO h++(El.cL (l.map (El.w f sc))).filter nm
 |[],h,_=>by simp[El.aN,El.cL]
 |x::l,h,v=>by
  have h1:=Ex.re hf sc false x.aw h (λy hy=>(Pa.gU.1 (v x sM)).2 _ (by simp only[Pa.kids];exact pS hy));have h2:=El.re sc l (Ex.aN bN sc false h x.aw) λy hy=>v y (by simp[hy])
  show eO (El.aN bN sc (Ex.aN bN sc false h x.aw) l)=_;rw[h2,h1,cQ,El.cL,qu,<-dY];unfold El.w;rw[<-Ex.pO]
mutual
theorem Sm.fr:∀(s:Sm) (sc:ai) (n:Nat) (h:bN.H),(Pa.st s).valid nm=true->eO (Sm.hs bN sc n h s)=eO h++(s.w f sc n).gm.filter nm
 |.mk l k t g e el d b,sc,n,h,v=>by
  obtain⟨v7,v8,v9⟩:=Sm.EH v;have vd:=Sm.BQ v;have vb:=Sm.pN v;have vg:=Sm.JZ v;have ve:=Sm.qU v;have vl:=Sm.JY v;have vt:=Sm.EJ v;simp only[Sm.decls,Sm.body,Sm.targets,Sm.aw,Sm.elems,Sm.kind,Sm.text]at vd vb vg ve vl vt;rw[Sm.hs,Sm.w];by_cases h7:k=7
  .obtain⟨rfl,rfl,rfl⟩:=v7 h7;rw[ak h7,ak h7,Sm.gm,ak h7,qu,<-dY];rw[Sm.re b _ _ _ vb,De.re d _ _ _ _ vd,zg];rfl
  .rw[au h7,au h7];by_cases h8:k=8
   .obtain⟨rfl,rfl,rfl,rfl⟩:=v8 h8;rw[ak h8,ak h8,Sm.gm,au h7,ak h8];rw[Sm.re b _ _ _ vb,zg];rfl
   .obtain rfl:=v9 h7 h8;rw[au h8,au h8,Sm.gm,au h7,au h8];have e1:=Ex.re hf sc true g h vg;have e2:=Ex.re hf sc false e (Ex.aN bN sc true h g) ve;have e3:=El.re hf sc el (Ex.aN bN sc false (Ex.aN bN sc true h g) e) vl;have e4:=Sm.VW b sc n (El.aN bN sc (Ex.aN bN sc false (Ex.aN bN sc true h g) e) el) vb;rw[e3,e2,e1]at e4;simp only[qu];rw[qdQ];by_cases h6:k=6
    .rw[ak h6,ak h6,ak h6];have e5:=qdO hf (Sm.bw bN sc n (El.aN bN sc (Ex.aN bN sc false (Ex.aN bN sc true h g) e) el) b) sc t (vt h6);refine Eq.trans e5 ?_;rw[e4];simp only[dY]
    .rw[au h6,au h6];refine Eq.trans e4 ?_;simp only[dY,List.filter_nil,pR]
theorem De.fr:∀(s:De) (own sc:ai) (n:Nat) (h:bN.H),(Pa.de s).valid nm=true->eO (De.hs bN own sc n h s)=eO h++(s.w f own sc n).gm.filter nm
 |.mk k o t ns e fo b,own,sc,n,h,v=>by
  obtain⟨v4,v5⟩:=De.EI v;have vb:=De.pN v;have ve:=De.qU v;simp only[De.body,De.aw]at vb ve;rw[De.hs,De.w];by_cases h4:k=4
  .obtain rfl:=v4 h4;rw[ak h4,ak h4,De.gm,ak h4,Sm.VW b _ _ _ vb,zg];rfl
  .obtain⟨rfl,rfl⟩:=v5 h4;rw[au h4,au h4,De.gm,au h4];exact Ex.re hf _ _ e h ve
theorem De.re:∀(l:List De) (own sc:ai) (n:Nat) (h:bN.H),(∀x,x∈l->(Pa.de x).valid nm=true)->eO (De.aN bN own sc n h l)=eO h++(De.cL (De.wl f own sc n l)).filter nm
 |[],_,_,_,h,_=>by simp[De.aN,De.wl,De.cL]
 |x::l,own,sc,n,h,v=>by
  rw[De.aN,De.wl,De.cL,De.re l own sc _ _ λy hy=>v y (by simp[hy]),De.fr x own sc n h (v x sM),qu,dY]
theorem Sm.re:∀(l:List Sm) (sc:ai) (n:Nat) (h:bN.H),(∀x,x∈l->(Pa.st x).valid nm=true)->eO (Sm.aN bN sc n h l)=eO h++(Sm.cL (Sm.wl f sc n l)).filter nm
 |[],_,_,h,_=>by simp[Sm.aN,Sm.wl,Sm.cL]
 |x::l,sc,n,h,v=>by
  rw[Sm.aN,Sm.wl,Sm.cL,Sm.re l sc _ _ λy hy=>v y (by simp[hy]),Sm.fr x sc n h (v x sM),qu,dY]
theorem Sm.VW:∀(l:List Sm) (sc:ai) (n:Nat) (h:bN.H),(∀x,x∈l->(Pa.st x).valid nm=true)->eO (Sm.bw bN sc n h l)=eO h++(Sm.cL (Sm.w1 f sc n l)).filter nm
 |[],_,_,h,_=>by simp[Sm.bw,Sm.w1,Sm.cL]
 |x::l,sc,n,h,v=>by
  rw[Sm.bw,Sm.w1,Sm.cL,Sm.VW l sc _ _ λy hy=>v y (by simp[hy]),Sm.fr x _ _ _ (v x sM),zg,qu,dY]
end
theorem Sm.qpk(s:Sm)(v:(Pa.st s).valid nm=true):eO (s.ou bN te)=(s.whole f).gm.filter nm:=by
 have:=Sm.fr hf s [ar s.labels 0] (ar s.labels 0).length (enters bN te (ar s.labels 0)) v;refine this.trans ?_;show eO (enters bN te (ar s.labels 0))++_=_;rw[zg];rfl
end
section
variable {lk:Lk} {g:Nat->Bz} (hg:∀k,lk (g k)=none)
include hg
theorem JC(sc:ai)(t:Bz):Bn lk (fQ g sc t)=o9 lk sc t:=by
 unfold fQ o9
 cases sc.at t with
 |some k=>unfold Bn;simp only[hg]
 |none=>rfl
theorem ZV(sc:ai)(tg:Bool)(t:Bz):BI lk tg (fQ g sc t)=xy lk sc tg t:=by
 unfold fQ xy
 cases sc.at t with
 |some k=>unfold BI;simp only[hg]
 |none=>rfl
def kM(h:(eT lk).H):Bool:=h
variable {nm:Bz->Bool}
omit hg in
theorem On(s:cy):∀h:(eT lk).H,enters (eT lk) h s=h:=by
 induction s with
 |nil=>intro h;rfl
 |cons e s ih=>intro h;exact ih _
mutual
theorem Ex.Hh(sc:ai)(tg:Bool):∀(x:Ex) (h:(eT lk).H),kM (Ex.hs (eT lk) sc tg h x)=(kM h||(x.w g sc).gY lk tg)
 |.mk k o n m e t a,h=>by
  have h1:=Ex.rG sc false a h
  have h2:kM (Ex.hs (eT lk) sc tg h (.mk k o n m e t a))=if Ex.named k=true then kM (Ex.aN (eT lk) sc false h a)||(if k=6 then xy lk sc tg t else o9 lk sc t) else kM (Ex.aN (eT lk) sc false h a):=by
   rw[Ex.hs];unfold Pw.sO;show kM (if Ex.named k=true then _ else _)=_;split<;>rfl
  rw[h2,h1,Ex.w,Ex.gY];by_cases h6:k=6
  .have hn:Ex.named k=true:=by rw[h6];rfl
   rw[ak hn,ak h6,ak h6,ak hn,ZV hg,nh]
  .rw[au h6,au h6];by_cases hn:Ex.named k=true
   .rw[ak hn,ak hn,JC hg,hn,rO,nh]
   .rw[au hn];have:Ex.named k=false:=by simpa using hn
    rw[this,Kq,ni]
theorem Ex.rG(sc:ai)(tg:Bool):∀(l:List Ex) (h:(eT lk).H),kM (Ex.aN (eT lk) sc tg h l)=(kM h||Ex.cP lk tg (Ex.wl g sc l))
 |[],h=>by rw[Ex.aN,Ex.wl,Ex.cP,ni]
 |x::l,h=>by rw[Ex.aN,Ex.rG sc tg l,Ex.Hh sc tg x,Ex.wl,Ex.cP,nh]
end
theorem El.rG(sc:ai):∀(l:List El) (h:(eT lk).H),kM (El.aN (eT lk) sc h l)=(kM h||El.cP lk (l.map (El.w g sc)))
 |[],h=>by rw[nK,El.cP,ni];rfl
 |x::l,h=>by
  have h1:=El.rG sc l (Ex.aN (eT lk) sc false h x.aw);show kM (El.aN (eT lk) sc (Ex.aN (eT lk) sc false h x.aw) l)=_;rw[h1,Ex.rG hg,cQ,El.cP,nh];unfold El.w;rw[Ex.pO]
omit hg in
theorem qvV(sc:ai)(k:Int)(h:(eT lk).H)(t:Bz):kM ((eT lk).rU sc k h t)=(kM h||(decide (k=6)&&o9 lk sc t)):=by
 unfold Pw.rU;by_cases h6:k=6
 .rw[ak h6,pf h6,rO];rfl
 .rw[au h6,e9 h6,Kq,ni]
mutual
theorem Sm.Hh:∀(s:Sm) (sc:ai) (n:Nat) (h:(eT lk).H),(Pa.st s).valid nm=true->kM (s.hs (eT lk) sc n h)=(kM h||(s.w g sc n).gY lk)
 |.mk l k t gs e hh d b,sc,n,h,v=>by
  obtain⟨v7,v8,v9⟩:=Sm.EH v;have vd:=Sm.BQ v;have vb:=Sm.pN v;simp only[Sm.decls,Sm.body]at vd vb;rw[Sm.hs,Sm.w];by_cases h7:k=7
  .obtain⟨rfl,rfl,rfl⟩:=v7 h7;have h6:¬k=6:=oM;rw[ak h7,ak h7,Sm.gY,Sm.rG b _ _ _ vb,De.rG d _ _ _ _ vd,On,Ex.aN,e9 h6];simp[Ex.cP,El.cP,nh]
  .rw[au h7,au h7];by_cases h8:k=8
   .obtain⟨rfl,rfl,rfl,rfl⟩:=v8 h8;have h6:¬k=6:=oM;rw[ak h8,ak h8,Sm.gY,Sm.rG b _ _ _ vb,On,Ex.aN,e9 h6];simp[Ex.cP,El.cP,De.cP]
   .rw[au h8,au h8,Sm.gY,qvV,Sm.YZ b _ _ _ vb,El.rG hg,Ex.rG hg,Ex.rG hg];by_cases h6:k=6
    .rw[ak h6,pf h6,JC hg];simp[De.cP,nh]
    .rw[au h6,e9 h6];simp[De.cP,nh]
theorem De.Hh:∀(s:De) (own sc:ai) (n:Nat) (h:(eT lk).H),(Pa.de s).valid nm=true->kM (s.hs (eT lk) own sc n h)=(kM h||(s.w g own sc n).gY lk)
 |.mk k o t ns e fo b,own,sc,n,h,v=>by
  obtain⟨v4,v5⟩:=De.EI v;have vb:=De.pN v;simp only[De.body]at vb;rw[De.hs,De.w];by_cases h4:k=4
  .obtain rfl:=v4 h4;rw[ak h4,ak h4,De.gY,Sm.YZ b _ _ _ vb,On,Ex.aN];simp[Ex.cP]
  .rw[au h4,au h4,De.gY,Ex.rG hg];simp[Sm.cP]
theorem De.rG:∀(l:List De) (own sc:ai) (n:Nat) (h:(eT lk).H),(∀x,x∈l->(Pa.de x).valid nm=true)->kM (De.aN (eT lk) own sc n h l)=(kM h||De.cP lk (De.wl g own sc n l))
 |[],_,_,_,h,_=>by rw[De.aN,De.wl,De.cP,ni]
 |x::l,own,sc,n,h,v=>by
  rw[De.aN,De.rG l own sc _ _ λy hy=>v y (by simp[hy]),De.Hh x own sc n h (v x sM),De.wl,De.cP,nh]
theorem Sm.rG:∀(l:List Sm) (sc:ai) (n:Nat) (h:(eT lk).H),(∀x,x∈l->(Pa.st x).valid nm=true)->kM (Sm.aN (eT lk) sc n h l)=(kM h||Sm.cP lk (Sm.wl g sc n l))
 |[],_,_,h,_=>by rw[Sm.aN,Sm.wl,Sm.cP,ni]
 |x::l,sc,n,h,v=>by
  rw[Sm.aN,Sm.rG l sc _ _ λy hy=>v y (by simp[hy]),Sm.Hh x sc n h (v x sM),Sm.wl,Sm.cP,nh]
theorem Sm.YZ:∀(l:List Sm) (sc:ai) (n:Nat) (h:(eT lk).H),(∀x,x∈l->(Pa.st x).valid nm=true)->kM (Sm.bw (eT lk) sc n h l)=(kM h||Sm.cP lk (Sm.w1 g sc n l))
 |[],_,_,h,_=>by rw[Sm.bw,Sm.w1,Sm.cP,ni]
 |x::l,sc,n,h,v=>by
  rw[Sm.bw,Sm.YZ l sc _ _ λy hy=>v y (by simp[hy]),Sm.Hh x _ _ _ (v x sM),On,Sm.w1,Sm.cP,nh]
end
omit hg in
omit hg in
theorem YY:∀(k:Nat) (x:Bz),(eT lk).f k x=x:=λ_ _=>rfl
omit hg in
theorem qvU(sc:ai)(k:Int)(t:Bz):(eT lk).wF sc k t=if k=6 then pJ lk sc t else t:=rfl
end
abbrev Ae:=Bz×Ex
def eS:List Ae->Lk
 |[],_=>none
 |e::es,x=>if e.1=x then some e.2 else eS es x
def td(e:Ae):V×V:=(.str e.1,e.2.v)
def qgW(x:Bz):∀(t:List Ae) (i:Nat),∃j,mD .str (.str x) (t.map td) i=some ((eS t x).map λy=>(j,y.v))
 |[],i=>⟨0,rfl⟩
 |e::t,i=>by
  simp only[cQ,td,mD,sF,eS];by_cases h:x=e.1
  .rw[show(x.data.toList==e.1.data.toList)=true by rw[h];simp,ak h.symm];exact⟨i,rfl⟩
  ·rw[show (x.data.toList==e.1.data.toList)=false by
    rw[beq_eq_false_iff_ne];intro hh;exact h (vT (xz hh)),au (Ne.symm h)]
   exact qgW x t (i+1)
def Bj(es:List Ae)(x:Bz):V:=match eS es x with
 |some y=>y.v
 |none=>HA
def qgN{S:St}{m:Nat}{es:List Ae}{bs:List Nat}{ck:Nat}(x:Bz)(h:S[m]?=some (.map (es.map td) bs ck)):
  sJ S .str zX true (.map m) (.str x)=some (.aV [Bj es x,.bool (eS es x).isSome]):=by
 obtain⟨j,hj⟩:=qgW x es 0;unfold sJ Bj;rw[ak (by rfl)];simp only[DZ,h,hj];cases eS es x<;>rfl
structure kR(es:List Ae)(cb m cg ct:Nat)(h:Bool)(F D:Np)(U:St):Prop where
 b:U[cb]?=aJ [.map m] 1
 mm:∃bs ck,U[m]?=some (.map (es.map td) bs ck)
 g:U[cg]?=aJ [.bool h] 1
 t:U[ct]?=aJ [.fn (.func 148) [] [ag cb,ag cg]] 1
 hF:∀l,F l↔l=cg
 hD:∀l,D l↔l=cb\/l=m\/l=ct
section
variable {es:List Ae} {cb m cg ct:Nat} {h:Bool} {F D:Np} {U:St}
theorem kR.fr{U':St}{M:Np}(k:kR es cb m cg ct h F D U)(hk:Kp M U U')(hM:∀l,M l->l<U.length->¬F l/\¬D l):kR es cb m cg ct h F D U':=by
 obtain⟨bs,ck,hm⟩:=k.mm;exact⟨hk.at k.b λhh=>(hM _ hh (aR k.b)).2 ((k.hD _).2 (.inl rfl)),⟨bs,ck,hk.at hm λhh=>(hM _ hh (aR hm)).2 ((k.hD _).2 (.inr (.inl rfl)))⟩,hk.at k.g λhh=>(hM _ hh (aR k.g)).1 ((k.hF _).2 rfl),hk.at k.t λhh=>(hM _ hh (aR k.t)).2 ((k.hD _).2 (.inr (.inr rfl))),k.hF,k.hD⟩
theorem kR.put(k:kR es cb m cg ct h F D U)(h':Bool):kR es cb m cg ct h' F D (U.set cg (.arr [.bool h'] 1 1)):=by
 obtain⟨bs,ck,hm⟩:=k.mm;exact⟨by rw[bG (zK k.g k.b sM)];exact k.b,⟨bs,ck,by rw[bG (zK k.g hm sM)];exact hm⟩,bO (aR k.g),by rw[bG (zK k.g k.t sM)];exact k.t,k.hF,k.hD⟩
theorem kR.lt(k:kR es cb m cg ct h F D U){l:Nat}(hl:F l\/D l):l<U.length:=by
 rcases hl with hl|hl
 .rw[(k.hF l).1 hl];exact aR k.g
 .rcases(k.hD l).1 hl with rfl|rfl|rfl
  .exact aR k.b
  .obtain⟨_,_,hm⟩:=k.mm;exact aR hm
  .exact aR k.t
theorem qvS{lk:Lk}{sc:ai}{x:Bz}(h:lk x=none):pJ lk sc x=x/\o9 lk sc x=false:=by
 unfold pJ o9 Et Bn;cases sc.at x<;>simp[h]
theorem qvT{lk:Lk}{sc:ai}{x:Bz}{y:Ex}(h:lk x=some y)(hs:sc.at x=none):pJ lk sc x=y.text/\o9 lk sc x=decide (y.kind≠6):=by
 unfold pJ o9 Et Bn;simp[h,hs]
theorem qvR{lk:Lk}{sc:ai}{x:Bz}(hs:(sc.at x).isSome=true):pJ lk sc x=x/\o9 lk sc x=false:=by
 unfold pJ o9
 cases h:sc.at x with
 |none=>rw[h]at hs;cases hs
 |some k=>simp
theorem qkn(k:kR es cb m cg ct h F D U){p:Pw}{X:Np}{w:V}{ts:List ey}(eh:eu p X U w ts)(x:Bz):
  aA prog 148 [.str x,w,ag cb,ag cg] U (λr U'=>r=.str (pJ (eS es) (aE ts) x)/\kR es cb m cg ct (h||o9 (eS es) (aE ts) x) F D U'/\Kp F U U'):=by
 refine aA.ib qaR ?_;have hb:=k.b;obtain⟨bs,ck,hm⟩:=k.mm;have hl:=qgN (es:=es) (bs:=bs) (ck:=ck) x hm;simp[qaR,ab,hb,bI,hl]
 cases hy:eS es x with
 |none=>
  obtain⟨e1,e2⟩:=qvS (sc:=aE ts) hy;rw[e1,e2,ni];have hE:Bj es x=HA:=by unfold Bj;rw[hy]
  rw[hE];unfold HA;simp[aL,aI,aU];refine bu (vs:=[.str x]) (by simp[eL]) ⟨rfl,?_,?_⟩
  .exact k.fr (M:=λ_=>False) ((Kp.refl _ _).push _) λ_ h=>h.elim
  .exact(Kp.refl _ _).push _
 |some y=>
  have hE:Bj es x=y.v:=by unfold Bj;rw[hy]
  rw[hE];have hn:V.fZ zX 0 7 y.v=some y.v:=by rw[aU];simp
  simp[aL,aI,hn];obtain⟨U1,eP⟩:=eX (α:=St) (U++[.arr [y.v] 7 1]);have b0:U1[U.length]?=aJ [y.v] 7:=by rw[eP];simp
  have nZ:Kp F U U1:=by rw[eP];exact(Kp.refl _ _).push _
  have k1:kR es cb m cg ct h F D U1:=by rw[eP];exact k.fr (M:=λ_=>False) ((Kp.refl _ _).push _) λ_ h=>h.elim
  have s1:eu p X U1 w ts:=by rw[eP];exact eh.push _
  rw[<-eP];clear eP;refine aZ (Hm s1 x) ?_;have hf:=CY ts x
  cases uV:qE ts x with
  |some q=>
   have hs:((aE ts).at x).isSome=true:=by rw[hf,uV];rfl
   obtain⟨e1,e2⟩:=qvR (lk:=eS es) hs;rw[e1,e2,ni];simp[km,uV,gj,fH];exact bu (vs:=[.str x]) (by simp[eL]) ⟨rfl,k1,nZ⟩
  |none=>
   have hs:(aE ts).at x=none:=by rw[hf,uV];rfl
   obtain⟨e1,e2⟩:=qvT hy hs;rw[e1,e2];have g1:=k1.g;have fin:∀(b':Bool) (e:ae),e.get 6=some (.str y.text)->eN [.t 6] U.length (λr U'=>r=.str y.text/\kR es cb m cg ct b' F D U'/\Kp F U U') .ret e (U1.set cg (.arr [.bool b'] 1 1)):=
    λb' e he=>bu (vs:=[.str y.text]) (by simp[eL,he]) ⟨rfl,k1.put b',nZ.set _ (.inl ((k.hF cg).2 rfl))⟩
   have ng:∀o,(U1.set cg o)[U.length]?=aJ [y.v] 7:=λo=>by
    rw[bG (by have:=aR k.g;omega)];exact b0
   cases h with
   |true=>
    simp[km,uV,gj,fH,ab,g1,aI,pM,ng];refine fin true _ ?_;simp
   |false=>
    simp[km,uV,gj,fH,ab,g1,b0,aI,pM,ng];exact fin _ _ sM
theorem qw6(hz:∀x y,eS es x=some y->(Pa.ex y).size<=4000)(k:kR es cb m cg ct h F D U){p:Pw}{X:Np}{w:V}{ts:List ey}(eh:eu p X U w ts)(x:Ex)(tg:Bool):
  aA prog 149 [x.v,w,.bool tg,ag ct,ag cb,ag cg] U (λr U'=>r=(if x.kind=6 then xp (eS es) (aE ts) x else .mk x.kind x.op x.n x.dQ x.exp (pJ (eS es) (aE ts) x.text) x.args).v/\kR es cb m cg ct (h||(if x.kind=6 then xy (eS es) (aE ts) tg x.text else o9 (eS es) (aE ts) x.text)) F D U'/\Kp F U U'):=by
 refine aA.ib qaS ?_;simp[qaS,aL];obtain⟨U1,eP⟩:=eX (α:=St) (U++[.arr [x.v] 7 1,.arr [zX] 7 1]);rw[<-eP];have l1:U1.length=U.length+2:=by rw[eP];simp
 have b0:U1[U.length]?=aJ [x.v] 7:=by rw[eP];simp
 have b1:U1[U.length+1]?=aJ [zX] 7:=by rw[eP,cx oM];simp
 have nZ:Kp F U U1:=by rw[eP];exact(Kp.refl _ _).push _
 have k1:kR es cb m cg ct h F D U1:=by rw[eP];exact k.fr (M:=λ_=>False) ((Kp.refl _ _).push _) λ_ h=>h.elim
 have s1:eu p X U1 w ts:=by rw[eP];exact eh.push _
 clear eP;have nF:∀j,¬F (U.length+j):=λj hf=>by have:=k.lt (.inl hf);omega
 have nD:∀j,¬D (U.length+j):=λj hf=>by have:=k.lt (.inr hf);omega
 have hn:∀y:Ex,V.fZ zX 0 7 y.v=some y.v:=λy=>by rw[aU];simp
 simp[ab,b0];by_cases h6:x.kind=6
 case neg=>
  simp only[au h6];have h7:=k1.t;simp[h6,ab,h7,b0];refine bE (qkn k1 s1 x.text) ?_;rintro r U2 ⟨rfl,k2,ry⟩;have c0:=ry.at b0 (nF 0);have c1:=ry.at b1 (nF 1);obtain⟨y,hy⟩:=eX (pJ (eS es) (aE ts) x.text);rw[<-hy];obtain⟨z,hz⟩:=eX (α:=Ex) (.mk x.kind x.op x.n x.dQ x.exp y x.args);have yu:Ob.arr [V.agg [af x.kind,af x.op,af x.n,af x.dQ,af x.exp,.str y,ah (x.args.map Ex.v)]] 7 1=.arr [z.v] 7 1:=by rw[hz,Ex.eW];rfl
  rw[<-hz];simp[aI,c0,yP,aU];rw[yu];have d0:(U2.set U.length (.arr [z.v] 7 1))[U.length]?=aJ [z.v] 7:=bO (aR c0);have d1:(U2.set U.length (.arr [z.v] 7 1))[U.length+1]?=aJ [zX] 7:=by rw[bG oM];exact c1
  obtain⟨U3,tn⟩:=eX (U2.set U.length (.arr [z.v] 7 1));rw[<-tn]at d0 d1 |-;simp[ab,d0,aI,d1,aU];have hw:(U3.set (U.length+1) (.arr [z.v] 7 1))[U.length+1]?=aJ [z.v] 7:=bO (aR d1);refine bu (vs:=[z.v]) (by simp[eL,ab,hw]) ⟨rfl,?_,?_⟩
  .refine kR.fr (M:=λl=>l=U.length\/l=U.length+1) k2 ?_ λl hl _=>?_
   .rw[tn];exact((Kp.refl _ _).set _ (.inl (.inl rfl))).set _ (.inl (.inr rfl))
   .rcases hl with rfl|rfl
    .exact⟨nF 0,nD 0⟩
    .exact⟨nF 1,nD 1⟩
  .rw[tn];exact((nZ.trans ry).set _ (.inr cz)).set _ (.inr oM)
 simp only[ak h6];have hb:=k1.b;obtain⟨bs,ck,hm⟩:=k1.mm;have hl:=qgN (es:=es) (bs:=bs) (ck:=ck) x.text hm;simp[h6,ab,b0,hb,bI,hl,aL];obtain⟨v,hv⟩:=eX (Bj es x.text)
 have ux:V.fZ zX 0 7 v=some v:=by
  rw[hv];unfold Bj
  cases eS es x.text with
  |none=>rfl
  |some y=>exact hn y
 rw[<-hv];simp[aI,ux];obtain⟨U2,dG⟩:=eX (α:=St) (U1++[.arr [v] 7 1]);have c0:U2[U.length]?=aJ [x.v] 7:=by rw[dG];exact gp b0
 have c1:U2[U.length+1]?=aJ [zX] 7:=by rw[dG];exact gp b1
 have c2:U2[U1.length]?=aJ [v] 7:=by rw[dG,cx oM];simp
 have ry:Kp F U U2:=by rw[dG];exact nZ.push _
 have k2:kR es cb m cg ct h F D U2:=by rw[dG];exact k1.fr (M:=λ_=>False) ((Kp.refl _ _).push _) λ_ h=>h.elim
 have s2:eu p X U2 w ts:=by rw[dG];exact s1.push _
 rw[<-dG];clear dG;have l2:=ry.len
 have same:∀e:ae,e.get 9=some (ag (U.length+1))->eN [.cell 9 (some 7)] U.length (λr U'=>r=x.v/\kR es cb m cg ct h F D U'/\Kp F U U') .ret e (U2.set (U.length+1) (.arr [x.v] 7 1)):=λe he=>by
  have hw:(U2.set (U.length+1) (.arr [x.v] 7 1))[U.length+1]?=aJ [x.v] 7:=bO (aR c1);refine bu (vs:=[x.v]) (by simp[eL,he,ab,hw]) ⟨rfl,?_,ry.set _ (.inr oM)⟩;exact k2.fr (M:=λl=>l=U.length+1) ((Kp.refl _ _).set _ (.inl rfl)) λl hl _=>by rw[hl];exact⟨nF 1,nD 1⟩
 cases hy:eS es x.text with
 |none=>
  have e1:xp (eS es) (aE ts) x=x:=by unfold xp;rw[hy];cases (aE ts).at x.text<;>rfl
  have e2:xy (eS es) (aE ts) tg x.text=false:=by unfold xy BI;rw[hy];cases (aE ts).at x.text<;>rfl
  rw[e1,e2,ni];simp[ab,c0,aI,c1,aU];refine same _ ?_;simp
 |some y=>
  have hE:v=y.v:=by rw[hv];unfold Bj;rw[hy]
  subst hE;simp[ab,c0];refine aZ (Hm s2 x.text) ?_;have hf:=CY ts x.text
  cases uV:qE ts x.text with
  |some q=>
   have hs:(aE ts).at x.text=some q.1:=by rw[hf,uV];rfl
   have e1:xp (eS es) (aE ts) x=x:=by unfold xp;rw[hs]
   have e2:xy (eS es) (aE ts) tg x.text=false:=by unfold xy;rw[hs]
   rw[e1,e2,ni];simp[km,uV,gj,fH,ab,c0,aI,c1,aU];refine same _ ?_;simp
  |none=>
   have hs:(aE ts).at x.text=none:=by rw[hf,uV];rfl
   have e1:xp (eS es) (aE ts) x=y:=by unfold xp;rw[hs,hy];rfl
   have e2:xy (eS es) (aE ts) tg x.text=(tg&&decide (y.kind≠6)&&decide (y.kind≠7)):=by unfold xy BI;rw[hs,hy]
   rw[e1,e2];have g2:=k2.g;have lg:=aR k.g;have d1:∀b',(U2.set cg (.arr [.bool b'] 1 1))[U.length+1]?=aJ [zX] 7:=λb'=>by rw[bG oM];exact c1
   have d2:∀b',(U2.set cg (.arr [.bool b'] 1 1))[U1.length]?=aJ [y.v] 7:=λb'=>by rw[bG oM];exact c2
   have fin:∀(b':Bool) (U4:St),bz (U2.set cg (.arr [.bool b'] 1 1)) U4->U4[U.length+1]?=aJ [zX] 7/\∀e:ae,e.get 9=some (ag (U.length+1))->
     eN [.cell 9 (some 7)] U.length (λr U'=>r=y.v/\kR es cb m cg ct b' F D U'/\Kp F U U') .ret e (U4.set (U.length+1) (.arr [y.v] 7 1)):=λb' U4 yy=>by
    have k3:=k2.put b';have kp3:Kp F U (U2.set cg (.arr [.bool b'] 1 1)):=ry.set _ (.inl ((k.hF cg).2 rfl));have e1:=yy.at (d1 b') id;refine⟨e1,λe he=>?_⟩;have hw:(U4.set (U.length+1) (.arr [y.v] 7 1))[U.length+1]?=aJ [y.v] 7:=bO (aR e1);refine bu (vs:=[y.v]) (by simp[eL,he,ab,hw]) ⟨rfl,?_,(kp3.trans (yy.mono λ_ _ h=>h.elim)).set _ (.inr oM)⟩;exact k3.fr (M:=λl=>l=U.length+1) ((yy.mono λ_ _ h=>h.elim).set _ (.inl rfl)) λl hl _=>by rw[hl];exact⟨nF 1,nD 1⟩
   cases h with
   |true=>
    simp only[Bool.true_or];simp[km,uV,gj,fH,ab,g2,aI,pM,d2];refine bE (OD y (hz _ _ hy) _) ?_;rintro r U4 ⟨rfl,yy⟩;obtain⟨f1,f2⟩:=fin _ U4 yy;simp[aI,f1,hn];exact f2 _ sM
   |false=>
    simp only[Kr]
    cases tg with
    |false=>
     simp only[Kq];simp[km,uV,gj,fH,ab,g2,aI,pM,d2];refine bE (OD y (hz _ _ hy) _) ?_;rintro r U4 ⟨rfl,yy⟩;obtain⟨f1,f2⟩:=fin _ U4 yy;simp[aI,f1,hn];exact f2 _ sM
    |true=>
     simp only[rO];by_cases y6:y.kind=6
     .simp[km,uV,gj,fH,ab,g2,c2,y6,aI,pM,d2];refine bE (OD y (hz _ _ hy) _) ?_;rintro r U4 ⟨rfl,yy⟩;obtain⟨f1,f2⟩:=fin _ U4 yy;simp[aI,f1,hn];exact f2 _ sM
     .simp[km,uV,gj,fH,ab,g2,c2,y6,aI,pM,d2];refine bE (OD y (hz _ _ hy) _) ?_;rintro r U4 ⟨rfl,yy⟩;obtain⟨f1,f2⟩:=fin _ U4 yy;simp[aI,f1,hn];exact f2 _ sM
end
def Om(es:List Ae)(cb m cg ct:Nat):Cb where
 toPw:=eT (eS es)
 fe:=.bY
 fn:=.fn (.func 149) [] [ag ct,ag cb,ag cg]
 fc:=.fn (.func 148) [] [ag cb,ag cg]
 I h F D U:=kR es cb m cg ct h F D U
 cn _ _:=True
 lim:=100001
def qvQ(es:List Ae)(cb m cg ct:Nat)(hz:∀x y,eS es x=some y->(Pa.ex y).size<=4000):(Om es cb m cg ct).Ok where
 lim:=dl _
 lt:=λk l hl=>kR.lt k hl
 fr:=λk hk hM=>kR.fr k hk hM
 lp:=λ{h F D S} k l o ho=>by
  have k:kR es cb m cg ct h F D S:=k;refine⟨λhf=>?_,λhf=>?_⟩
  .rw[(k.hF l).1 hf,k.g]at ho;cases ho
  .rcases(k.hD l).1 hf with rfl|rfl|rfl
   .rw[k.b]at ho;cases ho
   .obtain⟨_,_,hm⟩:=k.mm;rw[hm]at ho;cases ho
   .rw[k.t]at ho;cases ho
 ce _ _:=trivial
 cm _ _ _ _:=trivial
 cc _ _ _:=trivial
 real:=λ{h F D S} k h'=>by
  have k:kR es cb m cg ct h F D S:=k;exact⟨F,D,_,k.put h',(Kp.refl _ _).set _ (.inl ((k.hF cg).2 rfl)),grow.refl _ _,grow.refl _ _⟩
 en:=.inl ⟨rfl,λ_ _=>rfl,λ_ _ _=>rfl⟩
 nm:=⟨149,[ag ct,ag cb,ag cg],rfl,λU x w ts tg w' h F D eh k=>aA.mono (qw6 hz k eh x tg) λr U' ⟨a,b,c⟩=>⟨a,F,D,b,c,grow.refl _ _,grow.refl _ _⟩⟩
 cl:=⟨148,[ag cb,ag cg],rfl,λU x w ts w' h F D eh k=>aA.mono (qkn k eh x) λr U' ⟨a,b,c⟩=>⟨a,F,D,b,c,grow.refl _ _,grow.refl _ _⟩⟩
def qcI(es:List Ae)(m:Nat)(S:St)(r:V)(U:St):Prop:=∃w cb cg ct F D,r=.aV [ag w,ag cg]/\Wk (Om es cb m cg ct) w 0 false F D U/\S.length<=w/\S.length<=cg/\(∀l,F l↔l=cg)/\bz S U
def qyo(es:List Ae)(m:Nat)(bs:List Nat)(ck:Nat)(S:St)(hm:S[m]?=some (.map (es.map td) bs ck)):
  aA prog 96 [.map m] S (qcI es m S):=by
 refine aA.ib C96 ?_;simp[C96,aL,ab,aI,bP,bR,bI,pM,Td,aU,dK];obtain⟨B,hB⟩:=eX (S.length);rw[<-hB];obtain⟨U,hU⟩:=eX (α:=St) (S++[.arr [.map m] 1 1,.arr [.bool false] 1 1,.arr [.fn (.func 148) [] [ag B,ag (B+1)]] 1 1,.arr [.agg [z0,.bY,.fn (.func 149) [] [ag (B+2),ag B,ag (B+1)],.fn (.func 148) [] [ag B,ag (B+1)]]] 4 1]);rw[<-hU];have b0:U[B]?=aJ [.map m] 1:=by rw[hU,hB];simp
 have b1:U[B+1]?=aJ [.bool false] 1:=by rw[hU,hB,cx oM];simp
 have b2:U[B+2]?=aJ [.fn (.func 148) [] [ag B,ag (B+1)]] 1:=by rw[hU,hB,cx oM];simp
 have b3:U[B+3]?=aJ [.agg [z0,.bY,.fn (.func 149) [] [ag (B+2),ag B,ag (B+1)],.fn (.func 148) [] [ag B,ag (B+1)]]] 4:=by rw[hU,hB,cx oM];simp
 have bm:U[m]?=some (.map (es.map td) bs ck):=by rw[hU,dh (aR hm)];exact hm
 have kS:bz S U:=by rw[hU];exact(Kp.refl _ _).push _
 have lm:=aR hm;refine bu (vs:=[ag (B+3),ag (B+1)]) (by simp[eL]) ?_;refine⟨B+3,B,B+1,B+2,(λl=>l=B+1),(λl=>l=B\/l=m\/l=B+2),rfl,?_,oM,oM,λ_=>Iff.rfl,kS⟩;have k:kR es B m (B+1) (B+2) false (λl=>l=B+1) (λl=>l=B\/l=m\/l=B+2) U:=⟨b0,⟨bs,ck,bm⟩,b1,b2,λ_=>Iff.rfl,λ_=>Iff.rfl⟩;exact⟨b3,k,oM,oM,trivial⟩
def lu:List Ex->Int
 |[]=>0
 |x::l=>if(Pa.ex x).err aH≠0 then(Pa.ex x).err aH else lu l
def vA(l:List Bz)(xs:List Ex):Int:=if l.length≠xs.length\/(iQ l λs=>!aH s)=true then 1 else if ¬l.Nodup then 6 else lu xs
set_option maxHeartbeats 0
set_option maxRecDepth 100000
noncomputable def C4:=aW func4
noncomputable def C67:=aW func67
noncomputable def C92:=aW func92
noncomputable def qaF:=aW func117
noncomputable def qaN:=aW func143
noncomputable def qaO:=aW func144
noncomputable def qaP:=aW func145
noncomputable def qaZ:=aW func161
noncomputable def qa1:=aW func162
noncomputable def qa3:=aW func163
noncomputable def qa9:=aW func175
noncomputable def qba:=aW func176
noncomputable def qbn:=aW func194
noncomputable def qbK:=aW func230
noncomputable def qbL:=aW func231
noncomputable def qbM:=aW func232
def Rd(v:V)(l:List Bz)(S:St):Prop:=sG v=some (af l.length)/\∀(i:Nat) (h:i<l.length),∃p,gP S 1 v i=some p/\ab S p none=some (.str l[i])
def Rd.sl(b:Bool)(l:List Bz)(S:St):Rd (.sl b (l.map .str)) l S:=⟨by simp[sG],λi h=>⟨_,oR h b S,by simp[ab]⟩⟩
def Rd.arr{lo wr:Nat}{l:List Bz}{S:St}(h:S[lo]?=some (.arr (l.map .str) 1 wr))(hw:wr<=l.length):Rd (.arr lo 0 l.length l.length) l S:=
 ⟨rfl,λi hi=>⟨.ptr lo i 0 l.length,by simp[gP,h,hw,hi],by simp[ab,h,hw,hi]⟩⟩
def OA(v:V)(l:List Bz)(s:Bz)(S:St)(hl:l.length<=1000000)(hr:Rd v l S):Fn prog 34 [v,.str s] S (.bool (eJ s l)):=by
 obtain ⟨hlen,ny⟩:=hr;refine aA.ib O3 ?_;simp[O3];refine cE (λn e S'=>∃i:Nat,n=l.length - i∧i≤l.length∧(∀j,(h:j<l.length)→j<i→l[j]≠s)∧S'=S∧
  e=[(5,af i),(4,.bool false),(0,v),(1,.str s)]) l.length _ ?_ ⟨0,sM,oM,oM,rfl,rfl⟩ ?_
 .exact ba
 rintro n e S' ⟨i,rfl,hi,cB,rfl,rfl⟩;by_cases h:i<l.length
 .obtain⟨p,mA,mB⟩:=ny i h;by_cases he:l[i]=s
  .rw[he]at mB;simp[↓jm,hlen,h,mA,mB];exact bu rfl ⟨by rw[mU.2 (by rw[<-he];exact dz h)];rfl,rfl⟩
  .simp[↓jm,hlen,h,mA,mB,he,cG i];refine⟨_,?_,_,?_,i+1,rfl,oM,λj hj rl=>?_,rfl⟩
   .omega
   .exact ba
   .by_cases fg:j=i
    .subst fg;exact he
    .exact cB j hj oM
 .simp[↓jm,hlen,h];refine bu rfl ⟨?_,rfl⟩;rw[zB.2]
  .rfl
  intro hs;obtain⟨j,hj,rfl⟩:=xF hs;exact cB j hj oM rfl
def dB(e:Bz×Nat):V:=.agg [.str e.1,af e.2]
theorem qmO(e:Bz×Nat):(dB e).size=2:=rfl
def XK{l:cy}{i:Nat}(h:i<l.length)(b:Bool)(S:St):gP S 2 (.sl b (l.map dB)) i=some (.cq (dB l[i]) 0):=Gu (f:=dB) qmO h b S
def GH(l:cy)(x:Bz):Option Nat:=cy.at l.reverse x
def N1(l:cy)(x:Bz):V:=af (match GH l x with|some k=>(k:Int)|none=>-1)
def UI{l:cy}{x:Bz}:cy.at l x=none↔∀e,e∈l->e.1≠x:=by
 unfold cy.at;simp[HL]
def qkr(l:cy)(b:Bool)(x:Bz)(hl:l.length<=1000000)(S:St):Fn prog 175 [.sl b (l.map dB),.str x] S (N1 l x):=by
 refine aA.ib qa9 ?_;simp[qa9,fO (n:=(l.length:Int)-1) oM oM];refine eA (λe U=>GH l x=none/\U=S) ?_ ?_
 ·refine cE (λk e U=>k≤l.length∧(∀i,(h:i<l.length)→k≤i→l[i].1≠x)∧U=S∧
   e=[(5,af ((k:Int)-1)),(0,.sl b (l.map dB)),(1,.str x)]) l.length _ ?_ ⟨dl _,oM,rfl,rfl⟩ ?_
  .exact ba
  rintro k e U ⟨hk,cB,rfl,rfl⟩;by_cases h0:k=0
  .subst h0;simp;unfold GH;rw[UI];intro e he;obtain⟨i,hi,rfl⟩:=xF (List.mem_reverse.1 he);exact cB i hi (fS _)
  .obtain⟨m,rfl⟩:∃m,k=m+1:=⟨k-1,oM⟩;have hm:m<l.length:=oM;have e1:((m+1:Nat):Int)-1=m:=oM;rw[e1];have hg:(0:Int)<=m:=oM;by_cases hx:l[m].1=x
   .simp[hg,XK hm,dB,ab,hx,G2];refine bu rfl ⟨?_,rfl⟩;unfold N1
    have:GH l x=some l[m].2:=by
     unfold GH cy.at;have hs:l=l.take m++(l[m]::l.drop (m+1)):=by rw[<-xE hm,qY]
     conv=>lhs;rw[hs]
     rw[List.reverse_append,Pq,yW,yW]
     have hn:(l.drop (m+1)).reverse.find? (λp=>decide (p.1=x))=none:=by
      rw[HL];intro e he;obtain⟨i,hi,rfl⟩:=xF (List.mem_reverse.1 he);rw[List.getElem_drop];simp only[List.length_drop]at hi;have:=cB (m+1+i) oM oM;simpa using this
     rw[hn];simp[hx]
    rw[this];rfl
   .simp[hg,XK hm,dB,ab,hx,fO (n:=(m:Int)-1) oM oM];refine⟨m,oM,_,?_,oM,λi hi hmi=>?_,rfl⟩
    .exact ba
    .by_cases fg:m=i
     .subst fg;exact hx
     .exact cB i hi oM
 rintro e U ⟨hn,rfl⟩;simp;refine bu rfl ⟨?_,rfl⟩;unfold N1;rw[hn];rfl
def Lu(s:Bz)(taken:List Bz)(ht:taken.length<=899):∃n,1<=n/\n<=999/\jl s n∉taken/\∀i,1<=i->i<n->jl s i∈taken:=by
 have h1:¬∀i,i<900->jl s (100+i)∈taken:=λh=>by
  have:=YH taken 900 (λi=>jl s (100+i)) (λi j hi hj he=>qmW hi hj he) h;omega
 have h2:∃n,1<=n/\n<=999/\jl s n∉taken:=by
  apply Classical.byContradiction;intro hn;exact h1 λi hi=>Classical.byContradiction λhc=>hn ⟨100+i,oM,oM,hc⟩
 obtain⟨n,h1,h2,h3⟩:=h2
 induction n using Nat.strongRecOn with
 |ind n ih=>
  by_cases hm:∃m,1<=m/\m<n/\jl s m∉taken
  .obtain⟨m,a,b,c⟩:=hm;exact ih m b a oM c
  .exact⟨n,h1,h2,h3,λi hi hl=>Classical.byContradiction λhc=>hm ⟨i,hi,hl,hc⟩⟩
def je.exists(s:Bz)(taken:List Bz)(ht:taken.length<=899):∃t,je s taken t:=by
 by_cases hs:s∈taken
 .obtain⟨n,h1,_,h2,h3⟩:=Lu s taken ht;exact⟨_,.inr ⟨hs,n,h1,rfl,h2,h3⟩⟩
 .exact⟨s,.inl ⟨hs,rfl⟩⟩
def qkE(v:V)(s:Bz)(taken:List Bz)(S:St)(hr:Rd v taken S)(hs:s.size<=16)(ht:taken.length<=899):
  aA prog 45 [.str s,v] S (λv U=>(∃t,v=.str t/\je s taken t)/\U=S):=by
 refine aA.ib C45 ?_;simp[C45];refine aZ (OA v taken s S oM hr) ?_
 cases hi:eJ s taken with
 |false=>
  simp;exact bu rfl ⟨⟨s,rfl,.inl ⟨zB.1 hi,rfl⟩⟩,rfl⟩
 |true=>
  obtain⟨N,Wm,hN2,Wn,Wp⟩:=Lu s taken ht;simp;refine cE (λk e S'=>∃m:Nat,k=N-m/\1<=m/\m<=N/\S'=S/\e=[(5,af m),(4,.str ⟨⟨[]⟩⟩),(0,.str s),(1,v)]) (N-1) _ ?_ ⟨1,rfl,oM,Wm,rfl,rfl⟩ ?_
  .exact ba
  rintro k e S' ⟨m,rfl,A5,hm2,rfl,rfl⟩;simp;refine aZ (qym m oM S') ?_;have hd:=Qb m oM;simp[bI,zJ,oI];rw[S9,qg2 _ _ hd,qka oM];simp;rw[ZO (by rw[S9];simp;omega),qdJ];simp;refine aZ (OA v taken (jl s m) S' oM hr) ?_
  cases hc:eJ (jl s m) taken with
  |false=>
   simp;exact bu rfl ⟨⟨jl s m,rfl,.inr ⟨mU.1 hi,m,A5,rfl,zB.1 hc,λi h1 h2=>Wp i h1 oM⟩⟩,rfl⟩
  |true=>
   have hmN:m≠N:=λhh=>Wn (by rw[<-hh];exact mU.1 hc)
   simp;refine⟨_,?_,_,?_,m+1,rfl,oM,oM,rfl⟩
   .omega
   .rw[fO oM oM];exact ba
def qkK(s:Bz)(g:Nat)(cs:List V)(p:Bz->Bool)(taken:List Bz)(S:St)(hp:∀x,Fn prog g ([.str x]++cs) S (.bool (p x)))(hk:∀x,p x=true↔x∈taken)(hs:s.size<=16)(ht:taken.length<=899):
  aA prog 77 [.str s,.fn (.func g) [] cs] S (λv U=>(∃t,v=.str t/\je s taken t)/\U=S):=by
 have nk:∀x,p x=false->x∉taken:=λx h hh=>by
  rw[(hk x).2 hh]at h;cases h
 refine aA.ib C77 ?_;simp[C77];refine aZ (hp s) ?_
 cases hi:p s with
 |false=>
  simp;exact bu rfl ⟨⟨s,rfl,.inl ⟨nk s hi,rfl⟩⟩,rfl⟩
 |true=>
  obtain⟨N,Wm,hN2,Wn,Wp⟩:=Lu s taken ht;simp;refine cE (λk e S'=>∃m:Nat,k=N-m/\1<=m/\m<=N/\S'=S/\e=[(5,af m),(4,.str ⟨⟨[]⟩⟩),(0,.str s),(1,.fn (.func g) [] cs)]) (N-1) _ ?_ ⟨1,rfl,oM,Wm,rfl,rfl⟩ ?_
  .exact ba
  rintro k e S' ⟨m,rfl,A5,hm2,rfl,rfl⟩;simp;refine aZ (qwZ m oM S') ?_;have hd:=Qb m oM;simp[bI,zJ,oI];rw[S9,qg2 _ _ hd,qka oM];simp;rw[ZO (by rw[S9];simp;omega),qdJ];simp;refine aZ (hp (jl s m)) ?_
  cases hc:p (jl s m) with
  |false=>
   simp;exact bu rfl ⟨⟨jl s m,rfl,.inr ⟨(hk _).1 hi,m,A5,rfl,nk _ hc,λi h1 h2=>Wp i h1 oM⟩⟩,rfl⟩
  |true=>
   have hmN:m≠N:=λhh=>Wn (by rw[<-hh];exact(hk _).1 hc)
   simp;refine⟨_,?_,_,?_,m+1,rfl,oM,oM,rfl⟩
   .omega
   .rw[fO oM oM];exact ba
end Go.Proofs.YtbifpocccfkhhaaGreatDoor


namespace Go.Proofs.YtbifpocccfkhhaaGreatDoor
open Go
def zY(ks:List Bz):List Bz:=((ks.map λk=>k.data.toList).mergeSort λx y=>decide (x<=y)).map λl=>⟨l.toArray⟩
def Zl(ks:List Bz):(zY ks).length=ks.length:=by unfold zY;simp
def qdP(h:bN.H)(sc:ai)(t:Bz):(eO (bN.qZ h t sc)).length<=(eO h).length+1:=by
 show(Prod.fst (pW h t sc)).length<=_;unfold pW eO;cases sc.at t<;>simp
mutual
theorem Ex.FI(sc:ai)(tg:Bool):∀(x:Ex) (h:bN.H),(eO (Ex.hs bN sc tg h x)).length<=(eO h).length+(Pa.ex x).size
 |.mk k o n m e t a,h=>by
  have ha:=Ex.qG sc false a h;have hz:=Pa.size_eq (.ex (.mk k o n m e t a));simp only[Pa.own,Pa.kids,Ex.args]at hz;have hc:=qdP (Ex.aN bN sc false h a) sc t;rw[Ex.hs,qdS];split<;>omega
theorem Ex.qG(sc:ai)(tg:Bool):∀(l:List Ex) (h:bN.H),(eO (Ex.aN bN sc tg h l)).length<=(eO h).length+bk (l.map Pa.ex)
 |[],h=>by simp[Ex.aN]
 |x::l,h=>by
  have h1:=Ex.FI sc tg x h;have h2:=Ex.qG sc tg l (Ex.hs bN sc tg h x);rw[Ex.aN,cQ,iN];omega
end
def El.qG(sc:ai):∀(l:List El) (h:bN.H),(eO (El.aN bN sc h l)).length<=(eO h).length+bk (l.map Pa.el)
 |[],h=>by simp[El.aN]
 |x::l,h=>by
  have h1:=Ex.qG sc false x.aw h;have h2:=El.qG sc l (Ex.aN bN sc false h x.aw);have hz:=Pa.size_eq (.el x);simp only[Pa.kids]at hz;show(eO (El.aN bN sc (Ex.aN bN sc false h x.aw) l)).length<=_;rw[cQ,iN];omega
mutual
theorem Sm.FI:∀(s:Sm) (sc:ai) (n:Nat) (h:bN.H),(eO (Sm.hs bN sc n h s)).length<=(eO h).length+(Pa.st s).size
 |.mk l k t g e el d b,sc,n,h=>by
  have hz:=Sm.Hl (.mk l k t g e el d b);simp only[Sm.labels,Sm.targets,Sm.aw,Sm.elems,Sm.decls,Sm.body]at hz;have e1:=Ex.qG sc true g h;rw[Sm.hs];split
  .have e2:=De.qG d (ar (cK d b) n::sc) sc (n+(ar (cK d b) n).length) (enters bN (Ex.aN bN sc true h g) (ar (cK d b) n));have e3:=Sm.qG b (ar (cK d b) n::sc) (n+(ar (cK d b) n).length+De.aX d) (De.aN bN (ar (cK d b) n::sc) sc (n+(ar (cK d b) n).length) (enters bN (Ex.aN bN sc true h g) (ar (cK d b) n)) d);rw[zg]at e2;omega
  .split
   .have e3:=Sm.qG b (ar (cr b) n::sc) (n+(ar (cr b) n).length) (enters bN (Ex.aN bN sc true h g) (ar (cr b) n));rw[zg]at e3;omega
   .have e2:=Ex.qG sc false e (Ex.aN bN sc true h g);have e3:=El.qG sc el (Ex.aN bN sc false (Ex.aN bN sc true h g) e);have e4:=Sm.VY b sc n (El.aN bN sc (Ex.aN bN sc false (Ex.aN bN sc true h g) e) el);have hc:=qdP (Sm.bw bN sc n (El.aN bN sc (Ex.aN bN sc false (Ex.aN bN sc true h g) e) el) b) sc t;rw[qdQ];split<;>omega
theorem De.FI:∀(s:De) (own sc:ai) (n:Nat) (h:bN.H),(eO (De.hs bN own sc n h s)).length<=(eO h).length+(Pa.de s).size
 |.mk k o t ns e fo b,own,sc,n,h=>by
  have hz:=De.Hl (.mk k o t ns e fo b);simp only[De.names,De.aj,De.aw,De.body]at hz;rw[De.hs];split
  .have e1:=Ex.qG own false e h;have e2:=Sm.VY b (ar (fo.map Fo.name) n::own) (n+(ar (fo.map Fo.name) n).length) (enters bN (Ex.aN bN own false h e) (ar (fo.map Fo.name) n));rw[zg]at e2;omega
  .have e1:=Ex.qG (if k=2 then sc else own) false e h;omega
theorem De.qG:∀(l:List De) (own sc:ai) (n:Nat) (h:bN.H),(eO (De.aN bN own sc n h l)).length<=(eO h).length+bk (l.map Pa.de)
 |[],_,_,_,h=>by simp[De.aN]
 |x::l,own,sc,n,h=>by
  have h1:=De.FI x own sc n h;have h2:=De.qG l own sc (n+De.nb x) (De.hs bN own sc n h x);rw[De.aN,cQ,iN];omega
theorem Sm.qG:∀(l:List Sm) (sc:ai) (n:Nat) (h:bN.H),(eO (Sm.aN bN sc n h l)).length<=(eO h).length+bk (l.map Pa.st)
 |[],_,_,h=>by simp[Sm.aN]
 |x::l,sc,n,h=>by
  have h1:=Sm.FI x sc n h;have h2:=Sm.qG l sc (n+Sm.nb x) (Sm.hs bN sc n h x);rw[Sm.aN,cQ,iN];omega
theorem Sm.VY:∀(l:List Sm) (sc:ai) (n:Nat) (h:bN.H),(eO (Sm.bw bN sc n h l)).length<=(eO h).length+bk (l.map Pa.st)
 |[],_,_,h=>by simp[Sm.bw]
 |x::l,sc,n,h=>by
  have h1:=Sm.FI x (ar x.labels n::sc) (n+(ar x.labels n).length) (enters bN h (ar x.labels n));have h2:=Sm.VY l sc (n+(ar x.labels n).length+Sm.nb x) (Sm.hs bN (ar x.labels n::sc) (n+(ar x.labels n).length) (enters bN h (ar x.labels n)) x);rw[zg]at h1;rw[Sm.bw,cQ,iN];omega
end
def Sm.qpm(s:Sm):(eO (s.ou bN te)).length<=(Pa.st s).size:=by
 have:=Sm.FI s [ar s.labels 0] (ar s.labels 0).length (enters bN te (ar s.labels 0));rw[zg]at this;have h0:(eO te).length=0:=rfl;show(eO (Sm.hs bN [ar s.labels 0] (ar s.labels 0).length (enters bN te (ar s.labels 0)) s)).length<=_;omega
def Bh:∀{l ks:List Bz},ks.Nodup->(l.foldl eo ks).Nodup
 |[],ks,h=>h
 |s::l,ks,h=>by
  refine Bh (l:=l) ?_;unfold eo;split
  .exact h
  .rename_i hs;exact HO.2 ⟨h,sM,λa ha b hb=>by simp at hb;subst hb;rintro rfl;exact hs (mU.2 ha)⟩
def Gy:∀{l ks:List Bz},(l.foldl eo ks).length<=ks.length+l.length
 |[],ks=>by simp
 |s::l,ks=>by
  have:=Gy (l:=l) (ks:=eo ks s);have h2:(eo ks s).length<=ks.length+1:=by unfold eo;split<;>simp
  rw[uD,gq];omega
def Sm.fu(s:Sm):List Bz:=zY ((eO (s.ou bN te)).foldl eo [])
open Go.Proofs.Tryz
def Co.at{m c4 c5 c6:Nat}{h:List Bz×List Bz}{v:V}{ps:List Nat}{F D:Np}{U:St}(k:Co m c4 c5 c6 h v ps F D U){i:Nat}(hi:i<h.2.length):
  ∃p l st,gP U 1 v (i:Int)=some (.ptr l i 0 st)/\ab U (.ptr l i 0 st) none=some (ag p)/\U[p]?=some (fP h.2[i] i h.2[i]):=by
 have MI:i<ps.length:=by rw[k.pn];exact hi
 obtain⟨_,hp⟩:=k.pl i ps[i] h.2[i] (bX MI) (bX hi);rcases k.gr with ⟨h0,_⟩|⟨a,wr,rfl,ha,hw,_,_⟩
 .rw[h0]at MI;simp at MI
 .refine⟨ps[i],a,ps.length,?_,?_,hp⟩
  .simp only[gP,ha];rw[ak ⟨hw,trivial,oM,oM⟩];simp
  .simp only[ab,ha];rw[ak ⟨hw,MI⟩];simp[MI]
def Co.sG{m c4 c5 c6:Nat}{h:List Bz×List Bz}{v:V}{ps:List Nat}{F D:Np}{U:St}(k:Co m c4 c5 c6 h v ps F D U):sG v=some (af h.2.length):=by
 have:=k.pn;rcases k.gr with ⟨rfl,rfl⟩|⟨a,wr,rfl,_⟩
 .rw[<-this];rfl
 .rw[<-this];rfl
def qyg{m c4 c5 c6:Nat}{h:List Bz×List Bz}{v:V}{ps:List Nat}{F D:Np}{U:St}(k:Co m c4 c5 c6 h v ps F D U)(hn:h.2.length<=100000):
  aA prog 75 [v] U (λr U'=>r=.map U.length/\(∃bs ck,ii bs ck/\U'[U.length]?=some (.map ((h.2.foldl eo []).map kv) bs ck))/\bz U U'):=by
 refine aA.ib C75 ?_;have lL:=k.sG;have hmk:∀(e:ae) (S:St),bI e S .Bm=some (V.map S.length,S++[Ob.map [] [] 0]):=λ_ _=>rfl
 simp[C75,hmk,↓jm,lL];refine eA (λe U'=>e.get 3=some (.map U.length)/\(∃bs ck,ii bs ck/\U'[U.length]?=some (.map ((h.2.foldl eo []).map kv) bs ck))/\bz U U') ?_ ?_
 ·refine cE (λj e U'=>∃i:Nat,j=h.2.length - i∧i≤h.2.length∧(∃bs ck,ii bs ck∧U'=U++[.map (((h.2.take i).foldl eo []).map kv) bs ck])∧
   e=[(9,af i),(8,af h.2.length),(7,v),(3,.map U.length)]) h.2.length _ ?_ ⟨0,sM,oM,⟨[],0,ii.nil,rfl⟩,rfl⟩ ?_
  .exact ba
  rintro j e U' ⟨i,rfl,hi,⟨bs,ck,bg,rfl⟩,rfl⟩;by_cases hh:i<h.2.length
  .have k':=k.push [.map (((h.2.take i).foldl eo []).map kv) bs ck];obtain⟨p,l,st,h1,h2,h3⟩:=k'.at hh;have hm:(U++[Ob.map (((h.2.take i).foldl eo []).map kv) bs ck])[U.length]?=some (.map (((h.2.take i).foldl eo []).map kv) bs ck):=sM;unfold fP at h3
   have h4:ab (U++[Ob.map (((h.2.take i).foldl eo []).map kv) bs ck]) (eD p 1) none=some (.str h.2[i]):=by
    simp only[ab,h3];rfl
   have mN:fits 1 [V.str h.2[i]]=true:=rfl;simp[hh,h1,h2,dK,h4,mN];refine bE (ZC true [h.2[i]] _ bs ck U.length _ sM hm) ?_;rintro r U2 ⟨fA,iw,zu,rfl⟩;simp[cG i];refine⟨_,?_,_,?_,i+1,rfl,oM,⟨fA,iw,zu bg,?_⟩,rfl⟩
   .omega
   .exact ba
   .rw[dN,bX hh,iP,uz];exact⟨by rw[uD,List.foldl_nil],rfl,rfl⟩
  .have:i=h.2.length:=oM;subst this;rw[gu];simp;exact⟨bg,(Kp.refl _ _).push _⟩
 .rintro e U' ⟨h3,h4,h5⟩;simp[h3];exact bu rfl ⟨rfl,h4,h5⟩
def ki(e:Bz×Int):V×V:=(.str e.1,af e.2)
def uN:List (Bz×Int)->Bz->Int
 |[],_=>0
 |(k,v)::r,s=>if s=k then v else uN r s
def Bt:List (Bz×Int)->Bz->Int->List (Bz×Int)
 |[],s,n=>[(s,n)]
 |(k,v)::r,s,n=>if s=k then(k,n)::r else(k,v)::Bt r s n
def qdM(s:Bz)(n:Int)(x:Bz):∀ms,uN (Bt ms s n) x=if x=s then n else uN ms x
 |[]=>by simp[Bt,uN]
 |(k,v)::r=>by
  unfold Bt;by_cases h:s=k
  .subst h;rw[ak rfl,uN,uN];split<;>rfl
  .rw[au h,uN,uN,qdM s n x r];by_cases hx:x=k
   .subst hx;rw[ak rfl,ak rfl,au (Ne.symm h)]
   .rw[au hx,au hx]
def Yo(s:Bz)(n:Int):∀(ms:List (Bz×Int)) (i:Nat),(mD .str (.str s) (ms.map ki) i=some none/\uN ms s=0/\Bt ms s n=ms++[(s,n)])\/∃(j:Nat) (v:Int),mD .str (.str s) (ms.map ki) i=some (some (i+j,af v))/\uN ms s=v/\Bt ms s n=ms.set j (s,n)/\j<ms.length
 |[],i=>.inl ⟨rfl,rfl,rfl⟩
 |(k,v)::r,i=>by
  simp only[cQ,ki,mD,sF];by_cases h:s=k
  .subst h;refine .inr ⟨0,v,?_,?_,?_,sM⟩
   .simp
   .rw[uN,ak rfl]
   .rw[Bt,ak rfl];rfl
  .have bZ:(s.data.toList==k.data.toList)=false:=by
    rw[beq_eq_false_iff_ne];intro hh;exact h (vT (xz hh))
   rw[bZ];simp only;rw[uN,au h,Bt,au h];rcases Yo s n r (i+1) with ⟨h1,h2,h3⟩|⟨j,w,h1,h2,h3,h4⟩
   .exact .inl ⟨h1,h2,by rw[h3];rfl⟩
   .refine .inr ⟨j+1,w,?_,h2,by rw[h3];rfl,by simpa using h4⟩;rw[show i+(j+1)=i+1+j by omega];exact h1
def Cm(c:Bz->Int)(l:Nat)(S:St):Prop:=∃ms bs ck,S[l]?=some (.map (ms.map ki) bs ck)/\∀x,uN ms x=c x
def Cm.get{c:Bz->Int}{l:Nat}{S:St}(h:Cm c l S)(s:Bz):sJ S .str z0 false (.map l) (.str s)=some (af (c s)):=by
 obtain⟨ms,bs,ck,h,hc⟩:=h;unfold sJ;rw[ak (by rfl)];simp only[DZ,h];rcases Yo s 0 ms 0 with ⟨h1,h2,_⟩|⟨j,v,h1,h2,_⟩
 .rw[h1,<-hc,h2];rfl
 .rw[h1,<-hc,h2];rfl
def Cm.put{c:Bz->Int}{l:Nat}{S:St}(h:Cm c l S)(s:Bz)(n:Int):∃es bs ck,og S .str (.map l) (.str s) (af n)=some (S.set l (.map es bs ck))/\∀S':St,S'[l]?=some (.map es bs ck)->Cm (λx=>if x=s then n else c x) l S':=by
 obtain⟨ms,bs,ck,h,hc⟩:=h;have fin:∀(fA:List Nat) (iw:Nat) (S':St),S'[l]?=some (.map ((Bt ms s n).map ki) fA iw)->Cm (λx=>if x=s then n else c x) l S':=λfA iw S' hS=>⟨_,fA,iw,hS,λx=>by rw[qdM,hc]⟩
 unfold og;rw[ak (by rfl)];simp only[h];rcases Yo s n ms 0 with ⟨h1,h2,h3⟩|⟨j,v,h1,h2,h3,h4⟩
 .rw[h1];refine⟨_,bs++[ck],ck+1,rfl,λS' hS=>fin (bs++[ck]) (ck+1) S' ?_⟩;rw[h3,cJ];exact hS
 .rw[h1];refine⟨_,bs,ck,rfl,λS' hS=>fin bs ck S' ?_⟩;rw[h3,List.map_set];simpa[ki]using hS
def Cm.keep{c:Bz->Int}{l:Nat}{S S':St}(h:Cm c l S)(hk:∀o,S[l]?=some o->S'[l]?=some o):Cm c l S':=by
 obtain⟨ms,bs,ck,h,hc⟩:=h;exact⟨ms,bs,ck,hk _ h,hc⟩
open Classical in
def YG(P:Bz->Prop)(x:Bz):Bz:=if h:∃t,P t then Classical.choose h else x
def xX(x:Bz)(all:List Bz):Bz:=YG (λt=>je x all t) x
def LF{x:Bz}{all:List Bz}{t:Bz}(h:je x all t):xX x all=t:=by
 have he:∃t,je x all t:=⟨t,h⟩;unfold xX YG;rw[dif_pos he];exact(Classical.choose_spec he).unique h
def qpp{x:Bz}{a b:List Bz}(h:∀y,y∈a↔y∈b):xX x a=xX x b:=by
 have:(λt=>je x a t)=λt=>je x b t:=by
  funext t;exact propext ⟨je.same h,je.same λy=>(h y).symm⟩
 unfold xX;rw[this]
def je.size_le{s:Bz}{taken:List Bz}{t:Bz}(h:je s taken t)(hs:s.size<=16)(ht:taken.length<=899):t.size<=16:=by
 by_cases hm:s∈taken
 .obtain⟨n,h1,h2,h3,h4⟩:=Lu s taken ht;rw[h.unique (.inr ⟨hm,n,h1,rfl,h3,h4⟩)];have hd:=Qb n oM;unfold jl;simp only[ByteArray.size,KO,dx,qz];omega
 .rw[h.unique (.inl ⟨hm,rfl⟩)];exact hs
def eY:List Bz->Bz->Int
 |[],_=>0
 |y::l,x=>(if x=y then 1 else 0)+eY l x
def Vl(x:Bz)(m:List Bz):∀l,eY (l++m) x=eY l x+eY m x
 |[]=>by simp[eY]
 |y::l=>by rw[dR,eY,eY,Vl x m l];omega
def Le(x:Bz):∀l,0<=eY l x/\eY l x<=l.length
 |[]=>by simp[eY]
 |y::l=>by
  have:=Le x l;rw[eY,gq];split<;>omega
def qdN(x:Bz):∀l,0<eY l x↔x∈l
 |[]=>by simp[eY]
 |y::l=>by
  have h1:=qdN x l;have h2:=Le x l;rw[eY,dU];by_cases h:x=y
  .rw[ak h];exact⟨λ_=>.inl h,λ_=>by omega⟩
  .rw[au h];exact⟨λhh=>.inr (h1.1 oM),λhh=>by have:=h1.2 (hh.resolve_left h);omega⟩
def mj(tk fr done:List Bz)(x:Bz)(rest:List Bz):Bz:=if eJ x tk=true then xX x (fr++(done++x::rest)++tk) else x
def jt(tk fr:List Bz):List Bz->List Bz->List Bz
 |done,[]=>done
 |done,x::rest=>jt tk fr (done++[mj tk fr done x rest]) rest
def Uu(tk fr:List Bz):∀(rest done:List Bz),(jt tk fr done rest).length=done.length+rest.length
 |[],done=>by simp[jt]
 |x::rest,done=>by rw[jt,Uu tk fr rest];simp;omega
def rS(tk fr:List Bz):List Bz->List Bz->Nat->List Bz
 |done,_,0=>done
 |done,[],_+1=>done
 |done,x::rest,i+1=>rS tk fr (done++[mj tk fr done x rest]) rest i
def Uo(tk fr:List Bz):∀(rest done:List Bz),rS tk fr done rest rest.length=jt tk fr done rest
 |[],done=>rfl
 |x::rest,done=>by rw[gq,rS,jt,Uo tk fr rest]
def Ur(tk fr:List Bz):∀(rest done:List Bz) (i:Nat),i<=rest.length->(rS tk fr done rest i).length=done.length+i
 |_,done,0,_=>by simp[rS]
 |[],done,i+1,h=>by simp at h
 |x::rest,done,i+1,h=>by
  rw[rS,Ur tk fr rest _ i (by simpa using h)];simp;omega
def Ut(tk fr:List Bz):∀(rest done:List Bz) (i:Nat) (h:i<rest.length),rS tk fr done rest (i+1)=rS tk fr done rest i++[mj tk fr (rS tk fr done rest i) rest[i] (rest.drop (i+1))]
 |[],_,_,h=>by simp at h
 |x::rest,done,0,h=>by simp[rS]
 |x::rest,done,i+1,h=>by
  rw[rS,Ut tk fr rest _ i (by simpa using h)];rfl
def lf(l:List Bz)(k:Nat):Bz:=(l[k]?).getD ⟨⟨[]⟩⟩
def qmo{tk fr done rest:List Bz}{x:Bz}(hx:x.size<=16)(hl:(fr++(done++x::rest)++tk).length<=899):(mj tk fr done x rest).size<=16:=by
 unfold mj;split
 .obtain⟨t,ht⟩:=je.exists x _ hl;rw[LF ht];exact ht.size_le hx hl
 .exact hx
def qdr(tk fr:List Bz):∀(rest done:List Bz),(∀x,x∈done->x.size<=16)->(∀x,x∈rest->x.size<=16)->fr.length+done.length+rest.length+tk.length<=899->∀x,x∈jt tk fr done rest->x.size<=16
 |[],done,h,_,_=>by rw[jt];exact h
 |y::rest,done,h,g,hl=>by
  rw[jt];rw[gq]at hl;refine qdr tk fr rest _ (λx hx=>?_) (λx hx=>g x (uE _ hx)) (by simp;omega);rcases cU.1 hx with hx|hx
  .exact h x hx
  .simp at hx;subst hx;exact qmo (g y sM) (by simp;omega)
end Go.Proofs.YtbifpocccfkhhaaGreatDoor
end
