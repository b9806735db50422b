/- A part. -/
import Derived.Test.YtbifpocccfkhhaaGreatDoorYe
set_option linter.all false
noncomputable section
namespace Go.Proofs.YtbifpocccfkhhaaGreatDoor
open Go
def aA.qpj{P:aG}{f:FuncId}{args:List V}{R:V->Prop}(h:aA P f args [] (λv U=>R v/\U=[]))(ha:∀v,v∈args->v.under 0=true)(hr:∀v,R v->v.under 0=true)(S:St):aA P f args S (λv U=>R v/\U=S):=by
 refine⟨h.1,λE w us n hs hv=>?_⟩;obtain⟨c1,c2⟩:=hs.cut (m:=0) (λo ho=>by simp at ho) (fS _);have c1:SR (E.cut 0) [] w:=by simpa using c1
 have iL:uJ (E.cut 0) args us:=⟨hv.1,λi v u h1 h2=>(hv.2 i v u h1 h2).cut (ha v (dZ h1))⟩;refine(h.2 (E.cut 0) w us n c1 iL).mono ?_;rintro e w' ⟨u,r0,E1,S1,h1,⟨hR,rfl⟩,h3,h4,h5,h6⟩
 have cB:∀{E:En} {b:Nat},¬own E [] b:=by
  rintro E b ⟨l,st,x,⟨o,ho,_⟩,_⟩;simp at ho
 let E':En:={ I:=E1.I,ρ:=E.ρ }
 have hle:E.le E':=⟨λb o c hc=>h5.I b o c hc,λ_ _ _ hx=>hx⟩;have W0:En.le (E1.cut 0) E':=⟨λb o c hc=>hc,λl st x hx=>by simp[En.cut]at hx⟩;have dW:∀b,own E' S b->own E S b:=λb ⟨l,st,x,hl,hx,he⟩=>⟨l,st,x,hl,hx,he⟩
 have hI:∀b o c,E1.I b o=some c->E.I b o=some c\/w.heap.size<=b:=λb o c hc=>by
  rcases h5.JD b o c hc with hc|hc|hc
  .exact .inl hc
  .exact absurd hc cB
  .exact .inr hc
 refine ⟨u,r0,E',S,h1,⟨hR,rfl⟩,(h3.cut (hr _ hR)).mono W0,⟨⟨h4.gl.1,h4.gl.2⟩,h4.I,λl o hl=>?_,hs.jI,λb o hb=>?_,λb hb=>?_,λl l' st bc x x' hl cj hx iG he=>hs.inj l l' st bc x x' hl cj hx iG he⟩,
  ⟨h5.size,hle.1,λ_ _ _ _ hx=>hx,λ_ _ hx=>hx,λb hb=>.inl (dW b hb),λb o c hc=>(hI b o c hc).imp id .inr,λb hb _=>h5.frame b hb cB,h5.out⟩,dl _⟩
 .by_cases hd:o=.dead
  .subst hd;trivial
  .exact(hs.fJ l o hl).mono hle (λ_ _ hx=>hx) λst x hx=>h5.frame _ (hs.lt _ ⟨l,st,x,⟨o,hl,hd⟩,hx,rfl⟩) cB
 .cases hc:E'.I b o with
  |none=>rfl
  |some c=>
   exfalso;rcases hI b o c hc with h| h
   .rw[hs.apart b o (dW b hb)]at h;cases h
   .have:=hs.lt b (dW b hb);omega
 .exact pT (hs.lt b (dW b hb)) h5.size
abbrev Pu(P:aG)(k:Nat)(args:List V)(R:V->Prop):Prop:=∀S,aA P k args S (λv U=>R v/\U=S)
def Pu.intro{P:aG}{f:FuncId}{fn:Func}{f':F'}{args:List V}{R:V->Prop}(hf:P.funcs[f]?=some fn)(hc:ra P fn=some f')(ha:args.length<=f'.N)
  (hu:(args.all λv=>v.under 0)=true) (hr:∀v,R v->v.under 0=true) (h:WP P f'.body (eN f'.rs 0 (λv U=>R v/\U=[])) (jV 0 args) []):Pu P f args R:=λS=>
 aA.qpj (aA.intro hf hc ha h) (λv hv=>fR.1 hu v hv) hr S
def Pu.ib{P:aG}{k:FuncId}{fn:Func}(p:CF P k fn){args:List V}{r:V}(h:WP P p.c.body (eN p.c.rs 0 (λv U=>v=r/\U=[])) (jV 0 args) [])(ha:Nat.ble args.length p.c.N=true:=by rfl)(hu:(args.all λv=>v.under 0)=true:=by simp[V.under])(hr:r.under 0=true:=by rfl):∀S,Fn P k args S r:=Pu.intro (R:=λv=>v=r) p.g p.o (qA ha) hu (λv hv=>hv ▸ hr) h
def fB{rs:List RV}{R:V->Prop}{e:ae}{S:St}{vs:List V}(h:eL e S rs=some vs)(hR:R (aY vs))(hu:(aY vs).under 0=true):eN rs 0 (λv U=>R v/\U=[]) .ret e S:=
 ⟨vs,h,_,[],dJ.cut (m:=0) hu sM cz (fS _),hR,rfl⟩
def P6(P:aG)(k:Nat)(args:List V)(S:St)(Φ:V->St->Prop):Prop:=∃R:V->St->Prop,aA P k args S R/\(∃v S',R v S')/\∀v S',R v S'->Φ v S'
def Lm(P:aG)(base:Nat)(d:Option Nat)(wr:Bool)(ds:List D)(K:ae->List St->Prop)(e:ae)(H:List St)(v:V)(S:St):Prop:=ik P base ds K (e.put d v) S (if wr then H++[S] else H)
def qek(r:Option (V×St))(P:aG)(base:Nat)(d:Option Nat)(wr:Bool)(ds:List D)(K:ae->List St->Prop)(e:ae)(H:List St):Prop:=match r with
 |some (v,S')=>Lm P base d wr ds K e H v S'
 |none=>False
def qel(f:Option V)(vs:Option (List V))(P:aG)(base:Nat)(d:Option Nat)(wr:Bool)(ds:List D)(K:ae->List St->Prop)(e:ae)(S:St)(H:List St):Prop:=match f,vs with
 |some (.fn (.func k) fs cs),some vs=>P6 P k (fs++vs++cs) S (Lm P base d wr ds K e H)
 |_,_=>False
def Qa(g:Option Bool)(P:aG)(base:Nat)(d:D)(ds:List D)(K:ae->List St->Prop)(e:ae)(S:St)(H:List St):Prop:=match g with
 |none=>False
 |some false=>Lm P base d.o.dst d.w ds K e H (.aV []) S
 |some true=>ik P base ({ d with o:={ d.o with g:=none } }::ds) K e S H
def qnN{P:aG}{base:Nat}{d:Option Nat}{wr:Bool}{ds:List D}{K:ae->List St->Prop}{e:ae}{H:List St}{v:V}{S:St}:Lm P base d wr ds K e H v S=ik P base ds K (e.put d v) S (if wr then H++[S] else H):=(rfl)
def qnT{P:aG}{base:Nat}{d:Option Nat}{wr:Bool}{ds:List D}{K:ae->List St->Prop}{e:ae}{H:List St}{v:V}{S:St}:qek (some (v,S)) P base d wr ds K e H=ik P base ds K (e.put d v) S (if wr then H++[S] else H):=(rfl)
def qnV{P:aG}{k:Nat}{fs cs vs:List V}{base:Nat}{d:Option Nat}{wr:Bool}{ds:List D}{K:ae->List St->Prop}{e:ae}{S:St}{H:List St}:qel (some (.fn (.func k) fs cs)) (some vs) P base d wr ds K e S H=P6 P k (fs++vs++cs) S (Lm P base d wr ds K e H):=(rfl)
def qnF{P:aG}{base:Nat}{d:D}{ds:List D}{K:ae->List St->Prop}{e:ae}{S:St}{H:List St}:Qa (some false) P base d ds K e S H=ik P base ds K (e.put d.o.dst (.aV [])) S (if d.w then H++[S] else H):=(rfl)
def qnG{P:aG}{base:Nat}{d:D}{ds:List D}{K:ae->List St->Prop}{e:ae}{S:St}{H:List St}:Qa (some true) P base d ds K e S H=ik P base ({ d with o:={ d.o with g:=none } }::ds) K e S H:=(rfl)
def qnY{P:aG}{base:Nat}{K:ae->List St->Prop}{e:ae}{S:St}{H:List St}:ik P base [] K e S H=K e H:=(rfl)
def qnX{P:aG}{base:Nat}{dst:Option Nat}{g:Nat×Bool}{k:K}{wr:Bool}{sl:Option Nat}{ck:Bool}{an:List Nat}{lo hi:Nat}{ds:List D}{K:ae->List St->Prop}{e:ae}{S:St}{H:List St}:
  ik P base (⟨⟨dst,some g,k⟩,wr,sl,ck,an,lo,hi⟩::ds) K e S H=Qa (jT e (some g)) P base ⟨⟨dst,some g,k⟩,wr,sl,ck,an,lo,hi⟩ ds K e S H:=by
 unfold Qa
 cases h:jT e (some g) with
 |none=>simp only[ik,h]
 |some b=>cases b<;>simp only[ik,h]<;>rfl
def qn0{P:aG}{base:Nat}{dst:Option Nat}{k:K}{wr:Bool}{sl:Nat}{ck:Bool}{an:List Nat}{lo hi:Nat}{ds:List D}{K:ae->List St->Prop}{e:ae}{S:St}{H:List St}:
 ik P base (⟨⟨dst,none,k⟩,wr,some sl,ck,an,lo,hi⟩::ds) K e S H=ik P base ds K (e.put dst (.ptr (base+sl) 0 0 1)) S (if wr then H++[S] else H):=(rfl)
def qnW{P:aG}{base:Nat}{dst:Option Nat}{f:bK}{args:List bK}{wr:Bool}{ck:Bool}{an:List Nat}{lo hi:Nat}{ds:List D}{K:ae->List St->Prop}{e:ae}{S:St}{H:List St}:
 ik P base (⟨⟨dst,none,.call f args⟩,wr,none,ck,an,lo,hi⟩::ds) K e S H=qel (f.ev e) (mr e args) P base dst wr ds K e S H:=(rfl)
def qnZ{P:aG}{base:Nat}{dst:Option Nat}{k:K}{wr:Bool}{ck:Bool}{an:List Nat}{lo hi:Nat}{ds:List D}{K:ae->List St->Prop}{e:ae}{S:St}{H:List St}(h:∀f args,k≠.call f args):
  ik P base (⟨⟨dst,none,k⟩,wr,none,ck,an,lo,hi⟩::ds) K e S H=qek (cf e S k) P base dst wr ds K e H:=by
 cases k<;>first|rfl|exact absurd rfl (h _ _)
def ql6{P:aG}{ds:List D}{zs:List V}{Q:dV}{e:ae}{S:St}:WP P (.draw ds zs) Q e S=ik P S.length ds (dP S.length ds (Q .normal)) e (S++iW zs) [S++iW zs]:=(rfl)
def ql7{P:aG}{ds:List D}{zs:List V}{o:O'}{Q:dV}{e:ae}{S:St}:WP P (.FB ds zs o) Q e S=ik P S.length ds (dP S.length ds (DU P o Q .normal)) e (S++iW zs) [S++iW zs]:=(rfl)
def qsI{P:aG}{o:O'}{Q:dV}{e:ae}{S:St}:DU P o Q .normal e S=eM P [o] (Q .normal) e S:=(rfl)
def nG{P:aG}{k:Nat}{args:List V}{S:St}{r:V}{Φ:V->St->Prop}(h:Fn P k args S r)(g:Φ r S):P6 P k args S Φ:=P7 h g
def uc{P:aG}{k:Nat}{args:List V}{S:St}{R:V->St->Prop}{Φ:V->St->Prop}(h:aA P k args S R)(hi:∃v U,R v U)(g:∀v U,R v U->Φ v U):P6 P k args S Φ:=⟨R,h,hi,g⟩
def Yt(ds:List D):Bool:=ds.all λd=>!(d.chk&&!d.w)
def qd1{base:Nat}{ef:ae}{H:List St}:∀{ds:List D},Yt ds=true->eF base ef H ds
 |[],_=>trivial
 |d::ds,h=>by
  simp only[Yt,Ak,cT]at h;refine⟨?_,qd1 h.2⟩;have h1:=h.1
  cases hb:(d.chk&&!d.w) with
  |true=>rw[hb]at h1;cases h1
  |false=>rw[au sM];trivial
def rV{base:Nat}{ds:List D}{Q:ae->St->Prop}{ef:ae}{H:List St}{S:St}(h:Yt ds=true)(hl:H.getLast?=some S)(hq:Q ef S):dP base ds Q ef H:=by
 refine⟨qd1 h,?_⟩;rw[hl];exact hq
attribute [simp] ql6 ql7 qsI qnN qnT qnV qnF qnG qnY qnX qn0 qnW qnZ
def aQ{rs:List RV}{R:V->Prop}{e:ae}{S:St}{vs:List V}(h:eL e S rs=some vs:=by exact rfl)(u:(aY vs).under 0=true:=by exact rfl)(r:R (aY vs)):eN rs 0 (λv U=>R v/\U=[]) .ret e S:=
 fB h r u
inductive Ex where
 |mk (kind op n dQ exp:Int) (text:Bz) (args:List Ex)
structure El where
 kind:Int
 aw:List Ex
structure Fo where
 name:Bz
 value:Bool
 spec:Int
 type:Int
mutual
inductive De where
 |mk (kind:Int) (own:Bool) (type:Int) (names:List Bz) (aw:List Ex) (aj:List Fo) (body:List Sm)
inductive Sm where
 |mk (labels:List Bz) (kind:Int) (text:Bz) (targets aw:List Ex) (elems:List El) (decls:List De) (body:List Sm)
end
namespace Ex
def kind:Ex->Int|mk k _ _ _ _ _ _=>k
def op:Ex->Int|mk _ o _ _ _ _ _=>o
def n:Ex->Int|mk _ _ n _ _ _ _=>n
def dQ:Ex->Int|mk _ _ _ m _ _ _=>m
def exp:Ex->Int|mk _ _ _ _ e _ _=>e
def text:Ex->Bz|mk _ _ _ _ _ t _=>t
def args:Ex->List Ex|mk _ _ _ _ _ _ a=>a
end Ex
namespace De
def kind:De->Int|mk k _ _ _ _ _ _=>k
def own:De->Bool|mk _ o _ _ _ _ _=>o
def type:De->Int|mk _ _ t _ _ _ _=>t
def names:De->List Bz|mk _ _ _ n _ _ _=>n
def aw:De->List Ex|mk _ _ _ _ e _ _=>e
def aj:De->List Fo|mk _ _ _ _ _ f _=>f
def body:De->List Sm|mk _ _ _ _ _ _ b=>b
end De
namespace Sm
def labels:Sm->List Bz|mk l _ _ _ _ _ _ _=>l
def kind:Sm->Int|mk _ k _ _ _ _ _ _=>k
def text:Sm->Bz|mk _ _ t _ _ _ _ _=>t
def targets:Sm->List Ex|mk _ _ _ t _ _ _ _=>t
def aw:Sm->List Ex|mk _ _ _ _ e _ _ _=>e
def elems:Sm->List El|mk _ _ _ _ _ e _ _=>e
def decls:Sm->List De|mk _ _ _ _ _ _ d _=>d
def body:Sm->List Sm|mk _ _ _ _ _ _ _ b=>b
end Sm
mutual
def Ex.v:Ex->V
 |.mk k o n m e t a=>.agg [af k,af o,af n,af m,af e,.str t,ah (Ex.vl a)]
def Ex.vl:List Ex->List V
 |[]=>[]
 |x::l=>Ex.v x::Ex.vl l
end
def Ex.BR:∀l:List Ex,Ex.vl l=l.map Ex.v
 |[]=>rfl
 |x::l=>by rw[Ex.vl,Ex.BR l];rfl
def El.v(e:El):V:=.agg [af e.kind,ah (e.aw.map Ex.v)]
def Fo.v(f:Fo):V:=.agg [.str f.name,.bool f.value,af f.spec,af f.type]
mutual
def De.v:De->V
 |.mk k o t n e f b=>.agg [af k,.bool o,af t,ah (n.map .str),ah (e.map Ex.v),ah (f.map Fo.v),ah (Sm.vl b)]
def Sm.v:Sm->V
 |.mk l k t g e f d b=>.agg [ah (l.map .str),af k,.str t,ah (g.map Ex.v),ah (e.map Ex.v),ah (f.map El.v),ah (De.vl d),ah (Sm.vl b)]
def De.vl:List De->List V
 |[]=>[]
 |x::l=>De.v x::De.vl l
def Sm.vl:List Sm->List V
 |[]=>[]
 |x::l=>Sm.v x::Sm.vl l
end
def De.BR:∀l:List De,De.vl l=l.map De.v
 |[]=>rfl
 |x::l=>by rw[De.vl,De.BR l];rfl
def Sm.BR:∀l:List Sm,Sm.vl l=l.map Sm.v
 |[]=>rfl
 |x::l=>by rw[Sm.vl,Sm.BR l];rfl
def Ex.eW(x:Ex):x.v=.agg [af x.kind,af x.op,af x.n,af x.dQ,af x.exp,.str x.text,ah (x.args.map Ex.v)]:=by
 cases x;simp only[Ex.v,Ex.BR];rfl
def De.eW(d:De):d.v=.agg [af d.kind,.bool d.own,af d.type,ah (d.names.map .str),ah (d.aw.map Ex.v),ah (d.aj.map Fo.v),ah (d.body.map Sm.v)]:=by
 cases d;simp only[De.v,Sm.BR];rfl
def Sm.eW(s:Sm):s.v=.agg [ah (s.labels.map .str),af s.kind,.str s.text,ah (s.targets.map Ex.v),ah (s.aw.map Ex.v),ah (s.elems.map El.v),ah (s.decls.map De.v),ah (s.body.map Sm.v)]:=by
 cases s;simp only[Sm.v,Sm.BR,De.BR];rfl
def Ex.iF(x:Ex):x.v.size=7:=by rw[Ex.eW];rfl
theorem El.iF(x:El):x.v.size=2:=rfl
theorem Fo.iF(x:Fo):x.v.size=4:=rfl
def De.iF(x:De):x.v.size=7:=by rw[De.eW];rfl
def Sm.iF(x:Sm):x.v.size=8:=by rw[Sm.eW];rfl
def Gu{α:Type}{f:α->V}{sz:Nat}(hf:∀x,(f x).size=sz){l:List α}{i:Nat}(h:i<l.length)(b:Bool)(S:St):gP S sz (.sl b (l.map f)) i=some (.cq (f l[i]) 0):=by
 simp[gP,h,hf]
def qJ{l:List Ex}{i:Nat}(h:i<l.length)(b:Bool)(S:St):gP S 7 (.sl b (l.map Ex.v)) i=some (.cq (Ex.v l[i]) 0):=Gu Ex.iF h b S
def Nu{l:List El}{i:Nat}(h:i<l.length)(b:Bool)(S:St):gP S 2 (.sl b (l.map El.v)) i=some (.cq (El.v l[i]) 0):=Gu El.iF h b S
def ru{l:List Fo}{i:Nat}(h:i<l.length)(b:Bool)(S:St):gP S 4 (.sl b (l.map Fo.v)) i=some (.cq (Fo.v l[i]) 0):=Gu Fo.iF h b S
def Gt{l:List De}{i:Nat}(h:i<l.length)(b:Bool)(S:St):gP S 7 (.sl b (l.map De.v)) i=some (.cq (De.v l[i]) 0):=Gu De.iF h b S
def yv{l:List Sm}{i:Nat}(h:i<l.length)(b:Bool)(S:St):gP S 8 (.sl b (l.map Sm.v)) i=some (.cq (Sm.v l[i]) 0):=Gu Sm.iF h b S
def qsO(x:Ex)(S:St):ab S (.cq x.v 0) (some 7)=some x.v:=by simp[ab,V.part,Ex.iF,V.isAgg,Ex.eW]
theorem qsN(x:El)(S:St):ab S (.cq x.v 0) (some 2)=some x.v:=rfl
theorem qsP(x:Fo)(S:St):ab S (.cq x.v 0) (some 4)=some x.v:=rfl
def qsM(x:De)(S:St):ab S (.cq x.v 0) (some 7)=some x.v:=by simp[ab,V.part,De.iF,V.isAgg,De.eW]
def qsR(x:Sm)(S:St):ab S (.cq x.v 0) (some 8)=some x.v:=by simp[ab,V.part,Sm.iF,V.isAgg,Sm.eW]
def oo{α:Type}{f:α->V}{l:List α}(h:∀x,x∈l->(f x).under 0=true):V.dr 0 (l.map f)=true:=BM λv hv=>by
 obtain⟨x,hx,rfl⟩:=cY.1 hv;exact h x hx
mutual
theorem Ex.eE:∀x:Ex,x.v.under 0=true
 |.mk k o n m e t a=>by simp[Ex.v,V.under,V.dr,Ex.jS a]
theorem Ex.jS:∀l:List Ex,V.dr 0 (Ex.vl l)=true
 |[]=>rfl
 |x::l=>by simp[Ex.vl,V.dr,Ex.eE x,Ex.jS l]
end
def El.eE(x:El):x.v.under 0=true:=by simp[El.v,V.under,V.dr,oo (f:=Ex.v) λx _=>Ex.eE x]
theorem Fo.eE(x:Fo):x.v.under 0=true:=rfl
mutual
theorem De.eE:∀x:De,x.v.under 0=true
 |.mk k o t n e f b=>by simp[De.v,V.under,V.dr,oo (f:=Ex.v) λx _=>Ex.eE x,oo (f:=Fo.v) λx _=>Fo.eE x,oo (f:=V.str) (l:=n) λx _=>rfl,Sm.jS b]
theorem Sm.eE:∀x:Sm,x.v.under 0=true
 |.mk l k t g e f d b=>by simp[Sm.v,V.under,V.dr,oo (f:=Ex.v) λx _=>Ex.eE x,oo (f:=El.v) λx _=>El.eE x,oo (f:=V.str) (l:=l) λx _=>rfl,De.jS d,Sm.jS b]
theorem De.jS:∀l:List De,V.dr 0 (De.vl l)=true
 |[]=>rfl
 |x::l=>by simp[De.vl,V.dr,De.eE x,De.jS l]
theorem Sm.jS:∀l:List Sm,V.dr 0 (Sm.vl l)=true
 |[]=>rfl
 |x::l=>by simp[Sm.vl,V.dr,Sm.eE x,Sm.jS l]
end
def jS{α:Type}{f:α->V}(h:∀x,(f x).under 0=true)(b:Bool)(l:List α):(V.sl b (l.map f)).under 0=true:=by
 simp only[V.under];exact oo λx _=>h x
def ZR(b:Bool)(l:List Bz):(V.sl b (l.map .str)).under 0=true:=jS (λ_=>rfl) b l
attribute [simp] Ex.iF El.iF Fo.iF De.iF Sm.iF Ex.eE El.eE Fo.eE De.eE Sm.eE jS ZR qsO qsN qsP qsM qsR
def bi:Nat:=1125899906842624
mutual
def Ex.ok:Ex->Prop
 |.mk _ _ _ _ _ t a=>t.size<=bi/\a.length<=bi/\Ex.cH a
def Ex.cH:List Ex->Prop
 |[]=>True
 |x::l=>Ex.ok x/\Ex.cH l
end
def Ex.jQ:∀{l:List Ex},Ex.cH l->∀x,x∈l->x.ok
 |[],_,x,h=>by cases h
 |y::l,⟨h1,h2⟩,x,h=>by
  rcases dU.1 h with rfl| h
  .exact h1
  .exact Ex.jQ h2 x h
def Ex.NW{x:Ex}(h:x.ok):x.args.length<=bi/\Ex.cH x.args:=by cases x;exact⟨h.2.1,h.2.2⟩
def Ex.qho{x:Ex}(h:x.ok):x.text.size<=bi:=by cases x;exact h.1
def El.ok(e:El):Prop:=e.aw.length<=bi/\Ex.cH e.aw
def Bq(l:List Bz):Prop:=l.length<=bi/\∀s,s∈l->s.size<=bi
def Fo.ok(f:Fo):Prop:=f.name.size<=bi
mutual
def De.ok:De->Prop
 |.mk _ _ _ n e f b=>Bq n/\(e.length<=bi/\Ex.cH e)/\(f.length<=bi/\∀x,x∈f->Fo.ok x)/\b.length<=bi/\Sm.cH b
def Sm.ok:Sm->Prop
 |.mk l _ t g e f d b=>Bq l/\t.size<=bi/\(g.length<=bi/\Ex.cH g)/\(e.length<=bi/\Ex.cH e)/\(f.length<=bi/\∀x,x∈f->El.ok x)/\(d.length<=bi/\De.cH d)/\b.length<=bi/\Sm.cH b
def De.cH:List De->Prop
 |[]=>True
 |x::l=>De.ok x/\De.cH l
def Sm.cH:List Sm->Prop
 |[]=>True
 |x::l=>Sm.ok x/\Sm.cH l
end
def De.jQ:∀{l:List De},De.cH l->∀x,x∈l->x.ok
 |[],_,x,h=>by cases h
 |y::l,h,x,hx=>by
  simp only[De.cH]at h;rcases dU.1 hx with rfl|hx
  .exact h.1
  .exact De.jQ h.2 x hx
def Sm.jQ:∀{l:List Sm},Sm.cH l->∀x,x∈l->x.ok
 |[],_,x,h=>by cases h
 |y::l,h,x,hx=>by
  simp only[Sm.cH]at h;rcases dU.1 hx with rfl|hx
  .exact h.1
  .exact Sm.jQ h.2 x hx
structure De.Ok(d:De):Prop where
 names:Bq d.names
 aw:d.aw.length<=bi/\Ex.cH d.aw
 aj:d.aj.length<=bi/\∀x,x∈d.aj->Fo.ok x
 body:d.body.length<=bi/\Sm.cH d.body
def De.fh(d:De):d.ok↔d.Ok:=by
 cases d;simp only[De.ok];exact⟨λ⟨a,b,c,e,f⟩=>⟨a,b,c,e,f⟩,λ⟨a,b,c,e⟩=>⟨a,b,c,e.1,e.2⟩⟩
structure Sm.Ok(s:Sm):Prop where
 labels:Bq s.labels
 text:s.text.size<=bi
 targets:s.targets.length<=bi/\Ex.cH s.targets
 aw:s.aw.length<=bi/\Ex.cH s.aw
 elems:s.elems.length<=bi/\∀x,x∈s.elems->El.ok x
 decls:s.decls.length<=bi/\De.cH s.decls
 body:s.body.length<=bi/\Sm.cH s.body
def Sm.fh(s:Sm):s.ok↔s.Ok:=by
 cases s;simp only[Sm.ok];exact⟨λ⟨a,b,c,e,f,g,h,i⟩=>⟨a,b,c,e,f,g,h,i⟩,λ⟨a,b,c,e,f,g,h⟩=>⟨a,b,c,e,f,g,h.1,h.2⟩⟩
mutual
def Ex.left:Ex->Int->Int->Int
 |.mk _ _ _ _ _ _ a,deep,n=>if deep+1 > 40 then 0 else Ex.leftG a (deep+1) (n-1)
def Ex.leftG:List Ex->Int->Int->Int
 |[],_,n=>n
 |x::l,deep,n=>if n > 0 then Ex.leftG l deep (Ex.left x deep n) else n
end
def Ex.eQ(l:List Ex)(deep n:Int):Int:=if deep > 40 then 0 else Ex.leftG l deep n
def Ex.left_eq(x:Ex)(deep n:Int):x.left deep n=Ex.eQ x.args (deep+1) (n-1):=by cases x;rw[Ex.left];rfl
mutual
theorem Ex.left_le:∀(x:Ex) (deep n:Int),0<n->x.left deep n<=n-1/\0<=x.left deep n
 |.mk _ _ _ _ _ _ a,deep,n,h=>by
  rw[Ex.left];split
  .omega
  .exact Ex.Ye a _ _ oM
theorem Ex.Ye:∀(l:List Ex) (deep n:Int),0<=n->Ex.leftG l deep n<=n/\0<=Ex.leftG l deep n
 |[],_,n,h=>⟨Int.le_refl _,h⟩
 |x::l,deep,n,h=>by
  rw[Ex.leftG];split
  .rename_i h0;have h1:=Ex.left_le x deep n h0;have h2:=Ex.Ye l deep (x.left deep n) h1.2;omega
  .omega
end
def Ex.yz:∀(l:List Ex) (deep n:Int),n<=0->Ex.leftG l deep n=n
 |[],_,n,_=>rfl
 |x::l,deep,n,h=>by rw[Ex.leftG,au oM]
def Ex.qsW(l:List Ex)(deep n:Int)(h:0<=n):Ex.eQ l deep n<=n/\0<=Ex.eQ l deep n:=by
 unfold Ex.eQ;split
 .omega
 .exact Ex.Ye l deep n h
mutual
def De.left:De->Int->Int->Int
 |.mk _ _ _ nm e f b,deep,n=>Sm.leftG b (deep+1) (Ex.eQ e (deep+1) (n-1-nm.length-f.length))
def Sm.left:Sm->Int->Int->Int
 |.mk l _ _ g e f d b,deep,n=>if deep > 30 then 0 else
  Sm.leftG b (deep+1) (De.leftG d deep (El.leftG f deep (Ex.eQ g (deep+1) (Ex.eQ e (deep+1) (n-1-l.length)))))
def De.leftG:List De->Int->Int->Int
 |[],_,n=>n
 |x::l,deep,n=>if n > 0 then De.leftG l deep (De.left x deep n) else n
def Sm.leftG:List Sm->Int->Int->Int
 |[],_,n=>n
 |x::l,deep,n=>if n > 0 then Sm.leftG l deep (Sm.left x deep n) else n
def El.leftG:List El->Int->Int->Int
 |[],_,n=>n
 |x::l,deep,n=>if n > 0 then El.leftG l deep (Ex.eQ x.aw (deep+1) (n-1)) else n
end
mutual
def V.weak:V->V
 |.sl _ xs=>.sl false (V.cR xs)
 |.agg cs=>.agg (V.cR cs)
 |.aV cs=>.aV (V.cR cs)
 |v=>v
def V.cR:List V->List V
 |[]=>[]
 |v::vs=>V.weak v::V.cR vs
end
def iO:∀vs:List V,V.cR vs=vs.map V.weak
 |[]=>rfl
 |v::vs=>by simp only[V.cR,cQ,iO vs]
def qab(v:V):v.weak.cells=v.cells.map V.weak:=by
 cases v<;>simp[V.weak,V.cells,iO]
def VR.weak{E:En}{v:V}{u:Value}(r:VR E v u):VR E v.weak u:=by
 induction r with
 |slnil x=>exact .slnil _
 |pL x a=>exact .pL _ a
 |@sl x xs b o cap sz hc hx hs hI hv ih=>
  simp only[V.weak,iO];have hl:(xs.map V.weak).length=xs.length:=sM;rw[<-hl];refine .sl (sz:=sz) (by simpa using hc) sM (λv hv=>?_) (λi j hi hj=>hI i j (by simpa using hi) hj) (λi v j c' c h1 h2 h3=>?_)
  .obtain⟨y,hy,rfl⟩:=cY.1 hv;rw[qab,bQ];exact hs y hy
  .rw[dS]at h1;obtain⟨y,hy,rfl⟩:=ep.1 h1;rw[qab,dS]at h2;obtain⟨d,hd,rfl⟩:=ep.1 h2;exact ih i y j d c hy hd h3
 |agg hl _ ih=>
  simp only[V.weak,iO];refine .agg (by simpa using hl) λi v u h1 h2=>?_
  rw[dS]at h1;obtain⟨y,hy,rfl⟩:=ep.1 h1;exact ih i y u hy h2
 |aV hl _ ih=>
  simp only[V.weak,iO];refine .aV (by simpa using hl) λi v u h1 h2=>?_
  rw[dS]at h1;obtain⟨y,hy,rfl⟩:=ep.1 h1;exact ih i y u hy h2
 |hG u=>exact .hG u
 |bool b=>exact .bool b
 |int k n=>exact .int k n
 |str s=>exact .str s
 |cu=>exact .cu
 |ptr i off hr=>exact .ptr i off hr
 |dE g off=>exact .dE g off
 |cq off hI hv _=>exact .cq off hI hv
 |arr hr hN hc=>exact .arr hr hN hc
 |dI=>exact .dI
 |map hr=>exact .map hr
 |fn h1 h2 g1 g2 _ _=>exact .fn h1 h2 g1 g2
 |bY=>exact .bY
 |iface t h _=>exact .iface t h
 |eB=>exact .eB
 |dc hr=>exact .dc hr
def uJ.weak{E:En}{vs:List V}{us:Array Value}(h:uJ E vs us):uJ E (V.cR vs) us:=by
 rw[iO];refine⟨by simpa using h.1,λi v u h1 h2=>?_⟩;rw[dS]at h1;obtain⟨y,hy,rfl⟩:=ep.1 h1;exact(h.2 i y u hy h2).weak
def aA.yR{P:aG}{f:FuncId}{args:List V}{S:St}{R:V->St->Prop}(h:aA P f (V.cR args) S R):aA P f args S R:=
 ⟨h.1,λE w us n hs hv=>h.2 E w us n hs hv.weak⟩
def dJ.weak{n:Nat}{r:V}{S:St}:dJ n r S r.weak S:=λE w u hs hr hn=>⟨E,hr.weak,hs,bT.refl _ _ _ _,hn⟩
inductive Pa where
 |st (s:Sm)
 |de (d:De)
 |el (e:El)
 |ex (x:Ex)
namespace Pa
def kids:Pa->List Pa
 |.st s=>s.targets.map .ex++(s.aw.map .ex++(s.elems.map .el++(s.decls.map .de++s.body.map .st)))
 |.de d=>d.aw.map .ex++d.body.map .st
 |.el e=>e.aw.map .ex
 |.ex x=>x.args.map .ex
def own:Pa->Nat
 |.st s=>1+s.labels.length
 |.de d=>1+d.names.length+d.aj.length
 |_=>1
def wt:Pa->Nat
 |.st s=>SizeOf.sizeOf s
 |.de d=>SizeOf.sizeOf d
 |.el e=>SizeOf.sizeOf e
 |.ex x=>SizeOf.sizeOf x
def ok:Pa->Prop
 |.st s=>s.ok
 |.de d=>d.ok
 |.el e=>e.ok
 |.ex x=>x.ok
end Pa
def Pa.zG{p q:Pa}(h:q∈p.kids):q.wt<p.wt:=by
 cases p with
 |st s=>
  cases s;simp only[Pa.kids,cU,cY,Sm.targets,Sm.aw,Sm.elems,Sm.decls,Sm.body]at h;rcases h with ⟨x,hx,rfl⟩|⟨x,hx,rfl⟩|⟨x,hx,rfl⟩|⟨x,hx,rfl⟩|⟨x,hx,rfl⟩
  all_goals
   have:=CJ hx
   simp only[Pa.wt,Sm.mk.sizeOf_spec];omega
 |de d=>
  cases d;simp only[Pa.kids,cU,cY,De.aw,De.body]at h;rcases h with ⟨x,hx,rfl⟩|⟨x,hx,rfl⟩
  all_goals
   have:=CJ hx
   simp only[Pa.wt,De.mk.sizeOf_spec];omega
 |el e=>
  cases e;simp only[Pa.kids,cY]at h;obtain⟨x,hx,rfl⟩:=h;have:=CJ hx;simp only[Pa.wt,El.mk.sizeOf_spec];omega
 |ex x=>
  cases x;simp only[Pa.kids,cY,Ex.args]at h;obtain⟨x,hx,rfl⟩:=h;have:=CJ hx;simp only[Pa.wt,Ex.mk.sizeOf_spec];omega
def Pa.GG{p q:Pa}(hp:p.ok)(h:q∈p.kids):q.ok:=by
 cases p with
 |st s=>
  have hs:=(Sm.fh s).1 hp;simp only[Pa.kids,cU,cY]at h;rcases h with ⟨x,hx,rfl⟩|⟨x,hx,rfl⟩|⟨x,hx,rfl⟩|⟨x,hx,rfl⟩|⟨x,hx,rfl⟩
  .exact Ex.jQ hs.targets.2 x hx
  .exact Ex.jQ hs.aw.2 x hx
  .exact hs.elems.2 x hx
  .exact De.jQ hs.decls.2 x hx
  .exact Sm.jQ hs.body.2 x hx
 |de d=>
  have hs:=(De.fh d).1 hp;simp only[Pa.kids,cU,cY]at h;rcases h with ⟨x,hx,rfl⟩|⟨x,hx,rfl⟩
  .exact Ex.jQ hs.aw.2 x hx
  .exact Sm.jQ hs.body.2 x hx
 |el e=>
  simp only[Pa.kids,cY]at h;obtain⟨x,hx,rfl⟩:=h;exact Ex.jQ hp.2 x hx
 |ex x=>
  simp only[Pa.kids,cY]at h;obtain⟨y,hy,rfl⟩:=h;exact Ex.jQ (Ex.NW hp).2 y hy
def Sm.cs(s:Sm):List V:=[ah (s.labels.map .str),af s.kind,.str s.text,ah (s.targets.map Ex.v),ah (s.aw.map Ex.v),ah (s.elems.map El.v),ah (s.decls.map De.v),ah (s.body.map Sm.v)]
def De.cs(d:De):List V:=[af d.kind,.bool d.own,af d.type,ah (d.names.map .str),ah (d.aw.map Ex.v),ah (d.aj.map Fo.v),ah (d.body.map Sm.v)]
def El.cs(e:El):List V:=[af e.kind,ah (e.aw.map Ex.v)]
def Ex.cs(x:Ex):List V:=[af x.kind,af x.op,af x.n,af x.dQ,af x.exp,.str x.text,ah (x.args.map Ex.v)]
def Sm.z:Sm:=.mk [] 0 ⟨⟨[]⟩⟩ [] [] [] [] []
def De.z:De:=.mk 0 false 0 [] [] [] []
def El.z:El:=⟨0,[]⟩
def Ex.z:Ex:=.mk 0 0 0 0 0 ⟨⟨[]⟩⟩ []
def jz(k:Int)(s:Sm)(d:De)(e:El)(x:Ex):V:=.agg (af k::(s.cs++(d.cs++(e.cs++x.cs))))
namespace Pa
def kind:Pa->Int
 |.st _=>1|.de _=>2|.el _=>3|.ex _=>4
def toS:Pa->Sm|.st s=>s|_=>Sm.z
def lH:Pa->De|.de s=>s|_=>De.z
def nB:Pa->El|.el s=>s|_=>El.z
def nE:Pa->Ex|.ex s=>s|_=>Ex.z
def v(p:Pa):V:=jz p.kind p.toS p.lH p.nB p.nE
end Pa
def qhw(k:Int)(s:Sm)(d:De)(e:El)(x:Ex):(jz k s d e x).under 0=true:=by
 simp only[jz,Sm.cs,De.cs,El.cs,Ex.cs,V.under,V.dr,dR,ig,cT,Bool.and_true,rO];simp only[oo λx _=>Ex.eE x,oo λx _=>El.eE x,oo λx _=>De.eE x,oo λx _=>Sm.eE x,oo λx _=>Fo.eE x,oo (f:=V.str) λx _=>rfl,and_self]
def Pa.eE(p:Pa):p.v.under 0=true:=qhw _ _ _ _ _
theorem Pa.iF(p:Pa):p.v.size=25:=rfl
namespace Pa
def size(p:Pa):Nat:=p.own+((p.kids.attach.map λq=>q.1.size)).sum
termination_by p.wt
decreasing_by exact Pa.zG q.2
def depth(p:Pa):Nat:=1+((p.kids.attach.map λq=>q.1.depth)).foldr max 0
termination_by p.wt
decreasing_by exact Pa.zG q.2
end Pa
def bk(l:List Pa):Nat:=(l.map Pa.size).sum
def jW(l:List Pa):Nat:=(l.map Pa.depth).foldr max 0
def Pa.size_eq(p:Pa):p.size=p.own+bk p.kids:=by
 rw[Pa.size,bk];congr 2;exact List.attach_map_val (f:=Pa.size) ..
def Pa.CS(p:Pa):p.depth=1+jW p.kids:=by
 rw[Pa.depth,jW];congr 2;exact List.attach_map_val (f:=Pa.depth) ..
@[simp] theorem qAX:bk []=0:=rfl
@[simp] theorem iN(p:Pa)(l:List Pa):bk (p::l)=p.size+bk l:=by simp[bk]
@[simp] theorem qzW:jW []=0:=rfl
@[simp] theorem P9(p:Pa)(l:List Pa):jW (p::l)=max p.depth (jW l):=by simp[jW]
def Pa.Ej(p:Pa):1<=p.own:=by cases p<;>simp[Pa.own]<;>omega
def Pa.size_pos(p:Pa):1<=p.size:=by rw[Pa.size_eq];have:=p.Ej;omega
def Pa.qd5(p:Pa):1<=p.depth:=by rw[Pa.CS];omega
def oi:∀l:List Pa,l.length<=bk l
 |[]=>fS _
 |p::l=>by have:=oi l;have:=p.size_pos;simp only[gq,iN];omega
def Ex.named(k:Int):Bool:=k==6||k==7||k==8
def Pa.fits(p:Pa):Prop:=p.size<=2000/\p.depth<=60
instance (p:Pa):Decidable p.fits:=inferInstanceAs (Decidable (_/\_))
def Pa.Si{p:Pa}(h:p.ok):p.own<=1+bi+bi:=by
 cases p with
 |st s=>have:=((Sm.fh s).1 h).labels.1;simp only[Pa.own];omega
 |de d=>have:=((De.fh d).1 h).names.1;have:=((De.fh d).1 h).aj.1;simp only[Pa.own];omega
 |el e=>simp only[Pa.own];omega
 |ex e=>simp only[Pa.own];omega
def qj(m:Int):Int:=if m<0 then IntKind.i64.wrap (-m) else m
def xn(dQ exp:Int):Bool:=decide (dQ=0/\exp=0)||(decide (1<=qj dQ/\qj dQ<16777216)&&(decide (exp=-150)||(decide (8388608<=qj dQ)&&decide (-150<exp/\exp<=150))))
def yH(b:UInt8):Bool:=decide (32<=b.toNat/\b.toNat<=126/\b.toNat≠34)
def Br(s:Bz):Bool:=s.data.toList.all yH&&decide (s.size<=80)
def iV(t:Bz):Bool:=decide (t.size=0)
def Ex.bp(nm:Bz->Bool):Ex->Bool
 |.mk k o n m e t a=>
  if k=1 then decide (0<=n/\n<=2147483647)&&decide (a.length=0)&&decide (o=0)&&(decide (m=0)&&decide (e=0))&&iV t
  else if k=2 then xn m e&&decide (0<=m)&&decide (a.length=0)&&decide (o=0)&&decide (n=0)&&iV t
  else if k=3\/k=4 then decide (a.length=0)&&decide (o=0)&&decide (n=0)&&(decide (m=0)&&decide (e=0))&&iV t
  else if k=5 then Br t&&decide (a.length=0)&&decide (o=0)&&decide (n=0)&&(decide (m=0)&&decide (e=0))
  else if k=6 then nm t&&decide (a.length=0)&&decide (o=0)&&decide (n=0)&&(decide (m=0)&&decide (e=0))
  else if k=7 then nm t&&decide (1<=a.length/\a.length<=4)&&decide (o=0)&&decide (n=0)&&(decide (m=0)&&decide (e=0))
  else if k=8 then nm t&&decide (1<=a.length/\a.length<=8)&&decide (o=0)&&decide (n=0)&&(decide (m=0)&&decide (e=0))
  else if k=9 then decide (o=1\/o=2)&&decide (a.length=1)&&decide (n=0)&&(decide (m=0)&&decide (e=0))&&iV t
  else if k=10 then decide (3<=o/\o<=18)&&decide (a.length=2)&&decide (n=0)&&(decide (m=0)&&decide (e=0))&&iV t
  else if k=11 then decide (a.length=3)&&decide (o=0)&&decide (n=0)&&(decide (m=0)&&decide (e=0))&&iV t
  else false
def El.bp(e:El):Bool:=(decide (e.kind=1)&&decide (e.aw.length=1))||(decide (e.kind=2)&&decide (e.aw.length=3))||(decide (e.kind=3)&&decide (e.aw.length=2))
def Fo.bp(nm:Bz->Bool)(f:Fo):Bool:=nm f.name &&
 (if f.spec=0∨f.spec=3∨f.spec=4∨f.spec=5 then decide (f.type=0) && !f.value
  else if f.spec=1 then decide (1<=f.type/\f.type<=3)
  else if f.spec=2 then decide (0<=f.type/\f.type<=3)&&(!f.value||decide (f.type≠0))
  else if f.spec=6 then decide (0<=f.type/\f.type<=3)&&!f.value
  else false)
def fi(nm:Bz->Bool):List Fo->List Bz->Bool
 |[],_=>true
 |f::l,kC=>f.bp nm&&!(kC.any λx=>decide (x=f.name))&&fi nm l (kC++[f.name])
def De.bp(nm:Bz->Bool):De->Bool
 |.mk k o t n e f b=>n.all nm &&
  (if k=1 then decide (1≤n.length) && decide (e.length=0) && decide (f.length=0) && decide (b.length=0) && decide (1≤t∧t≤3)
   else if k=2 then decide (1<=n.length)&&decide (2<=e.length/\e.length<=8)&&decide (e.length%2=0)&&decide (f.length=0)&&decide (b.length=0)&&decide (1<=t/\t<=3)
   else if k=3 then decide (n.length=1)&&decide (1<=e.length)&&decide (f.length=0)&&decide (b.length=0)&&!o&&decide (t=0)
   else if k=4 then decide (n.length=1)&&decide (e.length=0)&&decide (b.length=1)&&decide (f.length<=8)&&!o&&decide (0<=t/\t<=3)&&fi nm f []
   else false)
def Ex.mE(x:Ex):Bool:=decide (x.kind=6\/x.kind=7)
def Sm.tO:List Sm->Bool
 |[]=>false
 |s::_=>decide (s.kind≠4/\s.kind≠5)
def Sm.bp(nm:Bz->Bool):Sm->Bool
 |.mk l k t g e h d b=>l.all nm&&g.all Ex.mE &&
  (if k=1 then decide (g.length=0) && decide (e.length=0) && decide (h.length=0) && decide (d.length=0) && decide (b.length=0) && iV t
   else if k=2 then decide (1<=g.length)&&decide (e.length=1)&&decide (h.length=0)&&decide (d.length=0)&&decide (b.length=0)&&iV t
   else if k=3 then decide (g.length=0)&&decide (e.length=1)&&decide (h.length=0)&&decide (d.length=0)&&decide (b.length=0)&&iV t
   else if k=4 then decide (g.length=0)&&decide (e.length=1)&&decide (h.length=0)&&decide (d.length=0)&&decide (1<=b.length/\b.length<=2)&&iV t&&Sm.tO b
   else if k=5 then decide (g.length=1)&&decide (e.length=0)&&decide (1<=h.length)&&decide (d.length=0)&&decide (b.length=1)&&iV t
   else if k=6 then decide (g.length=0)&&decide (e.length<=8)&&decide (h.length=0)&&decide (d.length=0)&&decide (b.length=0)&&nm t
   else if k=7 then decide (g.length=0)&&decide (e.length=0)&&decide (h.length=0)&&decide (1<=d.length)&&decide (1<=b.length)&&iV t
   else if k=8 then decide (g.length=0)&&decide (e.length=0)&&decide (h.length=0)&&decide (d.length=0)&&decide (1<=b.length)&&iV t
   else false)
def Pa.bp(nm:Bz->Bool):Pa->Bool
 |.st s=>s.bp nm
 |.de d=>d.bp nm
 |.el e=>e.bp
 |.ex x=>x.bp nm
def Pa.valid(nm:Bz->Bool)(p:Pa):Bool:=p.bp nm&&(p.kids.attach.all λq=>q.1.valid nm)
termination_by p.wt
decreasing_by exact Pa.zG q.2
def Pa.valid_eq(nm:Bz->Bool)(p:Pa):p.valid nm=(p.bp nm&&p.kids.all (Pa.valid nm)):=by
 rw[Pa.valid];congr 1;rw[eR,fR,fR];exact⟨λh q hq=>h ⟨q,hq⟩ (List.mem_attach _ _),λh q _=>h q.1 q.2⟩
def Pa.gU{nm:Bz->Bool}{p:Pa}:p.valid nm=true↔p.bp nm=true/\∀q,q∈p.kids->q.valid nm=true:=by
 rw[Pa.valid_eq,cT,fR]
def Pa.err(nm:Bz->Bool)(p:Pa):Int:=if p.fits then(if p.valid nm=true then 0 else 1) else 2
def Ex.Hu{nm:Bz->Bool}{x:Ex}(h:(Pa.ex x).valid nm=true):∀y,y∈x.args->(Pa.ex y).valid nm=true:=λy hy=>(Pa.gU.1 h).2 _ (by simp only[Pa.kids,cY];exact⟨y,hy,rfl⟩)
def Ex.EJ{nm:Bz->Bool}{x:Ex}(h:(Pa.ex x).valid nm=true)(hk:Ex.named x.kind=true):nm x.text=true:=by
 have h1:=(Pa.gU.1 h).1
 cases x with
 |mk k o n m e t a=>
  simp only[Ex.kind,Ex.text]at *;simp only[Pa.bp,Ex.bp]at h1;have hk:k=6\/k=7\/k=8:=by simpa[Ex.named,or_assoc]using hk
  rcases hk with rfl|rfl|rfl<;>simp at h1<;>simp[h1]
abbrev cy:=List (Bz×Nat)
abbrev ai:=List cy
def cy.at(s:cy)(x:Bz):Option Nat:=(s.find? λp=>decide (p.1=x)).map (·.2)
def ai.at:ai->Bz->Option Nat
 |[],_=>none
 |s::r,x=>match cy.at s x with
  |some k=>some k
  |none=>ai.at r x
def binds:List Bz->cy->Nat->cy
 |[],s,_=>s
 |x::l,s,n=>if(s.at x).isSome then binds l s n else binds l (s++[(x,n)]) (n+1)
def ar(l:List Bz)(n:Nat):cy:=binds l [] n
def cr(l:List Sm):List Bz:=l.flatMap Sm.labels
def cK(d:List De)(b:List Sm):List Bz:=d.flatMap De.names++cr b
def fQ(f:Nat->Bz)(sc:ai)(x:Bz):Bz:=match sc.at x with
 |some k=>f k
 |none=>x
mutual
def Ex.w(f:Nat->Bz)(sc:ai):Ex->Ex
 |.mk k o n m e t a=>.mk k o n m e (if Ex.named k then fQ f sc t else t) (Ex.wl f sc a)
def Ex.wl(f:Nat->Bz)(sc:ai):List Ex->List Ex
 |[]=>[]
 |x::l=>Ex.w f sc x::Ex.wl f sc l
end
def Ex.pO(f:Nat->Bz)(sc:ai):∀l,Ex.wl f sc l=l.map (Ex.w f sc)
 |[]=>rfl
 |x::l=>by rw[Ex.wl,Ex.pO f sc l];rfl
def El.w(f:Nat->Bz)(sc:ai)(e:El):El:=⟨e.kind,e.aw.map (Ex.w f sc)⟩
def Fo.w(f:Nat->Bz)(sc:ai)(x:Fo):Fo:=⟨fQ f sc x.name,x.value,x.spec,x.type⟩
mutual
def Sm.nb:Sm->Nat
 |.mk _ k _ _ _ _ d b=>if k=7 then(ar (cK d b) 0).length+De.aX d+Sm.aX b else if k=8 then(ar (cr b) 0).length+Sm.aX b else Sm.bH b
def De.nb:De->Nat
 |.mk k _ _ _ _ f b=>if k=4 then(ar (f.map Fo.name) 0).length+Sm.bH b else 0
def De.aX:List De->Nat
 |[]=>0
 |x::l=>De.nb x+De.aX l
def Sm.aX:List Sm->Nat
 |[]=>0
 |x::l=>Sm.nb x+Sm.aX l
def Sm.bH:List Sm->Nat
 |[]=>0
 |x::l=>(ar x.labels 0).length+Sm.nb x+Sm.bH l
end
mutual
def Sm.w(f:Nat->Bz)(sc:ai)(n:Nat):Sm->Sm
 |.mk l k t g e h d b=>
  if k=7 then
   .mk (l.map (fQ f sc)) k t [] [] [] (De.wl f (ar (cK d b) n::sc) sc (n+(ar (cK d b) n).length) d) (Sm.wl f (ar (cK d b) n::sc) (n+(ar (cK d b) n).length+De.aX d) b)
  else if k=8 then
   .mk (l.map (fQ f sc)) k t [] [] [] [] (Sm.wl f (ar (cr b) n::sc) (n+(ar (cr b) n).length) b)
  else .mk (l.map (fQ f sc)) k (if k=6 then fQ f sc t else t) (Ex.wl f sc g) (Ex.wl f sc e) (h.map (El.w f sc)) [] (Sm.w1 f sc n b)
def De.w(f:Nat->Bz)(own sc:ai)(n:Nat):De->De
 |.mk k o t nm e fo b=>
  if k=4 then .mk k o t (nm.map (fQ f own)) [] (fo.map (Fo.w f (ar (fo.map Fo.name) n::own))) (Sm.w1 f (ar (fo.map Fo.name) n::own) (n+(ar (fo.map Fo.name) n).length) b)
  else .mk k o t (nm.map (fQ f own)) (Ex.wl f (if k=2 then sc else own) e) [] []
def De.wl(f:Nat->Bz)(own sc:ai)(n:Nat):List De->List De
 |[]=>[]
 |x::l=>De.w f own sc n x::De.wl f own sc (n+De.nb x) l
def Sm.wl(f:Nat->Bz)(sc:ai)(n:Nat):List Sm->List Sm
 |[]=>[]
 |x::l=>Sm.w f sc n x::Sm.wl f sc (n+Sm.nb x) l
def Sm.w1(f:Nat->Bz)(sc:ai)(n:Nat):List Sm->List Sm
 |[]=>[]
 |x::l=>Sm.w f (ar x.labels n::sc) (n+(ar x.labels n).length) x::Sm.w1 f sc (n+(ar x.labels n).length+Sm.nb x) l
end
def Sm.whole(f:Nat->Bz)(s:Sm):Sm:=s.w f [ar s.labels 0] (ar s.labels 0).length
def vD:∀(l m:List Pa),bk (l++m)=bk l+bk m
 |[],m=>by simp
 |p::l,m=>by simp only[dR,iN,vD l m];omega
def Ll:∀(l m:List Pa),jW (l++m)=max (jW l) (jW m)
 |[],m=>by simp
 |p::l,m=>by simp only[dR,P9,Ll l m];omega
def Pa.le(p q:Pa):Prop:=p.size<=q.size/\p.depth<=q.depth
def Pa.qsV{p q:Pa}(ho:p.own<=q.own)(hs:bk p.kids<=bk q.kids)(hd:jW p.kids<=jW q.kids):p.le q:=by
 unfold Pa.le;rw[Pa.size_eq,Pa.size_eq q,Pa.CS,Pa.CS q];omega
def tK(l m:List Pa):Prop:=bk l<=bk m/\jW l<=jW m
def sH(m:List Pa):tK [] m:=⟨fS _,fS _⟩
def tL{a b c d:List Pa}(h:tK a b)(g:tK c d):tK (a++c) (b++d):=by
 unfold tK at *;rw[vD,vD,Ll,Ll];omega
def NI{p q:Pa}{l m:List Pa}(h:p.le q)(g:tK l m):tK (p::l) (q::m):=by
 unfold tK Pa.le at *;rw[iN,iN,P9,P9];omega
def Pa.GM{p q:Pa}(ho:p.own<=q.own)(h:tK p.kids q.kids):p.le q:=Pa.qsV ho h.1 h.2
mutual
theorem Ex.vK(f:Nat->Bz)(sc:ai):∀x:Ex,(Pa.ex (x.w f sc)).le (.ex x)
 |.mk k o n m e t a=>Pa.GM cz (by simp only[Ex.w,Pa.kids,Ex.args];exact Ex.vO f sc a)
theorem Ex.vO(f:Nat->Bz)(sc:ai):∀l:List Ex,tK ((Ex.wl f sc l).map Pa.ex) (l.map Pa.ex)
 |[]=>sH _
 |x::l=>NI (Ex.vK f sc x) (Ex.vO f sc l)
end
def El.vK(f:Nat→Bz)(sc:ai)(e:El):(Pa.el (e.w f sc)).le (.el e):=Pa.GM cz (by
 have:=Ex.vO f sc e.aw;rw[Ex.pO]at this;exact this)
def Els.vK(f:Nat->Bz)(sc:ai):∀l:List El,tK ((l.map (El.w f sc)).map Pa.el) (l.map Pa.el)
 |[]=>sH _
 |x::l=>NI (El.vK f sc x) (Els.vK f sc l)
mutual
theorem Sm.vK(f:Nat->Bz):∀(s:Sm) (sc:ai) (n:Nat),(Pa.st (s.w f sc n)).le (.st s)
 |.mk l k t g e h d b,sc,n=>by
  simp only[Sm.w];split
  .refine Pa.GM (by simp[Pa.own,Sm.labels]) ?_;simp only[Pa.kids,Sm.targets,Sm.aw,Sm.elems,Sm.decls,Sm.body,nK];exact tL (sH _) (tL (sH _) (tL (sH _) (tL (De.vO f d _ _ _) (Sm.vO f b _ _))))
  .split
   .refine Pa.GM (by simp[Pa.own,Sm.labels]) ?_;simp only[Pa.kids,Sm.targets,Sm.aw,Sm.elems,Sm.decls,Sm.body,nK];exact tL (sH _) (tL (sH _) (tL (sH _) (tL (sH _) (Sm.vO f b _ _))))
   .refine Pa.GM (by simp[Pa.own,Sm.labels]) ?_;simp only[Pa.kids,Sm.targets,Sm.aw,Sm.elems,Sm.decls,Sm.body,nK];exact tL (Ex.vO f sc g) (tL (Ex.vO f sc e) (tL (Els.vK f sc h) (tL (sH _) (Sm.Z6 f b _ _))))
theorem De.vK(f:Nat->Bz):∀(d:De) (own sc:ai) (n:Nat),(Pa.de (d.w f own sc n)).le (.de d)
 |.mk k o t nm e fo b,own,sc,n=>by
  simp only[De.w];split
  .refine Pa.GM (by simp[Pa.own,De.names,De.aj]) ?_;simp only[Pa.kids,De.aw,De.body,nK];exact tL (sH _) (Sm.Z6 f b _ _)
  .refine Pa.GM (by simp[Pa.own,De.names,De.aj]) ?_;simp only[Pa.kids,De.aw,De.body,nK];exact tL (Ex.vO f _ e) (sH _)
theorem De.vO(f:Nat->Bz):∀(l:List De) (own sc:ai) (n:Nat),tK ((De.wl f own sc n l).map Pa.de) (l.map Pa.de)
 |[],_,_,_=>sH _
 |x::l,own,sc,n=>NI (De.vK f x own sc n) (De.vO f l _ _ _)
theorem Sm.vO(f:Nat->Bz):∀(l:List Sm) (sc:ai) (n:Nat),tK ((Sm.wl f sc n l).map Pa.st) (l.map Pa.st)
 |[],_,_=>sH _
 |x::l,sc,n=>NI (Sm.vK f x sc n) (Sm.vO f l _ _)
theorem Sm.Z6(f:Nat->Bz):∀(l:List Sm) (sc:ai) (n:Nat),tK ((Sm.w1 f sc n l).map Pa.st) (l.map Pa.st)
 |[],_,_=>sH _
 |x::l,sc,n=>NI (Sm.vK f x _ _) (Sm.Z6 f l _ _)
end
structure qcK(nm:Bz->Bool)(f g:Nat->Bz):Prop where
 f1:∀i j,f i=f j->i=j
 g1:∀i j,g i=g j->i=j
 f2:∀i,nm (f i)=false
 g2:∀i,nm (g i)=false
section
variable {nm:Bz->Bool} {f g:Nat->Bz} (N:qcK nm f g)
include N
end
def Is{nm:Bz->Bool}:∀{l:List Fo} {kC:List Bz},fi nm l kC=true->∀x,x∈l->nm x.name=true
 |f::l,kC,h,x,hx=>by
  simp only[fi,cT]at h;rcases dU.1 hx with rfl|hx
  .have:=h.1.1;simp only[Fo.bp,cT]at this;exact this.1
  .exact Is h.2 x hx
def De.qk9{nm:Bz->Bool}{d:De}(h:(Pa.de d).valid nm=true):∀x,x∈d.names->nm x=true:=by
 have h1:=(Pa.gU.1 h).1;cases d;simp only[Pa.bp,De.bp,cT,fR]at h1;exact h1.1
def De.qk8{nm:Bz->Bool}{d:De}(h:(Pa.de d).valid nm=true):∀x,x∈d.aj->nm x.name=true:=by
 have h1:=(Pa.gU.1 h).1
 cases d with
 |mk k o t n e f b=>
  simp only[Pa.bp,De.bp,cT]at h1;have h1:=h1.2;simp only[De.aj];split at h1
  .simp at h1;have:f=[]:=by simp[h1]
   subst this;simp
  split at h1
  .simp at h1;have:f=[]:=by simp[h1]
   subst this;simp
  split at h1
  .simp at h1;have:f=[]:=by simp[h1]
   subst this;simp
  split at h1
  .simp only[cT]at h1;exact Is h1.2
  .cases h1
def De.qU{nm:Bz->Bool}{d:De}(h:(Pa.de d).valid nm=true):∀x,x∈d.aw->(Pa.ex x).valid nm=true:=λx hx=>(Pa.gU.1 h).2 _ (by simp only[Pa.kids,cU,cY];exact .inl ⟨x,hx,rfl⟩)
def De.pN{nm:Bz->Bool}{d:De}(h:(Pa.de d).valid nm=true):∀x,x∈d.body->(Pa.st x).valid nm=true:=λx hx=>(Pa.gU.1 h).2 _ (by simp only[Pa.kids,cU,cY];exact .inr ⟨x,hx,rfl⟩)
def Sm.Ti{nm:Bz->Bool}{s:Sm}(h:(Pa.st s).valid nm=true):∀x,x∈s.labels->nm x=true:=by
 have h1:=(Pa.gU.1 h).1;cases s;simp only[Pa.bp,Sm.bp,cT,fR]at h1;exact h1.1.1
def Sm.EJ{nm:Bz->Bool}{s:Sm}(h:(Pa.st s).valid nm=true)(hk:s.kind=6):nm s.text=true:=by
 have h1:=(Pa.gU.1 h).1;cases s;simp only[Sm.kind]at hk;subst hk;simp[Pa.bp,Sm.bp]at h1;simp[Sm.text,h1]
def Sm.JZ{nm:Bz->Bool}{s:Sm}(h:(Pa.st s).valid nm=true):∀x,x∈s.targets->(Pa.ex x).valid nm=true:=λx hx=>(Pa.gU.1 h).2 _ (by simp only[Pa.kids,cU,cY];exact .inl ⟨x,hx,rfl⟩)
def Sm.qU{nm:Bz->Bool}{s:Sm}(h:(Pa.st s).valid nm=true):∀x,x∈s.aw->(Pa.ex x).valid nm=true:=λx hx=>(Pa.gU.1 h).2 _ (by simp only[Pa.kids,cU,cY];exact .inr (.inl ⟨x,hx,rfl⟩))
def Sm.JY{nm:Bz->Bool}{s:Sm}(h:(Pa.st s).valid nm=true):∀x,x∈s.elems->(Pa.el x).valid nm=true:=λx hx=>(Pa.gU.1 h).2 _ (by simp only[Pa.kids,cU,cY];exact .inr (.inr (.inl ⟨x,hx,rfl⟩)))
def Sm.BQ{nm:Bz->Bool}{s:Sm}(h:(Pa.st s).valid nm=true):∀x,x∈s.decls->(Pa.de x).valid nm=true:=λx hx=>(Pa.gU.1 h).2 _ (by simp only[Pa.kids,cU,cY];exact .inr (.inr (.inr (.inl ⟨x,hx,rfl⟩))))
def Sm.pN{nm:Bz->Bool}{s:Sm}(h:(Pa.st s).valid nm=true):∀x,x∈s.body->(Pa.st x).valid nm=true:=λx hx=>(Pa.gU.1 h).2 _ (by simp only[Pa.kids,cU,cY];exact .inr (.inr (.inr (.inr ⟨x,hx,rfl⟩))))
section
variable {nm:Bz->Bool} {f g:Nat->Bz} (N:qcK nm f g)
include N
end
def Gr(sz n0:Nat)(xs:List V)(v:V)(S:St):Prop:=(xs=[]/\v=.sl true [])\/∃l wr,n0<=l/\v=.arr l 0 xs.length xs.length/\S[l]?=some (.arr xs sz wr)/\wr<=xs.length
def Gr.nil(sz n0:Nat)(S:St):Gr sz n0 [] (.sl true []) S:=.inl ⟨rfl,rfl⟩
theorem rW(S:St)(b:Bool)(ys:List V):elems S (.sl b ys)=some ys:=rfl
def Gr.fq{sz n0 bytes:Nat}{xs ys:List V}{v:V}{S:St}{b:Bool}(h:Gr sz n0 xs v S)(hy:fits sz ys=true)(bZ:ys≠[])(hr:(xs.length+ys.length)*bytes<=2^47)(hn:n0<=S.length):
  ∃v' S',fV S sz bytes v (.sl b ys)=some (v',S')/\Gr sz n0 (xs++ys) v' S'/\S.length<=S'.length/\∀l,l<n0->S'[l]?=S[l]?:=by
 rcases h with ⟨rfl,rfl⟩|⟨l,wr,h1,rfl,h3,h4⟩
 .have he:ys.isEmpty=false:=by cases ys with
   |nil=>exact absurd rfl bZ
   |cons=>rfl
  have jx:ys.length*bytes<=2^47:=by simpa using hr
  refine⟨.arr S.length 0 ys.length ys.length,S++[.arr ys sz ys.length],?_,.inr ⟨S.length,ys.length,hn,sM,sM,sM⟩,sM,λl hl=>by rw[dh oM]⟩;unfold fV;rw[rW];have hc:true=true/\fits sz ys=true/\(([]:List V).all λv=>v.size==sz)=true/\(([]:List V).length+ys.length)*bytes<=2^47:=⟨rfl,hy,rfl,hr⟩;show(if ys.isEmpty=true then _ else _)=_;rw[au (by rw[he];simp),ak hc];simp
 .have hc:0=0/\xs.length=xs.length/\xs.length=xs.length/\sz=sz/\fits sz ys=true/\(xs.length+ys.length)*bytes<=2^47:=⟨rfl,rfl,rfl,rfl,hy,hr⟩;have aB:l<S.length:=(br.1 h3).1;refine⟨.arr l 0 (xs.length+ys.length) (xs.length+ys.length),S.set l (.arr (xs++ys) sz wr),?_,.inr ⟨l,wr,h1,sM,by rw[bO aB],by simp;omega⟩,sM,λk hk=>by rw[bG oM]⟩;unfold fV;rw[rW];show(match S[l]? with|_=>_)=_;rw[h3];show(if _ then _ else _)=_;rw[ak hc]
def Gr.CN{sz n0 bytes:Nat}{xs:List V}{y v:V}{S:St}{b:Bool}(h:Gr sz n0 xs v S)(hy:fits sz [y]=true)(hr:(xs.length+1)*bytes<=2^47)(hn:n0<=S.length):
 ∃v' S',fV S sz bytes v (.sl b [y])=some (v',S')/\Gr sz n0 (xs++[y]) v' S'/\S.length<=S'.length/\∀l,l<n0->S'[l]?=S[l]?:=h.fq hy sM hr hn
def Gr.keep{sz n0:Nat}{xs:List V}{v:V}{S S':St}(h:Gr sz n0 xs v S)(hk:∀l,n0<=l->l<S.length->S'[l]?=S[l]?):Gr sz n0 xs v S':=by
 rcases h with h|⟨l,wr,h1,h2,h3,h4⟩
 .exact .inl h
 .exact .inr ⟨l,wr,h1,h2,(hk l h1 (br.1 h3).1).trans h3,h4⟩
def Gr.less{sz n0 n1:Nat}{xs:List V}{v:V}{S:St}(h:Gr sz n0 xs v S)(hn:n1<=n0):Gr sz n1 xs v S:=by
 rcases h with h|⟨l,wr,h1,h⟩
 .exact .inl h
 .exact .inr ⟨l,wr,oM,h⟩
def Gr.ghost{sz n0:Nat}{xs:List V}{v:V}{S S0:St}(h:Gr sz n0 xs v S)(h0:S.take n0=S0)(hn:n0<=S.length)(hS:∀o,o∈S0->o.under n0=true)(hx:∀x,x∈xs->x.weak.under n0=true):
  dJ n0 v S (.sl false (xs.map V.weak)) S0:=by
 have hu:∀b,(V.sl b (xs.map V.weak)).under n0=true:=λb=>by
  simp only[V.under]
  exact BM λy hy=>by
   obtain⟨x,h1,rfl⟩:=cY.1 hy;exact hx x h1
 rcases h with ⟨rfl,rfl⟩|⟨l,wr,h1,rfl,h3,h4⟩
 .have g1:dJ n0 (.sl true []) S (.sl false []) S:=dJ.weak (r:=.sl true []);have g2:=dJ.cut (n:=n0) (m:=n0) (r:=.sl false []) (S:=S) rfl (by rw[h0];exact hS) cz hn;rw[h0]at g2;exact g1.trans g2
 .have g1:=dJ.freeze (n:=n0) (l:=l) (off:=0) (len:=xs.length) (st:=xs.length) h3 h4 oM;simp only[CG,gu]at g1;have g2:dJ n0 (.sl false xs) (S.set l .dead) (V.sl false xs).weak (S.set l .dead):=dJ.weak;simp only[V.weak,iO]at g2
  have ht:(S.set l .dead).take n0=S0:=by
   rw[<-h0];apply vV;intro i;rw[KG,KG];split
   .rw[bG oM]
   .rfl
  have g3:=dJ.cut (n:=n0) (m:=n0) (r:=.sl false (xs.map V.weak)) (S:=S.set l .dead) (hu _) (by rw[ht];exact hS) cz (by simp;exact hn);rw[ht]at g3;exact(g1.trans g2).trans g3
def qn5{rs:List RV}{R:V->Prop}{e:ae}{S:St}{v:V}{sz:Nat}{xs:List V}(h:eL e S rs=some [v])(g:Gr sz 0 xs v S)(hu:∀x,x∈xs->x.weak.under 0=true)(hR:R (.sl false (xs.map V.weak))):
  eN rs 0 (λv U=>R v/\U=[]) .ret e S:=
 ⟨_,h,_,_,g.ghost sM (fS _) sM hu,hR,rfl⟩
def FG{rs:List RV}{R:V->Prop}{e:ae}{S:St}{vs:List V}(h:eL e S rs=some vs)(hR:R (aY vs).weak)(hu:(aY vs).weak.under 0=true):eN rs 0 (λv U=>R v/\U=[]) .ret e S:=
 ⟨vs,h,_,[],dJ.weak.trans (dJ.cut (m:=0) hu sM cz (fS _)),hR,rfl⟩
structure Kp(M:Np)(S U:St):Prop where
 len:S.length<=U.length
 get:∀l,l<S.length->¬M l->U[l]?=S[l]?
def Kp.refl(M:Np)(S:St):Kp M S S:=⟨dl _,λ_ _ _=>rfl⟩
def Kp.trans{M:Np}{S T U:St}(h:Kp M S T)(g:Kp M T U):Kp M S U:=
 ⟨js h.len g.len,λl hl hm=>(g.get l (pT hl h.len) hm).trans (h.get l hl hm)⟩
def Kp.mono{M N:Np}{S T:St}(h:Kp M S T)(hm:∀l,l<S.length->M l->N l):Kp N S T:=⟨h.len,λl hl hn=>h.get l hl λhh=>hn (hm l hl hh)⟩
def Kp.push{M:Np}{S U:St}(h:Kp M S U)(os:List Ob):Kp M S (U++os):=
 ⟨by simp;have:=h.len;omega,λl hl hm=>by rw[dh (pT hl h.len)];exact h.get l hl hm⟩
def Kp.set{M:Np}{S U:St}(h:Kp M S U){l:Nat}(o:Ob)(hl:M l\/S.length<=l):Kp M S (U.set l o):=
  ⟨by simp;exact h.len,λk hk hm=>by
    rw[bG ?_]
    · exact h.get k hk hm
    · rintro rfl;rcases hl with hl|hl
      · exact hm hl
      · omega⟩
def Kp.at{M:Np}{S U:St}(h:Kp M S U){l:Nat}{o:Ob}(ho:S[l]?=some o)(hm:¬M l):U[l]?=some o:=(h.get l (br.1 ho).1 hm).trans ho
def Kp.ofPush{M:Np}{S U:St}{os:List Ob}(h:Kp M (S++os) U):Kp M S U:=
 ⟨by have:=h.len;simp at this;omega,λl hl hm=>(h.get l (by simp;omega) hm).trans (dh hl)⟩
def jg.mono'{P:aG}{l:Nat}{args:List V}{S:St}{R R':V->St->Prop}(h:jg P l args S R)(hr:∀r S',R r S'->R' r S'):jg P l args S R':=λE w us n x h1 h2 h3=>by
 obtain⟨f,tmps,cV,body,g1,g2⟩:=h E w us n x h1 h2 h3;exact⟨f,tmps,cV,body,g1,g2.mono λe w' ⟨u,r,E',S',k1,k2,k3⟩=>⟨u,r,E',S',k1,hr _ _ k2,k3⟩⟩
def EE{P:aG}{l:Nat}{args:List V}{S:St}{R:V->St->Prop}{Φ:V->St->Prop}(h:jg P l args S R)(g:∀v U,R v U->Φ v U):qai P l args S Φ:=⟨_,h,g⟩
def RR(M:Np)(U0:St)(L:Nat)(i0:LI)(J1:St->Prop)(Dr:St->Prop)(De:Nat->St->Prop):V->St->Prop:=λv U=>Kp M U0 U/\
 ((v=.bool true∧J1 U∧U[L]?=some (.loop i0))∨(v=.bool false∧Dr U∧U[L]?=some (.loop { i0 with st:=.done,dM:=some .ret }))∨
  ∃id,v=.bool false/\De id U/\U[L]?=some (.loop { i0 with st:=.done,dM:=some (.exit id) }))
def PQ{P:aG}{L:Nat}{cb:C'}{R:V->St->Prop}{e:ae}{U:St}{i0:LI}(h:U[L]?=some (.loop i0))(hr:i0.st=.ready)(g:WP P cb (Ep L R) e (U.set L (.loop { i0 with st:=.busy }))):
 K6 P L cb R .normal e U:=⟨i0,h,hr,g⟩
def qjE{M:Np}{U0:St}{L:Nat}{i0:LI}{J1 Dr:St->Prop}{De:Nat->St->Prop}{e:ae}{U:St}(hi:i0.st=.ready/\i0.dM=none)(hM:M L)(h:U[L]?=some (.loop { i0 with st:=.busy }))(k:Kp M U0 U)(g:J1 (U.set L (.loop i0))):Ep L (RR M U0 L i0 J1 Dr De) .normal e U:=by
 have aB:=(br.1 h).1;have:({ i0 with st:=.ready,dM:=none }:LI)=i0:=by cases i0;simp only at hi;simp[hi.1,hi.2]
 refine⟨_,h,k.set _ (.inl hM),.inl ⟨rfl,?_,?_⟩⟩
 .simp only[this];exact g
 .simp only[this];rw[bO aB]
def qjF{M:Np}{U0:St}{L:Nat}{i0:LI}{J1 Dr:St->Prop}{De:Nat->St->Prop}{e:ae}{U:St}(hM:M L)(h:U[L]?=some (.loop { i0 with st:=.busy }))(k:Kp M U0 U)(g:Dr (U.set L (.loop { i0 with st:=.done,dM:=some .ret }))):Ep L (RR M U0 L i0 J1 Dr De) .ret e U:=by
 have aB:=(br.1 h).1;exact⟨_,h,k.set _ (.inl hM),.inr (.inl ⟨rfl,g,by rw[bO aB]⟩)⟩
def qdi(P:aG)(k:Nat)(fs cs:List V)(aa:List (List V))(cap:St->Prop):Prop:=
 ∀(S:St) (l:Nat) (J:Nat->St->Prop) (D:St->Prop) (M:Np),(∀x,M x->x<S.length)->(∀i U,J i U->cap U)->(∀i U o,J i U->J i (U++[o]))->(∀U o,D U->D (U++[o]))->
  (∀i U L o o',S.length<=L->J i U->U[L]?=some (.loop o)->J i (U.set L (.loop o')))->(∀U L o o',S.length<=L->D U->U[L]?=some (.loop o)->D (U.set L (.loop o')))->
  (∀(i:Nat) (a:List V),aa[i]?=some a->∀U,J i U->Kp M S U->jg P l a U (λv U'=>Kp M U U'/\((v=.bool true/\J (i+1) U')\/(v=.bool false/\D U'))))->J 0 S->
  aA P k (fs++[.dc l]++cs) S (λ_ U=>Kp M S U/\(J aa.length U\/D U))
def Kp.ED{M:Np}{S U:St}{o o':Ob}(h:Kp (λx=>M x\/x=S.length) (S++[o]) U):Kp M S (U.set S.length o'):=by
 refine⟨by have:=h.len;simp at this |-;omega,λl hl hm=>?_⟩;rw[bG oM];rw[h.get l (by simp;omega) (by rintro(hh|hh);exact hm hh;omega)];exact dh hl
def gl{U:St}{x L:Nat}{o:Ob}{i i':LI}(h:U[x]?=some o)(ho:∀i,o≠.loop i)(hL:U[L]?=some (.loop i)):(U.set L (.loop i'))[x]?=some o:=by
 rw[bG]
 .exact h
 .rintro rfl;rw[hL]at h;cases h;exact ho i rfl
def qcW{P:aG}{g:bK}{ps:List Nat}{cV body:Code}{ca cb:C'}{N:Nat}{ts:List Nat}{Q:dV}{e:ae}{S:St}{k:Nat}{fs cs:List V}{aa:List (List V)}{cap:St->Prop}
  (hg:g.ev e=some (.fn (.func k) fs cs)) (hy:qdi P k fs cs aa cap) (na:ca.jc=true) (nb:cb.jc=true) (oO:ps.all (λp=>decide (p<N))=true) (hlen:∀a,a∈aa->a.length=ps.length)
  (M:Np) (hM:∀x,M x->x<S.length) (J:Nat->St->Prop) (Dr:St->Prop) (De:Nat->St->Prop) (iJ:∀i U,J i U->cap U)
  (hJ:∀i U,J i U->∀o,J i (U++[o])) (Wi:∀U,Dr U->∀o,Dr (U++[o])) (Wh:∀id U,De id U->∀o,De id (U++[o]))
  (AO:∀i U L o o',S.length<=L->J i U->U[L]?=some (.loop o)->J i (U.set L (.loop o'))) (Dl:∀U L o o',S.length<=L->Dr U->U[L]?=some (.loop o)->Dr (U.set L (.loop o'))) (LQ:∀id U L o o',S.length<=L->De id U->U[L]?=some (.loop o)->De id (U.set L (.loop o')))
  (h0:J 0 (S++[.loop ⟨.ready,none,ps,cV,body,e.keep ts,N⟩]))
  (hr:∀(i:Nat) (a:List V),aa[i]?=some a→∀U,J i U→Kp (λx=>M x∨x=S.length) (S++[.loop ⟨.ready,none,ps,cV,body,e.keep ts,N⟩]) U→U[S.length]?=some (.loop ⟨.ready,none,ps,cV,body,e.keep ts,N⟩)→
   WP P ca (K6 P S.length cb (RR (λx=>M x\/x=S.length) U S.length ⟨.ready,none,ps,cV,body,e.keep ts,N⟩ (J (i+1)) Dr De)) (vB ps a (e.keep ts)) U)
  (hn:∀U,J aa.length U->Kp M S U->Q .normal e U) (Xj:∀U,Dr U->Kp M S U->Q .ret e U) (WM:∀id U,De id U->Kp M S U->Q (.exit id) e U):
  WP P (.rf g ps cV body ca cb N ts) Q e S:=by
 intro oK jN;rw[hg];refine ⟨_,hy (S++[.loop ⟨.ready,none,ps,cV,body,e.keep ts,N⟩]) S.length (λi U=>J i U∧U[S.length]?=some (.loop ⟨.ready,none,ps,cV,body,e.keep ts,N⟩))
  (λU=>(Dr U/\U[S.length]?=some (.loop ⟨.done,some .ret,ps,cV,body,e.keep ts,N⟩))\/∃id,De id U/\U[S.length]?=some (.loop ⟨.done,some (.exit id),ps,cV,body,e.keep ts,N⟩))
  (λx=>M x\/x=S.length) ?_ (λi U h=>iJ i U h.1) (λi U o h=>⟨hJ i U h.1 o,?_⟩) ?_ ?_ ?_ ?_ ⟨h0,sM⟩,?_⟩
 .rintro x (h|rfl)
  .have:=hM x h;simp;omega
  .simp
 .rw[dh (br.1 h.2).1];exact h.2
 .rintro U o (⟨h1,h2⟩|⟨id,h1,h2⟩)
  .exact .inl ⟨Wi U h1 o,by rw[dh (br.1 h2).1];exact h2⟩
  .exact .inr ⟨id,Wh id U h1 o,by rw[dh (br.1 h2).1];exact h2⟩
 .rintro i U L o o' hL ⟨h1,h2⟩ h3;simp at hL;exact⟨AO i U L o o' oM h1 h3,by rw[bG oM];exact h2⟩
 .rintro U L o o' hL (⟨h1,h2⟩|⟨id,h1,h2⟩) h3
  .simp at hL;exact .inl ⟨Dl U L o o' oM h1 h3,by rw[bG oM];exact h2⟩
  .simp at hL;exact .inr ⟨id,LQ id U L o o' oM h1 h3,by rw[bG oM];exact h2⟩
 .rintro i a ha U ⟨hj,hl⟩ hk;refine jg.mono' (jg.intro hl oK jN rfl na nb ?_ oO (hr i a ha U hj hk hl)) ?_
  .exact hlen _ (dZ ha)
  .rintro v U' ⟨cI,⟨rfl,h1,h2⟩|⟨rfl,h1,h2⟩|⟨id,rfl,h1,h2⟩⟩
   .exact⟨cI,.inl ⟨rfl,h1,h2⟩⟩
   .exact⟨cI,.inr ⟨rfl,.inl ⟨h1,h2⟩⟩⟩
   .exact⟨cI,.inr ⟨rfl,.inr ⟨id,h1,h2⟩⟩⟩
 .rintro r U ⟨hk,⟨h1,h2⟩|⟨h1,h2⟩|⟨id,h1,h2⟩⟩
  .exact⟨_,h2,sM,hn _ (AO _ U _ _ _ cz h1 h2) hk.ED⟩
  .exact⟨_,h2,sM,Xj _ (Dl U _ _ _ cz h1 h2) hk.ED⟩
  .exact⟨_,h2,sM,WM id _ (LQ id U _ _ _ cz h1 h2) hk.ED⟩
abbrev bz:St->St->Prop:=Kp λ_=>False
def qvf{N N':ae->St->Prop}{Q Q':dV}(hn:∀e S,N e S->N' e S)(hq:∀x e S,Q x e S->Q' x e S):∀x e S,lS N Q x e S->lS N' Q' x e S:=by
 intro x e S h;cases x<;>first|exact hn _ _ h|exact hq _ _ _ h
def qcV{P:aG}{a:C'}{N:ae->St->Prop}{Q:dV}{e:ae}{S:St}(M:ae->St->Prop)(h1:WP P a (lS M Q) e S)(h2:∀e S,M e S->N e S):WP P a (lS N Q) e S:=
 xK (qvf h2 λ_ _ _ h=>h) h1
def eA{P:aG}{id:Nat}{c:C'}{Q:dV}{e:ae}{S:St}(M:ae->St->Prop)(h1:WP P (.loop c) (yG id (lS M Q)) e S)(h2:∀e S,M e S->Q .normal e S):WP P (.loop c) (yG id Q) e S:=
 xK (λx e S hx=>by
  cases x<;>simp only[yG,lS]at hx |-<;>first|exact h2 _ _ hx|exact hx|skip
  split<;>rename_i hh
  .rw[ak hh]at hx;exact h2 _ _ hx
  .rw[au hh]at hx;exact hx) h1
theorem qut(v:V)(o:Nat):V.part v o none=v.cells[o]?:=rfl
theorem qm0(cs:List V):(V.agg cs).cells=cs:=rfl
theorem qm4(k:IntKind)(n:Int):(V.int k n).cells=[V.int k n]:=rfl
theorem qm2(b:Bool):(V.bool b).cells=[V.bool b]:=rfl
theorem qnc(b:Bz):(V.str b).cells=[V.str b]:=rfl
theorem qnb(b:Bool)(l:List V):(V.sl b l).cells=[V.sl b l]:=rfl
theorem qm1(a b c d:Nat):(V.arr a b c d).cells=[V.arr a b c d]:=rfl
theorem qna(a b c d:Nat):(V.ptr a b c d).cells=[V.ptr a b c d]:=rfl
theorem qm6(a:Nat):(V.map a).cells=[V.map a]:=rfl
theorem qm3(f:Go.Fn)(a b:List V):(V.fn f a b).cells=[V.fn f a b]:=rfl
theorem qm9:V.cu.cells=[V.cu]:=rfl
theorem qm7:V.bY.cells=[V.bY]:=rfl
theorem qm8:V.dI.cells=[V.dI]:=rfl
theorem qm5(v:V)(o:Nat):(V.cq v o).cells=[V.cq v o]:=rfl
theorem qwq(cs:List V):(V.agg cs).size=cs.length:=rfl
theorem qwu(k:IntKind)(n:Int):(V.int k n).size=1:=rfl
theorem qws(b:Bool):(V.bool b).size=1:=rfl
theorem qwB(b:Bz):(V.str b).size=1:=rfl
theorem qwA(b:Bool)(l:List V):(V.sl b l).size=1:=rfl
theorem qwr(a b c d:Nat):(V.arr a b c d).size=1:=rfl
theorem qwz(a b c d:Nat):(V.ptr a b c d).size=1:=rfl
theorem qwv(a:Nat):(V.map a).size=1:=rfl
theorem qwt(f:Go.Fn)(a b:List V):(V.fn f a b).size=1:=rfl
theorem qwy:V.cu.size=1:=rfl
theorem qww:V.bY.size=1:=rfl
theorem qwx:V.dI.size=1:=rfl
theorem qsh(cs:List V):(V.agg cs).isAgg=true:=rfl
theorem qo6(k:IntKind)(n:Int):(V.int k n).flat=true:=rfl
theorem qo2(b:Bool):(V.bool b).flat=true:=rfl
theorem qpe(b:Bz):(V.str b).flat=true:=rfl
theorem qpc(b:Bool)(l:List V):(V.sl b l).flat=true:=rfl
theorem qo1(a b c d:Nat):(V.arr a b c d).flat=true:=rfl
theorem qpb(a b c d:Nat):(V.ptr a b c d).flat=true:=rfl
theorem qo7(a:Nat):(V.map a).flat=true:=rfl
theorem qo5(f:Go.Fn)(a b:List V):(V.fn f a b).flat=true:=rfl
theorem qpa:V.cu.flat=true:=rfl
theorem qo8:V.bY.flat=true:=rfl
theorem qo9:V.dI.flat=true:=rfl
def Sm.sS(s:Sm):s.v.cells=[ah (s.labels.map .str),af s.kind,.str s.text,ah (s.targets.map Ex.v),ah (s.aw.map Ex.v),ah (s.elems.map El.v),ah (s.decls.map De.v),ah (s.body.map Sm.v)]:=by rw[Sm.eW];rfl
def De.sS(d:De):d.v.cells=[af d.kind,.bool d.own,af d.type,ah (d.names.map .str),ah (d.aw.map Ex.v),ah (d.aj.map Fo.v),ah (d.body.map Sm.v)]:=by rw[De.eW];rfl
def Ex.sS(x:Ex):x.v.cells=[af x.kind,af x.op,af x.n,af x.dQ,af x.exp,.str x.text,ah (x.args.map Ex.v)]:=by rw[Ex.eW];rfl
theorem El.sS(e:El):e.v.cells=[af e.kind,ah (e.aw.map Ex.v)]:=rfl
theorem Fo.sS(f:Fo):f.v.cells=[.str f.name,.bool f.value,af f.spec,af f.type]:=rfl
theorem quh(k:Int)(s:Sm)(d:De)(e:El)(x:Ex):(jz k s d e x).cells=
 [af k,ah (s.labels.map .str),af s.kind,.str s.text,ah (s.targets.map Ex.v),ah (s.aw.map Ex.v),ah (s.elems.map El.v),ah (s.decls.map De.v),ah (s.body.map Sm.v),
  af d.kind,.bool d.own,af d.type,ah (d.names.map .str),ah (d.aw.map Ex.v),ah (d.aj.map Fo.v),ah (d.body.map Sm.v),
  af e.kind,ah (e.aw.map Ex.v),
  af x.kind,af x.op,af x.n,af x.dQ,af x.exp,.str x.text,ah (x.args.map Ex.v)]:=rfl
theorem quj(k:Int)(s:Sm)(d:De)(e:El)(x:Ex):(jz k s d e x).size=25:=rfl
def Sm.xr(s:Sm):s.v.isAgg=true:=by rw[Sm.eW];rfl
def De.xr(s:De):s.v.isAgg=true:=by rw[De.eW];rfl
def Ex.xr(s:Ex):s.v.isAgg=true:=by rw[Ex.eW];rfl
theorem El.xr(s:El):s.v.isAgg=true:=rfl
theorem Fo.xr(s:Fo):s.v.isAgg=true:=rfl
theorem qui(k:Int)(s:Sm)(d:De)(e:El)(x:Ex):(jz k s d e x).isAgg=true:=rfl
def yF(s:Sm):V.part s.v 0 (some 8)=some s.v:=by simp[V.part,Sm.iF,Sm.xr]
def quk(s:De):V.part s.v 0 (some 7)=some s.v:=by simp[V.part,De.iF,De.xr]
def Sj(s:Ex):V.part s.v 0 (some 7)=some s.v:=by simp[V.part,Ex.iF,Ex.xr]
theorem qul(s:El):V.part s.v 0 (some 2)=some s.v:=rfl
theorem qum(s:Fo):V.part s.v 0 (some 4)=some s.v:=rfl
theorem qun(k:Int)(s:Sm)(d:De)(e:El)(x:Ex):V.part (jz k s d e x) 0 (some 25)=some (jz k s d e x):=rfl
def qur(k:Int)(s:Sm)(d:De)(e:El)(x:Ex):V.part (jz k s d e x) 1 (some 8)=some s.v:=by rw[Sm.eW];rfl
def qup(k:Int)(s:Sm)(d:De)(e:El)(x:Ex):V.part (jz k s d e x) 9 (some 7)=some d.v:=by rw[De.eW];rfl
theorem quq(k:Int)(s:Sm)(d:De)(e:El)(x:Ex):V.part (jz k s d e x) 16 (some 2)=some e.v:=rfl
def qus(k:Int)(s:Sm)(d:De)(e:El)(x:Ex):V.part (jz k s d e x) 18 (some 7)=some x.v:=by rw[Ex.eW];rfl
theorem qs0(b:Bool)(l:List V):Yf (.sl b l)=some (af l.length):=rfl
theorem qsZ(a b c d:Nat):Yf (.arr a b c d)=some (af c):=rfl
theorem qs1(s:Bz):Yf (.str s)=some (af s.size):=rfl
theorem qop(l i o st off:Nat):AD (.ptr l i o st) off=some (.ptr l i (o+off) st):=rfl
theorem qoo(v:V)(o off:Nat):AD (.cq v o) off=some (.cq v (o+off)):=rfl
theorem qsQ(S:St)(v:V)(o:Nat)(k:Option Nat):ab S (.cq v o) k=V.part v o k:=rfl
def qmQ{S:St}{x:V}(h:x.cells.all V.flat=true)(h0:0<x.size):aL S x=some (ag S.length,S++[.arr [x] x.size 1]):=by simp[aL,h,h0]
theorem mG{v x:V}{off n:Nat}:V.fZ v off n x=if x.size=n∧x.cells.all V.flat=true then (if off=0∧n=v.size then some x else match v with
 |.agg cs=>if off+n<=cs.length then some (.agg (cs.take off++x.cells++cs.drop (off+n))) else none
 |_=>none) else none:=rfl
theorem quv:iW []=[]:=rfl
attribute [simp] qut qm0 qm4 qm2 qnc qnb qm1 qna qm6 qm3 qm9 qm7 qm8 qm5
 qwq qwu qws qwB qwA qwr qwz qwv qwt qwy qww qwx qsh
 qo6 qo2 qpe qpc qo1 qpb qo7 qo5 qpa qo8 qo9
 Sm.sS De.sS Ex.sS El.sS Fo.sS quh quj Sm.xr De.xr Ex.xr El.xr Fo.xr qui
 yF quk Sj qul qum qun qur qup quq qus qs0 qsZ qs1 qop qoo qsQ quv
open Go.Proofs.Tryz
set_option maxHeartbeats 0
set_option maxRecDepth 100000
noncomputable def C17:=aW func17
noncomputable def TV:=aW func26
noncomputable def TW:=aW func52
noncomputable def O5:=aW func72
noncomputable def C20:=aW func20
noncomputable def C40:=aW func40
noncomputable def C63:=aW func63
noncomputable def C91:=aW func91
noncomputable def qaB:=aW func112
noncomputable def TI:=aW func135
noncomputable def TJ:=aW func141
noncomputable def EP:=aW func160
noncomputable def Ku:=aW func181
noncomputable def qbk:=aW func189
noncomputable def qbl:=aW func190
noncomputable def EQ:=aW func191
noncomputable def qbm:=aW func192
noncomputable def TN:=aW func205
noncomputable def O2:=aW func210
noncomputable def qbu:=aW func211
noncomputable def qbD:=aW func222
noncomputable def qbE:=aW func223
noncomputable def TP:=aW func224
noncomputable def qbF:=aW func225
noncomputable def um:=aW func226
noncomputable def qbG:=aW func227
noncomputable def TU:=aW func257
noncomputable def nj:=aW func258
@[simp] theorem uEx(l:List Ex):V.dr 0 (l.map Ex.v)=true:=oo λx _=>Ex.eE x
@[simp] theorem uEl(l:List El):V.dr 0 (l.map El.v)=true:=oo λx _=>El.eE x
@[simp] theorem uFo(l:List Fo):V.dr 0 (l.map Fo.v)=true:=oo λx _=>Fo.eE x
@[simp] theorem uDe(l:List De):V.dr 0 (l.map De.v)=true:=oo λx _=>De.eE x
@[simp] theorem uSm(l:List Sm):V.dr 0 (l.map Sm.v)=true:=oo λx _=>Sm.eE x
@[simp] theorem qA4(l:List Bz):V.dr 0 (l.map .str)=true:=oo λx _=>rfl
def qol{l:List Ex}{i:Nat}(h:i<l.length):SizeOf.sizeOf l[i].args<SizeOf.sizeOf l:=by
 have h1:=CJ (dz h)
 have h2:SizeOf.sizeOf l[i].args<SizeOf.sizeOf l[i]:=by
  cases l[i] with
  |mk k o n m e t a=>simp[Ex.args];omega
 omega
def Ln{α:Type}{l:List α}{i:Nat}(h:i<l.length):l.drop i=l[i]::l.drop (i+1):=xE h
def OC:∀(k:Nat) (l:List Ex),SizeOf.sizeOf l<=k->l.length<=bi->Ex.cH l->∀deep n:Int,0<=deep->deep<=1000->-4503599627370496<=n->n<=1000->∀S,Fn prog 72 [ah (l.map Ex.v),af deep,af n] S (af (Ex.eQ l deep n)):=by
 intro k
 induction k with
 |zero=>intro l h;cases l<;>simp at h
 |succ k ih=>
  intro l bF hlen fE deep n kF jb yl qf;refine Pu.intro (R:=λv=>v=af (Ex.eQ l deep n)) O5.g O5.o (qA rfl) (by simp[V.under,V.dr]) (by rintro v rfl;rfl) ?_;unfold Ex.eQ;by_cases hd:deep > 40
  .simp[O5,show(40:Int)<deep from hd];exact aQ (r:=rfl)
  simp[O5,show ¬ (40:Int)<deep from hd];refine cE (λj e S'=>∃(i:Nat) (m:Int),j=l.length - i∧i≤l.length∧Ex.leftG (l.drop i) deep m=Ex.leftG l deep n∧m≤n∧-4503599627370496≤m∧S'=[]∧
   e=[(7,af i),(2,af m),(0,ah (l.map Ex.v)),(1,af deep),(6,z0)]) l.length _ ?_ ⟨0,n,sM,oM,rfl,oM,oM,rfl,rfl⟩ ?_
  .exact ba
  rintro j e S' ⟨i,m,rfl,hi,hm,hmn,Q2,rfl,rfl⟩;by_cases h:i<l.length
  .by_cases h0:0<m
   .have hx:=ih l[i].args (by have:=qol h;omega) (Ex.NW (Ex.jQ fE _ (dz h))).1 (Ex.NW (Ex.jQ fE _ (dz h))).2 (deep+1) (m-1) oM oM oM oM;have hle:=Ex.left_le l[i] deep m h0;simp[h,h0,qJ,fO (n:=deep+1) oM oM,fO (n:=m-1) oM oM];refine aZ (hx []) ?_;rw[<-Ex.left_eq];simp[fO (n:=(i:Int)+1) (by unfold bi at hlen;omega) (by unfold bi at hlen;omega)];refine⟨_,?_,_,?_,i+1,rfl,oM,l[i].left deep m,?_,?_,?_,rfl⟩
    .omega
    .repeat' first|exact ae.gZ _|refine ae.fp (by simp;rfl) ?_|refine ae.fp sM ?_
    .rw[<-hm,Ln h,Ex.leftG,ak h0]
    .omega
    .omega
   .simp[h,h0];refine fB rfl ?_ rfl;simp only[aY];rw[<-hm,Ex.yz _ _ _ oM]
  .simp[h];refine fB rfl ?_ rfl;simp only[aY];rw[<-hm,HK oM,Ex.leftG]
def DW(l:List Ex)(deep n:Int):Ex.eQ l deep n<=max n 0/\min n 0<=Ex.eQ l deep n:=by
 by_cases h:0<=n
 .have:=Ex.qsW l deep n h;omega
 .unfold Ex.eQ;split
  .omega
  .rw[Ex.yz _ _ _ oM];omega
def qwK{s:Sm}{i:Nat}(h:i<s.body.length):SizeOf.sizeOf s.body[i]<SizeOf.sizeOf s:=by
 have h1:=CJ (dz h);cases s;simp only[Sm.body]at *;simp;omega
def qnB{s:Sm}{i:Nat}(h:i<s.decls.length):SizeOf.sizeOf s.decls[i]<SizeOf.sizeOf s:=by
 have h1:=CJ (dz h);cases s;simp only[Sm.decls]at *;simp;omega
def qnA{s:De}{i:Nat}(h:i<s.body.length):SizeOf.sizeOf s.body[i]<SizeOf.sizeOf s:=by
 have h1:=CJ (dz h);cases s;simp only[De.body]at *;simp;omega
def Bd(m:Int):Prop:=-4503599627370496<=m/\m<=1000
def El.xf:∀(l:List El) (deep n:Int),Bd n->Bd (El.leftG l deep n)
 |[],_,n,h=>h
 |x::l,deep,n,h=>by
  rw[El.leftG];split
  .have:=DW x.aw (deep+1) (n-1);refine El.xf l deep _ ?_;unfold Bd at *;omega
  .exact h
mutual
theorem Sm.NF:∀(s:Sm) (deep n:Int),s.ok->0<n->n<=1000->Bd (s.left deep n)
 |.mk l k t g e f d b,deep,n,h,h0,h1=>by
  simp only[Sm.ok]at h;obtain⟨hl,ht,hg,he,hf,hd,hb,iT⟩:=h;rw[Sm.left];split
  .unfold Bd;omega
  .have h2:=hl.1;have h3:=DW e (deep+1) (n-1-l.length);have h4:=DW g (deep+1) (Ex.eQ e (deep+1) (n-1-l.length));refine Sm.xf b _ _ iT (De.xf d _ _ hd.2 (El.xf f _ _ ?_));unfold Bd bi at *;omega
theorem De.NF:∀(s:De) (deep n:Int),s.ok->0<n->n<=1000->Bd (s.left deep n)
 |.mk k o t nm e f b,deep,n,h,h0,h1=>by
  simp only[De.ok]at h;obtain⟨hn,he,hf,hb,iT⟩:=h;rw[De.left];have h2:=hn.1;have h3:=hf.1;have h4:=DW e (deep+1) (n-1-nm.length-f.length);refine Sm.xf b _ _ iT ?_;unfold Bd bi at *;omega
theorem De.xf:∀(l:List De) (deep n:Int),De.cH l->Bd n->Bd (De.leftG l deep n)
 |[],_,n,_,h=>h
 |x::l,deep,n,hk,h=>by
  simp only[De.cH]at hk;rw[De.leftG];split
  .rename_i h0;exact De.xf l deep _ hk.2 (De.NF x deep n hk.1 h0 h.2)
  .exact h
theorem Sm.xf:∀(l:List Sm) (deep n:Int),Sm.cH l->Bd n->Bd (Sm.leftG l deep n)
 |[],_,n,_,h=>h
 |x::l,deep,n,hk,h=>by
  simp only[Sm.cH]at hk;rw[Sm.leftG];split
  .rename_i h0;exact Sm.xf l deep _ hk.2 (Sm.NF x deep n hk.1 h0 h.2)
  .exact h
end
def El.yz{l:List El}{deep n:Int}(h:¬0<n):El.leftG l deep n=n:=by cases l<;>simp[El.leftG,h]
def De.yz{l:List De}{deep n:Int}(h:¬0<n):De.leftG l deep n=n:=by cases l<;>simp[De.leftG,h]
def Sm.yz{l:List Sm}{deep n:Int}(h:¬0<n):Sm.leftG l deep n=n:=by cases l<;>simp[Sm.leftG,h]
def De.left_eq(d:De)(deep n:Int):d.left deep n=Sm.leftG d.body (deep+1) (Ex.eQ d.aw (deep+1) (n-1-d.names.length-d.aj.length)):=by cases d;rw[De.left];rfl
def Sm.left_eq(s:Sm)(deep n:Int):s.left deep n=if deep > 30 then 0 else
 Sm.leftG s.body (deep+1) (De.leftG s.decls deep (El.leftG s.elems deep (Ex.eQ s.targets (deep+1) (Ex.eQ s.aw (deep+1) (n-1-s.labels.length))))):=by cases s;rw[Sm.left];rfl
def qx9:∀(k:Nat) (s:Sm),SizeOf.sizeOf s<=k->s.ok->∀deep n:Int,0<=deep->deep<=1000->0<n->n<=1000->∀S,Fn prog 52 [s.v,af deep,af n] S (af (s.left deep n)):=by
 intro k
 induction k with
 |zero=>intro s h;cases s;simp at h
 |succ k ih=>
  intro s bF fE deep n kF jb yl qf;have O:=(Sm.fh s).1 fE;refine Pu.ib TW ?_;have hl:=O.labels.1;rw[Sm.left_eq];by_cases hd:deep > 30
  .simp[TW,aL,ab,show(30:Int)<deep from hd];exact aQ (r:=rfl)
  have e1:IntKind.i64.wrap (n-1)=n-1:=fO oM oM;have e2:IntKind.i64.wrap (n-1-s.labels.length)=n-1-s.labels.length:=fO (by unfold bi at hl;omega) oM;have e3:IntKind.i64.wrap (deep+1)=deep+1:=fO oM oM;have b1:=DW s.aw (deep+1) (n-1-s.labels.length);have b2:=DW s.targets (deep+1) (Ex.eQ s.aw (deep+1) (n-1-s.labels.length));simp[TW,aL,ab,show ¬(30:Int)<deep from hd,e1,e2,e3];refine nG (OC _ s.aw cz O.aw.1 O.aw.2 (deep+1) (n-1-s.labels.length) oM oM (by unfold bi at hl;omega) oM _) ?_;simp;refine nG (OC _ s.targets cz O.targets.1 O.targets.2 (deep+1) _ oM oM (by unfold bi at hl;omega) oM _) ?_;simp[dP,eF,eZ,ab];generalize Q2:Ex.eQ s.targets (deep+1) (Ex.eQ s.aw (deep+1) (n-1-s.labels.length))=m0 at b2 |-;have B0:Bd m0:=by unfold Bd;unfold bi at hl;omega
  have B1:=El.xf s.elems deep m0 B0;have B2:=De.xf s.decls deep _ O.decls.2 B1;have l1:=O.elems.1;have l2:=O.decls.1;have l3:=O.body.1;unfold bi at l1 l2 l3;refine eA (λe S=>e.get 2=some (af (El.leftG s.elems deep m0))/\e.get 3=some (ag 0)/\e.get 1=some (af deep)/\e.get 6=some z0/\S=[.arr [s.v] 8 1]) ?_ ?_
  ·refine cE (λj e S'=>∃(i:Nat) (m:Int),j=s.elems.length - i∧i≤s.elems.length∧El.leftG (s.elems.drop i) deep m=El.leftG s.elems deep m0∧Bd m∧S'=[.arr [s.v] 8 1]∧
    e=[(7,af i),(2,af m),(3,ag 0),(1,af deep),(6,z0)]) s.elems.length _ ?_ ⟨0,m0,sM,oM,rfl,B0,rfl,rfl⟩ ?_
   .exact ba
   rintro j e S' ⟨i,m,rfl,hi,hm,hB,rfl,rfl⟩;by_cases h:i<s.elems.length
   .by_cases h0:0<m
    .have Wc:=hB;unfold Bd at Wc;have b3:=DW s.elems[i].aw (deep+1) (m-1);have o3:=O.elems.2 _ (dz h);have hx:=OC _ s.elems[i].aw cz o3.1 o3.2 (deep+1) (m-1) oM oM oM oM;simp[h,h0,ab,Nu,e3,fO (n:=m-1) oM oM];refine aZ (hx _) ?_;simp[cG i];refine⟨_,?_,_,?_,i+1,rfl,oM,Ex.eQ s.elems[i].aw (deep+1) (m-1),?_,?_,rfl⟩
     .omega
     .repeat' first|exact ae.gZ _|refine ae.fp (by simp;rfl) ?_|refine ae.fp sM ?_
     .rw[<-hm,Ln h,El.leftG,ak h0]
     .unfold Bd;omega
    .simp[h,h0,ab];rw[<-hm,El.yz h0]
   .simp[h,ab];rw[<-hm,HK oM];rfl
  rintro e S ⟨g2,g3,g1,g6,rfl⟩;generalize A5:El.leftG s.elems deep m0=m1 at *;simp[g1,g2,g3];refine eA (λe S=>e.get 2=some (af (De.leftG s.decls deep m1))/\e.get 3=some (ag 0)/\e.get 1=some (af deep)/\e.get 6=some z0/\S[0]?=aJ [s.v] 8) ?_ ?_
  ·refine cE (λj e S'=>∃(i:Nat) (m:Int),j=s.decls.length - i∧i≤s.decls.length∧De.leftG (s.decls.drop i) deep m=De.leftG s.decls deep m1∧Bd m∧S'[0]?=aJ [s.v] 8∧
    e=[(8,af i),(2,af m),(3,ag 0),(1,af deep),(6,z0)]) s.decls.length _ ?_ ⟨0,m1,sM,oM,rfl,B1,rfl,rfl⟩ ?_
   .repeat' first|exact ae.gZ _|refine ae.fp (by simp[g1,g2,g3,g6]) ?_
   rintro j e S' ⟨i,m,rfl,hi,hm,hB,hz,rfl⟩;by_cases h:i<s.decls.length
   .by_cases h0:0<m
    .have Wc:=hB;unfold Bd at Wc;have o3:=(De.fh _).1 (De.jQ O.decls.2 _ (dz h));have lt3:=qnB h;generalize j7:s.decls[i]=d at *;have q1:=o3.names.1;have q2:=o3.aj.1;have q3:=o3.body.1;unfold bi at q1 q2 q3;have b3:=DW d.aw (deep+1) (m-1-d.names.length-d.aj.length);have hx:=OC _ d.aw cz o3.aw.1 o3.aw.2 (deep+1) (m-1-d.names.length-d.aj.length) oM oM oM oM;have w1:IntKind.i64.wrap (m-1)=m-1:=fO oM oM;have w2:IntKind.i64.wrap (m-1-d.names.length)=m-1-d.names.length:=fO oM oM;have w3:IntKind.i64.wrap (m-1-d.names.length-d.aj.length)=m-1-d.names.length-d.aj.length:=fO oM oM;have B3:Bd (Ex.eQ d.aw (deep+1) (m-1-d.names.length-d.aj.length)):=by unfold Bd;omega
     have ir:De.leftG (s.decls.drop (i+1)) deep (d.left deep m)=De.leftG s.decls deep m1:=by rw[<-hm,Ln h,De.leftG,ak h0,j7]
     rw[De.left_eq]at ir;have B4:=Sm.xf d.body (deep+1) _ o3.body.2 B3;simp[h,h0,hz,ab,Gt,j7,aL,aI,mG,e3,w1,w2,w3];refine aZ (hx _) ?_;generalize Ex.eQ d.aw (deep+1) (m-1-d.names.length-d.aj.length)=m2 at *;simp;refine eA (λe U=>e.get 2=some (af (Sm.leftG d.body (deep+1) m2))/\e.get 3=some (ag 0)/\e.get 1=some (af deep)/\e.get 6=some z0/\e.get 8=some (af i)/\U[0]?=aJ [s.v] 8) ?_ ?_
     .have sD:(S'++[Ob.arr [d.v] 7 1])[0]?=aJ [s.v] 8:=by rw[dh (br.1 hz).1];exact hz
      have eH:(S'++[Ob.arr [d.v] 7 1])[S'.length]?=aJ [d.v] 7:=sM;generalize S'++[Ob.arr [d.v] 7 1]=U at *;generalize S'.length=L at *;refine cE (λj e S'=>∃(r:Nat) (q:Int),j=d.body.length - r∧r≤d.body.length∧Sm.leftG (d.body.drop r) (deep+1) q=Sm.leftG d.body (deep+1) m2∧Bd q∧S'=U∧
       e=[(10,af r),(9,ag L),(8,af i),(2,af q),(3,ag 0),(1,af deep),(6,z0)]) d.body.length _ ?_ ⟨0,m2,sM,oM,rfl,B3,rfl,rfl⟩ ?_
      .exact ba
      rintro j e S' ⟨r,q,rfl,hr,hq,Wg,rfl,rfl⟩;by_cases g:r<d.body.length
      .by_cases g0:0<q
       .have LN:=Wg;unfold Bd at LN;have lt4:SizeOf.sizeOf d.body[r]<SizeOf.sizeOf d:=qnA g;have ok4:=Sm.jQ o3.body.2 _ (dz g);have hy:=ih d.body[r] oM ok4 (deep+1) q oM oM g0 oM S';have B5:=Sm.NF d.body[r] (deep+1) q ok4 g0 LN.2;simp[g,g0,sD,eH,ab,yv,e3];refine aZ hy ?_;simp[cG r];refine⟨_,?_,_,?_,r+1,rfl,oM,d.body[r].left (deep+1) q,?_,B5,rfl⟩
        .omega
        .repeat' first|exact ae.gZ _|refine ae.fp (by simp;rfl) ?_|refine ae.fp sM ?_
        .rw[<-hq,Ln g,Sm.leftG,ak g0]
       .simp[g,g0,sD,eH,ab];rw[<-hq,Sm.yz g0]
      .simp[g,sD,eH,ab];rw[<-hq,HK oM];rfl
     .rintro e U ⟨f2,f3,f1,f6,f8,fz⟩;simp[f8,cG i];refine⟨_,?_,_,?_,i+1,rfl,oM,Sm.leftG d.body (deep+1) m2,ir,B4,fz,rfl⟩
      .omega
      .repeat' first|exact ae.gZ _|refine ae.fp (by simp[f1,f2,f3,f6];try rfl) ?_
    .simp[h,h0,hz,ab];rw[<-hm,De.yz h0]
   .simp[h,hz,ab];rw[<-hm,HK oM];rfl
  clear g1 g2 g3 g6;rintro e S ⟨g2,g3,g1,g6,hz⟩;generalize hm2:De.leftG s.decls deep m1=m2 at *;simp[g1,g2,g3];refine eA (λe S=>e.get 2=some (af (Sm.leftG s.body (deep+1) m2))) ?_ ?_
  ·refine cE (λj e S'=>∃(r:Nat) (q:Int),j=s.body.length - r∧r≤s.body.length∧Sm.leftG (s.body.drop r) (deep+1) q=Sm.leftG s.body (deep+1) m2∧Bd q∧S'=S∧
    e=[(11,af r),(2,af q),(3,ag 0),(1,af deep),(6,z0)]) s.body.length _ ?_ ⟨0,m2,sM,oM,rfl,B2,rfl,rfl⟩ ?_
   .repeat' first|exact ae.gZ _|refine ae.fp (by simp[g1,g2,g3,g6]) ?_
   rintro j e S' ⟨r,q,rfl,hr,hq,Wg,rfl,rfl⟩;by_cases g:r<s.body.length
   .by_cases g0:0<q
    .have LN:=Wg;unfold Bd at LN;have lt4:SizeOf.sizeOf s.body[r]<SizeOf.sizeOf s:=qwK g;have ok4:=Sm.jQ O.body.2 _ (dz g);have hy:=ih s.body[r] oM ok4 (deep+1) q oM oM g0 oM S';have B5:=Sm.NF s.body[r] (deep+1) q ok4 g0 LN.2;simp[g,g0,hz,ab,yv,e3];refine aZ hy ?_;simp[cG r];refine⟨_,?_,_,?_,r+1,rfl,oM,s.body[r].left (deep+1) q,?_,B5,rfl⟩
     .omega
     .repeat' first|exact ae.gZ _|refine ae.fp (by simp;rfl) ?_|refine ae.fp sM ?_
     .rw[<-hq,Ln g,Sm.leftG,ak g0]
    .simp[g,g0,hz,ab];rw[<-hq,Sm.yz g0]
   .simp[g,hz,ab];rw[<-hq,HK oM];rfl
  .rintro e S g;simp[g];exact fB (vs:=[af (Sm.leftG s.body (deep+1) m2)]) sM rfl rfl
def Sm.NK(s:Sm):Bool:=decide (0<s.left 0 150)
def qxg(s:Sm)(fE:s.ok):∀S,Fn prog 17 [s.v] S (.bool s.NK):=by
 refine Pu.ib C17 ?_;simp[C17,aL,ab];refine aZ (qx9 _ s cz fE 0 150 oM oM oM oM _) ?_;simp;exact aQ (r:=rfl)
def qxV(l:List Ex)(hl:l.length<=bi)(fE:Ex.cH l):∀S,Fn prog 26 [ah (l.map Ex.v)] S (.bool (decide (l.length<=9)&&decide (0<Ex.eQ l 0 60))):=by
 refine Pu.ib TV ?_;by_cases h:l.length<=9
 .simp[TV,h,show(l.length:Int)<=9 by omega];refine aZ (OC _ l cz hl fE 0 60 oM oM oM oM _) ?_;simp;exact aQ (r:=rfl)
 .simp[TV,h,show ¬(l.length:Int)<=9 by omega];exact aQ (r:=rfl)
mutual
theorem Ex.jq:∀x:Ex,x.v.weak=x.v
 |.mk k o n m e t a=>by simp only[Ex.v,V.weak,V.cR,Ex.BS a]
theorem Ex.BS:∀l:List Ex,V.cR (Ex.vl l)=Ex.vl l
 |[]=>rfl
 |x::l=>by simp only[Ex.vl,V.cR,Ex.jq x,Ex.BS l]
end
def Hw{α:Type}{f:α->V}(h:∀x,(f x).weak=f x)(l:List α):V.cR (l.map f)=l.map f:=by
 rw[iO,nJ];exact rR λx _=>h x
def oq(l:List Ex):V.cR (l.map Ex.v)=l.map Ex.v:=Hw Ex.jq l
def El.jq(e:El):e.v.weak=e.v:=by simp only[El.v,V.weak,V.cR,oq]
theorem Fo.jq(e:Fo):e.v.weak=e.v:=rfl
def uf(l:List El):V.cR (l.map El.v)=l.map El.v:=Hw El.jq l
def ug(l:List Fo):V.cR (l.map Fo.v)=l.map Fo.v:=Hw Fo.jq l
def oW(l:List Bz):V.cR (l.map .str)=l.map .str:=Hw (λ_=>rfl) l
mutual
theorem De.jq:∀x:De,x.v.weak=x.v
 |.mk k o t n e f b=>by simp only[De.v,V.weak,V.cR,oq,ug,oW,Sm.BS b]
theorem Sm.jq:∀x:Sm,x.v.weak=x.v
 |.mk l k t g e f d b=>by simp only[Sm.v,V.weak,V.cR,oq,uf,oW,De.BS d,Sm.BS b]
theorem De.BS:∀l:List De,V.cR (De.vl l)=De.vl l
 |[]=>rfl
 |x::l=>by simp only[De.vl,V.cR,De.jq x,De.BS l]
theorem Sm.BS:∀l:List Sm,V.cR (Sm.vl l)=Sm.vl l
 |[]=>rfl
 |x::l=>by simp only[Sm.vl,V.cR,Sm.jq x,Sm.BS l]
end
def vJ(l:List De):V.cR (l.map De.v)=l.map De.v:=Hw De.jq l
def nf(l:List Sm):V.cR (l.map Sm.v)=l.map Sm.v:=Hw Sm.jq l
def qhx(k:Int)(s:Sm)(d:De)(e:El)(x:Ex):(jz k s d e x).weak=jz k s d e x:=by
 simp only[jz,Sm.cs,De.cs,El.cs,Ex.cs,dR,ig,V.weak,V.cR,oq,uf,ug,oW,vJ,nf]
def Pa.jq(p:Pa):p.v.weak=p.v:=qhx _ _ _ _ _
attribute [simp] Ex.jq El.jq Fo.jq De.jq Sm.jq oq uf ug oW vJ nf qhx Pa.jq qhw Pa.eE
def qke(s:Sm):∀S,Fn prog 101 [s.v] S (Pa.st s).v:=by
 refine Pu.intro (R:=λv=>v=(Pa.st s).v) TD.g TD.o (qA rfl) (by simp[V.under]) (by rintro v rfl;simp) ?_;simp[TD,aL,ab,aI,mG,bR,bP];refine FG rfl ?_ ?_
 .simp only[aY,V.weak,V.cR,oq,uf,ug,oW,vJ,nf];rfl
 .simp[aY,V.weak,V.cR,V.under,V.dr]
def qkj(s:Ex):∀S,Fn prog 142 [s.v] S (Pa.ex s).v:=by
 refine Pu.intro (R:=λv=>v=(Pa.ex s).v) TK.g TK.o (qA rfl) (by simp[V.under]) (by rintro v rfl;simp) ?_;simp[TK,aL,ab,aI,mG,bR,bP];refine FG rfl ?_ ?_
 .simp only[aY,V.weak,V.cR,oq,uf,ug,oW,vJ,nf];rfl
 .simp[aY,V.weak,V.cR,V.under,V.dr]
def qkq(s:De):∀S,Fn prog 168 [s.v] S (Pa.de s).v:=by
 refine Pu.intro (R:=λv=>v=(Pa.de s).v) TM.g TM.o (qA rfl) (by simp[V.under]) (by rintro v rfl;simp) ?_;simp[TM,aL,ab,aI,mG,bR,bP];refine FG rfl ?_ ?_
 .simp only[aY,V.weak,V.cR,oq,uf,ug,oW,vJ,nf];rfl
 .simp[aY,V.weak,V.cR,V.under,V.dr]
def qxx(s:El):∀S,Fn prog 205 [s.v] S (Pa.el s).v:=by
 refine Pu.intro (R:=λv=>v=(Pa.el s).v) TN.g TN.o (qA rfl) (by simp[V.under]) (by rintro v rfl;simp) ?_;simp[TN,aL,ab,aI,mG,bR,bP];refine FG rfl ?_ ?_
 .simp only[aY,V.weak,V.cR,oq,uf,ug,oW,vJ,nf];rfl
 .simp[aY,V.weak,V.cR,V.under,V.dr]
def qxk(p:Pa)(hp:p.ok):∀S,Fn prog 178 [p.v] S (af p.own):=by
 refine Pu.ib Kt ?_;have h1:=Pa.Si hp;unfold bi at h1
 cases p with
 |st s=>
  simp only[Pa.own]at h1;simp[Kt,aL,ab,Pa.v,Pa.kind,Pa.toS,Pa.own,fO (n:=1+(s.labels.length:Int)) oM oM];exact aQ (r:=rfl)
 |de d=>
  simp only[Pa.own]at h1;simp[Kt,aL,ab,Pa.v,Pa.kind,Pa.lH,Pa.own,fO (n:=1+(d.names.length:Int)) oM oM,fO (n:=1+(d.names.length:Int)+d.aj.length) oM oM];exact aQ (r:=rfl)
 |el e=>
  simp[Kt,aL,ab,Pa.v,Pa.kind,Pa.own];exact aQ (r:=rfl)
 |ex x=>
  simp[Kt,aL,ab,Pa.v,Pa.kind,Pa.own];exact aQ (r:=rfl)
theorem Pa.Z5(p:Pa):p.v.cells.all V.flat=true:=rfl
def qks(p:Pa)(S:St):aA prog 179 [p.v] S (λv U=>v=.fn (.func 202) [] [ag S.length]/\U=S++[.arr [p.v] 25 1]):=by
 refine aA.ib qbb ?_;simp[qbb,qmQ (Pa.Z5 p) (by rw[Pa.iF];omega),Pa.iF];exact bu rfl ⟨rfl,rfl⟩
def Oy(l:List Ex)(hl:l.length<=bi)(y:Nat)(S:St)(J:Nat->St->Prop)(D:St->Prop)(M:Np)(hM:∀x,M x->x<S.length)(hJ:∀i U o,J i U->J i (U++[o]))(hD:∀U o,D U->D (U++[o]))
  (hy:∀i x,l[i]?=some x->∀U,J i U->Kp M S U->jg prog y [(Pa.ex x).v] U (λv U'=>Kp M U U'/\((v=.bool true/\J (i+1) U')\/(v=.bool false/\D U')))) (h0:J 0 S):
  aA prog 203 [ah (l.map Ex.v),.fn (.func 142) [] [],.dc y] S (λv U=>Kp M S U/\((v=.bool true/\J l.length U)\/(v=.bool false/\D U))):=by
 unfold bi at hl;refine aA.ib qbq ?_;simp[qbq];refine cE (λj e S'=>∃i:Nat,j=l.length - i∧i≤l.length∧J i S'∧Kp M S S'∧
  e=[(11,af i),(10,af l.length),(9,ah (l.map Ex.v)),(1,.fn (.func 142) [] []),(2,.dc y)]) l.length _ ?_ ⟨0,sM,oM,h0,Kp.refl _ _,rfl⟩ ?_
 .exact ba
 rintro j e S' ⟨i,rfl,hi,hj,hk,rfl⟩;by_cases h:i<l.length
 .simp[h,qJ,aL,aI,mG,ab];refine aZ (qkj l[i] _) ?_;simp;refine EE (hy i l[i] (by simp[h]) _ (hJ _ _ _ hj) (hk.push _)) ?_;rintro v U' ⟨cI,⟨rfl,fg⟩|⟨rfl,eH⟩⟩
  .simp[cG i];refine⟨_,?_,_,?_,i+1,rfl,oM,fg,(hk.push _).trans cI,rfl⟩
   .omega
   .exact ba
  .simp;exact bu rfl ⟨(hk.push _).trans cI,.inr ⟨rfl,eH⟩⟩
 .simp[h];have:i=l.length:=oM;subst this;exact bu rfl ⟨hk,.inl ⟨rfl,hj⟩⟩
def qxw(l:List El)(hl:l.length<=bi)(y:Nat)(S:St)(J:Nat->St->Prop)(D:St->Prop)(M:Np)(hM:∀x,M x->x<S.length)(hJ:∀i U o,J i U->J i (U++[o]))(hD:∀U o,D U->D (U++[o]))
  (hy:∀i x,l[i]?=some x->∀U,J i U->Kp M S U->jg prog y [(Pa.el x).v] U (λv U'=>Kp M U U'/\((v=.bool true/\J (i+1) U')\/(v=.bool false/\D U')))) (h0:J 0 S):
  aA prog 204 [ah (l.map El.v),.fn (.func 205) [] [],.dc y] S (λv U=>Kp M S U/\((v=.bool true/\J l.length U)\/(v=.bool false/\D U))):=by
 unfold bi at hl;refine aA.ib qbr ?_;simp[qbr];refine cE (λj e S'=>∃i:Nat,j=l.length - i∧i≤l.length∧J i S'∧Kp M S S'∧
  e=[(11,af i),(10,af l.length),(9,ah (l.map El.v)),(1,.fn (.func 205) [] []),(2,.dc y)]) l.length _ ?_ ⟨0,sM,oM,h0,Kp.refl _ _,rfl⟩ ?_
 .exact ba
 rintro j e S' ⟨i,rfl,hi,hj,hk,rfl⟩;by_cases h:i<l.length
 .simp[h,Nu,aL,aI,mG,ab];refine aZ (qxx l[i] _) ?_;simp;refine EE (hy i l[i] (by simp[h]) _ (hJ _ _ _ hj) (hk.push _)) ?_;rintro v U' ⟨cI,⟨rfl,fg⟩|⟨rfl,eH⟩⟩
  .simp[cG i];refine⟨_,?_,_,?_,i+1,rfl,oM,fg,(hk.push _).trans cI,rfl⟩
   .omega
   .exact ba
  .simp;exact bu rfl ⟨(hk.push _).trans cI,.inr ⟨rfl,eH⟩⟩
 .simp[h];have:i=l.length:=oM;subst this;exact bu rfl ⟨hk,.inl ⟨rfl,hj⟩⟩
def qxy(l:List De)(hl:l.length<=bi)(y:Nat)(S:St)(J:Nat->St->Prop)(D:St->Prop)(M:Np)(hM:∀x,M x->x<S.length)(hJ:∀i U o,J i U->J i (U++[o]))(hD:∀U o,D U->D (U++[o]))
  (hy:∀i x,l[i]?=some x->∀U,J i U->Kp M S U->jg prog y [(Pa.de x).v] U (λv U'=>Kp M U U'/\((v=.bool true/\J (i+1) U')\/(v=.bool false/\D U')))) (h0:J 0 S):
  aA prog 206 [ah (l.map De.v),.fn (.func 168) [] [],.dc y] S (λv U=>Kp M S U/\((v=.bool true/\J l.length U)\/(v=.bool false/\D U))):=by
 unfold bi at hl;refine aA.ib qbs ?_;simp[qbs];refine cE (λj e S'=>∃i:Nat,j=l.length - i∧i≤l.length∧J i S'∧Kp M S S'∧
  e=[(11,af i),(10,af l.length),(9,ah (l.map De.v)),(1,.fn (.func 168) [] []),(2,.dc y)]) l.length _ ?_ ⟨0,sM,oM,h0,Kp.refl _ _,rfl⟩ ?_
 .exact ba
 rintro j e S' ⟨i,rfl,hi,hj,hk,rfl⟩;by_cases h:i<l.length
 .simp[h,Gt,aL,aI,mG,ab];refine aZ (qkq l[i] _) ?_;simp;refine EE (hy i l[i] (by simp[h]) _ (hJ _ _ _ hj) (hk.push _)) ?_;rintro v U' ⟨cI,⟨rfl,fg⟩|⟨rfl,eH⟩⟩
  .simp[cG i];refine⟨_,?_,_,?_,i+1,rfl,oM,fg,(hk.push _).trans cI,rfl⟩
   .omega
   .exact ba
  .simp;exact bu rfl ⟨(hk.push _).trans cI,.inr ⟨rfl,eH⟩⟩
 .simp[h];have:i=l.length:=oM;subst this;exact bu rfl ⟨hk,.inl ⟨rfl,hj⟩⟩
def qku(l:List Sm)(hl:l.length<=bi)(y:Nat)(S:St)(J:Nat->St->Prop)(D:St->Prop)(M:Np)(hM:∀x,M x->x<S.length)(hJ:∀i U o,J i U->J i (U++[o]))(hD:∀U o,D U->D (U++[o]))
  (hy:∀i x,l[i]?=some x->∀U,J i U->Kp M S U->jg prog y [(Pa.st x).v] U (λv U'=>Kp M U U'/\((v=.bool true/\J (i+1) U')\/(v=.bool false/\D U')))) (h0:J 0 S):
  aA prog 207 [ah (l.map Sm.v),.fn (.func 101) [] [],.dc y] S (λv U=>Kp M S U/\((v=.bool true/\J l.length U)\/(v=.bool false/\D U))):=by
 unfold bi at hl;refine aA.ib qbt ?_;simp[qbt];refine cE (λj e S'=>∃i:Nat,j=l.length - i∧i≤l.length∧J i S'∧Kp M S S'∧
  e=[(11,af i),(10,af l.length),(9,ah (l.map Sm.v)),(1,.fn (.func 101) [] []),(2,.dc y)]) l.length _ ?_ ⟨0,sM,oM,h0,Kp.refl _ _,rfl⟩ ?_
 .exact ba
 rintro j e S' ⟨i,rfl,hi,hj,hk,rfl⟩;by_cases h:i<l.length
 .simp[h,yv,aL,aI,mG,ab];refine aZ (qke l[i] _) ?_;simp;refine EE (hy i l[i] (by simp[h]) _ (hJ _ _ _ hj) (hk.push _)) ?_;rintro v U' ⟨cI,⟨rfl,fg⟩|⟨rfl,eH⟩⟩
  .simp[cG i];refine⟨_,?_,_,?_,i+1,rfl,oM,fg,(hk.push _).trans cI,rfl⟩
   .omega
   .exact ba
  .simp;exact bu rfl ⟨(hk.push _).trans cI,.inr ⟨rfl,eH⟩⟩
 .simp[h];have:i=l.length:=oM;subst this;exact bu rfl ⟨hk,.inl ⟨rfl,hj⟩⟩
def Jn(p:Pa):p.kids.length=match p with
 |.st s=>s.targets.length+(s.aw.length+(s.elems.length+(s.decls.length+s.body.length)))
 |.de d=>d.aw.length+d.body.length
 |.el e=>e.aw.length
 |.ex x=>x.args.length:=by cases p<;>simp[Pa.kids]
def qly(p:Pa)(hp:p.ok)(c:Nat):qdi prog 202 [] [ag c] (p.kids.map λq=>[q.v]) (λU=>U[c]?=aJ [p.v] 25):=by
 intro S l J D M hM iJ hJ hD _ _ hy h0;have hc:=iJ _ _ h0;have Bf:∀i q,p.kids[i]?=some q->∀U,J i U->Kp M S U->jg prog l [q.v] U (λv U'=>Kp M U U'/\((v=.bool true/\J (i+1) U')\/(v=.bool false/\D U'))):=λi q hq=>hy i [q.v] (by simp[hq])
 clear hy;simp only[bQ,ig,dR];have aB:c<S.length:=(br.1 hc).1;refine aA.ib Kx ?_
 cases p with
 |el e=>
  have o:=hp;have hA:=Oy e.aw o.1 l S J D M hM hJ hD (λi x hx=>Bf i (.ex x) (by simp[Pa.kids,hx])) h0;simp[Kx,ab,hc,Pa.v,Pa.kind,Pa.nB];refine bE hA ?_;rintro v U ⟨hk,⟨rfl,hj⟩|⟨rfl,hd⟩⟩
  .simp;exact mM rfl ⟨hk,.inl (by simpa[Pa.kids]using hj)⟩
  .simp;exact mM rfl ⟨hk,.inr hd⟩
 |ex e=>
  have o:=Ex.NW hp;have hA:=Oy e.args o.1 l S J D M hM hJ hD (λi x hx=>Bf i (.ex x) (by simp[Pa.kids,hx])) h0;simp[Kx,ab,hc,Pa.v,Pa.kind,Pa.nE];refine bE hA ?_;rintro v U ⟨hk,⟨rfl,hj⟩|⟨rfl,hd⟩⟩
  .simp;exact mM rfl ⟨hk,.inl (by simpa[Pa.kids]using hj)⟩
  .simp;exact mM rfl ⟨hk,.inr hd⟩
 |de d=>
  have o:=(De.fh d).1 hp;have hA:=Oy d.aw o.aw.1 l S J D M hM hJ hD (λi x hx=>Bf i (.ex x) (by simp only[Pa.kids];rw[dh (by simpa using(br.1 hx).1)];simp[hx])) h0;simp[Kx,ab,hc,Pa.v,Pa.kind,Pa.lH];refine bE hA ?_;rintro v U ⟨hk,⟨rfl,hj⟩|⟨rfl,hd⟩⟩
  .have j0:=iJ _ _ hj;have hB:=qku d.body o.body.1 l U (λi=>J (d.aw.length+i)) D M (λx hx=>pT (hM x hx) hk.len) (λi U o=>hJ _ U o) hD
    (λi x hx U' fg cI=>Bf (d.aw.length+i) (.st x) (by simp only[Pa.kids];rw[cx sM];simp[hx]) U' fg (hk.trans cI)) hj
   simp[ab,j0,Pa.v,Pa.kind,Pa.lH];refine bE hB ?_;rintro v U' ⟨cI,⟨rfl,fg⟩|⟨rfl,eH⟩⟩
   .simp;exact mM rfl ⟨hk.trans cI,.inl (by simpa[Pa.kids]using fg)⟩
   .simp;exact mM rfl ⟨hk.trans cI,.inr eH⟩
  .simp;exact mM rfl ⟨hk,.inr hd⟩
 |st s=>
  have o:=(Sm.fh s).1 hp
  have g1:∀(i:Nat) x,s.targets[i]?=some x->(Pa.st s).kids[i]?=some (.ex x):=λi x hx=>by
   simp only[Pa.kids];rw[dh (by simpa using(br.1 hx).1)];simp[hx]
  have g2:∀(i:Nat) x,s.aw[i]?=some x->(Pa.st s).kids[s.targets.length+i]?=some (.ex x):=λi x hx=>by
   simp only[Pa.kids];rw[cx sM,dh (by simpa using(br.1 hx).1)];simp[hx]
  have g3:∀(i:Nat) x,s.elems[i]?=some x->(Pa.st s).kids[s.targets.length+s.aw.length+i]?=some (.el x):=λi x hx=>by
   simp only[Pa.kids];rw[cx (by simp;omega),cx (by simp;omega),dh (by have:=(br.1 hx).1;simp;omega)];simp[show s.targets.length+s.aw.length+i-s.targets.length-s.aw.length=i by omega,hx]
  have g4:∀(i:Nat) x,s.decls[i]?=some x->(Pa.st s).kids[s.targets.length+s.aw.length+s.elems.length+i]?=some (.de x):=λi x hx=>by
   simp only[Pa.kids];rw[cx (by simp;omega),cx (by simp;omega),cx (by simp;omega),dh (by have:=(br.1 hx).1;simp;omega)];simp[show s.targets.length+s.aw.length+s.elems.length+i-s.targets.length-s.aw.length-s.elems.length=i by omega,hx]
  have g5:∀(i:Nat) x,s.body[i]?=some x->(Pa.st s).kids[s.targets.length+s.aw.length+s.elems.length+s.decls.length+i]?=some (.st x):=λi x hx=>by
   simp only[Pa.kids];rw[cx (by simp;omega),cx (by simp;omega),cx (by simp;omega),cx (by simp;omega)];simp[show s.targets.length+s.aw.length+s.elems.length+s.decls.length+i-s.targets.length-s.aw.length-s.elems.length-s.decls.length=i by omega,hx]
  have Ud:Kp M S (S++[.arr [s.v] 8 1]):=(Kp.refl _ _).push _;have hA:=Oy s.targets o.targets.1 l (S++[.arr [s.v] 8 1]) J D M (λx hx=>by have:=hM x hx;simp;omega) hJ hD (λi x hx U hj hk=>Bf i (.ex x) (g1 i x hx) U hj (Ud.trans hk)) (hJ _ _ _ h0);have hs:(S++[Ob.arr [s.v] 8 1])[S.length]?=aJ [s.v] 8:=sM;have nM:¬M S.length:=λh=>by have:=hM _ h;omega
  simp[Kx,ab,hc,Pa.v,Pa.kind,Pa.toS,aL,aI,mG];refine bE hA ?_;rintro v U1 ⟨k1,⟨rfl,j1⟩|⟨rfl,hd⟩⟩
  .have bw:=k1.at hs nM;have k1':=Ud.trans k1;have hB:=Oy s.aw o.aw.1 l U1 (λi=>J (s.targets.length+i)) D M (λx hx=>pT (hM x hx) k1'.len) (λi U o=>hJ _ U o) hD (λi x hx U' fg cI=>Bf _ (.ex x) (g2 i x hx) U' fg (k1'.trans cI)) j1;simp[ab,bw];refine bE hB ?_;rintro v U2 ⟨k2,⟨rfl,j2⟩|⟨rfl,hd⟩⟩
   .have iU:=k2.at bw nM;have k2':=k1'.trans k2;have hC:=qxw s.elems o.elems.1 l U2 (λi=>J (s.targets.length+s.aw.length+i)) D M (λx hx=>pT (hM x hx) k2'.len) (λi U o=>hJ _ U o) hD (λi x hx U' fg cI=>Bf _ (.el x) (g3 i x hx) U' fg (k2'.trans cI)) j2;simp[ab,iU];refine bE hC ?_;rintro v U3 ⟨k3,⟨rfl,j3⟩|⟨rfl,hd⟩⟩
    .have lN:=k3.at iU nM;have RB:=k2'.trans k3;have hE:=qxy s.decls o.decls.1 l U3 (λi=>J (s.targets.length+s.aw.length+s.elems.length+i)) D M (λx hx=>pT (hM x hx) RB.len) (λi U o=>hJ _ U o) hD (λi x hx U' fg cI=>Bf _ (.de x) (g4 i x hx) U' fg (RB.trans cI)) j3;simp[ab,lN];refine bE hE ?_;rintro v U4 ⟨k4,⟨rfl,j4⟩|⟨rfl,hd⟩⟩
     .have lO:=k4.at lN nM;have RD:=RB.trans k4;have hF:=qku s.body o.body.1 l U4 (λi=>J (s.targets.length+s.aw.length+s.elems.length+s.decls.length+i)) D M (λx hx=>pT (hM x hx) RD.len) (λi U o=>hJ _ U o) hD (λi x hx U' fg cI=>Bf _ (.st x) (g5 i x hx) U' fg (RD.trans cI)) j4;simp[ab,lO];refine bE hF ?_;rintro v U5 ⟨k5,⟨rfl,j5⟩|⟨rfl,hd⟩⟩
      .simp;refine mM rfl ⟨RD.trans k5,.inl ?_⟩;rw[Jn];simpa[jU]using j5
      .simp;exact mM rfl ⟨RD.trans k5,.inr hd⟩
     .simp;exact mM rfl ⟨RB.trans k4,.inr hd⟩
    .simp;exact mM rfl ⟨k2'.trans k3,.inr hd⟩
   .simp;exact mM rfl ⟨k1'.trans k2,.inr hd⟩
  .simp;exact mM rfl ⟨Ud.trans k1,.inr hd⟩
def gp{U:St}{x:Nat}{o o':Ob}(h:U[x]?=some o):(U++[o'])[x]?=some o:=by rw[dh (br.1 h).1];exact h
def gs{U:St}{x L:Nat}{o o':Ob}(h:U[x]?=some o)(hx:x≠L):(U.set L o')[x]?=some o:=by rw[bG (Ne.symm hx)];exact h
def aR{U:St}{x:Nat}{o:Ob}(h:U[x]?=some o):x<U.length:=(br.1 h).1
@[simp] theorem Pa.qA5(p:Pa):(∀x,x∈p.v.cells->x.flat=true)=True:=by
 have:=Pa.Z5 p;rw[fR]at this;exact eq_true this
@[simp] theorem Pa.qA6(p:Pa):(p.v.cells.all V.flat)=true:=Pa.Z5 p
@[simp] theorem Pa.qA8(p:Pa):p.v.size=25:=rfl
@[simp] theorem Pa.qA7(p:Pa):V.part p.v 0 (some 25)=some p.v:=rfl
def qj2{α:Type}{l:List α}{i:Nat}{x:α}(h:l[i]?=some x):l.set i x=l:=by
 apply vV;intro j;rw[Pm];split
 .rename_i pC;subst pC;rw[h];have:=(br.1 h).1;simp[this]
 .rfl
def Kp.chain{M N:Np}{S T U:St}(h:Kp M S T)(g:Kp N T U)(hn:∀l,l<S.length->N l->M l):Kp M S U:=
 ⟨js h.len g.len,λl hl hm=>(g.get l (pT hl h.len) λhh=>hm (hn l hl hh)).trans (h.get l hl hm)⟩
def Ir(a b c:Nat):V:=.fn (.func 177) [] [ag a,ag b,ag c]
structure MJ(a b c n:Nat)(p:Pa)(at' z d:Int)(U:St):Prop where
 ta:U[a]?=aJ [af z] 1
 tb:U[b]?=aJ [af d] 1
 tc:U[c]?=aJ [Ir a b c] 1
 t6:U[n+1]?=aJ [af at'] 1
 t7:U[n+2]?=aJ [.bool false] 1
 k:U[n+3]?=aJ [p.v] 25
def MJ.push{a b c n:Nat}{p:Pa}{at' z d:Int}{U:St}(h:MJ a b c n p at' z d U)(o:Ob):MJ a b c n p at' z d (U++[o]):=⟨gp h.ta,gp h.tb,gp h.tc,gp h.t6,gp h.t7,gp h.k⟩
def MJ.set{a b c n:Nat}{p:Pa}{at' z d:Int}{U:St}(h:MJ a b c n p at' z d U){L:Nat}(o:Ob)(ha:a<n)(hb:b<n)(hc:c<n)(hL:n+4<=L):MJ a b c n p at' z d (U.set L o):=
 ⟨gs h.ta oM,gs h.tb oM,gs h.tc oM,gs h.t6 oM,gs h.t7 oM,gs h.k oM⟩
structure MD(a b c n:Nat)(U:St):Prop where
 z:∃z:Int,U[a]?=aJ [af z] 1
 d:∃d:Int,U[b]?=aJ [af d] 1
 t7:U[n+2]?=aJ [.bool false] 1
def MD.push{a b c n:Nat}{U:St}(h:MD a b c n U)(o:Ob):MD a b c n (U++[o]):=⟨let ⟨z,hz⟩:=h.z;⟨z,gp hz⟩,let ⟨z,hz⟩:=h.d;⟨z,gp hz⟩,gp h.t7⟩
def zH(p:Pa)(z at':Int):Prop:=z+p.size<=2000/\at'+p.depth-1<=60
def Vr{l:List Pa}{i:Nat}{q:Pa}(h:l[i]?=some q):jW (l.take (i+1))=max (jW (l.take i)) q.depth:=by
 rw[dN,h,Ll];simp
def Zf{l:List Pa}{i:Nat}{q:Pa}(h:l[i]?=some q):bk (l.take (i+1))=bk (l.take i)+q.size:=by
 rw[dN,h,vD];simp
def qd7{l:List Pa}{i:Nat}{q:Pa}(h:l[i]?=some q):q.depth<=jW l:=by
 have:=Vr h;have h2:jW l=max (jW (l.take (i+1))) (jW (l.drop (i+1))):=by rw[<-Ll,qY]
 omega
def nc{l:List Pa}{i:Nat}{q:Pa}(h:l[i]?=some q):bk (l.take i)+q.size<=bk l:=by
 have:=Zf h;have h2:bk l=bk (l.take (i+1))+bk (l.drop (i+1)):=by rw[<-vD,qY]
 omega
def mR(a b:Nat)(p:Pa)(z d at':Int)(S:St)(v:V)(U:St):Prop:=Kp (λx=>x=a\/x=b) S U/\∃z' d':Int,U[a]?=aJ [af z'] 1/\U[b]?=aJ [af d'] 1/\
 ((v=.bool true/\z'=z+p.size/\d'=max d (at'+p.depth-1)/\zH p z at')\/(v=.bool false/\¬zH p z at'))
def qxj:∀(k:Nat) (p:Pa),p.wt<=k->p.ok->∀(at':Int),1<=at'->at'<=61->∀(a b c:Nat),a≠b->a≠c->b≠c->∀(z d:Int),0<=z->z<=2000->0<=d->d<=60->∀S:St,
  S[a]?=aJ [af z] 1->S[b]?=aJ [af d] 1->S[c]?=aJ [Ir a b c] 1->
  aA prog 177 [p.v,af at',ag a,ag b,ag c] S (mR a b p z d at' S):=by
 intro k
 induction k with
 |zero=>intro p h;exfalso;cases p with
  |st s=>cases s;simp[Pa.wt]at h
  |de s=>cases s;simp[Pa.wt]at h
  |el s=>cases s;simp[Pa.wt]at h
  |ex s=>cases s;simp[Pa.wt]at h
 |succ k ih=>
  intro p hw hp at' ha0 ha1 a b c L1 hac hbc z d hz0 hz1 kF jb S hA hB hC;have la:=aR hA;have lb:=aR hB;have lc:=aR hC;have ho:=Pa.Si hp;have Q5:=p.Ej;unfold bi at ho;refine aA.ib ⟨_,func177,ok177⟩ ?_;have e1:IntKind.i64.wrap (z+p.own)=z+p.own:=fO oM oM;simp[c177,aL];obtain⟨T,hT⟩:∃T,S++[.arr [p.v] 25 1,.arr [af at'] 1 1,.arr [.bool false] 1 1]=T:=⟨_,rfl⟩;have kT:Kp (λx=>x=a\/x=b) S T:=by rw[<-hT];exact(Kp.refl _ _).push _
  have lT:T.length=S.length+3:=by rw[<-hT];simp
  have tA:T[a]?=aJ [af z] 1:=by rw[<-hT,dh la];exact hA
  have tB:T[b]?=aJ [af d] 1:=by rw[<-hT,dh lb];exact hB
  have tC:T[c]?=aJ [Ir a b c] 1:=by rw[<-hT,dh lc];exact hC
  have t5:T[S.length]?=aJ [p.v] 25:=by rw[<-hT,cx oM];simp
  have t6:T[S.length+1]?=aJ [af at'] 1:=by rw[<-hT,cx oM];simp
  have t7:T[S.length+2]?=aJ [.bool false] 1:=by rw[<-hT,cx oM];simp
  rw[hT];clear hT;simp[ab,tA,t5];refine nG (qxk p hp _) ?_;simp[dP,eF,eZ,ab,aI,mG,e1,tA];obtain⟨T1,tm⟩:∃T1,List.set T a (.arr [af (z+p.own)] 1 1)=T1:=⟨_,rfl⟩;have uA:T1[a]?=aJ [af (z+p.own)] 1:=by rw[<-tm,bO oM]
  have uB:T1[b]?=aJ [af d] 1:=by rw[<-tm];exact gs tB L1.symm
  have uC:T1[c]?=aJ [Ir a b c] 1:=by rw[<-tm];exact gs tC hac.symm
  have u5:T1[S.length]?=aJ [p.v] 25:=by rw[<-tm];exact gs t5 oM
  have u6:T1[S.length+1]?=aJ [af at'] 1:=by rw[<-tm];exact gs t6 oM
  have u7:T1[S.length+2]?=aJ [.bool false] 1:=by rw[<-tm];exact gs t7 oM
  have kU:Kp (λx=>x=a\/x=b) S T1:=by rw[<-tm];exact kT.set _ (.inl (.inl rfl))
  have lU:T1.length=S.length+3:=by rw[<-tm];simp[lT]
  rw[tm];clear tm tA tB tC t5 t6 t7 kT lT T;have hmx:(if d<at' then at' else d)=max d at':=oM;simp[bI,zJ,uB,u6,aI,mG,ab,hmx];obtain⟨T2,uR⟩:∃T2,List.set T1 b (.arr [af (max d at')] 1 1)=T2:=⟨_,rfl⟩;have wA:T2[a]?=aJ [af (z+p.own)] 1:=by rw[<-uR];exact gs uA L1
  have wB:T2[b]?=aJ [af (max d at')] 1:=by rw[<-uR,bO oM]
  have wC:T2[c]?=aJ [Ir a b c] 1:=by rw[<-uR];exact gs uC hbc.symm
  have w5:T2[S.length]?=aJ [p.v] 25:=by rw[<-uR];exact gs u5 oM
  have w6:T2[S.length+1]?=aJ [af at'] 1:=by rw[<-uR];exact gs u6 oM
  have w7:T2[S.length+2]?=aJ [.bool false] 1:=by rw[<-uR];exact gs u7 oM
  have kW:Kp (λx=>x=a\/x=b) S T2:=by rw[<-uR];exact kU.set _ (.inl (.inr rfl))
  have lW:T2.length=S.length+3:=by rw[<-uR];simp[lU]
  rw[uR];clear uR uA uB uC u5 u6 u7 kU lU T1;have bF:=p.size_eq;have hdp:=p.CS;by_cases g1:2000<z+p.own
  .simp[g1,wA,aI,mG,w7];refine bu (by simp[ab,lW];rfl) ⟨kW.set _ (.inr oM),z+p.own,max d at',gs wA oM,gs wB oM,.inr ⟨rfl,?_⟩⟩;unfold zH;have:=Pa.Ej p;omega
  by_cases g2:60<max d at'
  .simp[g1,g2,wA,wB,aI,mG,w7,ab];refine bu (by simp[ab,lW];rfl) ⟨kW.set _ (.inr oM),z+p.own,max d at',gs wA oM,gs wB oM,.inr ⟨rfl,?_⟩⟩;unfold zH;have:=Pa.qd5 p;omega
  simp[g1,g2,wA,wB,aI,mG,w5,ab];refine bE (qks p T2) ?_;rintro v U ⟨rfl,rfl⟩;simp;have mz:(p.kids.map λq=>[q.v]).length=p.kids.length:=sM;refine qcW (k:=202) (fs:=[]) (cs:=[ag T2.length]) sM (qly p hp T2.length) rfl rfl rfl sM (λx=>x=a\/x=b\/x=S.length+2) ?_
   (λi U=>MJ a b c S.length p at' (z+p.own+bk (p.kids.take i)) (max (max d at') (at'+jW (p.kids.take i))) U/\z+p.own+bk (p.kids.take i)<=2000/\max (max d at') (at'+jW (p.kids.take i))<=60)
   (λU=>MD a b c S.length U/\¬zH p z at') (λ_ _=>False) ?_ ?_ ?_ ?_ (λi U L o o' _ h hl=>⟨⟨gl h.1.ta sM hl,gl h.1.tb sM hl,gl h.1.tc sM hl,gl h.1.t6 sM hl,gl h.1.t7 sM hl,gl h.1.k sM hl⟩,h.2⟩)
   (λU L o o' _ h hl=>⟨⟨let ⟨z,hz⟩:=h.1.z;⟨z,gl hz sM hl⟩,let ⟨z,hz⟩:=h.1.d;⟨z,gl hz sM hl⟩,gl h.1.t7 sM hl⟩,h.2⟩) (λid U L o o' _ h hl=>h.elim) ?_ ?_ ?_ ?_ ?_
  .rintro x (rfl|rfl|rfl)<;>simp<;>omega
  .rintro i U ⟨h,_⟩;rw[lW];exact h.k
  .rintro i U ⟨h,h1⟩;exactλo=>⟨h.push o,h1⟩
  .rintro U ⟨h,h1⟩;exactλo=>⟨h.push o,h1⟩
  .rintro id U h;exact h.elim
  .refine⟨⟨gp (gp wA) |> λh=>by simpa using h,gp (gp wB) |> λh=>by simpa using h,gp (gp wC),gp (gp w6),gp (gp w7),?_⟩,by simp;omega,by simp;omega⟩;refine gp ?_;rw[<-lW,cx cz];simp
  .rintro i av qa U ⟨hj,zq,wT⟩ hk hl;rw[dS]at qa;obtain⟨q,hq,rfl⟩:=ep.1 qa;have q1:=Zf hq;have q2:=Vr hq;have q3:=nc hq;have q4:=qd7 hq;have Jb:q∈p.kids:=dZ hq;have hqw:=Pa.zG Jb;have hL:(T2++[Ob.arr [p.v] 25 1]).length=S.length+4:=by simp[lW]
   simp[ae.keep]at hl;simp[vB,ae.keep,aL,aI,mG];refine PQ (gp hl) rfl ?_;have lU:=aR hl;have nU:U.length≠T2.length+1:=oM;have vq:((U++[Ob.arr [q.v] 25 1]).set (T2.length+1) (.loop { st:=.busy,dM:=none,ps:=[24],cV:=(fK Tryz.f177 0).1,body:=(fK Tryz.f177 0).2,e:=[(4,ag c),(6,ag (S.length+1)),(7,ag (S.length+2))],N:=31 }))[U.length]?=aJ [q.v] 25:=gs sM nU;have vL:((U++[Ob.arr [q.v] 25 1]).set (T2.length+1) (.loop { st:=.busy,dM:=none,ps:=[24],cV:=(fK Tryz.f177 0).1,body:=(fK Tryz.f177 0).2,e:=[(4,ag c),(6,ag (S.length+1)),(7,ag (S.length+2))],N:=31 }))[T2.length+1]?=some (.loop _):=bO (by simp;omega);have vj:=(hj.push (Ob.arr [q.v] 25 1)).set (L:=T2.length+1) (.loop { st:=.busy,dM:=none,ps:=[24],cV:=(fK Tryz.f177 0).1,body:=(fK Tryz.f177 0).2,e:=[(4,ag c),(6,ag (S.length+1)),(7,ag (S.length+2))],N:=31 }) la lb lc oM;have vk:Kp (λx=>(x=a\/x=b\/x=S.length+2)\/x=T2.length+1) U ((U++[Ob.arr [q.v] 25 1]).set (T2.length+1) (.loop { st:=.busy,dM:=none,ps:=[24],cV:=(fK Tryz.f177 0).1,body:=(fK Tryz.f177 0).2,e:=[(4,ag c),(6,ag (S.length+1)),(7,ag (S.length+2))],N:=31 })):=((Kp.refl _ _).push _).set _ (.inl (.inr rfl));generalize (U++[Ob.arr [q.v] 25 1]).set (T2.length+1) _=W at vq vL vj vk |-;have lWl:=aR vL;simp[ab,vj.tc,vq,vj.t6,Ir,fO (n:=at'+1) oM oM];refine bE (ih q oM (Pa.GG hp Jb) (at'+1) oM oM a b c L1 hac hbc _ _ oM zq oM wT W vj.ta vj.tb vj.tc) ?_;rintro v X ⟨xk,z',d',xa,xb,⟨rfl,rfl,rfl,xo⟩|⟨rfl,xo⟩⟩
   .simp;have xo':=xo;unfold zH at xo';refine qjE ⟨rfl,rfl⟩ (.inr rfl) (xk.at vL oM) (vk.trans (xk.mono λl _ h=>.inl (h.elim .inl λh=>.inr (.inl h)))) ⟨⟨gs xa oM |>.trans ?_,gs xb oM |>.trans ?_,gs (xk.at vj.tc oM) oM,gs (xk.at vj.t6 oM) oM,gs (xk.at vj.t7 oM) oM,gs (xk.at vj.k oM) oM⟩,?_,?_⟩
    .rw[q1];congr 4;omega
    .rw[q2];congr 4;omega
    .omega
    .omega
   .have x7:=xk.at vj.t7 oM;simp[aI,mG,x7];refine qjF (.inr rfl) (gs (xk.at vL oM) oM) ((vk.trans (xk.mono λl _ h=>.inl (h.elim .inl λh=>.inr (.inl h)))).set _ (.inl (.inl (.inr (.inr rfl))))) ⟨⟨⟨_,gs (gs xa oM) oM⟩,⟨_,gs (gs xb oM) oM⟩,gs (bO (aR x7)) oM⟩,?_⟩;unfold zH at xo |-;omega
  .rintro U ⟨hj,zq,wT⟩ hk;rw[mz,gu]at hj zq wT;simp[aI,mG,hj.t7];refine bu (by simp[ab,aR hj.t7];rfl) ⟨?_,_,_,gs hj.ta oM,gs hj.tb oM,.inl ⟨rfl,oM,oM,?_⟩⟩
   .exact(kW.chain hk.ofPush λl hl h=>by omega).set _ (.inr oM)
   .unfold zH;omega
  .rintro U ⟨hj,zq⟩ hk;obtain⟨⟨z',sD⟩,⟨d',eH⟩,h7⟩:=hj;simp;refine bu (by simp[ab,h7];rfl) ⟨?_,z',d',sD,eH,.inr ⟨rfl,zq⟩⟩;exact kW.chain hk.ofPush λl hl h=>by omega
  .rintro id U h;exact h.elim
def qw7(p:Pa)(hp:p.ok):∀S,aA prog 150 [p.v] S (λv U=>(∃z d:Int,v=.aV [af z,af d,.bool (decide p.fits)]/\(p.fits->z=p.size/\d=p.depth))/\U=S):=by
 refine Pu.intro (R:=λv=>∃z d:Int,v=.aV [af z,af d,.bool (decide p.fits)]/\(p.fits->z=p.size/\d=p.depth)) TL.g TL.o (qA rfl) (by simp[V.under]) (by rintro v ⟨z,d,rfl,_⟩;rfl) ?_;simp[TL,aL,aI,mG,ab];refine bE (qxj _ p cz hp 1 oM oM 1 2 3 oM oM oM 0 0 oM oM oM oM _ rfl rfl rfl) ?_;rintro v U ⟨hk,z,d,ha,hb,h⟩;have sd:p.fits↔zH p 0 1:=by unfold Pa.fits zH;omega
 have key:v=.bool (decide p.fits)/\(p.fits->z=p.size/\d=p.depth):=by
  rcases h with ⟨rfl,h1,h2,h3⟩|⟨rfl,h3⟩
  .rw[pf (sd.2 h3)];refine⟨rfl,λ_=>⟨oM,?_⟩⟩;have:=p.qd5;omega
  .rw[e9 λhh=>h3 (sd.1 hh)];exact⟨rfl,λhh=>absurd (sd.1 hh) h3⟩
 obtain⟨rfl,eU⟩:=key;simp[ab,ha,hb,aI,mG,qj2 ha,qj2 hb,dP,eF,eZ];refine fB (vs:=[af z,af d,.bool (decide p.fits)]) (by simp[ab,ha,hb]) ⟨z,d,rfl,eU⟩ rfl
def dL(cs:List V)(off n:Nat):V.part (.agg cs) off (some n)=if off=0/\n=cs.length then some (.agg cs) else if off+n<=cs.length then some (.agg ((cs.drop off).take n)) else none:=by
 by_cases h:off=0/\n=cs.length
 .simp[V.part,h]
 .have:¬(off=0/\n=(V.agg cs).size/\(V.agg cs).isAgg=true):=λhh=>h ⟨hh.1,by simpa using hh.2.1⟩
  simp only[V.part,au this,au h]
@[simp] theorem qAU(x:Ex):V.part x.v 3 (some 2)=some (.agg [af x.dQ,af x.exp]):=by rw[Ex.eW];rfl
theorem aU(cs:List V)(off n:Nat)(y:V):V.fZ (.agg cs) off n y=if y.size=n/\y.cells.all V.flat=true then(if off=0/\n=cs.length then some y else if off+n<=cs.length then some (.agg (cs.take off++y.cells++cs.drop (off+n))) else none) else none:=rfl
def yP(x:Ex)(off n:Nat)(y:V):V.fZ x.v off n y=V.fZ (.agg [af x.kind,af x.op,af x.n,af x.dQ,af x.exp,.str x.text,ah (x.args.map Ex.v)]) off n y:=by rw[Ex.eW]
def OL(d:De)(off n:Nat)(y:V):V.fZ d.v off n y=V.fZ (.agg [af d.kind,.bool d.own,af d.type,ah (d.names.map .str),ah (d.aw.map Ex.v),ah (d.aj.map Fo.v),ah (d.body.map Sm.v)]) off n y:=by rw[De.eW]
def vG(s:Sm)(off n:Nat)(y:V):V.fZ s.v off n y=V.fZ (.agg [ah (s.labels.map .str),af s.kind,.str s.text,ah (s.targets.map Ex.v),ah (s.aw.map Ex.v),ah (s.elems.map El.v),ah (s.decls.map De.v),ah (s.body.map Sm.v)]) off n y:=by rw[Sm.eW]
theorem qk5(f:Fo)(off n:Nat)(y:V):V.fZ f.v off n y=V.fZ (.agg [.str f.name,.bool f.value,af f.spec,af f.type]) off n y:=rfl
theorem BO(k:IntKind)(m:Int)(y:V):V.fZ (.int k m) 0 1 y=if y.size=1/\y.cells.all V.flat=true then some y else none:=rfl
theorem pM(b:Bool)(y:V):V.fZ (.bool b) 0 1 y=if y.size=1/\y.cells.all V.flat=true then some y else none:=rfl
theorem Td(y:V):V.fZ .bY 0 1 y=if y.size=1/\y.cells.all V.flat=true then some y else none:=rfl
def zR{a lo hi:Int}(h:¬(lo<=a/\a<=hi)):(decide (lo<=a)&&decide (a<=hi))=false:=by
 by_cases h1:lo<=a
 .have h2:¬a<=hi:=λhh=>h ⟨h1,hh⟩
  simp[h1,h2]
 .simp[h1]
def Bw{a lo hi:Int}(h:lo<=a/\a<=hi):(decide (lo<=a)&&decide (a<=hi))=true:=by simp[h.1,h.2]
def BE(n lo hi:Int):∀S,Fn prog 209 [af n,af lo,af hi] S (.bool (decide (lo<=n)&&decide (n<=hi))):=by
 refine Pu.ib TO ?_;by_cases h:lo<=n
 .simp[TO,h];exact aQ (r:=rfl)
 .simp[TO,h];exact aQ (r:=rfl)
def K4(k:Int):Int:=if k=7 then 1 else if k=8 then 1 else if k=9 then 1 else if k=10 then 2 else if k=11 then 3 else 0
def K3(k:Int):Int:=if k=7 then 4 else if k=8 then 8 else if k=9 then 1 else if k=10 then 2 else if k=11 then 3 else 0
def qxz(k:Int):∀S,Fn prog 208 [af k] S (.aV [af (K4 k),af (K3 k)]):=by
 refine Pu.ib ER ?_;by_cases h7:k=7
 .simp[ER,h7];exact aQ (r:=rfl)
 by_cases h8:k=8
 .simp[ER,h8];exact aQ (r:=rfl)
 by_cases h9:k=9
 .simp[ER,h9];exact aQ (r:=rfl)
 by_cases Dh:k=10
 .simp[ER,Dh];exact aQ (r:=rfl)
 by_cases IF:k=11
 .simp[ER,IF];exact aQ (r:=rfl)
 simp[ER,h7,h8,h9,Dh,IF];exact aQ (r:=by simp[aY,K4,K3,h7,h8,h9,Dh,IF])
def jv(lo hi n:Int):Bool:=decide (lo<=n)&&(decide (hi<0)||decide (n<=hi))
def BF(lo hi n:Int):∀S,Fn prog 212 [.agg [af lo,af hi],af n] S (.bool (jv lo hi n)):=by
 refine Pu.intro (R:=λv=>v=.bool (jv lo hi n)) Ky.g Ky.o (qA rfl) (by simp[V.under,V.dr]) (by rintro v rfl;rfl) ?_;by_cases h:lo<=n
 .by_cases h2:hi<0
  .simp[Ky,aL,ab,h,h2];exact aQ (r:=by simp[aY,jv,h,h2])
  .simp[Ky,aL,ab,h,h2];exact aQ (r:=by simp[aY,jv,h,h2])
 .simp[Ky,aL,ab,h];exact aQ (r:=by simp[aY,jv,h])
def qzw(m:Int)(h:0<=m):IntKind.i64.wrap (-m)<=m\/9223372036854775808<=m:=by
 rw[IntKind.wrap_i64];omega
def qzv(m:Int):IntKind.i64.wrap m<=9223372036854775807/\-9223372036854775808<=IntKind.i64.wrap m:=by
 rw[IntKind.wrap_i64];omega
def qtf(m:Int):(if m<IntKind.i64.wrap (-m) then IntKind.i64.wrap (-m) else m)=qj m:=by
 unfold qj;have h1:=qzv (-m);by_cases h:m<0
 .rw[ak h];split
  .rfl
  .rename_i h2;rw[IntKind.wrap_i64]at *;omega
 .rw[au h];rcases qzw m oM with h2|h2
  .rw[au oM]
  .rw[au oM]
def pg(m e m' e':Int):jJ [af m,af e] [af m',af e'] [(0,.i),(1,.i)]=some (decide (m=m'/\e=e')):=by
 by_cases h1:m=m'
 .by_cases h2:e=e'
  .have h3:(m==m')=true:=by simpa using h1
   have h4:(e==e')=true:=by simpa using h2
   simp[jJ,uL,h1,h2]
  .have h4:(e==e')=false:=by simpa using h2
   simp[jJ,uL,h1,h4,h2]
 .have h3:(m==m')=false:=by simpa using h1
  simp[jJ,uL,h3,h1]
def qxA(m e:Int):∀S,Fn prog 210 [.agg [af m,af e]] S (.bool (xn m e)):=by
 refine Pu.intro (R:=λv=>v=.bool (xn m e)) O2.g O2.o (qA rfl) (by simp[V.under,V.dr]) (by rintro v rfl;rfl) ?_;have hm:=qtf m;by_cases h0:m=0/\e=0
 .obtain⟨rfl,rfl⟩:=h0;simp[O2,aL,ab,V.part,bP,bR,bI,pg];exact aQ (r:=rfl)
 have hr:xn m e=(decide (1<=qj m/\qj m<16777216)&&(decide (e=-150)||(decide (8388608<=qj m)&&decide (-150<e/\e<=150)))):=by
  unfold xn;rw[e9 h0];rfl
 rw[hr];simp[O2,aL,ab,V.part,bP,bR,bI,pg,h0,zJ,hm];clear hr hm;generalize qj m=a at *;by_cases g1:a<1
 .simp[g1,show ¬1<=a by omega];exact aQ (r:=rfl)
 by_cases g2:16777216<=a
 .simp[g1,g2,show ¬a<16777216 by omega];exact aQ (r:=rfl)
 by_cases g3:e=-150
 .simp[ab,g1,g2,g3,show 1<=a by omega,show a<16777216 by omega];exact aQ (r:=rfl)
 by_cases g4:8388608<=a
 .by_cases g5:-150<e
  .simp[ab,g1,g2,g3,g4,g5,show 1<=a by omega,show a<16777216 by omega];exact aQ (r:=rfl)
  .simp[ab,g1,g2,g3,g4,g5,show 1<=a by omega,show a<16777216 by omega];exact aQ (r:=rfl)
 .simp[ab,g1,g2,g3,g4,show 1<=a by omega,show a<16777216 by omega];exact aQ (r:=rfl)
def no(_:Nat):Prop:=False
def iQ{α:Type}(l:List α)(q:α->Bool):Bool:=l.any q
def qxN(s:Bz):∀S,Fn prog 249 [.str s] S (.bool (!aH s)):=by
 refine Pu.ib qbN ?_;simp[qbN];refine aZ (S7 s _) ?_;simp;exact aQ (r:=rfl)
def qxR(x:Ex):∀S,Fn prog 253 [x.v] S (.bool (!x.mE)):=by
 refine Pu.ib TR ?_;by_cases h6:x.kind=6
 .simp[TR,aL,ab,h6];exact aQ (r:=by simp[aY,Ex.mE,h6])
 .simp[TR,aL,ab,h6];exact aQ (r:=by simp[aY,Ex.mE,h6])
def qxh(b:Bool)(l:List Bz)(hl:l.length<=bi)(g:Nat)(cs:List V)(q:Bz->Bool)(S:St)(h:∀x,x∈l->∀U,Kp no S U->aA prog g (.str x::cs) U (λv U'=>v=.bool (q x)/\Kp no U U')):
  aA prog 173 [.sl b (l.map V.str),.fn (.func g) [] cs] S (λv U=>(∃n:Int,v=af n/\(0<=n↔iQ l q=true))/\Kp no S U):=by
 unfold bi at hl;refine aA.ib qa7 ?_;simp only[qa7,fW];simp;refine cE (λj e S'=>∃i:Nat,j=l.length - i∧i≤l.length∧iQ (l.take i) q=false∧Kp no S S'∧
  e=[(8,af i),(7,af l.length),(6,.sl b (l.map V.str)),(0,.sl b (l.map V.str)),(1,.fn (.func g) [] cs)]) l.length _ ?_ ⟨0,sM,oM,rfl,Kp.refl _ _,rfl⟩ ?_
 .exact ba
 rintro j e S' ⟨i,rfl,hi,hq,hk,rfl⟩;by_cases h1:i<l.length
 .have h2:=h l[i] (dz h1) S' hk;simp[h1,oR];refine bE h2 ?_;rintro v U' ⟨rfl,cI⟩
  cases h3:q l[i] with
  |true=>
   simp;refine bu rfl ⟨⟨i,rfl,?_⟩,hk.trans cI⟩;exact⟨λ_=>Am.2 ⟨l[i],dz h1,h3⟩,λ_=>by omega⟩
  |false=>
   simp[cG i];refine⟨_,?_,_,?_,i+1,rfl,oM,?_,hk.trans cI,rfl⟩
   .omega
   .exact ba
   .unfold iQ at *;rw[dN,bX h1,EX,hq];simp[h3]
 .simp[h1];refine bu rfl ⟨⟨-1,rfl,?_⟩,hk⟩;rw[mJ oM]at hq;rw[hq];exact⟨λh=>absurd h (by decide),λh=>by cases h⟩
def qw3(b:Bool)(l:List Bz)(hl:l.length<=bi)(g:Nat)(cs:List V)(q:Bz->Bool)(S:St)(h:∀x,x∈l->∀U,Kp no S U->aA prog g (.str x::cs) U (λv U'=>v=.bool (q x)/\Kp no U U')):
  aA prog 138 [.sl b (l.map V.str),.fn (.func g) [] cs] S (λv U=>v=.bool (iQ l q)/\Kp no S U):=by
 refine aA.ib qaM ?_;simp only[qaM,fW];simp;refine bE (qxh b l hl g cs q S h) ?_;rintro v U ⟨⟨n,rfl,hn⟩,hk⟩;simp;refine bu rfl ⟨?_,hk⟩
 cases ha:iQ l q with
 |true=>simp[aY,hn.2 ha]
 |false=>
  have:¬0<=n:=λhh=>by rw[hn.1 hh]at ha;cases ha
  simp[aY,this]
def qxf(b:Bool)(l:List Fo)(hl:l.length<=bi)(g:Nat)(cs:List V)(q:Fo->Bool)(S:St)(h:∀x,x∈l->∀U,Kp no S U->aA prog g (Fo.v x::cs) U (λv U'=>v=.bool (q x)/\Kp no U U')):
  aA prog 169 [.sl b (l.map Fo.v),.fn (.func g) [] cs] S (λv U=>(∃n:Int,v=af n/\(0<=n↔iQ l q=true))/\Kp no S U):=by
 unfold bi at hl;refine aA.ib qa5 ?_;simp only[qa5,fW];simp;refine cE (λj e S'=>∃i:Nat,j=l.length - i∧i≤l.length∧iQ (l.take i) q=false∧Kp no S S'∧
  e=[(8,af i),(7,af l.length),(6,.sl b (l.map Fo.v)),(0,.sl b (l.map Fo.v)),(1,.fn (.func g) [] cs)]) l.length _ ?_ ⟨0,sM,oM,rfl,Kp.refl _ _,rfl⟩ ?_
 .exact ba
 rintro j e S' ⟨i,rfl,hi,hq,hk,rfl⟩;by_cases h1:i<l.length
 .have h2:=h l[i] (dz h1) S' hk;simp[h1,ru];refine bE h2 ?_;rintro v U' ⟨rfl,cI⟩
  cases h3:q l[i] with
  |true=>
   simp;refine bu rfl ⟨⟨i,rfl,?_⟩,hk.trans cI⟩;exact⟨λ_=>Am.2 ⟨l[i],dz h1,h3⟩,λ_=>by omega⟩
  |false=>
   simp[cG i];refine⟨_,?_,_,?_,i+1,rfl,oM,?_,hk.trans cI,rfl⟩
   .omega
   .exact ba
   .unfold iQ at *;rw[dN,bX h1,EX,hq];simp[h3]
 .simp[h1];refine bu rfl ⟨⟨-1,rfl,?_⟩,hk⟩;rw[mJ oM]at hq;rw[hq];exact⟨λh=>absurd h (by decide),λh=>by cases h⟩
def qkh(b:Bool)(l:List Fo)(hl:l.length<=bi)(g:Nat)(cs:List V)(q:Fo->Bool)(S:St)(h:∀x,x∈l->∀U,Kp no S U->aA prog g (Fo.v x::cs) U (λv U'=>v=.bool (q x)/\Kp no U U')):
  aA prog 131 [.sl b (l.map Fo.v),.fn (.func g) [] cs] S (λv U=>v=.bool (iQ l q)/\Kp no S U):=by
 refine aA.ib qaI ?_;simp only[qaI,fW];simp;refine bE (qxf b l hl g cs q S h) ?_;rintro v U ⟨⟨n,rfl,hn⟩,hk⟩;simp;refine bu rfl ⟨?_,hk⟩
 cases ha:iQ l q with
 |true=>simp[aY,hn.2 ha]
 |false=>
  have:¬0<=n:=λhh=>by rw[hn.1 hh]at ha;cases ha
  simp[aY,this]
def qxW(b:Bool)(l:List Ex)(hl:l.length<=bi)(g:Nat)(cs:List V)(q:Ex->Bool)(S:St)(h:∀x,x∈l->∀U,Kp no S U->aA prog g (Ex.v x::cs) U (λv U'=>v=.bool (q x)/\Kp no U U')):
  aA prog 269 [.sl b (l.map Ex.v),.fn (.func g) [] cs] S (λv U=>(∃n:Int,v=af n/\(0<=n↔iQ l q=true))/\Kp no S U):=by
 unfold bi at hl;refine aA.ib qbS ?_;simp only[qbS,fW];simp;refine cE (λj e S'=>∃i:Nat,j=l.length - i∧i≤l.length∧iQ (l.take i) q=false∧Kp no S S'∧
  e=[(8,af i),(7,af l.length),(6,.sl b (l.map Ex.v)),(0,.sl b (l.map Ex.v)),(1,.fn (.func g) [] cs)]) l.length _ ?_ ⟨0,sM,oM,rfl,Kp.refl _ _,rfl⟩ ?_
 .exact ba
 rintro j e S' ⟨i,rfl,hi,hq,hk,rfl⟩;by_cases h1:i<l.length
 .have h2:=h l[i] (dz h1) S' hk;simp[h1,qJ];refine bE h2 ?_;rintro v U' ⟨rfl,cI⟩
  cases h3:q l[i] with
  |true=>
   simp;refine bu rfl ⟨⟨i,rfl,?_⟩,hk.trans cI⟩;exact⟨λ_=>Am.2 ⟨l[i],dz h1,h3⟩,λ_=>by omega⟩
  |false=>
   simp[cG i];refine⟨_,?_,_,?_,i+1,rfl,oM,?_,hk.trans cI,rfl⟩
   .omega
   .exact ba
   .unfold iQ at *;rw[dN,bX h1,EX,hq];simp[h3]
 .simp[h1];refine bu rfl ⟨⟨-1,rfl,?_⟩,hk⟩;rw[mJ oM]at hq;rw[hq];exact⟨λh=>absurd h (by decide),λh=>by cases h⟩
def qxQ(b:Bool)(l:List Ex)(hl:l.length<=bi)(g:Nat)(cs:List V)(q:Ex->Bool)(S:St)(h:∀x,x∈l->∀U,Kp no S U->aA prog g (Ex.v x::cs) U (λv U'=>v=.bool (q x)/\Kp no U U')):
  aA prog 252 [.sl b (l.map Ex.v),.fn (.func g) [] cs] S (λv U=>v=.bool (iQ l q)/\Kp no S U):=by
 refine aA.ib qbQ ?_;simp only[qbQ,fW];simp;refine bE (qxW b l hl g cs q S h) ?_;rintro v U ⟨⟨n,rfl,hn⟩,hk⟩;simp;refine bu rfl ⟨?_,hk⟩
 cases ha:iQ l q with
 |true=>simp[aY,hn.2 ha]
 |false=>
  have:¬0<=n:=λhh=>by rw[hn.1 hh]at ha;cases ha
  simp[aY,this]
def qdn{α:Type}(l:List α)(q:α->Bool):(!iQ l λx=>!q x)=l.all q:=by
 unfold iQ
 induction l with
 |nil=>rfl
 |cons x l ih=>simp only[List.any_cons,Ak,Bool.not_or,Bool.not_not,ih]
def qkv(l:List Bz)(hl:l.length<=bi):∀S,Fn prog 213 [ah (l.map .str)] S (.bool (l.all aH)):=by
 refine Pu.ib qbw ?_;simp only[qbw,fW];simp;refine bE (qw3 false l hl 249 [] (λx=>!aH x) _ λx _ U _=>(qxN x U).mono λv U' h=>⟨h.1,by rw[h.2];exact Kp.refl _ _⟩) ?_;rintro v U ⟨rfl,_⟩;simp;refine fB rfl ?_ rfl;simp only[aY,qdn]
def qxC(l:List Ex)(hl:l.length<=bi):∀S,Fn prog 215 [ah (l.map Ex.v)] S (.bool (l.all Ex.mE)):=by
 refine Pu.ib qby ?_;simp only[qby,fW];simp;refine bE (qxQ false l hl 253 [] (λx=>!x.mE) _ λx _ U _=>(qxR x U).mono λv U' h=>⟨h.1,by rw[h.2];exact Kp.refl _ _⟩) ?_;rintro v U ⟨rfl,_⟩;simp;refine fB rfl ?_ rfl;simp only[aY,qdn]
def qxO(f:Fo):∀S,Fn prog 250 [f.v] S (.bool (f.bp aH)):=by
 refine Pu.ib qbO ?_;simp[qbO,aL,ab];refine aZ (S7 f.name _) ?_
 cases hn:aH f.name with
 |false=>
  simp;exact aQ (r:=by simp[aY,Fo.bp,hn])
 |true=>
  have hv:f.bp aH=(if f.spec=0∨f.spec=3∨f.spec=4∨f.spec=5 then decide (f.type=0) && !f.value
   else if f.spec=1 then decide (1<=f.type/\f.type<=3)
   else if f.spec=2 then decide (0<=f.type/\f.type<=3)&&(!f.value||decide (f.type≠0))
   else if f.spec=6 then decide (0<=f.type/\f.type<=3)&&!f.value
   else false):=by unfold Fo.bp;rw[hn];rfl
  rw[hv];by_cases h0:f.spec=0
  .by_cases ht:f.type=0
   .simp[ab,h0,ht];exact aQ (r:=rfl)
   .simp[ab,h0,ht];exact aQ (r:=rfl)
  by_cases h3:f.spec=3
  .by_cases ht:f.type=0
   .simp[ab,h3,ht];exact aQ (r:=rfl)
   .simp[ab,h3,ht];exact aQ (r:=rfl)
  by_cases h4:f.spec=4
  .by_cases ht:f.type=0
   .simp[ab,h4,ht];exact aQ (r:=rfl)
   .simp[ab,h4,ht];exact aQ (r:=rfl)
  by_cases h5:f.spec=5
  .by_cases ht:f.type=0
   .simp[ab,h5,ht];exact aQ (r:=rfl)
   .simp[ab,h5,ht];exact aQ (r:=rfl)
  by_cases h1:f.spec=1
  .simp[ab,h1];refine aZ (BE _ _ _ _) ?_;simp;exact aQ (r:=rfl)
  by_cases h2:f.spec=2
  .simp[ab,h2];refine aZ (BE _ _ _ _) ?_
   cases hr:decide (0<=f.type)&&decide (f.type<=3) with
   |false=>
    simp;exact aQ (r:=rfl)
   |true=>
    cases cF:f.value with
    |false=>
     simp[ab,cF];exact aQ (r:=rfl)
    |true=>
     simp[ab,cF];exact aQ (r:=rfl)
  by_cases h6:f.spec=6
  .simp[ab,h6];refine aZ (BE _ _ _ _) ?_
   cases hr:decide (0<=f.type)&&decide (f.type<=3) with
   |false=>
    simp;exact aQ (r:=rfl)
   |true=>
    simp[ab];exact aQ (r:=rfl)
  simp[ab,h0,h1,h2,h3,h4,h5,h6];exact aQ (r:=rfl)
def qxP(f g:Fo)(L:Nat)(S:St)(h:S[L]?=aJ [f.v] 4):aA prog 251 [g.v,ag L] S (λv U=>v=.bool (decide (g.name=f.name))/\Kp no S U):=by
 refine aA.ib qbP ?_;simp[qbP,aL,ab,gp h];exact bu rfl ⟨rfl,(Kp.refl _ _).push _⟩
def LC(nm:Bz->Bool):∀(l m:List Fo) (kC:List Bz),fi nm (l++m) kC=(fi nm l kC&&fi nm m (kC++l.map Fo.name))
 |[],m,kC=>by simp[fi]
 |f::l,m,kC=>by
  simp only[dR,fi,LC nm l m,cQ,dY,List.singleton_append,ig,dR,Bool.and_assoc]
def qwG{l:List V}{k:Nat}(hk:k<=l.length){sz:Nat}(hs:∀x,x∈l->x.size=sz)(S:St):kO S sz (ah l) none (some (k:Int))=some (ah (l.take k)):=by
 simp[kO,hk];exact hs
def zN(l:List UInt8):Bool:=l.all yH
def qkw(l:List Fo)(hl:l.length<=bi):∀S,Fn prog 214 [ah (l.map Fo.v)] S (.bool (fi aH l [])):=by
 refine Pu.ib qbx ?_;unfold bi at hl;simp only[qbx,fW];simp;refine cE (λj e S'=>∃i:Nat,j=l.length - i∧i≤l.length∧fi aH (l.take i) []=true∧
  e=[(7,af i),(6,af l.length),(5,ah (l.map Fo.v)),(0,ah (l.map Fo.v))]) l.length _ ?_ ⟨0,sM,oM,rfl,rfl⟩ ?_
 .exact ba
 rintro j e S' ⟨i,rfl,hi,hq,rfl⟩;by_cases h:i<l.length
 .have ir:fi aH (l.take (i+1)) []=(l[i].bp aH&&!((l.take i).map Fo.name).any λx=>decide (x=l[i].name)):=by
   rw[dN,bX h,iP,LC,hq];simp[fi]
  have dq:fi aH l []=true->fi aH (l.take (i+1)) []=true:=λhh=>by
   rw[<-qY (i+1) l,LC,cT]at hh;exact hh.1
  simp[h,ru,aL,aI,mG,ab];refine aZ (qxO l[i] _) ?_
  cases hv:l[i].bp aH with
  |false=>
   simp;refine fB rfl ?_ rfl;simp only[aY,V.bool.injEq]
   cases hh:fi aH l [] with
   |false=>rfl
   |true=>rw[dq hh,hv]at ir;simp at ir
  |true=>
   rw[hv]at ir;have hs:=qwG (l:=l.map Fo.v) (k:=i) (by simp;omega) (sz:=4) (λx hx=>by obtain⟨y,_,rfl⟩:=cY.1 hx;rfl) (S'++[Ob.arr [l[i].v] 4 1]);simp[oI,hs];rw[<-KI];refine bE (qkh false (l.take i) (by rw[qz];unfold bi;omega) 251 [ag S'.length] (λg=>decide (g.name=l[i].name)) _ λx _ U hk=>qxP l[i] x S'.length U (hk.at sM (λh=>h))) ?_;rintro v U ⟨rfl,hk⟩
   have he:iQ (l.take i) (λg=>decide (g.name=l[i].name))=((l.take i).map Fo.name).any λx=>decide (x=l[i].name):=by
    unfold iQ;rw[List.any_map];rfl
   rw[he]
   cases hc:((l.take i).map Fo.name).any λx=>decide (x=l[i].name) with
   |true=>
    rw[hc]at ir;simp;refine fB rfl ?_ rfl;simp only[aY,V.bool.injEq]
    cases hh:fi aH l [] with
    |false=>rfl
    |true=>rw[dq hh]at ir;simp at ir
   |false=>
    rw[hc]at ir;simp[cG i];refine⟨_,?_,_,?_,i+1,rfl,oM,by rw[ir];rfl,rfl⟩
    .omega
    .exact ba
 .simp[h];refine fB rfl ?_ rfl;rw[mJ oM]at hq;simp only[aY,hq]
def qxB(s:Bz)(hs:s.size<=bi):∀S,Fn prog 211 [.str s] S (.bool (Br s)):=by
 refine Pu.ib qbu ?_;unfold bi at hs;have hp:Br s=(zN s.data.toList && decide (s.size≤80)):=rfl;generalize hpr:Br s=pr at hp ⊢;simp only[qbu,fW];simp;refine cE (λj e S'=>∃i:Nat,j=s.size - i∧i≤s.size∧zN (s.data.toList.take i)=true∧
  e=[(3,af i),(0,.str s)]) s.size _ ?_ ⟨0,sM,oM,rfl,rfl⟩ ?_
 .exact ba
 rintro j e S' ⟨i,rfl,hi,hq,rfl⟩;by_cases h:i<s.size
 .have hb:s.data.toList[i]?=some (s.data[i]'h):=by simp[h]
  generalize hx:s.data[i]'h=x at hb;have eI:yw s i=some (.int .u8 x.toNat):=by rw[<-hx];exact Nv h
  have aB:=x.toNat_lt
  have cB:yH x=false->pr=false:=λhh=>by
   rw[hp,OY];left
   cases ha:zN s.data.toList with
   |false=>rfl
   |true=>
    unfold zN at ha;rw[fR]at ha;rw[ha x (dZ hb)]at hh;cases hh
  simp[h,eI,fO (n:=(x.toNat:Int)) oM oM];refine aZ (BE _ _ _ _) ?_;by_cases h1:(32:Int)<=x.toNat/\(x.toNat:Int)<=126
  .rw[show(decide ((32:Int)<=x.toNat)&&decide ((x.toNat:Int)<=126))=true by simp[h1]];by_cases h2:(x.toNat:Int)=34
   .simp[eI,h2];refine fB rfl ?_ rfl;rw[cB (by unfold yH;simp;omega)];rfl
   .simp[eI,h2,cG i];refine⟨_,?_,_,?_,i+1,rfl,oM,?_,rfl⟩
    .omega
    .exact ba
    .unfold zN at *;rw[dN,KD,hq,hb];simp[yH];omega
  .rw[show(decide ((32:Int)<=x.toNat)&&decide ((x.toNat:Int)<=126))=false by simp;omega];simp;refine fB rfl ?_ rfl;rw[cB (by unfold yH;simp;omega)];rfl
 .simp[h];have bF:s.data.toList.length=s.size:=rfl;rw[mJ oM]at hq;refine fB rfl ?_ rfl;rw[hp,hq];simp only[aY,V.bool.injEq,rO,decide_eq_decide];omega
def qxm(e:El):∀S,Fn prog 181 [e.v] S (.bool e.bp):=by
 refine Pu.ib Ku ?_;unfold El.bp;by_cases h1:e.kind=1
 .simp[Ku,aL,ab,h1];exact aQ (r:=by simp[aY];omega)
 by_cases h2:e.kind=2
 .simp[Ku,aL,ab,h2];exact aQ (r:=by simp[aY];omega)
 by_cases h3:e.kind=3
 .simp[Ku,aL,ab,h3];exact aQ (r:=by simp[aY];omega)
 simp[Ku,aL,ab,h1,h2,h3];exact aQ (r:=rfl)
def Ex.me(nm:Bz→Bool)(x:Ex):x.bp nm=(
 if x.kind=1 then decide (0<=x.n/\x.n<=2147483647)&&decide (x.args.length=0)&&decide (x.op=0)&&(decide (x.dQ=0)&&decide (x.exp=0))&&iV x.text
 else if x.kind=2 then xn x.dQ x.exp&&decide (0<=x.dQ)&&decide (x.args.length=0)&&decide (x.op=0)&&decide (x.n=0)&&iV x.text
 else if x.kind=3\/x.kind=4 then decide (x.args.length=0)&&decide (x.op=0)&&decide (x.n=0)&&(decide (x.dQ=0)&&decide (x.exp=0))&&iV x.text
 else if x.kind=5 then Br x.text&&decide (x.args.length=0)&&decide (x.op=0)&&decide (x.n=0)&&(decide (x.dQ=0)&&decide (x.exp=0))
 else if x.kind=6 then nm x.text&&decide (x.args.length=0)&&decide (x.op=0)&&decide (x.n=0)&&(decide (x.dQ=0)&&decide (x.exp=0))
 else if x.kind=7 then nm x.text&&decide (1<=x.args.length/\x.args.length<=4)&&decide (x.op=0)&&decide (x.n=0)&&(decide (x.dQ=0)&&decide (x.exp=0))
 else if x.kind=8 then nm x.text&&decide (1<=x.args.length/\x.args.length<=8)&&decide (x.op=0)&&decide (x.n=0)&&(decide (x.dQ=0)&&decide (x.exp=0))
 else if x.kind=9 then decide (x.op=1\/x.op=2)&&decide (x.args.length=1)&&decide (x.n=0)&&(decide (x.dQ=0)&&decide (x.exp=0))&&iV x.text
 else if x.kind=10 then decide (3<=x.op/\x.op<=18)&&decide (x.args.length=2)&&decide (x.n=0)&&(decide (x.dQ=0)&&decide (x.exp=0))&&iV x.text
 else if x.kind=11 then decide (x.args.length=3)&&decide (x.op=0)&&decide (x.n=0)&&(decide (x.dQ=0)&&decide (x.exp=0))&&iV x.text
 else false):=by cases x;rfl
def Ee{t:Bz}(h:t=⟨⟨[]⟩⟩):iV t=true:=by subst h;rfl
def qhh{t:Bz}(h:¬t=⟨⟨[]⟩⟩):iV t=false:=e9 λhh=>h (SU.2 hh)
def cS{P:aG}{a b:C'}{Q:dV}{e:ae}{S:St}(M:ae->St->Prop)(h1:WP P a (lS M Q) e S)(h2:∀e S,M e S->WP P b Q e S):WP P (.seq a b) Q e S:=by
 rw[HT];exact qcV M h1 h2
def zb{P:aG}{a b t:C'}{M:ae->St->Prop}{Q:dV}{e:ae}{S:St}(h:WP P (.seq a b) (lS M Q) e S)(g:∀e S,WP P b (lS M Q) e S->WP P t Q e S):WP P (.seq a t) Q e S:=by
 rw[HT]at h |-;refine xK ?_ h;intro x e S hx;cases x<;>first|exact hx|exact g _ _ hx
def HS{P:aG}{a b c d t:C'}{Q:dV}{e:ae}{S:St}(M:ae->St->Prop)(h:WP P (.seq a (.seq b (.seq c d))) (lS M Q) e S)(g:∀e S,M e S->WP P t Q e S):WP P (.seq a (.seq b (.seq c (.seq d t)))) Q e S:=
 zb h λ_ _ h=>zb h λ_ _ h=>zb h λ_ _ h=>cS M h g
def Aq(x:Ex)(E:ae)(U:St):Prop:=∃(ok:Bool) (o n m e:Int) (t:Bz),x.bp aH=(ok&&decide (o=0)&&decide (n=0)&&(decide (m=0)&&decide (e=0))&&iV t)/\E.get 5=some (ag 1)/\E.get 6=some (.bool ok)/\
 U=[.arr [x.v] 7 1,.arr [.agg [z0,af o,af n,af m,af e,.str t,sN]] 7 1]
def Aq.mk{x:Ex}{E:ae}{ok:Bool}{o n m e:Int}{t:Bz}(h5:E.get 5=some (ag 1))(h6:E.get 6=some (.bool ok))(h:x.bp aH=(ok&&decide (o=0)&&decide (n=0)&&(decide (m=0)&&decide (e=0))&&iV t)):
 Aq x E [.arr [x.v] 7 1,.arr [.agg [z0,af o,af n,af m,af e,.str t,sN]] 7 1]:=⟨_,_,_,_,_,_,h,h5,h6,rfl⟩
def qxl(x:Ex)(hx:x.ok):∀S,Fn prog 180 [x.v] S (.bool (x.bp aH)):=by
 refine Pu.ib qbc ?_;have hv:=Ex.me aH x;simp only[qbc,fW];refine zb ?_ λ_ _ h=>zb h λ_ _ h=>zb h λ_ _ h=>HS (Aq x) h ?_
 .simp[aL,ab];refine aZ (qxz _ _) ?_;simp[ab];refine aZ (BE _ _ _ _) ?_;by_cases hk:1<=x.kind/\x.kind<=11
  case neg=>
   rw[zR hk];simp;exact aQ (r:=by rw[hv];grind (splits:=16) [aY])
  rw[Bw hk];have hc:x.kind=1\/x.kind=2\/x.kind=3\/x.kind=4\/x.kind=5\/x.kind=6\/x.kind=7\/x.kind=8\/x.kind=9\/x.kind=10\/x.kind=11:=oM;simp[ab];refine aZ (BE _ _ _ _) ?_;by_cases hl:K4 x.kind<=x.args.length/\(x.args.length:Int)<=K3 x.kind
  case neg=>
   rw[zR hl];simp;exact aQ (r:=by rw[hv];rcases hc with h|h|h|h|h|h|h|h|h|h|h<;>simp[h,K4,K3,aY]at hl |-<;>grind)
  rw[Bw hl];rcases hc with h|h|h|h|h|h|h|h|h|h| h
  all_goals
   simp[K4,K3,h]at hl
   simp[aL,ab,aI,aU,yP,BO,pM,dL,bP,bR,bI,pg,h]
  case inl|inr.inr.inr.inr.inr.inr.inr.inr.inr.inl=>
   refine aZ (BE _ _ _ _) ?_;simp[aL,ab,aI,aU,yP,BO,pM,dL,bP,bR,bI,pg];exact Aq.mk rfl rfl (by rw[hv,eR];simp[h,Ee]<;>grind)
  case inr.inl=>
   refine aZ (qxA _ _ _) ?_;cases hb:xn x.dQ x.exp<;>simp[aL,ab,aI,aU,yP,BO,pM,dL,bP,bR,bI,pg]<;>exact Aq.mk rfl rfl (by rw[hv,eR];simp[h,Ee]<;>grind)
  case inr.inr.inr.inr.inl=>
   refine aZ (qxB _ (Ex.qho hx) _) ?_;simp[aL,ab,aI,aU,yP,BO,pM,dL,bP,bR,bI,pg];exact Aq.mk rfl rfl (by rw[hv,eR];simp[h,Ee]<;>grind)
  case inr.inr.inr.inr.inr.inl|inr.inr.inr.inr.inr.inr.inl|inr.inr.inr.inr.inr.inr.inr.inl=>
   refine aZ (S7 _ _) ?_;simp[aL,ab,aI,aU,yP,BO,pM,dL,bP,bR,bI,pg];exact Aq.mk rfl rfl (by rw[hv,eR];simp[h,Ee]<;>grind)
  case inr.inr.inr.inr.inr.inr.inr.inr.inl=>
   by_cases h1:x.op=1<;>simp[aL,ab,aI,aU,yP,BO,pM,dL,bP,bR,bI,pg,h1]<;>exact Aq.mk rfl rfl (by rw[hv,eR];simp[h,Ee]<;>grind)
  all_goals exact Aq.mk rfl rfl (by rw[hv,eR];simp[h,Ee]<;>grind)
 rintro E U ⟨ok,o,n,m,e,t,hr,g5,g6,rfl⟩;rw[hr];cases ok
 case false=>
  simp[g5,g6,ab];exact aQ (r:=by simp[aY])
 by_cases ho:o=0
 case neg=>
  simp[g5,g6,ab,ho];exact aQ (r:=by simp[aY])
 by_cases hn:n=0
 case neg=>
  simp[g5,g6,ab,ho,hn];exact aQ (r:=by simp[aY])
 by_cases hm:m=0/\e=0
 case neg=>
  rcases Decidable.not_and_iff_or_not.1 hm with h|h<;>simp[g5,g6,ab,ho,hn,h,dL,bP,bR,bI,pg]<;>exact aQ (r:=by simp[aY])
 by_cases ht:t=⟨⟨[]⟩⟩
 case neg=>
  simp[g5,g6,ab,ho,hn,hm,ht,dL,bP,bR,bI,pg];exact aQ (r:=by simp[aY,qhh ht])
 simp[g5,g6,ab,ho,hn,hm,ht,dL,bP,bR,bI,pg];exact aQ (r:=by simp[aY,Ee rfl])
end Go.Proofs.YtbifpocccfkhhaaGreatDoor
end
