/- A part. -/
import Derived.Test.YtbifpocccfkhhaaGreatDoorWe
set_option linter.all false
noncomputable section
namespace Go.Proofs.YtbifpocccfkhhaaGreatDoor
open Go
def au.qej{P:Program}{f:FuncId}{args:List V}{R:V->Prop}(h:au P f args [] (fun v U=>R v/\U=[]))(ha:∀v,v∈args->v.under 0=true)(hr:∀v,R v->v.under 0=true)(S:St):au P f args S (fun v U=>R v/\U=S):=by
 refine⟨h.1,fun E w us n hs hv=>?_⟩;obtain⟨c1,c2⟩:=hs.cut (m:=0) (fun o ho=>by simp at ho) (eL _);have c1:SR (E.cut 0) [] w:=by simpa using c1
 have hv0:pM (E.cut 0) args us:=⟨hv.1,fun i v u h1 h2=>(hv.2 i v u h1 h2).cut (ha v (dc h1))⟩;refine(h.2 (E.cut 0) w us n c1 hv0).mono ?_;rintro e w' ⟨u,r0,E1,S1,h1,⟨hR,rfl⟩,h3,h4,h5,h6⟩
 have hno:∀{E:En} {b:Nat},¬own E [] b:=by
  rintro E b ⟨l,st,x,⟨o,ho,_⟩,_⟩;simp at ho
 let E':En:={ I:=E1.I,ρ:=E.ρ }
 have hle:E.le E':=⟨fun b o c hc=>h5.I b o c hc,fun _ _ _ hx=>hx⟩;have hle1:En.le (E1.cut 0) E':=⟨fun b o c hc=>hc,fun l st x hx=>by simp[En.cut]at hx⟩;have hown:∀b,own E' S b->own E S b:=fun b ⟨l,st,x,hl,hx,he⟩=>⟨l,st,x,hl,hx,he⟩
 have hI:∀b o c,E1.I b o=some c->E.I b o=some c\/w.heap.size<=b:=fun b o c hc=>by
  rcases h5.zw b o c hc with hc|hc|hc
  .exact .inl hc
  .exact absurd hc hno
  .exact .inr hc
 refine ⟨u,r0,E',S,h1,⟨hR,rfl⟩,(h3.cut (hr _ hR)).mono hle1,⟨⟨h4.gl.1,h4.gl.2⟩,h4.I,fun l o hl=>?_,hs.dom,fun b o hb=>?_,fun b hb=>?_,fun l l' st st' x x' hl hl' hx hx' he=>hs.inj l l' st st' x x' hl hl' hx hx' he⟩,
  ⟨h5.size,hle.1,fun _ _ _ _ hx=>hx,fun _ _ hx=>hx,fun b hb=>.inl (hown b hb),fun b o c hc=>(hI b o c hc).imp id .inr,fun b hb _=>h5.frame b hb hno,h5.out⟩,cq _⟩
 .by_cases hd:o=.dead
  .subst hd;trivial
  .exact(hs.obs l o hl).mono hle (fun _ _ hx=>hx) fun st x hx=>h5.frame _ (hs.lt _ ⟨l,st,x,⟨o,hl,hd⟩,hx,rfl⟩) hno
 .cases hc:E'.I b o with
  |none=>rfl
  |some c=>
   exfalso;rcases hI b o c hc with h| h
   .rw[hs.apart b o (hown b hb)]at h;cases h
   .have:=hs.lt b (hown b hb);omega
 .exact jP (hs.lt b (hown b hb)) h5.size
abbrev Pu(P:Program)(k:Nat)(args:List V)(R:V->Prop):Prop:=∀S,au P k args S (fun v U=>R v/\U=S)
def Pu.intro{P:Program}{f:FuncId}{fn:Func}{f':F'}{args:List V}{R:V->Prop}(hf:P.funcs[f]?=some fn)(hc:lD P fn=some f')(ha:args.length<=f'.N)
  (hu:(args.all fun v=>v.under 0)=true) (hr:∀v,R v->v.under 0=true) (h:WP P f'.body (eH f'.rs 0 (fun v U=>R v/\U=[])) (iF 0 args) []):Pu P f args R:=fun S=>
 au.qej (au.intro hf hc ha h) (fun v hv=>d6.1 hu v hv) hr S
def Pu.ib{P:Program}{k:FuncId}{fn:Func}(p:CF P k fn){args:List V}{r:V}(h:WP P p.c.body (eH p.c.rs 0 (fun v U=>v=r/\U=[])) (iF 0 args) [])(ha:Nat.ble args.length p.c.N=true:=by rfl)(hu:(args.all fun v=>v.under 0)=true:=by simp[V.under])(hr:r.under 0=true:=by rfl):∀S,Fn P k args S r:=Pu.intro (R:=fun v=>v=r) p.g p.o (kn ha) hu (fun v hv=>hv ▸ hr) h
def dB{rs:List RV}{R:V->Prop}{e:af}{S:St}{vs:List V}(h:dm e S rs=some vs)(hR:R (aK vs))(hu:(aK vs).under 0=true):eH rs 0 (fun v U=>R v/\U=[]) .ret e S:=
 ⟨vs,h,_,[],cK.cut (m:=0) hu sM bL (eL _),hR,rfl⟩
def Fq(P:Program)(k:Nat)(args:List V)(S:St)(Φ:V->St->Prop):Prop:=∃R:V->St->Prop,au P k args S R/\(∃v S',R v S')/\∀v S',R v S'->Φ v S'
def Bl(P:Program)(base:Nat)(d:Option Nat)(wr:Bool)(ds:List D)(K:af->List St->Prop)(e:af)(H:List St)(v:V)(S:St):Prop:=eG P base ds K (e.put d v) S (if wr then H++[S] else H)
def SV(r:Option (V×St))(P:Program)(base:Nat)(d:Option Nat)(wr:Bool)(ds:List D)(K:af->List St->Prop)(e:af)(H:List St):Prop:=match r with
 |some (v,S')=>Bl P base d wr ds K e H v S'
 |none=>False
def SX(f:Option V)(vs:Option (List V))(P:Program)(base:Nat)(d:Option Nat)(wr:Bool)(ds:List D)(K:af->List St->Prop)(e:af)(S:St)(H:List St):Prop:=match f,vs with
 |some (.fn (.func k) fs cs),some vs=>Fq P k (fs++vs++cs) S (Bl P base d wr ds K e H)
 |_,_=>False
def FB(g:Option Bool)(P:Program)(base:Nat)(d:D)(ds:List D)(K:af->List St->Prop)(e:af)(S:St)(H:List St):Prop:=match g with
 |none=>False
 |some false=>Bl P base d.o.dst d.w ds K e H (.aH []) S
 |some true=>eG P base ({ d with o:={ d.o with g:=none } }::ds) K e S H
def qcG{P:Program}{base:Nat}{d:Option Nat}{wr:Bool}{ds:List D}{K:af->List St->Prop}{e:af}{H:List St}{v:V}{S:St}:Bl P base d wr ds K e H v S=eG P base ds K (e.put d v) S (if wr then H++[S] else H):=(rfl)
def qcM{P:Program}{base:Nat}{d:Option Nat}{wr:Bool}{ds:List D}{K:af->List St->Prop}{e:af}{H:List St}{v:V}{S:St}:SV (some (v,S)) P base d wr ds K e H=eG P base ds K (e.put d v) S (if wr then H++[S] else H):=(rfl)
def qcO{P:Program}{k:Nat}{fs cs vs:List V}{base:Nat}{d:Option Nat}{wr:Bool}{ds:List D}{K:af->List St->Prop}{e:af}{S:St}{H:List St}:SX (some (.fn (.func k) fs cs)) (some vs) P base d wr ds K e S H=Fq P k (fs++vs++cs) S (Bl P base d wr ds K e H):=(rfl)
def qcy{P:Program}{base:Nat}{d:D}{ds:List D}{K:af->List St->Prop}{e:af}{S:St}{H:List St}:FB (some false) P base d ds K e S H=eG P base ds K (e.put d.o.dst (.aH [])) S (if d.w then H++[S] else H):=(rfl)
def qcz{P:Program}{base:Nat}{d:D}{ds:List D}{K:af->List St->Prop}{e:af}{S:St}{H:List St}:FB (some true) P base d ds K e S H=eG P base ({ d with o:={ d.o with g:=none } }::ds) K e S H:=(rfl)
def qcR{P:Program}{base:Nat}{K:af->List St->Prop}{e:af}{S:St}{H:List St}:eG P base [] K e S H=K e H:=(rfl)
def qcQ{P:Program}{base:Nat}{dst:Option Nat}{g:Nat×Bool}{k:K}{wr:Bool}{sl:Option Nat}{ck:Bool}{an:List Nat}{lo hi:Nat}{ds:List D}{K:af->List St->Prop}{e:af}{S:St}{H:List St}:
  eG P base (⟨⟨dst,some g,k⟩,wr,sl,ck,an,lo,hi⟩::ds) K e S H=FB (ga e (some g)) P base ⟨⟨dst,some g,k⟩,wr,sl,ck,an,lo,hi⟩ ds K e S H:=by
 unfold FB
 cases h:ga e (some g) with
 |none=>simp only[eG,h]
 |some b=>cases b<;>simp only[eG,h]<;>rfl
def qcT{P:Program}{base:Nat}{dst:Option Nat}{k:K}{wr:Bool}{sl:Nat}{ck:Bool}{an:List Nat}{lo hi:Nat}{ds:List D}{K:af->List St->Prop}{e:af}{S:St}{H:List St}:
 eG P base (⟨⟨dst,none,k⟩,wr,some sl,ck,an,lo,hi⟩::ds) K e S H=eG P base ds K (e.put dst (.ptr (base+sl) 0 0 1)) S (if wr then H++[S] else H):=(rfl)
def qcP{P:Program}{base:Nat}{dst:Option Nat}{f:aV}{args:List aV}{wr:Bool}{ck:Bool}{an:List Nat}{lo hi:Nat}{ds:List D}{K:af->List St->Prop}{e:af}{S:St}{H:List St}:
 eG P base (⟨⟨dst,none,.call f args⟩,wr,none,ck,an,lo,hi⟩::ds) K e S H=SX (f.ev e) (iI e args) P base dst wr ds K e S H:=(rfl)
def qcS{P:Program}{base:Nat}{dst:Option Nat}{k:K}{wr:Bool}{ck:Bool}{an:List Nat}{lo hi:Nat}{ds:List D}{K:af->List St->Prop}{e:af}{S:St}{H:List St}(h:∀f args,k≠.call f args):
  eG P base (⟨⟨dst,none,k⟩,wr,none,ck,an,lo,hi⟩::ds) K e S H=SV (br e S k) P base dst wr ds K e H:=by
 cases k<;>first|rfl|exact absurd rfl (h _ _)
def qaV{P:Program}{ds:List D}{zs:List V}{Q:cM}{e:af}{S:St}:WP P (.draw ds zs) Q e S=eG P S.length ds (cU S.length ds (Q .normal)) e (S++fg zs) [S++fg zs]:=(rfl)
def qaW{P:Program}{ds:List D}{zs:List V}{o:O'}{Q:cM}{e:af}{S:St}:WP P (.wu ds zs o) Q e S=eG P S.length ds (cU S.length ds (uh P o Q .normal)) e (S++fg zs) [S++fg zs]:=(rfl)
def qf8{P:Program}{o:O'}{Q:cM}{e:af}{S:St}:uh P o Q .normal e S=dk P [o] (Q .normal) e S:=(rfl)
def iu{P:Program}{k:Nat}{args:List V}{S:St}{r:V}{Φ:V->St->Prop}(h:Fn P k args S r)(g:Φ r S):Fq P k args S Φ:=Ft h g
def qw{P:Program}{k:Nat}{args:List V}{S:St}{R:V->St->Prop}{Φ:V->St->Prop}(h:au P k args S R)(hi:∃v U,R v U)(g:∀v U,R v U->Φ v U):Fq P k args S Φ:=⟨R,h,hi,g⟩
def LK(ds:List D):Bool:=ds.all fun d=>!(d.chk&&!d.w)
def SA{base:Nat}{ef:af}{H:List St}:∀{ds:List D},LK ds=true->dx base ef H ds
 |[],_=>trivial
 |d::ds,h=>by
  simp only[LK,vG,bZ]at h;refine⟨?_,SA h.2⟩;have h1:=h.1
  cases hb:(d.chk&&!d.w) with
  |true=>rw[hb]at h1;cases h1
  |false=>rw[aj sM];trivial
def mg{base:Nat}{ds:List D}{Q:af->St->Prop}{ef:af}{H:List St}{S:St}(h:LK ds=true)(hl:H.getLast?=some S)(hq:Q ef S):cU base ds Q ef H:=by
 refine⟨SA h,?_⟩;rw[hl];exact hq
attribute [simp] qaV qaW qf8 qcG qcM qcO qcy qcz qcR qcQ qcT qcP qcS
def aD{rs:List RV}{R:V->Prop}{e:af}{S:St}{vs:List V}(h:dm e S rs=some vs:=by exact rfl)(u:(aK vs).under 0=true:=by exact rfl)(r:R (aK vs)):eH rs 0 (fun v U=>R v/\U=[]) .ret e S:=
 dB h r u
inductive Ex where
 |mk (kind op n man exp:Int) (text:Bz) (args:List Ex)
structure El where
 kind:Int
 ak:List Ex
structure Fo where
 name:Bz
 value:Bool
 spec:Int
 type:Int
mutual
inductive De where
 |mk (kind:Int) (own:Bool) (type:Int) (names:List Bz) (ak:List Ex) (aB:List Fo) (body:List Sm)
inductive Sm where
 |mk (labels:List Bz) (kind:Int) (text:Bz) (targets ak:List Ex) (elems:List El) (decls:List De) (body:List Sm)
end
namespace Ex
def kind:Ex->Int|mk k _ _ _ _ _ _=>k
def op:Ex->Int|mk _ o _ _ _ _ _=>o
def n:Ex->Int|mk _ _ n _ _ _ _=>n
def man:Ex->Int|mk _ _ _ m _ _ _=>m
def exp:Ex->Int|mk _ _ _ _ e _ _=>e
def text:Ex->Bz|mk _ _ _ _ _ t _=>t
def args:Ex->List Ex|mk _ _ _ _ _ _ a=>a
end Ex
namespace De
def kind:De->Int|mk k _ _ _ _ _ _=>k
def own:De->Bool|mk _ o _ _ _ _ _=>o
def type:De->Int|mk _ _ t _ _ _ _=>t
def names:De->List Bz|mk _ _ _ n _ _ _=>n
def ak:De->List Ex|mk _ _ _ _ e _ _=>e
def aB:De->List Fo|mk _ _ _ _ _ f _=>f
def body:De->List Sm|mk _ _ _ _ _ _ b=>b
end De
namespace Sm
def labels:Sm->List Bz|mk l _ _ _ _ _ _ _=>l
def kind:Sm->Int|mk _ k _ _ _ _ _ _=>k
def text:Sm->Bz|mk _ _ t _ _ _ _ _=>t
def targets:Sm->List Ex|mk _ _ _ t _ _ _ _=>t
def ak:Sm->List Ex|mk _ _ _ _ e _ _ _=>e
def elems:Sm->List El|mk _ _ _ _ _ e _ _=>e
def decls:Sm->List De|mk _ _ _ _ _ _ d _=>d
def body:Sm->List Sm|mk _ _ _ _ _ _ _ b=>b
end Sm
mutual
def Ex.v:Ex->V
 |.mk k o n m e t a=>.agg [.int .i64 k,.int .i64 o,.int .i64 n,.int .i64 m,.int .i64 e,.str t,.sl false (Ex.vl a)]
def Ex.vl:List Ex->List V
 |[]=>[]
 |x::l=>Ex.v x::Ex.vl l
end
def Ex.sZ:∀l:List Ex,Ex.vl l=l.map Ex.v
 |[]=>rfl
 |x::l=>by rw[Ex.vl,Ex.sZ l];rfl
def El.v(e:El):V:=.agg [.int .i64 e.kind,.sl false (e.ak.map Ex.v)]
def Fo.v(f:Fo):V:=.agg [.str f.name,.bool f.value,.int .i64 f.spec,.int .i64 f.type]
mutual
def De.v:De->V
 |.mk k o t n e f b=>.agg [.int .i64 k,.bool o,.int .i64 t,.sl false (n.map .str),.sl false (e.map Ex.v),.sl false (f.map Fo.v),.sl false (Sm.vl b)]
def Sm.v:Sm->V
 |.mk l k t g e f d b=>.agg [.sl false (l.map .str),.int .i64 k,.str t,.sl false (g.map Ex.v),.sl false (e.map Ex.v),.sl false (f.map El.v),.sl false (De.vl d),.sl false (Sm.vl b)]
def De.vl:List De->List V
 |[]=>[]
 |x::l=>De.v x::De.vl l
def Sm.vl:List Sm->List V
 |[]=>[]
 |x::l=>Sm.v x::Sm.vl l
end
def De.sZ:∀l:List De,De.vl l=l.map De.v
 |[]=>rfl
 |x::l=>by rw[De.vl,De.sZ l];rfl
def Sm.sZ:∀l:List Sm,Sm.vl l=l.map Sm.v
 |[]=>rfl
 |x::l=>by rw[Sm.vl,Sm.sZ l];rfl
def Ex.dJ(x:Ex):x.v=.agg [.int .i64 x.kind,.int .i64 x.op,.int .i64 x.n,.int .i64 x.man,.int .i64 x.exp,.str x.text,.sl false (x.args.map Ex.v)]:=by
 cases x;simp only[Ex.v,Ex.sZ];rfl
def De.dJ(d:De):d.v=.agg [.int .i64 d.kind,.bool d.own,.int .i64 d.type,.sl false (d.names.map .str),.sl false (d.ak.map Ex.v),.sl false (d.aB.map Fo.v),.sl false (d.body.map Sm.v)]:=by
 cases d;simp only[De.v,Sm.sZ];rfl
def Sm.dJ(s:Sm):s.v=.agg [.sl false (s.labels.map .str),.int .i64 s.kind,.str s.text,.sl false (s.targets.map Ex.v),.sl false (s.ak.map Ex.v),.sl false (s.elems.map El.v),.sl false (s.decls.map De.v),.sl false (s.body.map Sm.v)]:=by
 cases s;simp only[Sm.v,Sm.sZ,De.sZ];rfl
def Ex.eP(x:Ex):x.v.size=7:=by rw[Ex.dJ];rfl
theorem El.eP(x:El):x.v.size=2:=rfl
theorem Fo.eP(x:Fo):x.v.size=4:=rfl
def De.eP(x:De):x.v.size=7:=by rw[De.dJ];rfl
def Sm.eP(x:Sm):x.v.size=8:=by rw[Sm.dJ];rfl
def wQ{α:Type}{f:α->V}{sz:Nat}(hf:∀x,(f x).size=sz){l:List α}{i:Nat}(h:i<l.length)(b:Bool)(S:St):eJ S sz (.sl b (l.map f)) i=some (.bG (f l[i]) 0):=by
 simp[eJ,h,hf]
def mP{l:List Ex}{i:Nat}(h:i<l.length)(b:Bool)(S:St):eJ S 7 (.sl b (l.map Ex.v)) i=some (.bG (Ex.v l[i]) 0):=wQ Ex.eP h b S
def BZ{l:List El}{i:Nat}(h:i<l.length)(b:Bool)(S:St):eJ S 2 (.sl b (l.map El.v)) i=some (.bG (El.v l[i]) 0):=wQ El.eP h b S
def qO{l:List Fo}{i:Nat}(h:i<l.length)(b:Bool)(S:St):eJ S 4 (.sl b (l.map Fo.v)) i=some (.bG (Fo.v l[i]) 0):=wQ Fo.eP h b S
def wP{l:List De}{i:Nat}(h:i<l.length)(b:Bool)(S:St):eJ S 7 (.sl b (l.map De.v)) i=some (.bG (De.v l[i]) 0):=wQ De.eP h b S
def pY{l:List Sm}{i:Nat}(h:i<l.length)(b:Bool)(S:St):eJ S 8 (.sl b (l.map Sm.v)) i=some (.bG (Sm.v l[i]) 0):=wQ Sm.eP h b S
def qge(x:Ex)(S:St):ae S (.bG x.v 0) (some 7)=some x.v:=by simp[ae,V.part,Ex.eP,V.isAgg,Ex.dJ]
theorem qgd(x:El)(S:St):ae S (.bG x.v 0) (some 2)=some x.v:=rfl
theorem qgf(x:Fo)(S:St):ae S (.bG x.v 0) (some 4)=some x.v:=rfl
def qgc(x:De)(S:St):ae S (.bG x.v 0) (some 7)=some x.v:=by simp[ae,V.part,De.eP,V.isAgg,De.dJ]
def qgh(x:Sm)(S:St):ae S (.bG x.v 0) (some 8)=some x.v:=by simp[ae,V.part,Sm.eP,V.isAgg,Sm.dJ]
def jn{α:Type}{f:α->V}{l:List α}(h:∀x,x∈l->(f x).under 0=true):V.dj 0 (l.map f)=true:=NB fun v hv=>by
 obtain⟨x,hx,rfl⟩:=cE.1 hv;exact h x hx
mutual
theorem Ex.dA:∀x:Ex,x.v.under 0=true
 |.mk k o n m e t a=>by simp[Ex.v,V.under,V.dj,Ex.fZ a]
theorem Ex.fZ:∀l:List Ex,V.dj 0 (Ex.vl l)=true
 |[]=>rfl
 |x::l=>by simp[Ex.vl,V.dj,Ex.dA x,Ex.fZ l]
end
def El.dA(x:El):x.v.under 0=true:=by simp[El.v,V.under,V.dj,jn (f:=Ex.v) fun x _=>Ex.dA x]
theorem Fo.dA(x:Fo):x.v.under 0=true:=rfl
mutual
theorem De.dA:∀x:De,x.v.under 0=true
 |.mk k o t n e f b=>by simp[De.v,V.under,V.dj,jn (f:=Ex.v) fun x _=>Ex.dA x,jn (f:=Fo.v) fun x _=>Fo.dA x,jn (f:=V.str) (l:=n) fun x _=>rfl,Sm.fZ b]
theorem Sm.dA:∀x:Sm,x.v.under 0=true
 |.mk l k t g e f d b=>by simp[Sm.v,V.under,V.dj,jn (f:=Ex.v) fun x _=>Ex.dA x,jn (f:=El.v) fun x _=>El.dA x,jn (f:=V.str) (l:=l) fun x _=>rfl,De.fZ d,Sm.fZ b]
theorem De.fZ:∀l:List De,V.dj 0 (De.vl l)=true
 |[]=>rfl
 |x::l=>by simp[De.vl,V.dj,De.dA x,De.fZ l]
theorem Sm.fZ:∀l:List Sm,V.dj 0 (Sm.vl l)=true
 |[]=>rfl
 |x::l=>by simp[Sm.vl,V.dj,Sm.dA x,Sm.fZ l]
end
def fZ{α:Type}{f:α->V}(h:∀x,(f x).under 0=true)(b:Bool)(l:List α):(V.sl b (l.map f)).under 0=true:=by
 simp only[V.under];exact jn fun x _=>h x
def Nw(b:Bool)(l:List Bz):(V.sl b (l.map .str)).under 0=true:=fZ (fun _=>rfl) b l
attribute [simp] Ex.eP El.eP Fo.eP De.eP Sm.eP Ex.dA El.dA Fo.dA De.dA Sm.dA fZ Nw qge qgd qgf qgc qgh
def aR:Nat:=1125899906842624
mutual
def Ex.ok:Ex->Prop
 |.mk _ _ _ _ _ t a=>t.size<=aR/\a.length<=aR/\Ex.bR a
def Ex.bR:List Ex->Prop
 |[]=>True
 |x::l=>Ex.ok x/\Ex.bR l
end
def Ex.gW:∀{l:List Ex},Ex.bR l->∀x,x∈l->x.ok
 |[],_,x,h=>by cases h
 |y::l,⟨h1,h2⟩,x,h=>by
  rcases cX.1 h with rfl| h
  .exact h1
  .exact Ex.gW h2 x h
def Ex.CZ{x:Ex}(h:x.ok):x.args.length<=aR/\Ex.bR x.args:=by cases x;exact⟨h.2.1,h.2.2⟩
def Ex.VW{x:Ex}(h:x.ok):x.text.size<=aR:=by cases x;exact h.1
def El.ok(e:El):Prop:=e.ak.length<=aR/\Ex.bR e.ak
def qY(l:List Bz):Prop:=l.length<=aR/\∀s,s∈l->s.size<=aR
def Fo.ok(f:Fo):Prop:=f.name.size<=aR
mutual
def De.ok:De->Prop
 |.mk _ _ _ n e f b=>qY n/\(e.length<=aR/\Ex.bR e)/\(f.length<=aR/\∀x,x∈f->Fo.ok x)/\b.length<=aR/\Sm.bR b
def Sm.ok:Sm->Prop
 |.mk l _ t g e f d b=>qY l/\t.size<=aR/\(g.length<=aR/\Ex.bR g)/\(e.length<=aR/\Ex.bR e)/\(f.length<=aR/\∀x,x∈f->El.ok x)/\(d.length<=aR/\De.bR d)/\b.length<=aR/\Sm.bR b
def De.bR:List De->Prop
 |[]=>True
 |x::l=>De.ok x/\De.bR l
def Sm.bR:List Sm->Prop
 |[]=>True
 |x::l=>Sm.ok x/\Sm.bR l
end
def De.gW:∀{l:List De},De.bR l->∀x,x∈l->x.ok
 |[],_,x,h=>by cases h
 |y::l,h,x,hx=>by
  simp only[De.bR]at h;rcases cX.1 hx with rfl|hx
  .exact h.1
  .exact De.gW h.2 x hx
def Sm.gW:∀{l:List Sm},Sm.bR l->∀x,x∈l->x.ok
 |[],_,x,h=>by cases h
 |y::l,h,x,hx=>by
  simp only[Sm.bR]at h;rcases cX.1 hx with rfl|hx
  .exact h.1
  .exact Sm.gW h.2 x hx
structure De.Ok(d:De):Prop where
 names:qY d.names
 ak:d.ak.length<=aR/\Ex.bR d.ak
 aB:d.aB.length<=aR/\∀x,x∈d.aB->Fo.ok x
 body:d.body.length<=aR/\Sm.bR d.body
def De.ep(d:De):d.ok↔d.Ok:=by
 cases d;simp only[De.ok];exact⟨fun⟨a,b,c,e,f⟩=>⟨a,b,c,e,f⟩,fun⟨a,b,c,e⟩=>⟨a,b,c,e.1,e.2⟩⟩
structure Sm.Ok(s:Sm):Prop where
 labels:qY s.labels
 text:s.text.size<=aR
 targets:s.targets.length<=aR/\Ex.bR s.targets
 ak:s.ak.length<=aR/\Ex.bR s.ak
 elems:s.elems.length<=aR/\∀x,x∈s.elems->El.ok x
 decls:s.decls.length<=aR/\De.bR s.decls
 body:s.body.length<=aR/\Sm.bR s.body
def Sm.ep(s:Sm):s.ok↔s.Ok:=by
 cases s;simp only[Sm.ok];exact⟨fun⟨a,b,c,e,f,g,h,i⟩=>⟨a,b,c,e,f,g,h,i⟩,fun⟨a,b,c,e,f,g,h⟩=>⟨a,b,c,e,f,g,h.1,h.2⟩⟩
mutual
def Ex.left:Ex->Int->Int->Int
 |.mk _ _ _ _ _ _ a,deep,n=>if deep+1 > 40 then 0 else Ex.leftG a (deep+1) (n-1)
def Ex.leftG:List Ex->Int->Int->Int
 |[],_,n=>n
 |x::l,deep,n=>if n > 0 then Ex.leftG l deep (Ex.left x deep n) else n
end
def Ex.cZ(l:List Ex)(deep n:Int):Int:=if deep > 40 then 0 else Ex.leftG l deep n
def Ex.left_eq(x:Ex)(deep n:Int):x.left deep n=Ex.cZ x.args (deep+1) (n-1):=by cases x;rw[Ex.left];rfl
mutual
theorem Ex.left_le:∀(x:Ex) (deep n:Int),0<n->x.left deep n<=n-1/\0<=x.left deep n
 |.mk _ _ _ _ _ _ a,deep,n,h=>by
  rw[Ex.left];split
  .omega
  .exact Ex.Lc a _ _ oM
theorem Ex.Lc:∀(l:List Ex) (deep n:Int),0<=n->Ex.leftG l deep n<=n/\0<=Ex.leftG l deep n
 |[],_,n,h=>⟨Int.le_refl _,h⟩
 |x::l,deep,n,h=>by
  rw[Ex.leftG];split
  .rename_i h0;have h1:=Ex.left_le x deep n h0;have h2:=Ex.Lc l deep (x.left deep n) h1.2;omega
  .omega
end
def Ex.qd:∀(l:List Ex) (deep n:Int),n<=0->Ex.leftG l deep n=n
 |[],_,n,_=>rfl
 |x::l,deep,n,h=>by rw[Ex.leftG,aj oM]
def Ex.qgm(l:List Ex)(deep n:Int)(h:0<=n):Ex.cZ l deep n<=n/\0<=Ex.cZ l deep n:=by
 unfold Ex.cZ;split
 .omega
 .exact Ex.Lc l deep n h
mutual
def De.left:De->Int->Int->Int
 |.mk _ _ _ nm e f b,deep,n=>Sm.leftG b (deep+1) (Ex.cZ e (deep+1) (n-1-nm.length-f.length))
def Sm.left:Sm->Int->Int->Int
 |.mk l _ _ g e f d b,deep,n=>if deep > 30 then 0 else
  Sm.leftG b (deep+1) (De.leftG d deep (El.leftG f deep (Ex.cZ g (deep+1) (Ex.cZ e (deep+1) (n-1-l.length)))))
def De.leftG:List De->Int->Int->Int
 |[],_,n=>n
 |x::l,deep,n=>if n > 0 then De.leftG l deep (De.left x deep n) else n
def Sm.leftG:List Sm->Int->Int->Int
 |[],_,n=>n
 |x::l,deep,n=>if n > 0 then Sm.leftG l deep (Sm.left x deep n) else n
def El.leftG:List El->Int->Int->Int
 |[],_,n=>n
 |x::l,deep,n=>if n > 0 then El.leftG l deep (Ex.cZ x.ak (deep+1) (n-1)) else n
end
mutual
def V.weak:V->V
 |.sl _ xs=>.sl false (V.cr xs)
 |.agg cs=>.agg (V.cr cs)
 |.aH cs=>.aH (V.cr cs)
 |v=>v
def V.cr:List V->List V
 |[]=>[]
 |v::vs=>V.weak v::V.cr vs
end
def iM:∀vs:List V,V.cr vs=vs.map V.weak
 |[]=>rfl
 |v::vs=>by simp only[V.cr,b9,iM vs]
def qaj(v:V):v.weak.cells=v.cells.map V.weak:=by
 cases v<;>simp[V.weak,V.cells,iM]
def VR.weak{E:En}{v:V}{u:Value}(r:VR E v u):VR E v.weak u:=by
 induction r with
 |slnil x=>exact .slnil _
 |kL x a=>exact .kL _ a
 |@sl x xs b o cap sz hc hx hs hI hv ih=>
  simp only[V.weak,iM];have hl:(xs.map V.weak).length=xs.length:=by simp
  rw[<-hl];refine .sl (sz:=sz) (by simpa using hc) sM (fun v hv=>?_) (fun i j hi hj=>hI i j (by simpa using hi) hj) (fun i v j c' c h1 h2 h3=>?_)
  .obtain⟨y,hy,rfl⟩:=cE.1 hv;rw[qaj,bu];exact hs y hy
  .rw[dS]at h1;obtain⟨y,hy,rfl⟩:=dL.1 h1;rw[qaj,dS]at h2;obtain⟨d,hd,rfl⟩:=dL.1 h2;exact ih i y j d c hy hd h3
 |agg hl _ ih=>
  simp only[V.weak,iM];refine .agg (by simpa using hl) fun i v u h1 h2=>?_
  rw[dS]at h1;obtain⟨y,hy,rfl⟩:=dL.1 h1;exact ih i y u hy h2
 |aH hl _ ih=>
  simp only[V.weak,iM];refine .aH (by simpa using hl) fun i v u h1 h2=>?_
  rw[dS]at h1;obtain⟨y,hy,rfl⟩:=dL.1 h1;exact ih i y u hy h2
 |top u=>exact .top u
 |bool b=>exact .bool b
 |int k n=>exact .int k n
 |str s=>exact .str s
 |bF=>exact .bF
 |ptr i off hr=>exact .ptr i off hr
 |cL g off=>exact .cL g off
 |bG off hI hv _=>exact .bG off hI hv
 |arr hr hN hc=>exact .arr hr hN hc
 |cG=>exact .cG
 |map hr=>exact .map hr
 |fn h1 h2 g1 g2 _ _=>exact .fn h1 h2 g1 g2
 |bB=>exact .bB
 |iface t h _=>exact .iface t h
 |dr=>exact .dr
 |cj hr=>exact .cj hr
def pM.weak{E:En}{vs:List V}{us:Array Value}(h:pM E vs us):pM E (V.cr vs) us:=by
 rw[iM];refine⟨by simpa using h.1,fun i v u h1 h2=>?_⟩;rw[dS]at h1;obtain⟨y,hy,rfl⟩:=dL.1 h1;exact(h.2 i y u hy h2).weak
def au.vn{P:Program}{f:FuncId}{args:List V}{S:St}{R:V->St->Prop}(h:au P f (V.cr args) S R):au P f args S R:=
 ⟨h.1,fun E w us n hs hv=>h.2 E w us n hs hv.weak⟩
def cK.weak{n:Nat}{r:V}{S:St}:cK n r S r.weak S:=fun E w u hs hr hn=>⟨E,hr.weak,hs,Ext.refl _ _ _ _,hn⟩
inductive Pa where
 |st (s:Sm)
 |de (d:De)
 |el (e:El)
 |ex (x:Ex)
namespace Pa
def kids:Pa->List Pa
 |.st s=>s.targets.map .ex++(s.ak.map .ex++(s.elems.map .el++(s.decls.map .de++s.body.map .st)))
 |.de d=>d.ak.map .ex++d.body.map .st
 |.el e=>e.ak.map .ex
 |.ex x=>x.args.map .ex
def own:Pa->Nat
 |.st s=>1+s.labels.length
 |.de d=>1+d.names.length+d.aB.length
 |_=>1
def wt:Pa->Nat
 |.st s=>SizeOf.sizeOf s
 |.de d=>SizeOf.sizeOf d
 |.el e=>SizeOf.sizeOf e
 |.ex x=>SizeOf.sizeOf x
def ok:Pa->Prop
 |.st s=>s.ok
 |.de d=>d.ok
 |.el e=>e.ok
 |.ex x=>x.ok
end Pa
def Pa.qR{p q:Pa}(h:q∈p.kids):q.wt<p.wt:=by
 cases p with
 |st s=>
  cases s;simp only[Pa.kids,cC,cE,Sm.targets,Sm.ak,Sm.elems,Sm.decls,Sm.body]at h;rcases h with ⟨x,hx,rfl⟩|⟨x,hx,rfl⟩|⟨x,hx,rfl⟩|⟨x,hx,rfl⟩|⟨x,hx,rfl⟩
  all_goals
   have:=tJ hx
   simp only[Pa.wt,Sm.mk.sizeOf_spec];omega
 |de d=>
  cases d;simp only[Pa.kids,cC,cE,De.ak,De.body]at h;rcases h with ⟨x,hx,rfl⟩|⟨x,hx,rfl⟩
  all_goals
   have:=tJ hx
   simp only[Pa.wt,De.mk.sizeOf_spec];omega
 |el e=>
  cases e;simp only[Pa.kids,cE]at h;obtain⟨x,hx,rfl⟩:=h;have:=tJ hx;simp only[Pa.wt,El.mk.sizeOf_spec];omega
 |ex x=>
  cases x;simp only[Pa.kids,cE,Ex.args]at h;obtain⟨x,hx,rfl⟩:=h;have:=tJ hx;simp only[Pa.wt,Ex.mk.sizeOf_spec];omega
def Pa.wV{p q:Pa}(hp:p.ok)(h:q∈p.kids):q.ok:=by
 cases p with
 |st s=>
  have hs:=(Sm.ep s).1 hp;simp only[Pa.kids,cC,cE]at h;rcases h with ⟨x,hx,rfl⟩|⟨x,hx,rfl⟩|⟨x,hx,rfl⟩|⟨x,hx,rfl⟩|⟨x,hx,rfl⟩
  .exact Ex.gW hs.targets.2 x hx
  .exact Ex.gW hs.ak.2 x hx
  .exact hs.elems.2 x hx
  .exact De.gW hs.decls.2 x hx
  .exact Sm.gW hs.body.2 x hx
 |de d=>
  have hs:=(De.ep d).1 hp;simp only[Pa.kids,cC,cE]at h;rcases h with ⟨x,hx,rfl⟩|⟨x,hx,rfl⟩
  .exact Ex.gW hs.ak.2 x hx
  .exact Sm.gW hs.body.2 x hx
 |el e=>
  simp only[Pa.kids,cE]at h;obtain⟨x,hx,rfl⟩:=h;exact Ex.gW hp.2 x hx
 |ex x=>
  simp only[Pa.kids,cE]at h;obtain⟨y,hy,rfl⟩:=h;exact Ex.gW (Ex.CZ hp).2 y hy
def Sm.cs(s:Sm):List V:=[.sl false (s.labels.map .str),.int .i64 s.kind,.str s.text,.sl false (s.targets.map Ex.v),.sl false (s.ak.map Ex.v),.sl false (s.elems.map El.v),.sl false (s.decls.map De.v),.sl false (s.body.map Sm.v)]
def De.cs(d:De):List V:=[.int .i64 d.kind,.bool d.own,.int .i64 d.type,.sl false (d.names.map .str),.sl false (d.ak.map Ex.v),.sl false (d.aB.map Fo.v),.sl false (d.body.map Sm.v)]
def El.cs(e:El):List V:=[.int .i64 e.kind,.sl false (e.ak.map Ex.v)]
def Ex.cs(x:Ex):List V:=[.int .i64 x.kind,.int .i64 x.op,.int .i64 x.n,.int .i64 x.man,.int .i64 x.exp,.str x.text,.sl false (x.args.map Ex.v)]
def Sm.z:Sm:=.mk [] 0 ⟨⟨[]⟩⟩ [] [] [] [] []
def De.z:De:=.mk 0 false 0 [] [] [] []
def El.z:El:=⟨0,[]⟩
def Ex.z:Ex:=.mk 0 0 0 0 0 ⟨⟨[]⟩⟩ []
def fO(k:Int)(s:Sm)(d:De)(e:El)(x:Ex):V:=.agg (.int .i64 k::(s.cs++(d.cs++(e.cs++x.cs))))
namespace Pa
def kind:Pa->Int
 |.st _=>1|.de _=>2|.el _=>3|.ex _=>4
def toS:Pa->Sm|.st s=>s|_=>Sm.z
def ij:Pa->De|.de s=>s|_=>De.z
def je:Pa->El|.el s=>s|_=>El.z
def jf:Pa->Ex|.ex s=>s|_=>Ex.z
def v(p:Pa):V:=fO p.kind p.toS p.ij p.je p.jf
end Pa
def V4(k:Int)(s:Sm)(d:De)(e:El)(x:Ex):(fO k s d e x).under 0=true:=by
 simp only[fO,Sm.cs,De.cs,El.cs,Ex.cs,V.under,V.dj,cP,eK,bZ,Bool.and_true,l8];simp only[jn fun x _=>Ex.dA x,jn fun x _=>El.dA x,jn fun x _=>De.dA x,jn fun x _=>Sm.dA x,jn fun x _=>Fo.dA x,jn (f:=V.str) fun x _=>rfl,and_self]
def Pa.dA(p:Pa):p.v.under 0=true:=V4 _ _ _ _ _
theorem Pa.eP(p:Pa):p.v.size=25:=rfl
namespace Pa
def size(p:Pa):Nat:=p.own+((p.kids.attach.map fun q=>q.1.size)).sum
termination_by p.wt
decreasing_by exact Pa.qR q.2
def depth(p:Pa):Nat:=1+((p.kids.attach.map fun q=>q.1.depth)).foldr max 0
termination_by p.wt
decreasing_by exact Pa.qR q.2
end Pa
def aY(l:List Pa):Nat:=(l.map Pa.size).sum
def gJ(l:List Pa):Nat:=(l.map Pa.depth).foldr max 0
def Pa.size_eq(p:Pa):p.size=p.own+aY p.kids:=by
 rw[Pa.size,aY];congr 2;exact List.attach_map_val (f:=Pa.size) ..
def Pa.yD(p:Pa):p.depth=1+gJ p.kids:=by
 rw[Pa.depth,gJ];congr 2;exact List.attach_map_val (f:=Pa.depth) ..
@[simp] theorem qnL:aY []=0:=rfl
@[simp] theorem fq(p:Pa)(l:List Pa):aY (p::l)=p.size+aY l:=by simp[aY]
@[simp] theorem qm6:gJ []=0:=rfl
@[simp] theorem FA(p:Pa)(l:List Pa):gJ (p::l)=max p.depth (gJ l):=by simp[gJ]
def Pa.uG(p:Pa):1<=p.own:=by cases p<;>simp[Pa.own]<;>omega
def Pa.size_pos(p:Pa):1<=p.size:=by rw[Pa.size_eq];have:=p.uG;omega
def Pa.SE(p:Pa):1<=p.depth:=by rw[Pa.yD];omega
def jm:∀l:List Pa,l.length<=aY l
 |[]=>eL _
 |p::l=>by have:=jm l;have:=p.size_pos;simp only[eE,fq];omega
def Ex.named(k:Int):Bool:=k==6||k==7||k==8
def Pa.fits(p:Pa):Prop:=p.size<=2000/\p.depth<=60
instance (p:Pa):Decidable p.fits:=inferInstanceAs (Decidable (_/\_))
def Pa.G2{p:Pa}(h:p.ok):p.own<=1+aR+aR:=by
 cases p with
 |st s=>have:=((Sm.ep s).1 h).labels.1;simp only[Pa.own];omega
 |de d=>have:=((De.ep d).1 h).names.1;have:=((De.ep d).1 h).aB.1;simp only[Pa.own];omega
 |el e=>simp only[Pa.own];omega
 |ex e=>simp only[Pa.own];omega
def jY(m:Int):Int:=if m<0 then IntKind.i64.wrap (-m) else m
def pa(man exp:Int):Bool:=decide (man=0/\exp=0)||(decide (1<=jY man/\jY man<16777216)&&(decide (exp=-150)||(decide (8388608<=jY man)&&decide (-150<exp/\exp<=150))))
def qj(b:UInt8):Bool:=decide (32<=b.toNat/\b.toNat<=126/\b.toNat≠34)
def sy(s:Bz):Bool:=s.data.toList.all qj&&decide (s.size<=80)
def e9(t:Bz):Bool:=decide (t.size=0)
def Ex.aQ(nm:Bz->Bool):Ex->Bool
 |.mk k o n m e t a=>
  if k=1 then decide (0<=n/\n<=2147483647)&&decide (a.length=0)&&decide (o=0)&&(decide (m=0)&&decide (e=0))&&e9 t
  else if k=2 then pa m e&&decide (0<=m)&&decide (a.length=0)&&decide (o=0)&&decide (n=0)&&e9 t
  else if k=3\/k=4 then decide (a.length=0)&&decide (o=0)&&decide (n=0)&&(decide (m=0)&&decide (e=0))&&e9 t
  else if k=5 then sy t&&decide (a.length=0)&&decide (o=0)&&decide (n=0)&&(decide (m=0)&&decide (e=0))
  else if k=6 then nm t&&decide (a.length=0)&&decide (o=0)&&decide (n=0)&&(decide (m=0)&&decide (e=0))
  else if k=7 then nm t&&decide (1<=a.length/\a.length<=4)&&decide (o=0)&&decide (n=0)&&(decide (m=0)&&decide (e=0))
  else if k=8 then nm t&&decide (1<=a.length/\a.length<=8)&&decide (o=0)&&decide (n=0)&&(decide (m=0)&&decide (e=0))
  else if k=9 then decide (o=1\/o=2)&&decide (a.length=1)&&decide (n=0)&&(decide (m=0)&&decide (e=0))&&e9 t
  else if k=10 then decide (3<=o/\o<=18)&&decide (a.length=2)&&decide (n=0)&&(decide (m=0)&&decide (e=0))&&e9 t
  else if k=11 then decide (a.length=3)&&decide (o=0)&&decide (n=0)&&(decide (m=0)&&decide (e=0))&&e9 t
  else false
def El.aQ(e:El):Bool:=(decide (e.kind=1)&&decide (e.ak.length=1))||(decide (e.kind=2)&&decide (e.ak.length=3))||(decide (e.kind=3)&&decide (e.ak.length=2))
def Fo.aQ(nm:Bz->Bool)(f:Fo):Bool:=nm f.name &&
 (if f.spec=0∨f.spec=3∨f.spec=4∨f.spec=5 then decide (f.type=0) && !f.value
  else if f.spec=1 then decide (1<=f.type/\f.type<=3)
  else if f.spec=2 then decide (0<=f.type/\f.type<=3)&&(!f.value||decide (f.type≠0))
  else if f.spec=6 then decide (0<=f.type/\f.type<=3)&&!f.value
  else false)
def dH(nm:Bz->Bool):List Fo->List Bz->Bool
 |[],_=>true
 |f::l,had=>f.aQ nm&&!(had.any fun x=>decide (x=f.name))&&dH nm l (had++[f.name])
def De.aQ(nm:Bz->Bool):De->Bool
 |.mk k o t n e f b=>n.all nm &&
  (if k=1 then decide (1≤n.length) && decide (e.length=0) && decide (f.length=0) && decide (b.length=0) && decide (1≤t∧t≤3)
   else if k=2 then decide (1<=n.length)&&decide (2<=e.length/\e.length<=8)&&decide (e.length%2=0)&&decide (f.length=0)&&decide (b.length=0)&&decide (1<=t/\t<=3)
   else if k=3 then decide (n.length=1)&&decide (1<=e.length)&&decide (f.length=0)&&decide (b.length=0)&&!o&&decide (t=0)
   else if k=4 then decide (n.length=1)&&decide (e.length=0)&&decide (b.length=1)&&decide (f.length<=8)&&!o&&decide (0<=t/\t<=3)&&dH nm f []
   else false)
def Ex.tgt(x:Ex):Bool:=decide (x.kind=6\/x.kind=7)
def Sm.jc:List Sm->Bool
 |[]=>false
 |s::_=>decide (s.kind≠4/\s.kind≠5)
def Sm.aQ(nm:Bz->Bool):Sm->Bool
 |.mk l k t g e h d b=>l.all nm&&g.all Ex.tgt &&
  (if k=1 then decide (g.length=0) && decide (e.length=0) && decide (h.length=0) && decide (d.length=0) && decide (b.length=0) && e9 t
   else if k=2 then decide (1<=g.length)&&decide (e.length=1)&&decide (h.length=0)&&decide (d.length=0)&&decide (b.length=0)&&e9 t
   else if k=3 then decide (g.length=0)&&decide (e.length=1)&&decide (h.length=0)&&decide (d.length=0)&&decide (b.length=0)&&e9 t
   else if k=4 then decide (g.length=0)&&decide (e.length=1)&&decide (h.length=0)&&decide (d.length=0)&&decide (1<=b.length/\b.length<=2)&&e9 t&&Sm.jc b
   else if k=5 then decide (g.length=1)&&decide (e.length=0)&&decide (1<=h.length)&&decide (d.length=0)&&decide (b.length=1)&&e9 t
   else if k=6 then decide (g.length=0)&&decide (e.length<=8)&&decide (h.length=0)&&decide (d.length=0)&&decide (b.length=0)&&nm t
   else if k=7 then decide (g.length=0)&&decide (e.length=0)&&decide (h.length=0)&&decide (1<=d.length)&&decide (1<=b.length)&&e9 t
   else if k=8 then decide (g.length=0)&&decide (e.length=0)&&decide (h.length=0)&&decide (d.length=0)&&decide (1<=b.length)&&e9 t
   else false)
def Pa.aQ(nm:Bz->Bool):Pa->Bool
 |.st s=>s.aQ nm
 |.de d=>d.aQ nm
 |.el e=>e.aQ
 |.ex x=>x.aQ nm
def Pa.valid(nm:Bz->Bool)(p:Pa):Bool:=p.aQ nm&&(p.kids.attach.all fun q=>q.1.valid nm)
termination_by p.wt
decreasing_by exact Pa.qR q.2
def Pa.valid_eq(nm:Bz->Bool)(p:Pa):p.valid nm=(p.aQ nm&&p.kids.all (Pa.valid nm)):=by
 rw[Pa.valid];congr 1;rw[dq,d6,d6];exact⟨fun h q hq=>h ⟨q,hq⟩ (List.mem_attach _ _),fun h q _=>h q.1 q.2⟩
def Pa.eQ{nm:Bz->Bool}{p:Pa}:p.valid nm=true↔p.aQ nm=true/\∀q,q∈p.kids->q.valid nm=true:=by
 rw[Pa.valid_eq,bZ,d6]
def Pa.err(nm:Bz->Bool)(p:Pa):Int:=if p.fits then(if p.valid nm=true then 0 else 1) else 2
def Ex.xX{nm:Bz->Bool}{x:Ex}(h:(Pa.ex x).valid nm=true):∀y,y∈x.args->(Pa.ex y).valid nm=true:=fun y hy=>(Pa.eQ.1 h).2 _ (by simp only[Pa.kids,cE];exact⟨y,hy,rfl⟩)
def Ex.vm{nm:Bz->Bool}{x:Ex}(h:(Pa.ex x).valid nm=true)(hk:Ex.named x.kind=true):nm x.text=true:=by
 have h1:=(Pa.eQ.1 h).1
 cases x with
 |mk k o n m e t a=>
  simp only[Ex.kind,Ex.text]at *;simp only[Pa.aQ,Ex.aQ]at h1;have hk:k=6\/k=7\/k=8:=by simpa[Ex.named,or_assoc]using hk
  rcases hk with rfl|rfl|rfl<;>simp at h1<;>simp[h1]
abbrev bw:=List (Bz×Nat)
abbrev ag:=List bw
def bw.at(s:bw)(x:Bz):Option Nat:=(s.find? fun p=>decide (p.1=x)).map (·.2)
def ag.at:ag->Bz->Option Nat
 |[],_=>none
 |s::r,x=>match bw.at s x with
  |some k=>some k
  |none=>ag.at r x
def binds:List Bz->bw->Nat->bw
 |[],s,_=>s
 |x::l,s,n=>if(s.at x).isSome then binds l s n else binds l (s++[(x,n)]) (n+1)
def ah(l:List Bz)(n:Nat):bw:=binds l [] n
def bq(l:List Sm):List Bz:=l.flatMap Sm.labels
def bM(d:List De)(b:List Sm):List Bz:=d.flatMap De.names++bq b
def dt(f:Nat->Bz)(sc:ag)(x:Bz):Bz:=match sc.at x with
 |some k=>f k
 |none=>x
mutual
def Ex.w(f:Nat->Bz)(sc:ag):Ex->Ex
 |.mk k o n m e t a=>.mk k o n m e (if Ex.named k then dt f sc t else t) (Ex.wl f sc a)
def Ex.wl(f:Nat->Bz)(sc:ag):List Ex->List Ex
 |[]=>[]
 |x::l=>Ex.w f sc x::Ex.wl f sc l
end
def Ex.jM(f:Nat->Bz)(sc:ag):∀l,Ex.wl f sc l=l.map (Ex.w f sc)
 |[]=>rfl
 |x::l=>by rw[Ex.wl,Ex.jM f sc l];rfl
def El.w(f:Nat->Bz)(sc:ag)(e:El):El:=⟨e.kind,e.ak.map (Ex.w f sc)⟩
def Fo.w(f:Nat->Bz)(sc:ag)(x:Fo):Fo:=⟨dt f sc x.name,x.value,x.spec,x.type⟩
mutual
def Sm.nb:Sm->Nat
 |.mk _ k _ _ _ _ d b=>if k=7 then(ah (bM d b) 0).length+De.aJ d+Sm.aJ b else if k=8 then(ah (bq b) 0).length+Sm.aJ b else Sm.aX b
def De.nb:De->Nat
 |.mk k _ _ _ _ f b=>if k=4 then(ah (f.map Fo.name) 0).length+Sm.aX b else 0
def De.aJ:List De->Nat
 |[]=>0
 |x::l=>De.nb x+De.aJ l
def Sm.aJ:List Sm->Nat
 |[]=>0
 |x::l=>Sm.nb x+Sm.aJ l
def Sm.aX:List Sm->Nat
 |[]=>0
 |x::l=>(ah x.labels 0).length+Sm.nb x+Sm.aX l
end
mutual
def Sm.w(f:Nat->Bz)(sc:ag)(n:Nat):Sm->Sm
 |.mk l k t g e h d b=>
  if k=7 then
   .mk (l.map (dt f sc)) k t [] [] [] (De.wl f (ah (bM d b) n::sc) sc (n+(ah (bM d b) n).length) d) (Sm.wl f (ah (bM d b) n::sc) (n+(ah (bM d b) n).length+De.aJ d) b)
  else if k=8 then
   .mk (l.map (dt f sc)) k t [] [] [] [] (Sm.wl f (ah (bq b) n::sc) (n+(ah (bq b) n).length) b)
  else .mk (l.map (dt f sc)) k (if k=6 then dt f sc t else t) (Ex.wl f sc g) (Ex.wl f sc e) (h.map (El.w f sc)) [] (Sm.w1 f sc n b)
def De.w(f:Nat->Bz)(own sc:ag)(n:Nat):De->De
 |.mk k o t nm e fo b=>
  if k=4 then .mk k o t (nm.map (dt f own)) [] (fo.map (Fo.w f (ah (fo.map Fo.name) n::own))) (Sm.w1 f (ah (fo.map Fo.name) n::own) (n+(ah (fo.map Fo.name) n).length) b)
  else .mk k o t (nm.map (dt f own)) (Ex.wl f (if k=2 then sc else own) e) [] []
def De.wl(f:Nat->Bz)(own sc:ag)(n:Nat):List De->List De
 |[]=>[]
 |x::l=>De.w f own sc n x::De.wl f own sc (n+De.nb x) l
def Sm.wl(f:Nat->Bz)(sc:ag)(n:Nat):List Sm->List Sm
 |[]=>[]
 |x::l=>Sm.w f sc n x::Sm.wl f sc (n+Sm.nb x) l
def Sm.w1(f:Nat->Bz)(sc:ag)(n:Nat):List Sm->List Sm
 |[]=>[]
 |x::l=>Sm.w f (ah x.labels n::sc) (n+(ah x.labels n).length) x::Sm.w1 f sc (n+(ah x.labels n).length+Sm.nb x) l
end
def Sm.whole(f:Nat->Bz)(s:Sm):Sm:=s.w f [ah s.labels 0] (ah s.labels 0).length
def pf:∀(l m:List Pa),aY (l++m)=aY l+aY m
 |[],m=>by simp
 |p::l,m=>by simp only[cP,fq,pf l m];omega
def Bj:∀(l m:List Pa),gJ (l++m)=max (gJ l) (gJ m)
 |[],m=>by simp
 |p::l,m=>by simp only[cP,FA,Bj l m];omega
def Pa.le(p q:Pa):Prop:=p.size<=q.size/\p.depth<=q.depth
def Pa.qgl{p q:Pa}(ho:p.own<=q.own)(hs:aY p.kids<=aY q.kids)(hd:gJ p.kids<=gJ q.kids):p.le q:=by
 unfold Pa.le;rw[Pa.size_eq,Pa.size_eq q,Pa.yD,Pa.yD q];omega
def mS(l m:List Pa):Prop:=aY l<=aY m/\gJ l<=gJ m
def my(m:List Pa):mS [] m:=⟨eL _,eL _⟩
def mT{a b c d:List Pa}(h:mS a b)(g:mS c d):mS (a++c) (b++d):=by
 unfold mS at *;rw[pf,pf,Bj,Bj];omega
def CM{p q:Pa}{l m:List Pa}(h:p.le q)(g:mS l m):mS (p::l) (q::m):=by
 unfold mS Pa.le at *;rw[fq,fq,FA,FA];omega
def Pa.wY{p q:Pa}(ho:p.own<=q.own)(h:mS p.kids q.kids):p.le q:=Pa.qgl ho h.1 h.2
mutual
theorem Ex.og(f:Nat->Bz)(sc:ag):∀x:Ex,(Pa.ex (x.w f sc)).le (.ex x)
 |.mk k o n m e t a=>Pa.wY bL (by simp only[Ex.w,Pa.kids,Ex.args];exact Ex.oh f sc a)
theorem Ex.oh(f:Nat->Bz)(sc:ag):∀l:List Ex,mS ((Ex.wl f sc l).map Pa.ex) (l.map Pa.ex)
 |[]=>my _
 |x::l=>CM (Ex.og f sc x) (Ex.oh f sc l)
end
def El.og(f:Nat→Bz)(sc:ag)(e:El):(Pa.el (e.w f sc)).le (.el e):=Pa.wY bL (by
 have:=Ex.oh f sc e.ak;rw[Ex.jM]at this;exact this)
def QH.og(f:Nat->Bz)(sc:ag):∀l:List El,mS ((l.map (El.w f sc)).map Pa.el) (l.map Pa.el)
 |[]=>my _
 |x::l=>CM (El.og f sc x) (QH.og f sc l)
mutual
theorem Sm.og(f:Nat->Bz):∀(s:Sm) (sc:ag) (n:Nat),(Pa.st (s.w f sc n)).le (.st s)
 |.mk l k t g e h d b,sc,n=>by
  simp only[Sm.w];split
  .refine Pa.wY (by simp[Pa.own,Sm.labels]) ?_;simp only[Pa.kids,Sm.targets,Sm.ak,Sm.elems,Sm.decls,Sm.body,jj];exact mT (my _) (mT (my _) (mT (my _) (mT (De.oh f d _ _ _) (Sm.oh f b _ _))))
  .split
   .refine Pa.wY (by simp[Pa.own,Sm.labels]) ?_;simp only[Pa.kids,Sm.targets,Sm.ak,Sm.elems,Sm.decls,Sm.body,jj];exact mT (my _) (mT (my _) (mT (my _) (mT (my _) (Sm.oh f b _ _))))
   .refine Pa.wY (by simp[Pa.own,Sm.labels]) ?_;simp only[Pa.kids,Sm.targets,Sm.ak,Sm.elems,Sm.decls,Sm.body,jj];exact mT (Ex.oh f sc g) (mT (Ex.oh f sc e) (mT (QH.og f sc h) (mT (my _) (Sm.NI f b _ _))))
theorem De.og(f:Nat->Bz):∀(d:De) (own sc:ag) (n:Nat),(Pa.de (d.w f own sc n)).le (.de d)
 |.mk k o t nm e fo b,own,sc,n=>by
  simp only[De.w];split
  .refine Pa.wY (by simp[Pa.own,De.names,De.aB]) ?_;simp only[Pa.kids,De.ak,De.body,jj];exact mT (my _) (Sm.NI f b _ _)
  .refine Pa.wY (by simp[Pa.own,De.names,De.aB]) ?_;simp only[Pa.kids,De.ak,De.body,jj];exact mT (Ex.oh f _ e) (my _)
theorem De.oh(f:Nat->Bz):∀(l:List De) (own sc:ag) (n:Nat),mS ((De.wl f own sc n l).map Pa.de) (l.map Pa.de)
 |[],_,_,_=>my _
 |x::l,own,sc,n=>CM (De.og f x own sc n) (De.oh f l _ _ _)
theorem Sm.oh(f:Nat->Bz):∀(l:List Sm) (sc:ag) (n:Nat),mS ((Sm.wl f sc n l).map Pa.st) (l.map Pa.st)
 |[],_,_=>my _
 |x::l,sc,n=>CM (Sm.og f x sc n) (Sm.oh f l _ _)
theorem Sm.NI(f:Nat->Bz):∀(l:List Sm) (sc:ag) (n:Nat),mS ((Sm.w1 f sc n l).map Pa.st) (l.map Pa.st)
 |[],_,_=>my _
 |x::l,sc,n=>CM (Sm.og f x _ _) (Sm.NI f l _ _)
end
structure QK(nm:Bz->Bool)(f g:Nat->Bz):Prop where
 f1:∀i j,f i=f j->i=j
 g1:∀i j,g i=g j->i=j
 f2:∀i,nm (f i)=false
 g2:∀i,nm (g i)=false
section
variable {nm:Bz->Bool} {f g:Nat->Bz} (N:QK nm f g)
include N
end
def TK{nm:Bz->Bool}:∀{l:List Fo} {had:List Bz},dH nm l had=true->∀x,x∈l->nm x.name=true
 |f::l,had,h,x,hx=>by
  simp only[dH,bZ]at h;rcases cX.1 hx with rfl|hx
  .have:=h.1.1;simp only[Fo.aQ,bZ]at this;exact this.1
  .exact TK h.2 x hx
def De.qaf{nm:Bz->Bool}{d:De}(h:(Pa.de d).valid nm=true):∀x,x∈d.names->nm x=true:=by
 have h1:=(Pa.eQ.1 h).1;cases d;simp only[Pa.aQ,De.aQ,bZ,d6]at h1;exact h1.1
def De.qae{nm:Bz->Bool}{d:De}(h:(Pa.de d).valid nm=true):∀x,x∈d.aB->nm x.name=true:=by
 have h1:=(Pa.eQ.1 h).1
 cases d with
 |mk k o t n e f b=>
  simp only[Pa.aQ,De.aQ,bZ]at h1;have h1:=h1.2;simp only[De.aB];split at h1
  .simp at h1;have:f=[]:=by simp[h1]
   subst this;simp
  split at h1
  .simp at h1;have:f=[]:=by simp[h1]
   subst this;simp
  split at h1
  .simp at h1;have:f=[]:=by simp[h1]
   subst this;simp
  split at h1
  .simp only[bZ]at h1;exact TK h1.2
  .cases h1
def De.kO{nm:Bz->Bool}{d:De}(h:(Pa.de d).valid nm=true):∀x,x∈d.ak->(Pa.ex x).valid nm=true:=fun x hx=>(Pa.eQ.1 h).2 _ (by simp only[Pa.kids,cC,cE];exact .inl ⟨x,hx,rfl⟩)
def De.jo{nm:Bz->Bool}{d:De}(h:(Pa.de d).valid nm=true):∀x,x∈d.body->(Pa.st x).valid nm=true:=fun x hx=>(Pa.eQ.1 h).2 _ (by simp only[Pa.kids,cC,cE];exact .inr ⟨x,hx,rfl⟩)
def Sm.HM{nm:Bz->Bool}{s:Sm}(h:(Pa.st s).valid nm=true):∀x,x∈s.labels->nm x=true:=by
 have h1:=(Pa.eQ.1 h).1;cases s;simp only[Pa.aQ,Sm.aQ,bZ,d6]at h1;exact h1.1.1
def Sm.vm{nm:Bz->Bool}{s:Sm}(h:(Pa.st s).valid nm=true)(hk:s.kind=6):nm s.text=true:=by
 have h1:=(Pa.eQ.1 h).1;cases s;simp only[Sm.kind]at hk;subst hk;simp[Pa.aQ,Sm.aQ]at h1;simp[Sm.text,h1]
def Sm.Aa{nm:Bz->Bool}{s:Sm}(h:(Pa.st s).valid nm=true):∀x,x∈s.targets->(Pa.ex x).valid nm=true:=fun x hx=>(Pa.eQ.1 h).2 _ (by simp only[Pa.kids,cC,cE];exact .inl ⟨x,hx,rfl⟩)
def Sm.kO{nm:Bz->Bool}{s:Sm}(h:(Pa.st s).valid nm=true):∀x,x∈s.ak->(Pa.ex x).valid nm=true:=fun x hx=>(Pa.eQ.1 h).2 _ (by simp only[Pa.kids,cC,cE];exact .inr (.inl ⟨x,hx,rfl⟩))
def Sm.zZ{nm:Bz->Bool}{s:Sm}(h:(Pa.st s).valid nm=true):∀x,x∈s.elems->(Pa.el x).valid nm=true:=fun x hx=>(Pa.eQ.1 h).2 _ (by simp only[Pa.kids,cC,cE];exact .inr (.inr (.inl ⟨x,hx,rfl⟩)))
def Sm.rx{nm:Bz->Bool}{s:Sm}(h:(Pa.st s).valid nm=true):∀x,x∈s.decls->(Pa.de x).valid nm=true:=fun x hx=>(Pa.eQ.1 h).2 _ (by simp only[Pa.kids,cC,cE];exact .inr (.inr (.inr (.inl ⟨x,hx,rfl⟩))))
def Sm.jo{nm:Bz->Bool}{s:Sm}(h:(Pa.st s).valid nm=true):∀x,x∈s.body->(Pa.st x).valid nm=true:=fun x hx=>(Pa.eQ.1 h).2 _ (by simp only[Pa.kids,cC,cE];exact .inr (.inr (.inr (.inr ⟨x,hx,rfl⟩))))
section
variable {nm:Bz->Bool} {f g:Nat->Bz} (N:QK nm f g)
include N
end
def Gr(sz n0:Nat)(xs:List V)(v:V)(S:St):Prop:=(xs=[]/\v=.sl true [])\/∃l wr,n0<=l/\v=.arr l 0 xs.length xs.length/\S[l]?=some (.arr xs sz wr)/\wr<=xs.length
def Gr.nil(sz n0:Nat)(S:St):Gr sz n0 [] (.sl true []) S:=.inl ⟨rfl,rfl⟩
theorem mh(S:St)(b:Bool)(ys:List V):elems S (.sl b ys)=some ys:=rfl
def Gr.app{sz n0 bytes:Nat}{xs ys:List V}{v:V}{S:St}{b:Bool}(h:Gr sz n0 xs v S)(hy:fits sz ys=true)(hne:ys≠[])(hr:(xs.length+ys.length)*bytes<=2^47)(hn:n0<=S.length):
  ∃v' S',dY S sz bytes v (.sl b ys)=some (v',S')/\Gr sz n0 (xs++ys) v' S'/\S.length<=S'.length/\∀l,l<n0->S'[l]?=S[l]?:=by
 rcases h with ⟨rfl,rfl⟩|⟨l,wr,h1,rfl,h3,h4⟩
 .have he:ys.isEmpty=false:=by cases ys with
   |nil=>exact absurd rfl hne
   |cons=>rfl
  have hr':ys.length*bytes<=2^47:=by simpa using hr
  refine⟨.arr S.length 0 ys.length ys.length,S++[.arr ys sz ys.length],?_,.inr ⟨S.length,ys.length,hn,by simp,by simp,by simp⟩,by simp,fun l hl=>by rw[b8 oM]⟩;unfold dY;rw[mh];have hc:true=true/\fits sz ys=true/\(([]:List V).all fun v=>v.size==sz)=true/\(([]:List V).length+ys.length)*bytes<=2^47:=⟨rfl,hy,rfl,hr⟩;show(if ys.isEmpty=true then _ else _)=_;rw[aj (by rw[he];simp),ai hc];simp
 .have hc:0=0/\xs.length=xs.length/\xs.length=xs.length/\sz=sz/\fits sz ys=true/\(xs.length+ys.length)*bytes<=2^47:=⟨rfl,rfl,rfl,rfl,hy,hr⟩;have hlt:l<S.length:=(aT.1 h3).1;refine⟨.arr l 0 (xs.length+ys.length) (xs.length+ys.length),S.set l (.arr (xs++ys) sz wr),?_,.inr ⟨l,wr,h1,by simp,by rw[bJ hlt],by simp;omega⟩,by simp,fun k hk=>by rw[bC oM]⟩;unfold dY;rw[mh];show(match S[l]? with|_=>_)=_;rw[h3];show(if _ then _ else _)=_;rw[ai hc]
def Gr.app1{sz n0 bytes:Nat}{xs:List V}{y v:V}{S:St}{b:Bool}(h:Gr sz n0 xs v S)(hy:fits sz [y]=true)(hr:(xs.length+1)*bytes<=2^47)(hn:n0<=S.length):
 ∃v' S',dY S sz bytes v (.sl b [y])=some (v',S')/\Gr sz n0 (xs++[y]) v' S'/\S.length<=S'.length/\∀l,l<n0->S'[l]?=S[l]?:=h.app hy sM hr hn
def Gr.keep{sz n0:Nat}{xs:List V}{v:V}{S S':St}(h:Gr sz n0 xs v S)(hk:∀l,n0<=l->l<S.length->S'[l]?=S[l]?):Gr sz n0 xs v S':=by
 rcases h with h|⟨l,wr,h1,h2,h3,h4⟩
 .exact .inl h
 .exact .inr ⟨l,wr,h1,h2,(hk l h1 (aT.1 h3).1).trans h3,h4⟩
def Gr.less{sz n0 n1:Nat}{xs:List V}{v:V}{S:St}(h:Gr sz n0 xs v S)(hn:n1<=n0):Gr sz n1 xs v S:=by
 rcases h with h|⟨l,wr,h1,h⟩
 .exact .inl h
 .exact .inr ⟨l,wr,by omega,h⟩
def Gr.ghost{sz n0:Nat}{xs:List V}{v:V}{S S0:St}(h:Gr sz n0 xs v S)(h0:S.take n0=S0)(hn:n0<=S.length)(hS:∀o,o∈S0->o.under n0=true)(hx:∀x,x∈xs->x.weak.under n0=true):
  cK n0 v S (.sl false (xs.map V.weak)) S0:=by
 have hu:∀b,(V.sl b (xs.map V.weak)).under n0=true:=fun b=>by
  simp only[V.under]
  exact NB fun y hy=>by
   obtain⟨x,h1,rfl⟩:=cE.1 hy;exact hx x h1
 rcases h with ⟨rfl,rfl⟩|⟨l,wr,h1,rfl,h3,h4⟩
 .have g1:cK n0 (.sl true []) S (.sl false []) S:=cK.weak (r:=.sl true []);have g2:=cK.cut (n:=n0) (m:=n0) (r:=.sl false []) (S:=S) rfl (by rw[h0];exact hS) bL hn;rw[h0]at g2;exact g1.trans g2
 .have g1:=cK.freeze (n:=n0) (l:=l) (off:=0) (len:=xs.length) (st:=xs.length) h3 h4 oM;simp only[tD,eR]at g1;have g2:cK n0 (.sl false xs) (S.set l .dead) (V.sl false xs).weak (S.set l .dead):=cK.weak;simp only[V.weak,iM]at g2
  have ht:(S.set l .dead).take n0=S0:=by
   rw[<-h0];apply ou;intro i;rw[AC,AC];split
   .rw[bC oM]
   .rfl
  have g3:=cK.cut (n:=n0) (m:=n0) (r:=.sl false (xs.map V.weak)) (S:=S.set l .dead) (hu _) (by rw[ht];exact hS) bL (by simp;exact hn);rw[ht]at g3;exact(g1.trans g2).trans g3
def qcY{rs:List RV}{R:V->Prop}{e:af}{S:St}{v:V}{sz:Nat}{xs:List V}(h:dm e S rs=some [v])(g:Gr sz 0 xs v S)(hu:∀x,x∈xs->x.weak.under 0=true)(hR:R (.sl false (xs.map V.weak))):
  eH rs 0 (fun v U=>R v/\U=[]) .ret e S:=
 ⟨_,h,_,_,g.ghost sM (eL _) sM hu,hR,rfl⟩
def wz{rs:List RV}{R:V->Prop}{e:af}{S:St}{vs:List V}(h:dm e S rs=some vs)(hR:R (aK vs).weak)(hu:(aK vs).weak.under 0=true):eH rs 0 (fun v U=>R v/\U=[]) .ret e S:=
 ⟨vs,h,_,[],cK.weak.trans (cK.cut (m:=0) hu sM bL (eL _)),hR,rfl⟩
structure Kp(M:Np)(S U:St):Prop where
 len:S.length<=U.length
 get:∀l,l<S.length->¬M l->U[l]?=S[l]?
def Kp.refl(M:Np)(S:St):Kp M S S:=⟨cq _,fun _ _ _=>rfl⟩
def Kp.trans{M:Np}{S T U:St}(h:Kp M S T)(g:Kp M T U):Kp M S U:=
 ⟨fL h.len g.len,fun l hl hm=>(g.get l (jP hl h.len) hm).trans (h.get l hl hm)⟩
def Kp.mono{M N:Np}{S T:St}(h:Kp M S T)(hm:∀l,l<S.length->M l->N l):Kp N S T:=⟨h.len,fun l hl hn=>h.get l hl fun hh=>hn (hm l hl hh)⟩
def Kp.push{M:Np}{S U:St}(h:Kp M S U)(os:List Ob):Kp M S (U++os):=
 ⟨by simp;have:=h.len;omega,fun l hl hm=>by rw[b8 (jP hl h.len)];exact h.get l hl hm⟩
def Kp.set{M:Np}{S U:St}(h:Kp M S U){l:Nat}(o:Ob)(hl:M l\/S.length<=l):Kp M S (U.set l o):=
  ⟨by simp;exact h.len,fun k hk hm=>by
    rw[bC ?_]
    · exact h.get k hk hm
    · rintro rfl;rcases hl with hl|hl
      · exact hm hl
      · omega⟩
def Kp.at{M:Np}{S U:St}(h:Kp M S U){l:Nat}{o:Ob}(ho:S[l]?=some o)(hm:¬M l):U[l]?=some o:=(h.get l (aT.1 ho).1 hm).trans ho
def Kp.ofPush{M:Np}{S U:St}{os:List Ob}(h:Kp M (S++os) U):Kp M S U:=
 ⟨by have:=h.len;simp at this;omega,fun l hl hm=>(h.get l (by simp;omega) hm).trans (b8 hl)⟩
def fA.mono'{P:Program}{l:Nat}{args:List V}{S:St}{R R':V->St->Prop}(h:fA P l args S R)(hr:∀r S',R r S'->R' r S'):fA P l args S R':=fun E w us n x h1 h2 h3=>by
 obtain⟨f,tmps,bT,body,g1,g2⟩:=h E w us n x h1 h2 h3;exact⟨f,tmps,bT,body,g1,g2.mono fun e w' ⟨u,r,E',S',k1,k2,k3⟩=>⟨u,r,E',S',k1,hr _ _ k2,k3⟩⟩
def uX{P:Program}{l:Nat}{args:List V}{S:St}{R:V->St->Prop}{Φ:V->St->Prop}(h:fA P l args S R)(g:∀v U,R v U->Φ v U):NW P l args S Φ:=⟨_,h,g⟩
def RR(M:Np)(U0:St)(L:Nat)(i0:LI)(J1:St->Prop)(Dr:St->Prop)(De:Nat->St->Prop):V->St->Prop:=fun v U=>Kp M U0 U/\
 ((v=.bool true∧J1 U∧U[L]?=some (.loop i0))∨(v=.bool false∧Dr U∧U[L]?=some (.loop { i0 with st:=.done,pend:=some .ret }))∨
  ∃id,v=.bool false/\De id U/\U[L]?=some (.loop { i0 with st:=.done,pend:=some (.exit id) }))
def E3{P:Program}{L:Nat}{cb:C'}{R:V->St->Prop}{e:af}{U:St}{i0:LI}(h:U[L]?=some (.loop i0))(hr:i0.st=.ready)(g:WP P cb (uL L R) e (U.set L (.loop { i0 with st:=.busy }))):
 A7 P L cb R .normal e U:=⟨i0,h,hr,g⟩
def Yu{M:Np}{U0:St}{L:Nat}{i0:LI}{J1 Dr:St->Prop}{De:Nat->St->Prop}{e:af}{U:St}(hi:i0.st=.ready/\i0.pend=none)(hM:M L)(h:U[L]?=some (.loop { i0 with st:=.busy }))(k:Kp M U0 U)(g:J1 (U.set L (.loop i0))):uL L (RR M U0 L i0 J1 Dr De) .normal e U:=by
 have hlt:=(aT.1 h).1;have:({ i0 with st:=.ready,pend:=none }:LI)=i0:=by cases i0;simp only at hi;simp[hi.1,hi.2]
 refine⟨_,h,k.set _ (.inl hM),.inl ⟨rfl,?_,?_⟩⟩
 .simp only[this];exact g
 .simp only[this];rw[bJ hlt]
def Yv{M:Np}{U0:St}{L:Nat}{i0:LI}{J1 Dr:St->Prop}{De:Nat->St->Prop}{e:af}{U:St}(hM:M L)(h:U[L]?=some (.loop { i0 with st:=.busy }))(k:Kp M U0 U)(g:Dr (U.set L (.loop { i0 with st:=.done,pend:=some .ret }))):uL L (RR M U0 L i0 J1 Dr De) .ret e U:=by
 have hlt:=(aT.1 h).1;exact⟨_,h,k.set _ (.inl hM),.inr (.inl ⟨rfl,g,by rw[bJ hlt]⟩)⟩
def Rf(P:Program)(k:Nat)(fs cs:List V)(aa:List (List V))(cap:St->Prop):Prop:=
 ∀(S:St) (l:Nat) (J:Nat->St->Prop) (D:St->Prop) (M:Np),(∀x,M x->x<S.length)->(∀i U,J i U->cap U)->(∀i U o,J i U->J i (U++[o]))->(∀U o,D U->D (U++[o]))->
  (∀i U L o o',S.length<=L->J i U->U[L]?=some (.loop o)->J i (U.set L (.loop o')))->(∀U L o o',S.length<=L->D U->U[L]?=some (.loop o)->D (U.set L (.loop o')))->
  (∀(i:Nat) (a:List V),aa[i]?=some a->∀U,J i U->Kp M S U->fA P l a U (fun v U'=>Kp M U U'/\((v=.bool true/\J (i+1) U')\/(v=.bool false/\D U'))))->J 0 S->
  au P k (fs++[.cj l]++cs) S (fun _ U=>Kp M S U/\(J aa.length U\/D U))
def Kp.uW{M:Np}{S U:St}{o o':Ob}(h:Kp (fun x=>M x\/x=S.length) (S++[o]) U):Kp M S (U.set S.length o'):=by
 refine⟨by have:=h.len;simp at this |-;omega,fun l hl hm=>?_⟩;rw[bC oM];rw[h.get l (by simp;omega) (by rintro(hh|hh);exact hm hh;omega)];exact b8 hl
def gl{U:St}{x L:Nat}{o:Ob}{i i':LI}(h:U[x]?=some o)(ho:∀i,o≠.loop i)(hL:U[L]?=some (.loop i)):(U.set L (.loop i'))[x]?=some o:=by
 rw[bC]
 .exact h
 .rintro rfl;rw[hL]at h;cases h;exact ho i rfl
def QV{P:Program}{g:aV}{ps:List Nat}{bT body:Code}{ca cb:C'}{N:Nat}{ts:List Nat}{Q:cM}{e:af}{S:St}{k:Nat}{fs cs:List V}{aa:List (List V)}{cap:St->Prop}
  (hg:g.ev e=some (.fn (.func k) fs cs)) (hy:Rf P k fs cs aa cap) (na:ca.fp=true) (nb:cb.fp=true) (hps:ps.all (fun p=>decide (p<N))=true) (hlen:∀a,a∈aa->a.length=ps.length)
  (M:Np) (hM:∀x,M x->x<S.length) (J:Nat->St->Prop) (Dr:St->Prop) (De:Nat->St->Prop) (hcap:∀i U,J i U->cap U)
  (hJ:∀i U,J i U->∀o,J i (U++[o])) (hDr:∀U,Dr U->∀o,Dr (U++[o])) (hDe:∀id U,De id U->∀o,De id (U++[o]))
  (rU:∀i U L o o',S.length<=L->J i U->U[L]?=some (.loop o)->J i (U.set L (.loop o'))) (hDl:∀U L o o',S.length<=L->Dr U->U[L]?=some (.loop o)->Dr (U.set L (.loop o'))) (BL:∀id U L o o',S.length<=L->De id U->U[L]?=some (.loop o)->De id (U.set L (.loop o')))
  (h0:J 0 (S++[.loop ⟨.ready,none,ps,bT,body,e.keep ts,N⟩]))
  (hr:∀(i:Nat) (a:List V),aa[i]?=some a→∀U,J i U→Kp (fun x=>M x∨x=S.length) (S++[.loop ⟨.ready,none,ps,bT,body,e.keep ts,N⟩]) U→U[S.length]?=some (.loop ⟨.ready,none,ps,bT,body,e.keep ts,N⟩)→
   WP P ca (A7 P S.length cb (RR (fun x=>M x\/x=S.length) U S.length ⟨.ready,none,ps,bT,body,e.keep ts,N⟩ (J (i+1)) Dr De)) (nT ps a (e.keep ts)) U)
  (hn:∀U,J aa.length U->Kp M S U->Q .normal e U) (hret:∀U,Dr U->Kp M S U->Q .ret e U) (J9:∀id U,De id U->Kp M S U->Q (.exit id) e U):
  WP P (.rf g ps bT body ca cb N ts) Q e S:=by
 intro hca hcb;rw[hg];refine ⟨_,hy (S++[.loop ⟨.ready,none,ps,bT,body,e.keep ts,N⟩]) S.length (fun i U=>J i U∧U[S.length]?=some (.loop ⟨.ready,none,ps,bT,body,e.keep ts,N⟩))
  (fun U=>(Dr U/\U[S.length]?=some (.loop ⟨.done,some .ret,ps,bT,body,e.keep ts,N⟩))\/∃id,De id U/\U[S.length]?=some (.loop ⟨.done,some (.exit id),ps,bT,body,e.keep ts,N⟩))
  (fun x=>M x\/x=S.length) ?_ (fun i U h=>hcap i U h.1) (fun i U o h=>⟨hJ i U h.1 o,?_⟩) ?_ ?_ ?_ ?_ ⟨h0,by simp⟩,?_⟩
 .rintro x (h|rfl)
  .have:=hM x h;simp;omega
  .simp
 .rw[b8 (aT.1 h.2).1];exact h.2
 .rintro U o (⟨h1,h2⟩|⟨id,h1,h2⟩)
  .exact .inl ⟨hDr U h1 o,by rw[b8 (aT.1 h2).1];exact h2⟩
  .exact .inr ⟨id,hDe id U h1 o,by rw[b8 (aT.1 h2).1];exact h2⟩
 .rintro i U L o o' hL ⟨h1,h2⟩ h3;simp at hL;exact⟨rU i U L o o' oM h1 h3,by rw[bC oM];exact h2⟩
 .rintro U L o o' hL (⟨h1,h2⟩|⟨id,h1,h2⟩) h3
  .simp at hL;exact .inl ⟨hDl U L o o' oM h1 h3,by rw[bC oM];exact h2⟩
  .simp at hL;exact .inr ⟨id,BL id U L o o' oM h1 h3,by rw[bC oM];exact h2⟩
 .rintro i a ha U ⟨hj,hl⟩ hk;refine fA.mono' (fA.intro hl hca hcb rfl na nb ?_ hps (hr i a ha U hj hk hl)) ?_
  .exact hlen _ (dc ha)
  .rintro v U' ⟨hk',⟨rfl,h1,h2⟩|⟨rfl,h1,h2⟩|⟨id,rfl,h1,h2⟩⟩
   .exact⟨hk',.inl ⟨rfl,h1,h2⟩⟩
   .exact⟨hk',.inr ⟨rfl,.inl ⟨h1,h2⟩⟩⟩
   .exact⟨hk',.inr ⟨rfl,.inr ⟨id,h1,h2⟩⟩⟩
 .rintro r U ⟨hk,⟨h1,h2⟩|⟨h1,h2⟩|⟨id,h1,h2⟩⟩
  .exact⟨_,h2,by simp,hn _ (rU _ U _ _ _ bL h1 h2) hk.uW⟩
  .exact⟨_,h2,by simp,hret _ (hDl U _ _ _ bL h1 h2) hk.uW⟩
  .exact⟨_,h2,by simp,J9 id _ (BL id U _ _ _ bL h1 h2) hk.uW⟩
def qiy{N N':af->St->Prop}{Q Q':cM}(hn:∀e S,N e S->N' e S)(hq:∀x e S,Q x e S->Q' x e S):∀x e S,jw N Q x e S->jw N' Q' x e S:=by
 intro x e S h;cases x<;>first|exact hn _ _ h|exact hq _ _ _ h
def QU{P:Program}{a:C'}{N:af->St->Prop}{Q:cM}{e:af}{S:St}(M:af->St->Prop)(h1:WP P a (jw M Q) e S)(h2:∀e S,M e S->N e S):WP P a (jw N Q) e S:=
 pN (qiy h2 fun _ _ _ h=>h) h1
def du{P:Program}{id:Nat}{c:C'}{Q:cM}{e:af}{S:St}(M:af->St->Prop)(h1:WP P (.loop c) (qi id (jw M Q)) e S)(h2:∀e S,M e S->Q .normal e S):WP P (.loop c) (qi id Q) e S:=
 pN (fun x e S hx=>by
  cases x<;>simp only[qi,jw]at hx |-<;>first|exact h2 _ _ hx|exact hx|skip
  split<;>rename_i hh
  .rw[ai hh]at hx;exact h2 _ _ hx
  .rw[aj hh]at hx;exact hx) h1
theorem qhN(v:V)(o:Nat):V.part v o none=v.cells[o]?:=rfl
theorem qbQ(cs:List V):(V.agg cs).cells=cs:=rfl
theorem qbU(k:IntKind)(n:Int):(V.int k n).cells=[V.int k n]:=rfl
theorem qbS(b:Bool):(V.bool b).cells=[V.bool b]:=rfl
theorem qb5(b:Bz):(V.str b).cells=[V.str b]:=rfl
theorem qb4(b:Bool)(l:List V):(V.sl b l).cells=[V.sl b l]:=rfl
theorem qbR(a b c d:Nat):(V.arr a b c d).cells=[V.arr a b c d]:=rfl
theorem qb3(a b c d:Nat):(V.ptr a b c d).cells=[V.ptr a b c d]:=rfl
theorem qbW(a:Nat):(V.map a).cells=[V.map a]:=rfl
theorem qbT(f:Go.Fn)(a b:List V):(V.fn f a b).cells=[V.fn f a b]:=rfl
theorem qbZ:V.bF.cells=[V.bF]:=rfl
theorem qbX:V.bB.cells=[V.bB]:=rfl
theorem qbY:V.cG.cells=[V.cG]:=rfl
theorem qbV(v:V)(o:Nat):(V.bG v o).cells=[V.bG v o]:=rfl
theorem qjR(cs:List V):(V.agg cs).size=cs.length:=rfl
theorem qjV(k:IntKind)(n:Int):(V.int k n).size=1:=rfl
theorem qjT(b:Bool):(V.bool b).size=1:=rfl
theorem qj2(b:Bz):(V.str b).size=1:=rfl
theorem qj1(b:Bool)(l:List V):(V.sl b l).size=1:=rfl
theorem qjS(a b c d:Nat):(V.arr a b c d).size=1:=rfl
theorem qj0(a b c d:Nat):(V.ptr a b c d).size=1:=rfl
theorem qjW(a:Nat):(V.map a).size=1:=rfl
theorem qjU(f:Go.Fn)(a b:List V):(V.fn f a b).size=1:=rfl
theorem qjZ:V.bF.size=1:=rfl
theorem qjX:V.bB.size=1:=rfl
theorem qjY:V.cG.size=1:=rfl
theorem qfK(cs:List V):(V.agg cs).isAgg=true:=rfl
theorem qd5(k:IntKind)(n:Int):(V.int k n).flat=true:=rfl
theorem qd1(b:Bool):(V.bool b).flat=true:=rfl
theorem qee(b:Bz):(V.str b).flat=true:=rfl
theorem qeb(b:Bool)(l:List V):(V.sl b l).flat=true:=rfl
theorem qd0(a b c d:Nat):(V.arr a b c d).flat=true:=rfl
theorem qea(a b c d:Nat):(V.ptr a b c d).flat=true:=rfl
theorem qd6(a:Nat):(V.map a).flat=true:=rfl
theorem qd4(f:Go.Fn)(a b:List V):(V.fn f a b).flat=true:=rfl
theorem qd9:V.bF.flat=true:=rfl
theorem qd7:V.bB.flat=true:=rfl
theorem qd8:V.cG.flat=true:=rfl
def Sm.l4(s:Sm):s.v.cells=[.sl false (s.labels.map .str),.int .i64 s.kind,.str s.text,.sl false (s.targets.map Ex.v),.sl false (s.ak.map Ex.v),.sl false (s.elems.map El.v),.sl false (s.decls.map De.v),.sl false (s.body.map Sm.v)]:=by rw[Sm.dJ];rfl
def De.l4(d:De):d.v.cells=[.int .i64 d.kind,.bool d.own,.int .i64 d.type,.sl false (d.names.map .str),.sl false (d.ak.map Ex.v),.sl false (d.aB.map Fo.v),.sl false (d.body.map Sm.v)]:=by rw[De.dJ];rfl
def Ex.l4(x:Ex):x.v.cells=[.int .i64 x.kind,.int .i64 x.op,.int .i64 x.n,.int .i64 x.man,.int .i64 x.exp,.str x.text,.sl false (x.args.map Ex.v)]:=by rw[Ex.dJ];rfl
theorem El.l4(e:El):e.v.cells=[.int .i64 e.kind,.sl false (e.ak.map Ex.v)]:=rfl
theorem Fo.l4(f:Fo):f.v.cells=[.str f.name,.bool f.value,.int .i64 f.spec,.int .i64 f.type]:=rfl
theorem qhC(k:Int)(s:Sm)(d:De)(e:El)(x:Ex):(fO k s d e x).cells=
 [.int .i64 k,.sl false (s.labels.map .str),.int .i64 s.kind,.str s.text,.sl false (s.targets.map Ex.v),.sl false (s.ak.map Ex.v),.sl false (s.elems.map El.v),.sl false (s.decls.map De.v),.sl false (s.body.map Sm.v),
  .int .i64 d.kind,.bool d.own,.int .i64 d.type,.sl false (d.names.map .str),.sl false (d.ak.map Ex.v),.sl false (d.aB.map Fo.v),.sl false (d.body.map Sm.v),
  .int .i64 e.kind,.sl false (e.ak.map Ex.v),
  .int .i64 x.kind,.int .i64 x.op,.int .i64 x.n,.int .i64 x.man,.int .i64 x.exp,.str x.text,.sl false (x.args.map Ex.v)]:=rfl
theorem qhE(k:Int)(s:Sm)(d:De)(e:El)(x:Ex):(fO k s d e x).size=25:=rfl
def Sm.pi(s:Sm):s.v.isAgg=true:=by rw[Sm.dJ];rfl
def De.pi(s:De):s.v.isAgg=true:=by rw[De.dJ];rfl
def Ex.pi(s:Ex):s.v.isAgg=true:=by rw[Ex.dJ];rfl
theorem El.pi(s:El):s.v.isAgg=true:=rfl
theorem Fo.pi(s:Fo):s.v.isAgg=true:=rfl
theorem qhD(k:Int)(s:Sm)(d:De)(e:El)(x:Ex):(fO k s d e x).isAgg=true:=rfl
def sx(s:Sm):V.part s.v 0 (some 8)=some s.v:=by simp[V.part,Sm.eP,Sm.pi]
def qhF(s:De):V.part s.v 0 (some 7)=some s.v:=by simp[V.part,De.eP,De.pi]
def G3(s:Ex):V.part s.v 0 (some 7)=some s.v:=by simp[V.part,Ex.eP,Ex.pi]
theorem qhG(s:El):V.part s.v 0 (some 2)=some s.v:=rfl
theorem qhH(s:Fo):V.part s.v 0 (some 4)=some s.v:=rfl
theorem qhI(k:Int)(s:Sm)(d:De)(e:El)(x:Ex):V.part (fO k s d e x) 0 (some 25)=some (fO k s d e x):=rfl
def qhL(k:Int)(s:Sm)(d:De)(e:El)(x:Ex):V.part (fO k s d e x) 1 (some 8)=some s.v:=by rw[Sm.dJ];rfl
def qhJ(k:Int)(s:Sm)(d:De)(e:El)(x:Ex):V.part (fO k s d e x) 9 (some 7)=some d.v:=by rw[De.dJ];rfl
theorem qhK(k:Int)(s:Sm)(d:De)(e:El)(x:Ex):V.part (fO k s d e x) 16 (some 2)=some e.v:=rfl
def qhM(k:Int)(s:Sm)(d:De)(e:El)(x:Ex):V.part (fO k s d e x) 18 (some 7)=some x.v:=by rw[Ex.dJ];rfl
theorem qgq(b:Bool)(l:List V):Ld (.sl b l)=some (.int .i64 l.length):=rfl
theorem qgp(a b c d:Nat):Ld (.arr a b c d)=some (.int .i64 c):=rfl
theorem qgr(s:Bz):Ld (.str s)=some (.int .i64 s.size):=rfl
theorem qdp(l i o st off:Nat):rS (.ptr l i o st) off=some (.ptr l i (o+off) st):=rfl
theorem qdo(v:V)(o off:Nat):rS (.bG v o) off=some (.bG v (o+off)):=rfl
theorem qgg(S:St)(v:V)(o:Nat)(k:Option Nat):ae S (.bG v o) k=V.part v o k:=rfl
def qbG{S:St}{x:V}(h:x.cells.all V.flat=true)(h0:0<x.size):aC S x=some (.ptr S.length 0 0 1,S++[.arr [x] x.size 1]):=by simp[aC,h,h0]
theorem iL{v x:V}{off n:Nat}:V.upd v off n x=if x.size=n∧x.cells.all V.flat=true then (if off=0∧n=v.size then some x else match v with
 |.agg cs=>if off+n<=cs.length then some (.agg (cs.take off++x.cells++cs.drop (off+n))) else none
 |_=>none) else none:=rfl
theorem qhP:fg []=[]:=rfl
attribute [simp] qhN qbQ qbU qbS qb5 qb4 qbR qb3 qbW qbT qbZ qbX qbY qbV
 qjR qjV qjT qj2 qj1 qjS qj0 qjW qjU qjZ qjX qjY qfK
 qd5 qd1 qee qeb qd0 qea qd6 qd4 qd9 qd7 qd8
 Sm.l4 De.l4 Ex.l4 El.l4 Fo.l4 qhC qhE Sm.pi De.pi Ex.pi El.pi Fo.pi qhD
 sx qhF G3 qhG qhH qhI qhL qhJ qhK qhM qgq qgp qgr qdp qdo qgg qhP
open Go.Proofs.Tryz
set_option maxHeartbeats 0
set_option maxRecDepth 100000
noncomputable def OV:=aI func17
noncomputable def Ii:=aI func26
noncomputable def Ij:=aI func52
noncomputable def Et:=aI func72
noncomputable def Pl:=aI func20
noncomputable def P4:=aI func40
noncomputable def Qh:=aI func63
noncomputable def Qy:=aI func91
noncomputable def Ol:=aI func112
noncomputable def H5:=aI func135
noncomputable def H6:=aI func141
noncomputable def vz:=aI func160
noncomputable def Ao:=aI func181
noncomputable def O8:=aI func189
noncomputable def O9:=aI func190
noncomputable def vA:=aI func191
noncomputable def Pg:=aI func192
noncomputable def Ia:=aI func205
noncomputable def Eo:=aI func210
noncomputable def Pv:=aI func211
noncomputable def PI:=aI func222
noncomputable def PK:=aI func223
noncomputable def Ic:=aI func224
noncomputable def PL:=aI func225
noncomputable def ni:=aI func226
noncomputable def PN:=aI func227
noncomputable def Ih:=aI func257
noncomputable def i6:=aI func258
@[simp] theorem uEx(l:List Ex):V.dj 0 (l.map Ex.v)=true:=jn fun x _=>Ex.dA x
@[simp] theorem uEl(l:List El):V.dj 0 (l.map El.v)=true:=jn fun x _=>El.dA x
@[simp] theorem uFo(l:List Fo):V.dj 0 (l.map Fo.v)=true:=jn fun x _=>Fo.dA x
@[simp] theorem uDe(l:List De):V.dj 0 (l.map De.v)=true:=jn fun x _=>De.dA x
@[simp] theorem uSm(l:List Sm):V.dj 0 (l.map Sm.v)=true:=jn fun x _=>Sm.dA x
@[simp] theorem qnU(l:List Bz):V.dj 0 (l.map .str)=true:=jn fun x _=>rfl
def qdk{l:List Ex}{i:Nat}(h:i<l.length):SizeOf.sizeOf l[i].args<SizeOf.sizeOf l:=by
 have h1:=tJ (cI h)
 have h2:SizeOf.sizeOf l[i].args<SizeOf.sizeOf l[i]:=by
  cases l[i] with
  |mk k o n m e t a=>simp[Ex.args];omega
 omega
def Bm{α:Type}{l:List α}{i:Nat}(h:i<l.length):l.drop i=l[i]::l.drop (i+1):=rF h
def DT:∀(k:Nat) (l:List Ex),SizeOf.sizeOf l<=k->l.length<=aR->Ex.bR l->∀deep n:Int,0<=deep->deep<=1000->-4503599627370496<=n->n<=1000->∀S,Fn prog 72 [.sl false (l.map Ex.v),.int .i64 deep,.int .i64 n] S (.int .i64 (Ex.cZ l deep n)):=by
 intro k
 induction k with
 |zero=>intro l h;cases l<;>simp at h
 |succ k ih=>
  intro l hsz hlen hok deep n hd0 hd1 hn0 hn1;refine Pu.intro (R:=fun v=>v=.int .i64 (Ex.cZ l deep n)) Et.g Et.o (kn rfl) (by simp[V.under,V.dj]) (by rintro v rfl;rfl) ?_;unfold Ex.cZ;by_cases hd:deep > 40
  .simp[Et,show(40:Int)<deep from hd];exact aD (r:=rfl)
  simp[Et,show ¬ (40:Int)<deep from hd];refine bN (fun j e S'=>∃(i:Nat) (m:Int),j=l.length - i∧i≤l.length∧Ex.leftG (l.drop i) deep m=Ex.leftG l deep n∧m≤n∧-4503599627370496≤m∧S'=[]∧
   e=[(7,.int .i64 i),(2,.int .i64 m),(0,.sl false (l.map Ex.v)),(1,.int .i64 deep),(6,.int .i64 0)]) l.length _ ?_ ⟨0,n,by simp,by omega,rfl,by omega,by omega,rfl,rfl⟩ ?_
  .exact aN
  rintro j e S' ⟨i,m,rfl,hi,hm,hmn,hm0,rfl,rfl⟩;by_cases h:i<l.length
  .by_cases h0:0<m
   .have hx:=ih l[i].args (by have:=qdk h;omega) (Ex.CZ (Ex.gW hok _ (cI h))).1 (Ex.CZ (Ex.gW hok _ (cI h))).2 (deep+1) (m-1) oM oM oM oM;have hle:=Ex.left_le l[i] deep m h0;simp[h,h0,mP,dP (n:=deep+1) oM oM,dP (n:=m-1) oM oM];refine aG (hx []) ?_;rw[<-Ex.left_eq];simp[dP (n:=(i:Int)+1) (by unfold aR at hlen;omega) (by unfold aR at hlen;omega)];refine⟨_,?_,_,?_,i+1,rfl,by omega,l[i].left deep m,?_,?_,?_,rfl⟩
    .omega
    .repeat' first|exact af.fh _|refine af.dV (by simp;rfl) ?_|refine af.dV sM ?_
    .rw[<-hm,Bm h,Ex.leftG,ai h0]
    .omega
    .omega
   .simp[h,h0];refine dB rfl ?_ rfl;simp only[aK];rw[<-hm,Ex.qd _ _ _ oM]
  .simp[h];refine dB rfl ?_ rfl;simp only[aK];rw[<-hm,yh oM,Ex.leftG]
def uj(l:List Ex)(deep n:Int):Ex.cZ l deep n<=max n 0/\min n 0<=Ex.cZ l deep n:=by
 by_cases h:0<=n
 .have:=Ex.qgm l deep n h;omega
 .unfold Ex.cZ;split
  .omega
  .rw[Ex.qd _ _ _ oM];omega
def qj9{s:Sm}{i:Nat}(h:i<s.body.length):SizeOf.sizeOf s.body[i]<SizeOf.sizeOf s:=by
 have h1:=tJ (cI h);cases s;simp only[Sm.body]at *;simp;omega
def qcu{s:Sm}{i:Nat}(h:i<s.decls.length):SizeOf.sizeOf s.decls[i]<SizeOf.sizeOf s:=by
 have h1:=tJ (cI h);cases s;simp only[Sm.decls]at *;simp;omega
def qct{s:De}{i:Nat}(h:i<s.body.length):SizeOf.sizeOf s.body[i]<SizeOf.sizeOf s:=by
 have h1:=tJ (cI h);cases s;simp only[De.body]at *;simp;omega
def Bd(m:Int):Prop:=-4503599627370496<=m/\m<=1000
def El.oW:∀(l:List El) (deep n:Int),Bd n->Bd (El.leftG l deep n)
 |[],_,n,h=>h
 |x::l,deep,n,h=>by
  rw[El.leftG];split
  .have:=uj x.ak (deep+1) (n-1);refine El.oW l deep _ ?_;unfold Bd at *;omega
  .exact h
mutual
theorem Sm.CH:∀(s:Sm) (deep n:Int),s.ok->0<n->n<=1000->Bd (s.left deep n)
 |.mk l k t g e f d b,deep,n,h,h0,h1=>by
  simp only[Sm.ok]at h;obtain⟨hl,ht,hg,he,hf,hd,hb,hbl⟩:=h;rw[Sm.left];split
  .unfold Bd;omega
  .have h2:=hl.1;have h3:=uj e (deep+1) (n-1-l.length);have h4:=uj g (deep+1) (Ex.cZ e (deep+1) (n-1-l.length));refine Sm.oW b _ _ hbl (De.oW d _ _ hd.2 (El.oW f _ _ ?_));unfold Bd aR at *;omega
theorem De.CH:∀(s:De) (deep n:Int),s.ok->0<n->n<=1000->Bd (s.left deep n)
 |.mk k o t nm e f b,deep,n,h,h0,h1=>by
  simp only[De.ok]at h;obtain⟨hn,he,hf,hb,hbl⟩:=h;rw[De.left];have h2:=hn.1;have h3:=hf.1;have h4:=uj e (deep+1) (n-1-nm.length-f.length);refine Sm.oW b _ _ hbl ?_;unfold Bd aR at *;omega
theorem De.oW:∀(l:List De) (deep n:Int),De.bR l->Bd n->Bd (De.leftG l deep n)
 |[],_,n,_,h=>h
 |x::l,deep,n,hk,h=>by
  simp only[De.bR]at hk;rw[De.leftG];split
  .rename_i h0;exact De.oW l deep _ hk.2 (De.CH x deep n hk.1 h0 h.2)
  .exact h
theorem Sm.oW:∀(l:List Sm) (deep n:Int),Sm.bR l->Bd n->Bd (Sm.leftG l deep n)
 |[],_,n,_,h=>h
 |x::l,deep,n,hk,h=>by
  simp only[Sm.bR]at hk;rw[Sm.leftG];split
  .rename_i h0;exact Sm.oW l deep _ hk.2 (Sm.CH x deep n hk.1 h0 h.2)
  .exact h
end
def El.qd{l:List El}{deep n:Int}(h:¬0<n):El.leftG l deep n=n:=by cases l<;>simp[El.leftG,h]
def De.qd{l:List De}{deep n:Int}(h:¬0<n):De.leftG l deep n=n:=by cases l<;>simp[De.leftG,h]
def Sm.qd{l:List Sm}{deep n:Int}(h:¬0<n):Sm.leftG l deep n=n:=by cases l<;>simp[Sm.leftG,h]
def De.left_eq(d:De)(deep n:Int):d.left deep n=Sm.leftG d.body (deep+1) (Ex.cZ d.ak (deep+1) (n-1-d.names.length-d.aB.length)):=by cases d;rw[De.left];rfl
def Sm.left_eq(s:Sm)(deep n:Int):s.left deep n=if deep > 30 then 0 else
 Sm.leftG s.body (deep+1) (De.leftG s.decls deep (El.leftG s.elems deep (Ex.cZ s.targets (deep+1) (Ex.cZ s.ak (deep+1) (n-1-s.labels.length))))):=by cases s;rw[Sm.left];rfl
def qly:∀(k:Nat) (s:Sm),SizeOf.sizeOf s<=k->s.ok->∀deep n:Int,0<=deep->deep<=1000->0<n->n<=1000->∀S,Fn prog 52 [s.v,.int .i64 deep,.int .i64 n] S (.int .i64 (s.left deep n)):=by
 intro k
 induction k with
 |zero=>intro s h;cases s;simp at h
 |succ k ih=>
  intro s hsz hok deep n hd0 hd1 hn0 hn1;have O:=(Sm.ep s).1 hok;refine Pu.ib Ij ?_;have hl:=O.labels.1;rw[Sm.left_eq];by_cases hd:deep > 30
  .simp[Ij,aC,ae,show(30:Int)<deep from hd];exact aD (r:=rfl)
  have e1:IntKind.i64.wrap (n-1)=n-1:=dP oM oM;have e2:IntKind.i64.wrap (n-1-s.labels.length)=n-1-s.labels.length:=dP (by unfold aR at hl;omega) oM;have e3:IntKind.i64.wrap (deep+1)=deep+1:=dP oM oM;have b1:=uj s.ak (deep+1) (n-1-s.labels.length);have b2:=uj s.targets (deep+1) (Ex.cZ s.ak (deep+1) (n-1-s.labels.length));simp[Ij,aC,ae,show ¬(30:Int)<deep from hd,e1,e2,e3];refine iu (DT _ s.ak bL O.ak.1 O.ak.2 (deep+1) (n-1-s.labels.length) oM oM (by unfold aR at hl;omega) oM _) ?_;simp;refine iu (DT _ s.targets bL O.targets.1 O.targets.2 (deep+1) _ oM oM (by unfold aR at hl;omega) oM _) ?_;simp[cU,dx,dG,ae];generalize hm0:Ex.cZ s.targets (deep+1) (Ex.cZ s.ak (deep+1) (n-1-s.labels.length))=m0 at b2 |-;have B0:Bd m0:=by unfold Bd;unfold aR at hl;omega
  have B1:=El.oW s.elems deep m0 B0;have B2:=De.oW s.decls deep _ O.decls.2 B1;have l1:=O.elems.1;have l2:=O.decls.1;have l3:=O.body.1;unfold aR at l1 l2 l3;refine du (fun e S=>e.get 2=some (.int .i64 (El.leftG s.elems deep m0))/\e.get 3=some (.ptr 0 0 0 1)/\e.get 1=some (.int .i64 deep)/\e.get 6=some (.int .i64 0)/\S=[.arr [s.v] 8 1]) ?_ ?_
  ·refine bN (fun j e S'=>∃(i:Nat) (m:Int),j=s.elems.length - i∧i≤s.elems.length∧El.leftG (s.elems.drop i) deep m=El.leftG s.elems deep m0∧Bd m∧S'=[.arr [s.v] 8 1]∧
    e=[(7,.int .i64 i),(2,.int .i64 m),(3,.ptr 0 0 0 1),(1,.int .i64 deep),(6,.int .i64 0)]) s.elems.length _ ?_ ⟨0,m0,by simp,by omega,rfl,B0,rfl,rfl⟩ ?_
   .exact aN
   rintro j e S' ⟨i,m,rfl,hi,hm,hB,rfl,rfl⟩;by_cases h:i<s.elems.length
   .by_cases h0:0<m
    .have hB':=hB;unfold Bd at hB';have b3:=uj s.elems[i].ak (deep+1) (m-1);have o3:=O.elems.2 _ (cI h);have hx:=DT _ s.elems[i].ak bL o3.1 o3.2 (deep+1) (m-1) oM oM oM oM;simp[h,h0,ae,BZ,e3,dP (n:=m-1) oM oM];refine aG (hx _) ?_;simp[bP i];refine⟨_,?_,_,?_,i+1,rfl,by omega,Ex.cZ s.elems[i].ak (deep+1) (m-1),?_,?_,rfl⟩
     .omega
     .repeat' first|exact af.fh _|refine af.dV (by simp;rfl) ?_|refine af.dV sM ?_
     .rw[<-hm,Bm h,El.leftG,ai h0]
     .unfold Bd;omega
    .simp[h,h0,ae];rw[<-hm,El.qd h0]
   .simp[h,ae];rw[<-hm,yh oM];rfl
  rintro e S ⟨g2,g3,g1,g6,rfl⟩;generalize hm1:El.leftG s.elems deep m0=m1 at *;simp[g1,g2,g3];refine du (fun e S=>e.get 2=some (.int .i64 (De.leftG s.decls deep m1))/\e.get 3=some (.ptr 0 0 0 1)/\e.get 1=some (.int .i64 deep)/\e.get 6=some (.int .i64 0)/\S[0]?=some (.arr [s.v] 8 1)) ?_ ?_
  ·refine bN (fun j e S'=>∃(i:Nat) (m:Int),j=s.decls.length - i∧i≤s.decls.length∧De.leftG (s.decls.drop i) deep m=De.leftG s.decls deep m1∧Bd m∧S'[0]?=some (.arr [s.v] 8 1)∧
    e=[(8,.int .i64 i),(2,.int .i64 m),(3,.ptr 0 0 0 1),(1,.int .i64 deep),(6,.int .i64 0)]) s.decls.length _ ?_ ⟨0,m1,by simp,by omega,rfl,B1,rfl,rfl⟩ ?_
   .repeat' first|exact af.fh _|refine af.dV (by simp[g1,g2,g3,g6]) ?_
   rintro j e S' ⟨i,m,rfl,hi,hm,hB,hz,rfl⟩;by_cases h:i<s.decls.length
   .by_cases h0:0<m
    .have hB':=hB;unfold Bd at hB';have o3:=(De.ep _).1 (De.gW O.decls.2 _ (cI h));have lt3:=qcu h;generalize hdd:s.decls[i]=d at *;have q1:=o3.names.1;have q2:=o3.aB.1;have q3:=o3.body.1;unfold aR at q1 q2 q3;have b3:=uj d.ak (deep+1) (m-1-d.names.length-d.aB.length);have hx:=DT _ d.ak bL o3.ak.1 o3.ak.2 (deep+1) (m-1-d.names.length-d.aB.length) oM oM oM oM;have w1:IntKind.i64.wrap (m-1)=m-1:=dP oM oM;have w2:IntKind.i64.wrap (m-1-d.names.length)=m-1-d.names.length:=dP oM oM;have w3:IntKind.i64.wrap (m-1-d.names.length-d.aB.length)=m-1-d.names.length-d.aB.length:=dP oM oM;have B3:Bd (Ex.cZ d.ak (deep+1) (m-1-d.names.length-d.aB.length)):=by unfold Bd;omega
     have hnext:De.leftG (s.decls.drop (i+1)) deep (d.left deep m)=De.leftG s.decls deep m1:=by rw[<-hm,Bm h,De.leftG,ai h0,hdd]
     rw[De.left_eq]at hnext;have B4:=Sm.oW d.body (deep+1) _ o3.body.2 B3;simp[h,h0,hz,ae,wP,hdd,aC,aA,iL,e3,w1,w2,w3];refine aG (hx _) ?_;generalize Ex.cZ d.ak (deep+1) (m-1-d.names.length-d.aB.length)=m2 at *;simp;refine du (fun e U=>e.get 2=some (.int .i64 (Sm.leftG d.body (deep+1) m2))/\e.get 3=some (.ptr 0 0 0 1)/\e.get 1=some (.int .i64 deep)/\e.get 6=some (.int .i64 0)/\e.get 8=some (.int .i64 i)/\U[0]?=some (.arr [s.v] 8 1)) ?_ ?_
     .have hz':(S'++[Ob.arr [d.v] 7 1])[0]?=some (.arr [s.v] 8 1):=by rw[b8 (aT.1 hz).1];exact hz
      have hd':(S'++[Ob.arr [d.v] 7 1])[S'.length]?=some (.arr [d.v] 7 1):=by simp
      generalize S'++[Ob.arr [d.v] 7 1]=U at *;generalize S'.length=L at *;refine bN (fun j e S'=>∃(r:Nat) (q:Int),j=d.body.length - r∧r≤d.body.length∧Sm.leftG (d.body.drop r) (deep+1) q=Sm.leftG d.body (deep+1) m2∧Bd q∧S'=U∧
       e=[(10,.int .i64 r),(9,.ptr L 0 0 1),(8,.int .i64 i),(2,.int .i64 q),(3,.ptr 0 0 0 1),(1,.int .i64 deep),(6,.int .i64 0)]) d.body.length _ ?_ ⟨0,m2,by simp,by omega,rfl,B3,rfl,rfl⟩ ?_
      .exact aN
      rintro j e S' ⟨r,q,rfl,hr,hq,JW,rfl,rfl⟩;by_cases g:r<d.body.length
      .by_cases g0:0<q
       .have BK:=JW;unfold Bd at BK;have lt4:SizeOf.sizeOf d.body[r]<SizeOf.sizeOf d:=qct g;have ok4:=Sm.gW o3.body.2 _ (cI g);have hy:=ih d.body[r] oM ok4 (deep+1) q oM oM g0 oM S';have B5:=Sm.CH d.body[r] (deep+1) q ok4 g0 BK.2;simp[g,g0,hz',hd',ae,pY,e3];refine aG hy ?_;simp[bP r];refine⟨_,?_,_,?_,r+1,rfl,by omega,d.body[r].left (deep+1) q,?_,B5,rfl⟩
        .omega
        .repeat' first|exact af.fh _|refine af.dV (by simp;rfl) ?_|refine af.dV sM ?_
        .rw[<-hq,Bm g,Sm.leftG,ai g0]
       .simp[g,g0,hz',hd',ae];rw[<-hq,Sm.qd g0]
      .simp[g,hz',hd',ae];rw[<-hq,yh oM];rfl
     .rintro e U ⟨f2,f3,f1,f6,f8,fz⟩;simp[f8,bP i];refine⟨_,?_,_,?_,i+1,rfl,by omega,Sm.leftG d.body (deep+1) m2,hnext,B4,fz,rfl⟩
      .omega
      .repeat' first|exact af.fh _|refine af.dV (by simp[f1,f2,f3,f6];try rfl) ?_
    .simp[h,h0,hz,ae];rw[<-hm,De.qd h0]
   .simp[h,hz,ae];rw[<-hm,yh oM];rfl
  clear g1 g2 g3 g6;rintro e S ⟨g2,g3,g1,g6,hz⟩;generalize hm2:De.leftG s.decls deep m1=m2 at *;simp[g1,g2,g3];refine du (fun e S=>e.get 2=some (.int .i64 (Sm.leftG s.body (deep+1) m2))) ?_ ?_
  ·refine bN (fun j e S'=>∃(r:Nat) (q:Int),j=s.body.length - r∧r≤s.body.length∧Sm.leftG (s.body.drop r) (deep+1) q=Sm.leftG s.body (deep+1) m2∧Bd q∧S'=S∧
    e=[(11,.int .i64 r),(2,.int .i64 q),(3,.ptr 0 0 0 1),(1,.int .i64 deep),(6,.int .i64 0)]) s.body.length _ ?_ ⟨0,m2,by simp,by omega,rfl,B2,rfl,rfl⟩ ?_
   .repeat' first|exact af.fh _|refine af.dV (by simp[g1,g2,g3,g6]) ?_
   rintro j e S' ⟨r,q,rfl,hr,hq,JW,rfl,rfl⟩;by_cases g:r<s.body.length
   .by_cases g0:0<q
    .have BK:=JW;unfold Bd at BK;have lt4:SizeOf.sizeOf s.body[r]<SizeOf.sizeOf s:=qj9 g;have ok4:=Sm.gW O.body.2 _ (cI g);have hy:=ih s.body[r] oM ok4 (deep+1) q oM oM g0 oM S';have B5:=Sm.CH s.body[r] (deep+1) q ok4 g0 BK.2;simp[g,g0,hz,ae,pY,e3];refine aG hy ?_;simp[bP r];refine⟨_,?_,_,?_,r+1,rfl,by omega,s.body[r].left (deep+1) q,?_,B5,rfl⟩
     .omega
     .repeat' first|exact af.fh _|refine af.dV (by simp;rfl) ?_|refine af.dV sM ?_
     .rw[<-hq,Bm g,Sm.leftG,ai g0]
    .simp[g,g0,hz,ae];rw[<-hq,Sm.qd g0]
   .simp[g,hz,ae];rw[<-hq,yh oM];rfl
  .rintro e S g;simp[g];exact dB (vs:=[.int .i64 (Sm.leftG s.body (deep+1) m2)]) sM rfl rfl
def Sm.light(s:Sm):Bool:=decide (0<s.left 0 150)
def qkF(s:Sm)(hok:s.ok):∀S,Fn prog 17 [s.v] S (.bool s.light):=by
 refine Pu.ib OV ?_;simp[OV,aC,ae];refine aG (qly _ s bL hok 0 150 oM oM oM oM _) ?_;simp;exact aD (r:=rfl)
def ZG(l:List Ex)(hl:l.length<=aR)(hok:Ex.bR l):∀S,Fn prog 26 [.sl false (l.map Ex.v)] S (.bool (decide (l.length<=9)&&decide (0<Ex.cZ l 0 60))):=by
 refine Pu.ib Ii ?_;by_cases h:l.length<=9
 .simp[Ii,h,show(l.length:Int)<=9 by omega];refine aG (DT _ l bL hl hok 0 60 oM oM oM oM _) ?_;simp;exact aD (r:=rfl)
 .simp[Ii,h,show ¬(l.length:Int)<=9 by omega];exact aD (r:=rfl)
mutual
theorem Ex.iZ:∀x:Ex,x.v.weak=x.v
 |.mk k o n m e t a=>by simp only[Ex.v,V.weak,V.cr,Ex.s0 a]
theorem Ex.s0:∀l:List Ex,V.cr (Ex.vl l)=Ex.vl l
 |[]=>rfl
 |x::l=>by simp only[Ex.vl,V.cr,Ex.iZ x,Ex.s0 l]
end
def xY{α:Type}{f:α->V}(h:∀x,(f x).weak=f x)(l:List α):V.cr (l.map f)=l.map f:=by
 rw[iM,lu];exact lr fun x _=>h x
def jq(l:List Ex):V.cr (l.map Ex.v)=l.map Ex.v:=xY Ex.iZ l
def El.iZ(e:El):e.v.weak=e.v:=by simp only[El.v,V.weak,V.cr,jq]
theorem Fo.iZ(e:Fo):e.v.weak=e.v:=rfl
def m7(l:List El):V.cr (l.map El.v)=l.map El.v:=xY El.iZ l
def m8(l:List Fo):V.cr (l.map Fo.v)=l.map Fo.v:=xY Fo.iZ l
def jL(l:List Bz):V.cr (l.map .str)=l.map .str:=xY (fun _=>rfl) l
mutual
theorem De.iZ:∀x:De,x.v.weak=x.v
 |.mk k o t n e f b=>by simp only[De.v,V.weak,V.cr,jq,m8,jL,Sm.s0 b]
theorem Sm.iZ:∀x:Sm,x.v.weak=x.v
 |.mk l k t g e f d b=>by simp only[Sm.v,V.weak,V.cr,jq,m7,jL,De.s0 d,Sm.s0 b]
theorem De.s0:∀l:List De,V.cr (De.vl l)=De.vl l
 |[]=>rfl
 |x::l=>by simp only[De.vl,V.cr,De.iZ x,De.s0 l]
theorem Sm.s0:∀l:List Sm,V.cr (Sm.vl l)=Sm.vl l
 |[]=>rfl
 |x::l=>by simp only[Sm.vl,V.cr,Sm.iZ x,Sm.s0 l]
end
def oc(l:List De):V.cr (l.map De.v)=l.map De.v:=xY De.iZ l
def i4(l:List Sm):V.cr (l.map Sm.v)=l.map Sm.v:=xY Sm.iZ l
def V5(k:Int)(s:Sm)(d:De)(e:El)(x:Ex):(fO k s d e x).weak=fO k s d e x:=by
 simp only[fO,Sm.cs,De.cs,El.cs,Ex.cs,cP,eK,V.weak,V.cr,jq,m7,m8,jL,oc,i4]
def Pa.iZ(p:Pa):p.v.weak=p.v:=V5 _ _ _ _ _
attribute [simp] Ex.iZ El.iZ Fo.iZ De.iZ Sm.iZ jq m7 m8 jL oc i4 V5 Pa.iZ V4 Pa.dA
def Zg(s:Sm):∀S,Fn prog 101 [s.v] S (Pa.st s).v:=by
 refine Pu.intro (R:=fun v=>v=(Pa.st s).v) H2.g H2.o (kn rfl) (by simp[V.under]) (by rintro v rfl;simp) ?_;simp[H2,aC,ae,aA,iL,bz,bj];refine wz rfl ?_ ?_
 .simp only[aK,V.weak,V.cr,jq,m7,m8,jL,oc,i4];rfl
 .simp[aK,V.weak,V.cr,V.under,V.dj]
def Zo(s:Ex):∀S,Fn prog 142 [s.v] S (Pa.ex s).v:=by
 refine Pu.intro (R:=fun v=>v=(Pa.ex s).v) H7.g H7.o (kn rfl) (by simp[V.under]) (by rintro v rfl;simp) ?_;simp[H7,aC,ae,aA,iL,bz,bj];refine wz rfl ?_ ?_
 .simp only[aK,V.weak,V.cr,jq,m7,m8,jL,oc,i4];rfl
 .simp[aK,V.weak,V.cr,V.under,V.dj]
def qkD(s:De):∀S,Fn prog 168 [s.v] S (Pa.de s).v:=by
 refine Pu.intro (R:=fun v=>v=(Pa.de s).v) H9.g H9.o (kn rfl) (by simp[V.under]) (by rintro v rfl;simp) ?_;simp[H9,aC,ae,aA,iL,bz,bj];refine wz rfl ?_ ?_
 .simp only[aK,V.weak,V.cr,jq,m7,m8,jL,oc,i4];rfl
 .simp[aK,V.weak,V.cr,V.under,V.dj]
def qkW(s:El):∀S,Fn prog 205 [s.v] S (Pa.el s).v:=by
 refine Pu.intro (R:=fun v=>v=(Pa.el s).v) Ia.g Ia.o (kn rfl) (by simp[V.under]) (by rintro v rfl;simp) ?_;simp[Ia,aC,ae,aA,iL,bz,bj];refine wz rfl ?_ ?_
 .simp only[aK,V.weak,V.cr,jq,m7,m8,jL,oc,i4];rfl
 .simp[aK,V.weak,V.cr,V.under,V.dj]
def qkJ(p:Pa)(hp:p.ok):∀S,Fn prog 178 [p.v] S (.int .i64 p.own):=by
 refine Pu.ib An ?_;have h1:=Pa.G2 hp;unfold aR at h1
 cases p with
 |st s=>
  simp only[Pa.own]at h1;simp[An,aC,ae,Pa.v,Pa.kind,Pa.toS,Pa.own,dP (n:=1+(s.labels.length:Int)) oM oM];exact aD (r:=rfl)
 |de d=>
  simp only[Pa.own]at h1;simp[An,aC,ae,Pa.v,Pa.kind,Pa.ij,Pa.own,dP (n:=1+(d.names.length:Int)) oM oM,dP (n:=1+(d.names.length:Int)+d.aB.length) oM oM];exact aD (r:=rfl)
 |el e=>
  simp[An,aC,ae,Pa.v,Pa.kind,Pa.own];exact aD (r:=rfl)
 |ex x=>
  simp[An,aC,ae,Pa.v,Pa.kind,Pa.own];exact aD (r:=rfl)
theorem Pa.NH(p:Pa):p.v.cells.all V.flat=true:=rfl
def Zw(p:Pa)(S:St):au prog 179 [p.v] S (fun v U=>v=.fn (.func 202) [] [.ptr S.length 0 0 1]/\U=S++[.arr [p.v] 25 1]):=by
 refine au.ib O0 ?_;simp[O0,qbG (Pa.NH p) (by rw[Pa.eP];omega),Pa.eP];exact aS rfl ⟨rfl,rfl⟩
def DN(l:List Ex)(hl:l.length<=aR)(y:Nat)(S:St)(J:Nat->St->Prop)(D:St->Prop)(M:Np)(hM:∀x,M x->x<S.length)(hJ:∀i U o,J i U->J i (U++[o]))(hD:∀U o,D U->D (U++[o]))
  (hy:∀i x,l[i]?=some x->∀U,J i U->Kp M S U->fA prog y [(Pa.ex x).v] U (fun v U'=>Kp M U U'/\((v=.bool true/\J (i+1) U')\/(v=.bool false/\D U')))) (h0:J 0 S):
  au prog 203 [.sl false (l.map Ex.v),.fn (.func 142) [] [],.cj y] S (fun v U=>Kp M S U/\((v=.bool true/\J l.length U)\/(v=.bool false/\D U))):=by
 unfold aR at hl;refine au.ib Pm ?_;simp[Pm];refine bN (fun j e S'=>∃i:Nat,j=l.length - i∧i≤l.length∧J i S'∧Kp M S S'∧
  e=[(11,.int .i64 i),(10,.int .i64 l.length),(9,.sl false (l.map Ex.v)),(1,.fn (.func 142) [] []),(2,.cj y)]) l.length _ ?_ ⟨0,by simp,by omega,h0,Kp.refl _ _,rfl⟩ ?_
 .exact aN
 rintro j e S' ⟨i,rfl,hi,hj,hk,rfl⟩;by_cases h:i<l.length
 .simp[h,mP,aC,aA,iL,ae];refine aG (Zo l[i] _) ?_;simp;refine uX (hy i l[i] (by simp[h]) _ (hJ _ _ _ hj) (hk.push _)) ?_;rintro v U' ⟨hk',⟨rfl,hj'⟩|⟨rfl,hd'⟩⟩
  .simp[bP i];refine⟨_,?_,_,?_,i+1,rfl,by omega,hj',(hk.push _).trans hk',rfl⟩
   .omega
   .exact aN
  .simp;exact aS rfl ⟨(hk.push _).trans hk',.inr ⟨rfl,hd'⟩⟩
 .simp[h];have:i=l.length:=by omega
  subst this;exact aS rfl ⟨hk,.inl ⟨rfl,hj⟩⟩
def qkV(l:List El)(hl:l.length<=aR)(y:Nat)(S:St)(J:Nat->St->Prop)(D:St->Prop)(M:Np)(hM:∀x,M x->x<S.length)(hJ:∀i U o,J i U->J i (U++[o]))(hD:∀U o,D U->D (U++[o]))
  (hy:∀i x,l[i]?=some x->∀U,J i U->Kp M S U->fA prog y [(Pa.el x).v] U (fun v U'=>Kp M U U'/\((v=.bool true/\J (i+1) U')\/(v=.bool false/\D U')))) (h0:J 0 S):
  au prog 204 [.sl false (l.map El.v),.fn (.func 205) [] [],.cj y] S (fun v U=>Kp M S U/\((v=.bool true/\J l.length U)\/(v=.bool false/\D U))):=by
 unfold aR at hl;refine au.ib Pn ?_;simp[Pn];refine bN (fun j e S'=>∃i:Nat,j=l.length - i∧i≤l.length∧J i S'∧Kp M S S'∧
  e=[(11,.int .i64 i),(10,.int .i64 l.length),(9,.sl false (l.map El.v)),(1,.fn (.func 205) [] []),(2,.cj y)]) l.length _ ?_ ⟨0,by simp,by omega,h0,Kp.refl _ _,rfl⟩ ?_
 .exact aN
 rintro j e S' ⟨i,rfl,hi,hj,hk,rfl⟩;by_cases h:i<l.length
 .simp[h,BZ,aC,aA,iL,ae];refine aG (qkW l[i] _) ?_;simp;refine uX (hy i l[i] (by simp[h]) _ (hJ _ _ _ hj) (hk.push _)) ?_;rintro v U' ⟨hk',⟨rfl,hj'⟩|⟨rfl,hd'⟩⟩
  .simp[bP i];refine⟨_,?_,_,?_,i+1,rfl,by omega,hj',(hk.push _).trans hk',rfl⟩
   .omega
   .exact aN
  .simp;exact aS rfl ⟨(hk.push _).trans hk',.inr ⟨rfl,hd'⟩⟩
 .simp[h];have:i=l.length:=by omega
  subst this;exact aS rfl ⟨hk,.inl ⟨rfl,hj⟩⟩
def qkX(l:List De)(hl:l.length<=aR)(y:Nat)(S:St)(J:Nat->St->Prop)(D:St->Prop)(M:Np)(hM:∀x,M x->x<S.length)(hJ:∀i U o,J i U->J i (U++[o]))(hD:∀U o,D U->D (U++[o]))
  (hy:∀i x,l[i]?=some x->∀U,J i U->Kp M S U->fA prog y [(Pa.de x).v] U (fun v U'=>Kp M U U'/\((v=.bool true/\J (i+1) U')\/(v=.bool false/\D U')))) (h0:J 0 S):
  au prog 206 [.sl false (l.map De.v),.fn (.func 168) [] [],.cj y] S (fun v U=>Kp M S U/\((v=.bool true/\J l.length U)\/(v=.bool false/\D U))):=by
 unfold aR at hl;refine au.ib Po ?_;simp[Po];refine bN (fun j e S'=>∃i:Nat,j=l.length - i∧i≤l.length∧J i S'∧Kp M S S'∧
  e=[(11,.int .i64 i),(10,.int .i64 l.length),(9,.sl false (l.map De.v)),(1,.fn (.func 168) [] []),(2,.cj y)]) l.length _ ?_ ⟨0,by simp,by omega,h0,Kp.refl _ _,rfl⟩ ?_
 .exact aN
 rintro j e S' ⟨i,rfl,hi,hj,hk,rfl⟩;by_cases h:i<l.length
 .simp[h,wP,aC,aA,iL,ae];refine aG (qkD l[i] _) ?_;simp;refine uX (hy i l[i] (by simp[h]) _ (hJ _ _ _ hj) (hk.push _)) ?_;rintro v U' ⟨hk',⟨rfl,hj'⟩|⟨rfl,hd'⟩⟩
  .simp[bP i];refine⟨_,?_,_,?_,i+1,rfl,by omega,hj',(hk.push _).trans hk',rfl⟩
   .omega
   .exact aN
  .simp;exact aS rfl ⟨(hk.push _).trans hk',.inr ⟨rfl,hd'⟩⟩
 .simp[h];have:i=l.length:=by omega
  subst this;exact aS rfl ⟨hk,.inl ⟨rfl,hj⟩⟩
def Zy(l:List Sm)(hl:l.length<=aR)(y:Nat)(S:St)(J:Nat->St->Prop)(D:St->Prop)(M:Np)(hM:∀x,M x->x<S.length)(hJ:∀i U o,J i U->J i (U++[o]))(hD:∀U o,D U->D (U++[o]))
  (hy:∀i x,l[i]?=some x->∀U,J i U->Kp M S U->fA prog y [(Pa.st x).v] U (fun v U'=>Kp M U U'/\((v=.bool true/\J (i+1) U')\/(v=.bool false/\D U')))) (h0:J 0 S):
  au prog 207 [.sl false (l.map Sm.v),.fn (.func 101) [] [],.cj y] S (fun v U=>Kp M S U/\((v=.bool true/\J l.length U)\/(v=.bool false/\D U))):=by
 unfold aR at hl;refine au.ib Pq ?_;simp[Pq];refine bN (fun j e S'=>∃i:Nat,j=l.length - i∧i≤l.length∧J i S'∧Kp M S S'∧
  e=[(11,.int .i64 i),(10,.int .i64 l.length),(9,.sl false (l.map Sm.v)),(1,.fn (.func 101) [] []),(2,.cj y)]) l.length _ ?_ ⟨0,by simp,by omega,h0,Kp.refl _ _,rfl⟩ ?_
 .exact aN
 rintro j e S' ⟨i,rfl,hi,hj,hk,rfl⟩;by_cases h:i<l.length
 .simp[h,pY,aC,aA,iL,ae];refine aG (Zg l[i] _) ?_;simp;refine uX (hy i l[i] (by simp[h]) _ (hJ _ _ _ hj) (hk.push _)) ?_;rintro v U' ⟨hk',⟨rfl,hj'⟩|⟨rfl,hd'⟩⟩
  .simp[bP i];refine⟨_,?_,_,?_,i+1,rfl,by omega,hj',(hk.push _).trans hk',rfl⟩
   .omega
   .exact aN
  .simp;exact aS rfl ⟨(hk.push _).trans hk',.inr ⟨rfl,hd'⟩⟩
 .simp[h];have:i=l.length:=by omega
  subst this;exact aS rfl ⟨hk,.inl ⟨rfl,hj⟩⟩
def zd(p:Pa):p.kids.length=match p with
 |.st s=>s.targets.length+(s.ak.length+(s.elems.length+(s.decls.length+s.body.length)))
 |.de d=>d.ak.length+d.body.length
 |.el e=>e.ak.length
 |.ex x=>x.args.length:=by cases p<;>simp[Pa.kids]
def qaA(p:Pa)(hp:p.ok)(c:Nat):Rf prog 202 [] [.ptr c 0 0 1] (p.kids.map fun q=>[q.v]) (fun U=>U[c]?=some (.arr [p.v] 25 1)):=by
 intro S l J D M hM hcap hJ hD _ _ hy h0;have hc:=hcap _ _ h0;have hyk:∀i q,p.kids[i]?=some q->∀U,J i U->Kp M S U->fA prog l [q.v] U (fun v U'=>Kp M U U'/\((v=.bool true/\J (i+1) U')\/(v=.bool false/\D U'))):=fun i q hq=>hy i [q.v] (by simp[hq])
 clear hy;simp only[bu,eK,cP];have hlt:c<S.length:=(aT.1 hc).1;refine au.ib As ?_
 cases p with
 |el e=>
  have o:=hp;have hA:=DN e.ak o.1 l S J D M hM hJ hD (fun i x hx=>hyk i (.ex x) (by simp[Pa.kids,hx])) h0;simp[As,ae,hc,Pa.v,Pa.kind,Pa.je];refine aU hA ?_;rintro v U ⟨hk,⟨rfl,hj⟩|⟨rfl,hd⟩⟩
  .simp;exact i9 rfl ⟨hk,.inl (by simpa[Pa.kids]using hj)⟩
  .simp;exact i9 rfl ⟨hk,.inr hd⟩
 |ex e=>
  have o:=Ex.CZ hp;have hA:=DN e.args o.1 l S J D M hM hJ hD (fun i x hx=>hyk i (.ex x) (by simp[Pa.kids,hx])) h0;simp[As,ae,hc,Pa.v,Pa.kind,Pa.jf];refine aU hA ?_;rintro v U ⟨hk,⟨rfl,hj⟩|⟨rfl,hd⟩⟩
  .simp;exact i9 rfl ⟨hk,.inl (by simpa[Pa.kids]using hj)⟩
  .simp;exact i9 rfl ⟨hk,.inr hd⟩
 |de d=>
  have o:=(De.ep d).1 hp;have hA:=DN d.ak o.ak.1 l S J D M hM hJ hD (fun i x hx=>hyk i (.ex x) (by simp only[Pa.kids];rw[b8 (by simpa using(aT.1 hx).1)];simp[hx])) h0;simp[As,ae,hc,Pa.v,Pa.kind,Pa.ij];refine aU hA ?_;rintro v U ⟨hk,⟨rfl,hj⟩|⟨rfl,hd⟩⟩
  .have hc':=hcap _ _ hj;have hB:=Zy d.body o.body.1 l U (fun i=>J (d.ak.length+i)) D M (fun x hx=>jP (hM x hx) hk.len) (fun i U o=>hJ _ U o) hD
    (fun i x hx U' hj' hk'=>hyk (d.ak.length+i) (.st x) (by simp only[Pa.kids];rw[bK sM];simp[hx]) U' hj' (hk.trans hk')) hj
   simp[ae,hc',Pa.v,Pa.kind,Pa.ij];refine aU hB ?_;rintro v U' ⟨hk',⟨rfl,hj'⟩|⟨rfl,hd'⟩⟩
   .simp;exact i9 rfl ⟨hk.trans hk',.inl (by simpa[Pa.kids]using hj')⟩
   .simp;exact i9 rfl ⟨hk.trans hk',.inr hd'⟩
  .simp;exact i9 rfl ⟨hk,.inr hd⟩
 |st s=>
  have o:=(Sm.ep s).1 hp
  have g1:∀(i:Nat) x,s.targets[i]?=some x->(Pa.st s).kids[i]?=some (.ex x):=fun i x hx=>by
   simp only[Pa.kids];rw[b8 (by simpa using(aT.1 hx).1)];simp[hx]
  have g2:∀(i:Nat) x,s.ak[i]?=some x->(Pa.st s).kids[s.targets.length+i]?=some (.ex x):=fun i x hx=>by
   simp only[Pa.kids];rw[bK sM,b8 (by simpa using(aT.1 hx).1)];simp[hx]
  have g3:∀(i:Nat) x,s.elems[i]?=some x->(Pa.st s).kids[s.targets.length+s.ak.length+i]?=some (.el x):=fun i x hx=>by
   simp only[Pa.kids];rw[bK (by simp;omega),bK (by simp;omega),b8 (by have:=(aT.1 hx).1;simp;omega)];simp[show s.targets.length+s.ak.length+i-s.targets.length-s.ak.length=i by omega,hx]
  have g4:∀(i:Nat) x,s.decls[i]?=some x->(Pa.st s).kids[s.targets.length+s.ak.length+s.elems.length+i]?=some (.de x):=fun i x hx=>by
   simp only[Pa.kids];rw[bK (by simp;omega),bK (by simp;omega),bK (by simp;omega),b8 (by have:=(aT.1 hx).1;simp;omega)];simp[show s.targets.length+s.ak.length+s.elems.length+i-s.targets.length-s.ak.length-s.elems.length=i by omega,hx]
  have g5:∀(i:Nat) x,s.body[i]?=some x->(Pa.st s).kids[s.targets.length+s.ak.length+s.elems.length+s.decls.length+i]?=some (.st x):=fun i x hx=>by
   simp only[Pa.kids];rw[bK (by simp;omega),bK (by simp;omega),bK (by simp;omega),bK (by simp;omega)];simp[show s.targets.length+s.ak.length+s.elems.length+s.decls.length+i-s.targets.length-s.ak.length-s.elems.length-s.decls.length=i by omega,hx]
  have Iu:Kp M S (S++[.arr [s.v] 8 1]):=(Kp.refl _ _).push _;have hA:=DN s.targets o.targets.1 l (S++[.arr [s.v] 8 1]) J D M (fun x hx=>by have:=hM x hx;simp;omega) hJ hD (fun i x hx U hj hk=>hyk i (.ex x) (g1 i x hx) U hj (Iu.trans hk)) (hJ _ _ _ h0);have hs:(S++[Ob.arr [s.v] 8 1])[S.length]?=some (.arr [s.v] 8 1):=by simp
  have nM:¬M S.length:=fun h=>by have:=hM _ h;omega
  simp[As,ae,hc,Pa.v,Pa.kind,Pa.toS,aC,aA,iL];refine aU hA ?_;rintro v U1 ⟨k1,⟨rfl,j1⟩|⟨rfl,hd⟩⟩
  .have hs1:=k1.at hs nM;have k1':=Iu.trans k1;have hB:=DN s.ak o.ak.1 l U1 (fun i=>J (s.targets.length+i)) D M (fun x hx=>jP (hM x hx) k1'.len) (fun i U o=>hJ _ U o) hD (fun i x hx U' hj' hk'=>hyk _ (.ex x) (g2 i x hx) U' hj' (k1'.trans hk')) j1;simp[ae,hs1];refine aU hB ?_;rintro v U2 ⟨k2,⟨rfl,j2⟩|⟨rfl,hd⟩⟩
   .have hs2:=k2.at hs1 nM;have k2':=k1'.trans k2;have hC:=qkV s.elems o.elems.1 l U2 (fun i=>J (s.targets.length+s.ak.length+i)) D M (fun x hx=>jP (hM x hx) k2'.len) (fun i U o=>hJ _ U o) hD (fun i x hx U' hj' hk'=>hyk _ (.el x) (g3 i x hx) U' hj' (k2'.trans hk')) j2;simp[ae,hs2];refine aU hC ?_;rintro v U3 ⟨k3,⟨rfl,j3⟩|⟨rfl,hd⟩⟩
    .have hs3:=k3.at hs2 nM;have GG:=k2'.trans k3;have hE:=qkX s.decls o.decls.1 l U3 (fun i=>J (s.targets.length+s.ak.length+s.elems.length+i)) D M (fun x hx=>jP (hM x hx) GG.len) (fun i U o=>hJ _ U o) hD (fun i x hx U' hj' hk'=>hyk _ (.de x) (g4 i x hx) U' hj' (GG.trans hk')) j3;simp[ae,hs3];refine aU hE ?_;rintro v U4 ⟨k4,⟨rfl,j4⟩|⟨rfl,hd⟩⟩
     .have hs4:=k4.at hs3 nM;have GH:=GG.trans k4;have hF:=Zy s.body o.body.1 l U4 (fun i=>J (s.targets.length+s.ak.length+s.elems.length+s.decls.length+i)) D M (fun x hx=>jP (hM x hx) GH.len) (fun i U o=>hJ _ U o) hD (fun i x hx U' hj' hk'=>hyk _ (.st x) (g5 i x hx) U' hj' (GH.trans hk')) j4;simp[ae,hs4];refine aU hF ?_;rintro v U5 ⟨k5,⟨rfl,j5⟩|⟨rfl,hd⟩⟩
      .simp;refine i9 rfl ⟨GH.trans k5,.inl ?_⟩;rw[zd];simpa[gj]using j5
      .simp;exact i9 rfl ⟨GH.trans k5,.inr hd⟩
     .simp;exact i9 rfl ⟨GG.trans k4,.inr hd⟩
    .simp;exact i9 rfl ⟨k2'.trans k3,.inr hd⟩
   .simp;exact i9 rfl ⟨k1'.trans k2,.inr hd⟩
  .simp;exact i9 rfl ⟨Iu.trans k1,.inr hd⟩
def gp{U:St}{x:Nat}{o o':Ob}(h:U[x]?=some o):(U++[o'])[x]?=some o:=by rw[b8 (aT.1 h).1];exact h
def gs{U:St}{x L:Nat}{o o':Ob}(h:U[x]?=some o)(hx:x≠L):(U.set L o')[x]?=some o:=by rw[bC (Ne.symm hx)];exact h
def aM{U:St}{x:Nat}{o:Ob}(h:U[x]?=some o):x<U.length:=(aT.1 h).1
@[simp] theorem Pa.qnV(p:Pa):(∀x,x∈p.v.cells->x.flat=true)=True:=by
 have:=Pa.NH p;rw[d6]at this;exact eq_true this
@[simp] theorem Pa.qnW(p:Pa):(p.v.cells.all V.flat)=true:=Pa.NH p
@[simp] theorem Pa.qnY(p:Pa):p.v.size=25:=rfl
@[simp] theorem Pa.qnX(p:Pa):V.part p.v 0 (some 25)=some p.v:=rfl
def YQ{α:Type}{l:List α}{i:Nat}{x:α}(h:l[i]?=some x):l.set i x=l:=by
 apply ou;intro j;rw[EE];split
 .rename_i hij;subst hij;rw[h];have:=(aT.1 h).1;simp[this]
 .rfl
def Kp.chain{M N:Np}{S T U:St}(h:Kp M S T)(g:Kp N T U)(hn:∀l,l<S.length->N l->M l):Kp M S U:=
 ⟨fL h.len g.len,fun l hl hm=>(g.get l (jP hl h.len) fun hh=>hm (hn l hl hh)).trans (h.get l hl hm)⟩
def yP(a b c:Nat):V:=.fn (.func 177) [] [.ptr a 0 0 1,.ptr b 0 0 1,.ptr c 0 0 1]
structure MJ(a b c n:Nat)(p:Pa)(at' z d:Int)(U:St):Prop where
 ta:U[a]?=some (.arr [.int .i64 z] 1 1)
 tb:U[b]?=some (.arr [.int .i64 d] 1 1)
 tc:U[c]?=some (.arr [yP a b c] 1 1)
 t6:U[n+1]?=some (.arr [.int .i64 at'] 1 1)
 t7:U[n+2]?=some (.arr [.bool false] 1 1)
 k:U[n+3]?=some (.arr [p.v] 25 1)
def MJ.push{a b c n:Nat}{p:Pa}{at' z d:Int}{U:St}(h:MJ a b c n p at' z d U)(o:Ob):MJ a b c n p at' z d (U++[o]):=⟨gp h.ta,gp h.tb,gp h.tc,gp h.t6,gp h.t7,gp h.k⟩
def MJ.set{a b c n:Nat}{p:Pa}{at' z d:Int}{U:St}(h:MJ a b c n p at' z d U){L:Nat}(o:Ob)(ha:a<n)(hb:b<n)(hc:c<n)(hL:n+4<=L):MJ a b c n p at' z d (U.set L o):=
 ⟨gs h.ta oM,gs h.tb oM,gs h.tc oM,gs h.t6 oM,gs h.t7 oM,gs h.k oM⟩
structure MD(a b c n:Nat)(U:St):Prop where
 z:∃z:Int,U[a]?=some (.arr [.int .i64 z] 1 1)
 d:∃d:Int,U[b]?=some (.arr [.int .i64 d] 1 1)
 t7:U[n+2]?=some (.arr [.bool false] 1 1)
def MD.push{a b c n:Nat}{U:St}(h:MD a b c n U)(o:Ob):MD a b c n (U++[o]):=⟨let ⟨z,hz⟩:=h.z;⟨z,gp hz⟩,let ⟨z,hz⟩:=h.d;⟨z,gp hz⟩,gp h.t7⟩
def qS(p:Pa)(z at':Int):Prop:=z+p.size<=2000/\at'+p.depth-1<=60
def Jr{l:List Pa}{i:Nat}{q:Pa}(h:l[i]?=some q):gJ (l.take (i+1))=max (gJ (l.take i)) q.depth:=by
 rw[cY,h,Bj];simp
def MO{l:List Pa}{i:Nat}{q:Pa}(h:l[i]?=some q):aY (l.take (i+1))=aY (l.take i)+q.size:=by
 rw[cY,h,pf];simp
def qcx{l:List Pa}{i:Nat}{q:Pa}(h:l[i]?=some q):q.depth<=gJ l:=by
 have:=Jr h;have h2:gJ l=max (gJ (l.take (i+1))) (gJ (l.drop (i+1))):=by rw[<-Bj,lA]
 omega
def jH{l:List Pa}{i:Nat}{q:Pa}(h:l[i]?=some q):aY (l.take i)+q.size<=aY l:=by
 have:=MO h;have h2:aY l=aY (l.take (i+1))+aY (l.drop (i+1)):=by rw[<-pf,lA]
 omega
def mR(a b:Nat)(p:Pa)(z d at':Int)(S:St)(v:V)(U:St):Prop:=Kp (fun x=>x=a\/x=b) S U/\∃z' d':Int,U[a]?=some (.arr [.int .i64 z'] 1 1)/\U[b]?=some (.arr [.int .i64 d'] 1 1)/\
 ((v=.bool true/\z'=z+p.size/\d'=max d (at'+p.depth-1)/\qS p z at')\/(v=.bool false/\¬qS p z at'))
def qkI:∀(k:Nat) (p:Pa),p.wt<=k->p.ok->∀(at':Int),1<=at'->at'<=61->∀(a b c:Nat),a≠b->a≠c->b≠c->∀(z d:Int),0<=z->z<=2000->0<=d->d<=60->∀S:St,
  S[a]?=some (.arr [.int .i64 z] 1 1)->S[b]?=some (.arr [.int .i64 d] 1 1)->S[c]?=some (.arr [yP a b c] 1 1)->
  au prog 177 [p.v,.int .i64 at',.ptr a 0 0 1,.ptr b 0 0 1,.ptr c 0 0 1] S (mR a b p z d at' S):=by
 intro k
 induction k with
 |zero=>intro p h;exfalso;cases p with
  |st s=>cases s;simp[Pa.wt]at h
  |de s=>cases s;simp[Pa.wt]at h
  |el s=>cases s;simp[Pa.wt]at h
  |ex s=>cases s;simp[Pa.wt]at h
 |succ k ih=>
  intro p hw hp at' ha0 ha1 a b c hab hac hbc z d hz0 hz1 hd0 hd1 S hA hB hC;have la:=aM hA;have lb:=aM hB;have lc:=aM hC;have ho:=Pa.G2 hp;have ho1:=p.uG;unfold aR at ho;refine au.ib ⟨_,func177,ok177⟩ ?_;have e1:IntKind.i64.wrap (z+p.own)=z+p.own:=dP oM oM;simp[c177,aC];obtain⟨T,hT⟩:∃T,S++[.arr [p.v] 25 1,.arr [.int .i64 at'] 1 1,.arr [.bool false] 1 1]=T:=⟨_,rfl⟩;have kT:Kp (fun x=>x=a\/x=b) S T:=by rw[<-hT];exact(Kp.refl _ _).push _
  have lT:T.length=S.length+3:=by rw[<-hT];simp
  have tA:T[a]?=some (.arr [.int .i64 z] 1 1):=by rw[<-hT,b8 la];exact hA
  have tB:T[b]?=some (.arr [.int .i64 d] 1 1):=by rw[<-hT,b8 lb];exact hB
  have tC:T[c]?=some (.arr [yP a b c] 1 1):=by rw[<-hT,b8 lc];exact hC
  have t5:T[S.length]?=some (.arr [p.v] 25 1):=by rw[<-hT,bK oM];simp
  have t6:T[S.length+1]?=some (.arr [.int .i64 at'] 1 1):=by rw[<-hT,bK oM];simp
  have t7:T[S.length+2]?=some (.arr [.bool false] 1 1):=by rw[<-hT,bK oM];simp
  rw[hT];clear hT;simp[ae,tA,t5];refine iu (qkJ p hp _) ?_;simp[cU,dx,dG,ae,aA,iL,e1,tA];obtain⟨T1,hT1⟩:∃T1,List.set T a (.arr [.int .i64 (z+p.own)] 1 1)=T1:=⟨_,rfl⟩;have uA:T1[a]?=some (.arr [.int .i64 (z+p.own)] 1 1):=by rw[<-hT1,bJ oM]
  have uB:T1[b]?=some (.arr [.int .i64 d] 1 1):=by rw[<-hT1];exact gs tB hab.symm
  have uC:T1[c]?=some (.arr [yP a b c] 1 1):=by rw[<-hT1];exact gs tC hac.symm
  have u5:T1[S.length]?=some (.arr [p.v] 25 1):=by rw[<-hT1];exact gs t5 oM
  have u6:T1[S.length+1]?=some (.arr [.int .i64 at'] 1 1):=by rw[<-hT1];exact gs t6 oM
  have u7:T1[S.length+2]?=some (.arr [.bool false] 1 1):=by rw[<-hT1];exact gs t7 oM
  have kU:Kp (fun x=>x=a\/x=b) S T1:=by rw[<-hT1];exact kT.set _ (.inl (.inl rfl))
  have lU:T1.length=S.length+3:=by rw[<-hT1];simp[lT]
  rw[hT1];clear hT1 tA tB tC t5 t6 t7 kT lT T;have hmx:(if d<at' then at' else d)=max d at':=by omega
  simp[aZ,qU,uB,u6,aA,iL,ae,hmx];obtain⟨T2,hT2⟩:∃T2,List.set T1 b (.arr [.int .i64 (max d at')] 1 1)=T2:=⟨_,rfl⟩;have wA:T2[a]?=some (.arr [.int .i64 (z+p.own)] 1 1):=by rw[<-hT2];exact gs uA hab
  have wB:T2[b]?=some (.arr [.int .i64 (max d at')] 1 1):=by rw[<-hT2,bJ oM]
  have wC:T2[c]?=some (.arr [yP a b c] 1 1):=by rw[<-hT2];exact gs uC hbc.symm
  have w5:T2[S.length]?=some (.arr [p.v] 25 1):=by rw[<-hT2];exact gs u5 oM
  have w6:T2[S.length+1]?=some (.arr [.int .i64 at'] 1 1):=by rw[<-hT2];exact gs u6 oM
  have w7:T2[S.length+2]?=some (.arr [.bool false] 1 1):=by rw[<-hT2];exact gs u7 oM
  have kW:Kp (fun x=>x=a\/x=b) S T2:=by rw[<-hT2];exact kU.set _ (.inl (.inr rfl))
  have lW:T2.length=S.length+3:=by rw[<-hT2];simp[lU]
  rw[hT2];clear hT2 uA uB uC u5 u6 u7 kU lU T1;have hsz:=p.size_eq;have hdp:=p.yD;by_cases g1:2000<z+p.own
  .simp[g1,wA,aA,iL,w7];refine aS (by simp[ae,lW];rfl) ⟨kW.set _ (.inr oM),z+p.own,max d at',gs wA oM,gs wB oM,.inr ⟨rfl,?_⟩⟩;unfold qS;have:=Pa.uG p;omega
  by_cases g2:60<max d at'
  .simp[g1,g2,wA,wB,aA,iL,w7,ae];refine aS (by simp[ae,lW];rfl) ⟨kW.set _ (.inr oM),z+p.own,max d at',gs wA oM,gs wB oM,.inr ⟨rfl,?_⟩⟩;unfold qS;have:=Pa.SE p;omega
  simp[g1,g2,wA,wB,aA,iL,w5,ae];refine aU (Zw p T2) ?_;rintro v U ⟨rfl,rfl⟩;simp;have hkl:(p.kids.map fun q=>[q.v]).length=p.kids.length:=by simp
  refine QV (k:=202) (fs:=[]) (cs:=[.ptr T2.length 0 0 1]) sM (qaA p hp T2.length) rfl rfl rfl sM (fun x=>x=a\/x=b\/x=S.length+2) ?_
   (fun i U=>MJ a b c S.length p at' (z+p.own+aY (p.kids.take i)) (max (max d at') (at'+gJ (p.kids.take i))) U/\z+p.own+aY (p.kids.take i)<=2000/\max (max d at') (at'+gJ (p.kids.take i))<=60)
   (fun U=>MD a b c S.length U/\¬qS p z at') (fun _ _=>False) ?_ ?_ ?_ ?_ (fun i U L o o' _ h hl=>⟨⟨gl h.1.ta sM hl,gl h.1.tb sM hl,gl h.1.tc sM hl,gl h.1.t6 sM hl,gl h.1.t7 sM hl,gl h.1.k sM hl⟩,h.2⟩)
   (fun U L o o' _ h hl=>⟨⟨let ⟨z,hz⟩:=h.1.z;⟨z,gl hz sM hl⟩,let ⟨z,hz⟩:=h.1.d;⟨z,gl hz sM hl⟩,gl h.1.t7 sM hl⟩,h.2⟩) (fun id U L o o' _ h hl=>h.elim) ?_ ?_ ?_ ?_ ?_
  .rintro x (rfl|rfl|rfl)<;>simp<;>omega
  .rintro i U ⟨h,_⟩;rw[lW];exact h.k
  .rintro i U ⟨h,h1⟩;exact fun o=>⟨h.push o,h1⟩
  .rintro U ⟨h,h1⟩;exact fun o=>⟨h.push o,h1⟩
  .rintro id U h;exact h.elim
  .refine⟨⟨gp (gp wA) |> fun h=>by simpa using h,gp (gp wB) |> fun h=>by simpa using h,gp (gp wC),gp (gp w6),gp (gp w7),?_⟩,by simp;omega,by simp;omega⟩;refine gp ?_;rw[<-lW,bK bL];simp
  .rintro i av hav U ⟨hj,hj1,hj2⟩ hk hl;rw[dS]at hav;obtain⟨q,hq,rfl⟩:=dL.1 hav;have q1:=MO hq;have q2:=Jr hq;have q3:=jH hq;have q4:=qcx hq;have hqk:q∈p.kids:=dc hq;have hqw:=Pa.qR hqk;have hL:(T2++[Ob.arr [p.v] 25 1]).length=S.length+4:=by simp[lW]
   simp[af.keep]at hl;simp[nT,af.keep,aC,aA,iL];refine E3 (gp hl) rfl ?_;have lU:=aM hl;have nU:U.length≠T2.length+1:=by omega
   have vq:((U++[Ob.arr [q.v] 25 1]).set (T2.length+1) (.loop { st:=.busy,pend:=none,ps:=[24],bT:=(dR Tryz.f177 0).1,body:=(dR Tryz.f177 0).2,e:=[(4,V.ptr c 0 0 1),(6,V.ptr (S.length+1) 0 0 1),(7,V.ptr (S.length+2) 0 0 1)],N:=31 }))[U.length]?=some (.arr [q.v] 25 1):=gs sM nU;have vL:((U++[Ob.arr [q.v] 25 1]).set (T2.length+1) (.loop { st:=.busy,pend:=none,ps:=[24],bT:=(dR Tryz.f177 0).1,body:=(dR Tryz.f177 0).2,e:=[(4,V.ptr c 0 0 1),(6,V.ptr (S.length+1) 0 0 1),(7,V.ptr (S.length+2) 0 0 1)],N:=31 }))[T2.length+1]?=some (.loop _):=bJ (by simp;omega);have vj:=(hj.push (Ob.arr [q.v] 25 1)).set (L:=T2.length+1) (.loop { st:=.busy,pend:=none,ps:=[24],bT:=(dR Tryz.f177 0).1,body:=(dR Tryz.f177 0).2,e:=[(4,V.ptr c 0 0 1),(6,V.ptr (S.length+1) 0 0 1),(7,V.ptr (S.length+2) 0 0 1)],N:=31 }) la lb lc oM;have vk:Kp (fun x=>(x=a\/x=b\/x=S.length+2)\/x=T2.length+1) U ((U++[Ob.arr [q.v] 25 1]).set (T2.length+1) (.loop { st:=.busy,pend:=none,ps:=[24],bT:=(dR Tryz.f177 0).1,body:=(dR Tryz.f177 0).2,e:=[(4,V.ptr c 0 0 1),(6,V.ptr (S.length+1) 0 0 1),(7,V.ptr (S.length+2) 0 0 1)],N:=31 })):=((Kp.refl _ _).push _).set _ (.inl (.inr rfl));generalize (U++[Ob.arr [q.v] 25 1]).set (T2.length+1) _=W at vq vL vj vk |-;have lWl:=aM vL;simp[ae,vj.tc,vq,vj.t6,yP,dP (n:=at'+1) oM oM];refine aU (ih q oM (Pa.wV hp hqk) (at'+1) oM oM a b c hab hac hbc _ _ oM hj1 oM hj2 W vj.ta vj.tb vj.tc) ?_;rintro v X ⟨xk,z',d',xa,xb,⟨rfl,rfl,rfl,xo⟩|⟨rfl,xo⟩⟩
   .simp;have xo':=xo;unfold qS at xo';refine Yu ⟨rfl,rfl⟩ (.inr rfl) (xk.at vL oM) (vk.trans (xk.mono fun l _ h=>.inl (h.elim .inl fun h=>.inr (.inl h)))) ⟨⟨gs xa oM |>.trans ?_,gs xb oM |>.trans ?_,gs (xk.at vj.tc oM) oM,gs (xk.at vj.t6 oM) oM,gs (xk.at vj.t7 oM) oM,gs (xk.at vj.k oM) oM⟩,?_,?_⟩
    .rw[q1];congr 4;omega
    .rw[q2];congr 4;omega
    .omega
    .omega
   .have x7:=xk.at vj.t7 oM;simp[aA,iL,x7];refine Yv (.inr rfl) (gs (xk.at vL oM) oM) ((vk.trans (xk.mono fun l _ h=>.inl (h.elim .inl fun h=>.inr (.inl h)))).set _ (.inl (.inl (.inr (.inr rfl))))) ⟨⟨⟨_,gs (gs xa oM) oM⟩,⟨_,gs (gs xb oM) oM⟩,gs (bJ (aM x7)) oM⟩,?_⟩;unfold qS at xo |-;omega
  .rintro U ⟨hj,hj1,hj2⟩ hk;rw[hkl,eR]at hj hj1 hj2;simp[aA,iL,hj.t7];refine aS (by simp[ae,aM hj.t7];rfl) ⟨?_,_,_,gs hj.ta oM,gs hj.tb oM,.inl ⟨rfl,by omega,by omega,?_⟩⟩
   .exact(kW.chain hk.ofPush fun l hl h=>by omega).set _ (.inr oM)
   .unfold qS;omega
  .rintro U ⟨hj,hj1⟩ hk;obtain⟨⟨z',hz'⟩,⟨d',hd'⟩,h7⟩:=hj;simp;refine aS (by simp[ae,h7];rfl) ⟨?_,z',d',hz',hd',.inr ⟨rfl,hj1⟩⟩;exact kW.chain hk.ofPush fun l hl h=>by omega
  .rintro id U h;exact h.elim
def qku(p:Pa)(hp:p.ok):∀S,au prog 150 [p.v] S (fun v U=>(∃z d:Int,v=.aH [.int .i64 z,.int .i64 d,.bool (decide p.fits)]/\(p.fits->z=p.size/\d=p.depth))/\U=S):=by
 refine Pu.intro (R:=fun v=>∃z d:Int,v=.aH [.int .i64 z,.int .i64 d,.bool (decide p.fits)]/\(p.fits->z=p.size/\d=p.depth)) H8.g H8.o (kn rfl) (by simp[V.under]) (by rintro v ⟨z,d,rfl,_⟩;rfl) ?_;simp[H8,aC,aA,iL,ae];refine aU (qkI _ p bL hp 1 oM oM 1 2 3 oM oM oM 0 0 oM oM oM oM _ rfl rfl rfl) ?_;rintro v U ⟨hk,z,d,ha,hb,h⟩;have hfit:p.fits↔qS p 0 1:=by unfold Pa.fits qS;omega
 have key:v=.bool (decide p.fits)/\(p.fits->z=p.size/\d=p.depth):=by
  rcases h with ⟨rfl,h1,h2,h3⟩|⟨rfl,h3⟩
  .rw[jC (hfit.2 h3)];refine⟨rfl,fun _=>⟨by omega,?_⟩⟩;have:=p.SE;omega
  .rw[dy fun hh=>h3 (hfit.1 hh)];exact⟨rfl,fun hh=>absurd (hfit.1 hh) h3⟩
 obtain⟨rfl,hk2⟩:=key;simp[ae,ha,hb,aA,iL,YQ ha,YQ hb,cU,dx,dG];refine dB (vs:=[.int .i64 z,.int .i64 d,.bool (decide p.fits)]) (by simp[ae,ha,hb]) ⟨z,d,rfl,hk2⟩ rfl
def cH(cs:List V)(off n:Nat):V.part (.agg cs) off (some n)=if off=0/\n=cs.length then some (.agg cs) else if off+n<=cs.length then some (.agg ((cs.drop off).take n)) else none:=by
 by_cases h:off=0/\n=cs.length
 .simp[V.part,h]
 .have:¬(off=0/\n=(V.agg cs).size/\(V.agg cs).isAgg=true):=fun hh=>h ⟨hh.1,by simpa using hh.2.1⟩
  simp only[V.part,aj this,aj h]
@[simp] theorem qnH(x:Ex):V.part x.v 3 (some 2)=some (.agg [.int .i64 x.man,.int .i64 x.exp]):=by rw[Ex.dJ];rfl
theorem aE(cs:List V)(off n:Nat)(y:V):V.upd (.agg cs) off n y=if y.size=n/\y.cells.all V.flat=true then(if off=0/\n=cs.length then some y else if off+n<=cs.length then some (.agg (cs.take off++y.cells++cs.drop (off+n))) else none) else none:=rfl
def qt(x:Ex)(off n:Nat)(y:V):V.upd x.v off n y=V.upd (.agg [.int .i64 x.kind,.int .i64 x.op,.int .i64 x.n,.int .i64 x.man,.int .i64 x.exp,.str x.text,.sl false (x.args.map Ex.v)]) off n y:=by rw[Ex.dJ]
def DX(d:De)(off n:Nat)(y:V):V.upd d.v off n y=V.upd (.agg [.int .i64 d.kind,.bool d.own,.int .i64 d.type,.sl false (d.names.map .str),.sl false (d.ak.map Ex.v),.sl false (d.aB.map Fo.v),.sl false (d.body.map Sm.v)]) off n y:=by rw[De.dJ]
def qu(s:Sm)(off n:Nat)(y:V):V.upd s.v off n y=V.upd (.agg [.sl false (s.labels.map .str),.int .i64 s.kind,.str s.text,.sl false (s.targets.map Ex.v),.sl false (s.ak.map Ex.v),.sl false (s.elems.map El.v),.sl false (s.decls.map De.v),.sl false (s.body.map Sm.v)]) off n y:=by rw[Sm.dJ]
theorem qab(f:Fo)(off n:Nat)(y:V):V.upd f.v off n y=V.upd (.agg [.str f.name,.bool f.value,.int .i64 f.spec,.int .i64 f.type]) off n y:=rfl
theorem sW(k:IntKind)(m:Int)(y:V):V.upd (.int k m) 0 1 y=if y.size=1/\y.cells.all V.flat=true then some y else none:=rfl
theorem jK(b:Bool)(y:V):V.upd (.bool b) 0 1 y=if y.size=1/\y.cells.all V.flat=true then some y else none:=rfl
theorem HL(y:V):V.upd .bB 0 1 y=if y.size=1/\y.cells.all V.flat=true then some y else none:=rfl
def rh{a lo hi:Int}(h:¬(lo<=a/\a<=hi)):(decide (lo<=a)&&decide (a<=hi))=false:=by
 by_cases h1:lo<=a
 .have h2:¬a<=hi:=fun hh=>h ⟨h1,hh⟩
  simp[h1,h2]
 .simp[h1]
def sB{a lo hi:Int}(h:lo<=a/\a<=hi):(decide (lo<=a)&&decide (a<=hi))=true:=by simp[h.1,h.2]
def sK(n lo hi:Int):∀S,Fn prog 209 [.int .i64 n,.int .i64 lo,.int .i64 hi] S (.bool (decide (lo<=n)&&decide (n<=hi))):=by
 refine Pu.ib Ib ?_;by_cases h:lo<=n
 .simp[Ib,h];exact aD (r:=rfl)
 .simp[Ib,h];exact aD (r:=rfl)
def A4(k:Int):Int:=if k=7 then 1 else if k=8 then 1 else if k=9 then 1 else if k=10 then 2 else if k=11 then 3 else 0
def A3(k:Int):Int:=if k=7 then 4 else if k=8 then 8 else if k=9 then 1 else if k=10 then 2 else if k=11 then 3 else 0
def qkY(k:Int):∀S,Fn prog 208 [.int .i64 k] S (.aH [.int .i64 (A4 k),.int .i64 (A3 k)]):=by
 refine Pu.ib vB ?_;by_cases h7:k=7
 .simp[vB,h7];exact aD (r:=rfl)
 by_cases h8:k=8
 .simp[vB,h8];exact aD (r:=rfl)
 by_cases h9:k=9
 .simp[vB,h9];exact aD (r:=rfl)
 by_cases h10:k=10
 .simp[vB,h10];exact aD (r:=rfl)
 by_cases h11:k=11
 .simp[vB,h11];exact aD (r:=rfl)
 simp[vB,h7,h8,h9,h10,h11];exact aD (r:=by simp[aK,A4,A3,h7,h8,h9,h10,h11])
def fN(lo hi n:Int):Bool:=decide (lo<=n)&&(decide (hi<0)||decide (n<=hi))
def sL(lo hi n:Int):∀S,Fn prog 212 [.agg [.int .i64 lo,.int .i64 hi],.int .i64 n] S (.bool (fN lo hi n)):=by
 refine Pu.intro (R:=fun v=>v=.bool (fN lo hi n)) Au.g Au.o (kn rfl) (by simp[V.under,V.dj]) (by rintro v rfl;rfl) ?_;by_cases h:lo<=n
 .by_cases h2:hi<0
  .simp[Au,aC,ae,h,h2];exact aD (r:=by simp[aK,fN,h,h2])
  .simp[Au,aC,ae,h,h2];exact aD (r:=by simp[aK,fN,h,h2])
 .simp[Au,aC,ae,h];exact aD (r:=by simp[aK,fN,h])
def qmO(m:Int)(h:0<=m):IntKind.i64.wrap (-m)<=m\/9223372036854775808<=m:=by
 rw[IntKind.wrap_i64];omega
def qmN(m:Int):IntKind.i64.wrap m<=9223372036854775807/\-9223372036854775808<=IntKind.i64.wrap m:=by
 rw[IntKind.wrap_i64];omega
def qgF(m:Int):(if m<IntKind.i64.wrap (-m) then IntKind.i64.wrap (-m) else m)=jY m:=by
 unfold jY;have h1:=qmN (-m);by_cases h:m<0
 .rw[ai h];split
  .rfl
  .rename_i h2;rw[IntKind.wrap_i64]at *;omega
 .rw[aj h];rcases qmO m oM with h2|h2
  .rw[aj oM]
  .rw[aj oM]
def jD(m e m' e':Int):fU [.int .i64 m,.int .i64 e] [.int .i64 m',.int .i64 e'] [(0,.i),(1,.i)]=some (decide (m=m'/\e=e')):=by
 by_cases h1:m=m'
 .by_cases h2:e=e'
  .have h3:(m==m')=true:=by simpa using h1
   have h4:(e==e')=true:=by simpa using h2
   simp[fU,nz,h1,h2]
  .have h4:(e==e')=false:=by simpa using h2
   simp[fU,nz,h1,h4,h2]
 .have h3:(m==m')=false:=by simpa using h1
  simp[fU,nz,h3,h1]
def qkZ(m e:Int):∀S,Fn prog 210 [.agg [.int .i64 m,.int .i64 e]] S (.bool (pa m e)):=by
 refine Pu.intro (R:=fun v=>v=.bool (pa m e)) Eo.g Eo.o (kn rfl) (by simp[V.under,V.dj]) (by rintro v rfl;rfl) ?_;have hm:=qgF m;by_cases h0:m=0/\e=0
 .obtain⟨rfl,rfl⟩:=h0;simp[Eo,aC,ae,V.part,bj,bz,aZ,jD];exact aD (r:=rfl)
 have hr:pa m e=(decide (1<=jY m/\jY m<16777216)&&(decide (e=-150)||(decide (8388608<=jY m)&&decide (-150<e/\e<=150)))):=by
  unfold pa;rw[dy h0];rfl
 rw[hr];simp[Eo,aC,ae,V.part,bj,bz,aZ,jD,h0,qU,hm];clear hr hm;generalize jY m=a at *;by_cases g1:a<1
 .simp[g1,show ¬1<=a by omega];exact aD (r:=rfl)
 by_cases g2:16777216<=a
 .simp[g1,g2,show ¬a<16777216 by omega];exact aD (r:=rfl)
 by_cases g3:e=-150
 .simp[ae,g1,g2,g3,show 1<=a by omega,show a<16777216 by omega];exact aD (r:=rfl)
 by_cases g4:8388608<=a
 .by_cases g5:-150<e
  .simp[ae,g1,g2,g3,g4,g5,show 1<=a by omega,show a<16777216 by omega];exact aD (r:=rfl)
  .simp[ae,g1,g2,g3,g4,g5,show 1<=a by omega,show a<16777216 by omega];exact aD (r:=rfl)
 .simp[ae,g1,g2,g3,g4,show 1<=a by omega,show a<16777216 by omega];exact aD (r:=rfl)
def no(_:Nat):Prop:=False
def fj{α:Type}(l:List α)(q:α->Bool):Bool:=l.any q
def qlc(s:Bz):∀S,Fn prog 249 [.str s] S (.bool (!ar s)):=by
 refine Pu.ib PU ?_;simp[PU];refine aG (DR s _) ?_;simp;exact aD (r:=rfl)
def qlh(x:Ex):∀S,Fn prog 253 [x.v] S (.bool (!x.tgt)):=by
 refine Pu.ib Ig ?_;by_cases h6:x.kind=6
 .simp[Ig,aC,ae,h6];exact aD (r:=by simp[aK,Ex.tgt,h6])
 .simp[Ig,aC,ae,h6];exact aD (r:=by simp[aK,Ex.tgt,h6])
def qkG(b:Bool)(l:List Bz)(hl:l.length<=aR)(g:Nat)(cs:List V)(q:Bz->Bool)(S:St)(h:∀x,x∈l->∀U,Kp no S U->au prog g (.str x::cs) U (fun v U'=>v=.bool (q x)/\Kp no U U')):
  au prog 173 [.sl b (l.map V.str),.fn (.func g) [] cs] S (fun v U=>(∃n:Int,v=.int .i64 n/\(0<=n↔fj l q=true))/\Kp no S U):=by
 unfold aR at hl;refine au.ib OW ?_;simp only[OW,eZ];simp;refine bN (fun j e S'=>∃i:Nat,j=l.length - i∧i≤l.length∧fj (l.take i) q=false∧Kp no S S'∧
  e=[(8,.int .i64 i),(7,.int .i64 l.length),(6,.sl b (l.map V.str)),(0,.sl b (l.map V.str)),(1,.fn (.func g) [] cs)]) l.length _ ?_ ⟨0,by simp,by omega,rfl,Kp.refl _ _,rfl⟩ ?_
 .exact aN
 rintro j e S' ⟨i,rfl,hi,hq,hk,rfl⟩;by_cases h1:i<l.length
 .have h2:=h l[i] (cI h1) S' hk;simp[h1,jb];refine aU h2 ?_;rintro v U' ⟨rfl,hk'⟩
  cases h3:q l[i] with
  |true=>
   simp;refine aS rfl ⟨⟨i,rfl,?_⟩,hk.trans hk'⟩;exact⟨fun _=>rD.2 ⟨l[i],cI h1,h3⟩,fun _=>by omega⟩
  |false=>
   simp[bP i];refine⟨_,?_,_,?_,i+1,rfl,by omega,?_,hk.trans hk',rfl⟩
   .omega
   .exact aN
   .unfold fj at *;rw[cY,bI h1,yg,hq];simp[h3]
 .simp[h1];refine aS rfl ⟨⟨-1,rfl,?_⟩,hk⟩;rw[iP oM]at hq;rw[hq];exact⟨fun h=>absurd h (by decide),fun h=>by cases h⟩
def Zn(b:Bool)(l:List Bz)(hl:l.length<=aR)(g:Nat)(cs:List V)(q:Bz->Bool)(S:St)(h:∀x,x∈l->∀U,Kp no S U->au prog g (.str x::cs) U (fun v U'=>v=.bool (q x)/\Kp no U U')):
  au prog 138 [.sl b (l.map V.str),.fn (.func g) [] cs] S (fun v U=>v=.bool (fj l q)/\Kp no S U):=by
 refine au.ib Oy ?_;simp only[Oy,eZ];simp;refine aU (qkG b l hl g cs q S h) ?_;rintro v U ⟨⟨n,rfl,hn⟩,hk⟩;simp;refine aS rfl ⟨?_,hk⟩
 cases ha:fj l q with
 |true=>simp[aK,hn.2 ha]
 |false=>
  have:¬0<=n:=fun hh=>by rw[hn.1 hh]at ha;cases ha
  simp[aK,this]
def qkE(b:Bool)(l:List Fo)(hl:l.length<=aR)(g:Nat)(cs:List V)(q:Fo->Bool)(S:St)(h:∀x,x∈l->∀U,Kp no S U->au prog g (Fo.v x::cs) U (fun v U'=>v=.bool (q x)/\Kp no U U')):
  au prog 169 [.sl b (l.map Fo.v),.fn (.func g) [] cs] S (fun v U=>(∃n:Int,v=.int .i64 n/\(0<=n↔fj l q=true))/\Kp no S U):=by
 unfold aR at hl;refine au.ib OU ?_;simp only[OU,eZ];simp;refine bN (fun j e S'=>∃i:Nat,j=l.length - i∧i≤l.length∧fj (l.take i) q=false∧Kp no S S'∧
  e=[(8,.int .i64 i),(7,.int .i64 l.length),(6,.sl b (l.map Fo.v)),(0,.sl b (l.map Fo.v)),(1,.fn (.func g) [] cs)]) l.length _ ?_ ⟨0,by simp,by omega,rfl,Kp.refl _ _,rfl⟩ ?_
 .exact aN
 rintro j e S' ⟨i,rfl,hi,hq,hk,rfl⟩;by_cases h1:i<l.length
 .have h2:=h l[i] (cI h1) S' hk;simp[h1,qO];refine aU h2 ?_;rintro v U' ⟨rfl,hk'⟩
  cases h3:q l[i] with
  |true=>
   simp;refine aS rfl ⟨⟨i,rfl,?_⟩,hk.trans hk'⟩;exact⟨fun _=>rD.2 ⟨l[i],cI h1,h3⟩,fun _=>by omega⟩
  |false=>
   simp[bP i];refine⟨_,?_,_,?_,i+1,rfl,by omega,?_,hk.trans hk',rfl⟩
   .omega
   .exact aN
   .unfold fj at *;rw[cY,bI h1,yg,hq];simp[h3]
 .simp[h1];refine aS rfl ⟨⟨-1,rfl,?_⟩,hk⟩;rw[iP oM]at hq;rw[hq];exact⟨fun h=>absurd h (by decide),fun h=>by cases h⟩
def qko(b:Bool)(l:List Fo)(hl:l.length<=aR)(g:Nat)(cs:List V)(q:Fo->Bool)(S:St)(h:∀x,x∈l->∀U,Kp no S U->au prog g (Fo.v x::cs) U (fun v U'=>v=.bool (q x)/\Kp no U U')):
  au prog 131 [.sl b (l.map Fo.v),.fn (.func g) [] cs] S (fun v U=>v=.bool (fj l q)/\Kp no S U):=by
 refine au.ib Ou ?_;simp only[Ou,eZ];simp;refine aU (qkE b l hl g cs q S h) ?_;rintro v U ⟨⟨n,rfl,hn⟩,hk⟩;simp;refine aS rfl ⟨?_,hk⟩
 cases ha:fj l q with
 |true=>simp[aK,hn.2 ha]
 |false=>
  have:¬0<=n:=fun hh=>by rw[hn.1 hh]at ha;cases ha
  simp[aK,this]
def qll(b:Bool)(l:List Ex)(hl:l.length<=aR)(g:Nat)(cs:List V)(q:Ex->Bool)(S:St)(h:∀x,x∈l->∀U,Kp no S U->au prog g (Ex.v x::cs) U (fun v U'=>v=.bool (q x)/\Kp no U U')):
  au prog 269 [.sl b (l.map Ex.v),.fn (.func g) [] cs] S (fun v U=>(∃n:Int,v=.int .i64 n/\(0<=n↔fj l q=true))/\Kp no S U):=by
 unfold aR at hl;refine au.ib PZ ?_;simp only[PZ,eZ];simp;refine bN (fun j e S'=>∃i:Nat,j=l.length - i∧i≤l.length∧fj (l.take i) q=false∧Kp no S S'∧
  e=[(8,.int .i64 i),(7,.int .i64 l.length),(6,.sl b (l.map Ex.v)),(0,.sl b (l.map Ex.v)),(1,.fn (.func g) [] cs)]) l.length _ ?_ ⟨0,by simp,by omega,rfl,Kp.refl _ _,rfl⟩ ?_
 .exact aN
 rintro j e S' ⟨i,rfl,hi,hq,hk,rfl⟩;by_cases h1:i<l.length
 .have h2:=h l[i] (cI h1) S' hk;simp[h1,mP];refine aU h2 ?_;rintro v U' ⟨rfl,hk'⟩
  cases h3:q l[i] with
  |true=>
   simp;refine aS rfl ⟨⟨i,rfl,?_⟩,hk.trans hk'⟩;exact⟨fun _=>rD.2 ⟨l[i],cI h1,h3⟩,fun _=>by omega⟩
  |false=>
   simp[bP i];refine⟨_,?_,_,?_,i+1,rfl,by omega,?_,hk.trans hk',rfl⟩
   .omega
   .exact aN
   .unfold fj at *;rw[cY,bI h1,yg,hq];simp[h3]
 .simp[h1];refine aS rfl ⟨⟨-1,rfl,?_⟩,hk⟩;rw[iP oM]at hq;rw[hq];exact⟨fun h=>absurd h (by decide),fun h=>by cases h⟩
def qlg(b:Bool)(l:List Ex)(hl:l.length<=aR)(g:Nat)(cs:List V)(q:Ex->Bool)(S:St)(h:∀x,x∈l->∀U,Kp no S U->au prog g (Ex.v x::cs) U (fun v U'=>v=.bool (q x)/\Kp no U U')):
  au prog 252 [.sl b (l.map Ex.v),.fn (.func g) [] cs] S (fun v U=>v=.bool (fj l q)/\Kp no S U):=by
 refine au.ib PX ?_;simp only[PX,eZ];simp;refine aU (qll b l hl g cs q S h) ?_;rintro v U ⟨⟨n,rfl,hn⟩,hk⟩;simp;refine aS rfl ⟨?_,hk⟩
 cases ha:fj l q with
 |true=>simp[aK,hn.2 ha]
 |false=>
  have:¬0<=n:=fun hh=>by rw[hn.1 hh]at ha;cases ha
  simp[aK,this]
def Rn{α:Type}(l:List α)(q:α->Bool):(!fj l fun x=>!q x)=l.all q:=by
 unfold fj
 induction l with
 |nil=>rfl
 |cons x l ih=>simp only[List.any_cons,vG,Bool.not_or,Bool.not_not,ih]
def Zz(l:List Bz)(hl:l.length<=aR):∀S,Fn prog 213 [.sl false (l.map .str)] S (.bool (l.all ar)):=by
 refine Pu.ib Px ?_;simp only[Px,eZ];simp;refine aU (Zn false l hl 249 [] (fun x=>!ar x) _ fun x _ U _=>(qlc x U).mono fun v U' h=>⟨h.1,by rw[h.2];exact Kp.refl _ _⟩) ?_;rintro v U ⟨rfl,_⟩;simp;refine dB rfl ?_ rfl;simp only[aK,Rn]
def qk1(l:List Ex)(hl:l.length<=aR):∀S,Fn prog 215 [.sl false (l.map Ex.v)] S (.bool (l.all Ex.tgt)):=by
 refine Pu.ib Pz ?_;simp only[Pz,eZ];simp;refine aU (qlg false l hl 253 [] (fun x=>!x.tgt) _ fun x _ U _=>(qlh x U).mono fun v U' h=>⟨h.1,by rw[h.2];exact Kp.refl _ _⟩) ?_;rintro v U ⟨rfl,_⟩;simp;refine dB rfl ?_ rfl;simp only[aK,Rn]
def qld(f:Fo):∀S,Fn prog 250 [f.v] S (.bool (f.aQ ar)):=by
 refine Pu.ib PV ?_;simp[PV,aC,ae];refine aG (DR f.name _) ?_
 cases hn:ar f.name with
 |false=>
  simp;exact aD (r:=by simp[aK,Fo.aQ,hn])
 |true=>
  have hv:f.aQ ar=(if f.spec=0∨f.spec=3∨f.spec=4∨f.spec=5 then decide (f.type=0) && !f.value
   else if f.spec=1 then decide (1<=f.type/\f.type<=3)
   else if f.spec=2 then decide (0<=f.type/\f.type<=3)&&(!f.value||decide (f.type≠0))
   else if f.spec=6 then decide (0<=f.type/\f.type<=3)&&!f.value
   else false):=by unfold Fo.aQ;rw[hn];rfl
  rw[hv];by_cases h0:f.spec=0
  .by_cases ht:f.type=0
   .simp[ae,h0,ht];exact aD (r:=rfl)
   .simp[ae,h0,ht];exact aD (r:=rfl)
  by_cases h3:f.spec=3
  .by_cases ht:f.type=0
   .simp[ae,h3,ht];exact aD (r:=rfl)
   .simp[ae,h3,ht];exact aD (r:=rfl)
  by_cases h4:f.spec=4
  .by_cases ht:f.type=0
   .simp[ae,h4,ht];exact aD (r:=rfl)
   .simp[ae,h4,ht];exact aD (r:=rfl)
  by_cases h5:f.spec=5
  .by_cases ht:f.type=0
   .simp[ae,h5,ht];exact aD (r:=rfl)
   .simp[ae,h5,ht];exact aD (r:=rfl)
  by_cases h1:f.spec=1
  .simp[ae,h1];refine aG (sK _ _ _ _) ?_;simp;exact aD (r:=rfl)
  by_cases h2:f.spec=2
  .simp[ae,h2];refine aG (sK _ _ _ _) ?_
   cases hr:decide (0<=f.type)&&decide (f.type<=3) with
   |false=>
    simp;exact aD (r:=rfl)
   |true=>
    cases hval:f.value with
    |false=>
     simp[ae,hval];exact aD (r:=rfl)
    |true=>
     simp[ae,hval];exact aD (r:=rfl)
  by_cases h6:f.spec=6
  .simp[ae,h6];refine aG (sK _ _ _ _) ?_
   cases hr:decide (0<=f.type)&&decide (f.type<=3) with
   |false=>
    simp;exact aD (r:=rfl)
   |true=>
    simp[ae];exact aD (r:=rfl)
  simp[ae,h0,h1,h2,h3,h4,h5,h6];exact aD (r:=rfl)
def qlf(f g:Fo)(L:Nat)(S:St)(h:S[L]?=some (.arr [f.v] 4 1)):au prog 251 [g.v,.ptr L 0 0 1] S (fun v U=>v=.bool (decide (g.name=f.name))/\Kp no S U):=by
 refine au.ib PW ?_;simp[PW,aC,ae,gp h];exact aS rfl ⟨rfl,(Kp.refl _ _).push _⟩
def BF(nm:Bz->Bool):∀(l m:List Fo) (had:List Bz),dH nm (l++m) had=(dH nm l had&&dH nm m (had++l.map Fo.name))
 |[],m,had=>by simp[dH]
 |f::l,m,had=>by
  simp only[cP,dH,BF nm l m,b9,cO,List.singleton_append,eK,cP,Bool.and_assoc]
def qj6{l:List V}{k:Nat}(hk:k<=l.length){sz:Nat}(hs:∀x,x∈l->x.size=sz)(S:St):gX S sz (.sl false l) none (some (k:Int))=some (.sl false (l.take k)):=by
 simp[gX,hk];exact hs
def qZ(l:List UInt8):Bool:=l.all qj
def ZA(l:List Fo)(hl:l.length<=aR):∀S,Fn prog 214 [.sl false (l.map Fo.v)] S (.bool (dH ar l [])):=by
 refine Pu.ib Py ?_;unfold aR at hl;simp only[Py,eZ];simp;refine bN (fun j e S'=>∃i:Nat,j=l.length - i∧i≤l.length∧dH ar (l.take i) []=true∧
  e=[(7,.int .i64 i),(6,.int .i64 l.length),(5,.sl false (l.map Fo.v)),(0,.sl false (l.map Fo.v))]) l.length _ ?_ ⟨0,by simp,by omega,rfl,rfl⟩ ?_
 .exact aN
 rintro j e S' ⟨i,rfl,hi,hq,rfl⟩;by_cases h:i<l.length
 .have hnext:dH ar (l.take (i+1)) []=(l[i].aQ ar&&!((l.take i).map Fo.name).any fun x=>decide (x=l[i].name)):=by
   rw[cY,bI h,gZ,BF,hq];simp[dH]
  have hall:dH ar l []=true->dH ar (l.take (i+1)) []=true:=fun hh=>by
   rw[<-lA (i+1) l,BF,bZ]at hh;exact hh.1
  simp[h,qO,aC,aA,iL,ae];refine aG (qld l[i] _) ?_
  cases hv:l[i].aQ ar with
  |false=>
   simp;refine dB rfl ?_ rfl;simp only[aK,V.bool.injEq]
   cases hh:dH ar l [] with
   |false=>rfl
   |true=>rw[hall hh,hv]at hnext;simp at hnext
  |true=>
   rw[hv]at hnext;have hs:=qj6 (l:=l.map Fo.v) (k:=i) (by simp;omega) (sz:=4) (fun x hx=>by obtain⟨y,_,rfl⟩:=cE.1 hx;rfl) (S'++[Ob.arr [l[i].v] 4 1]);simp[ju,hs];rw[<-vN];refine aU (qko false (l.take i) (by rw[km];unfold aR;omega) 251 [.ptr S'.length 0 0 1] (fun g=>decide (g.name=l[i].name)) _ fun x _ U hk=>qlf l[i] x S'.length U (hk.at sM (fun h=>h))) ?_;rintro v U ⟨rfl,hk⟩
   have he:fj (l.take i) (fun g=>decide (g.name=l[i].name))=((l.take i).map Fo.name).any fun x=>decide (x=l[i].name):=by
    unfold fj;rw[List.any_map];rfl
   rw[he]
   cases hc:((l.take i).map Fo.name).any fun x=>decide (x=l[i].name) with
   |true=>
    rw[hc]at hnext;simp;refine dB rfl ?_ rfl;simp only[aK,V.bool.injEq]
    cases hh:dH ar l [] with
    |false=>rfl
    |true=>rw[hall hh]at hnext;simp at hnext
   |false=>
    rw[hc]at hnext;simp[bP i];refine⟨_,?_,_,?_,i+1,rfl,by omega,by rw[hnext];rfl,rfl⟩
    .omega
    .exact aN
 .simp[h];refine dB rfl ?_ rfl;rw[iP oM]at hq;simp only[aK,hq]
def qk0(s:Bz)(hs:s.size<=aR):∀S,Fn prog 211 [.str s] S (.bool (sy s)):=by
 refine Pu.ib Pv ?_;unfold aR at hs;have hp:sy s=(qZ s.data.toList && decide (s.size≤80)):=rfl;generalize hpr:sy s=pr at hp ⊢;simp only[Pv,eZ];simp;refine bN (fun j e S'=>∃i:Nat,j=s.size - i∧i≤s.size∧qZ (s.data.toList.take i)=true∧
  e=[(3,.int .i64 i),(0,.str s)]) s.size _ ?_ ⟨0,by simp,by omega,rfl,rfl⟩ ?_
 .exact aN
 rintro j e S' ⟨i,rfl,hi,hq,rfl⟩;by_cases h:i<s.size
 .have hb:s.data.toList[i]?=some (s.data[i]'h):=by simp[h]
  generalize hx:s.data[i]'h=x at hb;have hi':pZ s i=some (.int .u8 x.toNat):=by rw[<-hx];exact Cc h
  have hlt:=x.toNat_lt
  have hno:qj x=false->pr=false:=fun hh=>by
   rw[hp,Eh];left
   cases ha:qZ s.data.toList with
   |false=>rfl
   |true=>
    unfold qZ at ha;rw[d6]at ha;rw[ha x (dc hb)]at hh;cases hh
  simp[h,hi',dP (n:=(x.toNat:Int)) oM oM];refine aG (sK _ _ _ _) ?_;by_cases h1:(32:Int)<=x.toNat/\(x.toNat:Int)<=126
  .rw[show(decide ((32:Int)<=x.toNat)&&decide ((x.toNat:Int)<=126))=true by simp[h1]];by_cases h2:(x.toNat:Int)=34
   .simp[hi',h2];refine dB rfl ?_ rfl;rw[hno (by unfold qj;simp;omega)];rfl
   .simp[hi',h2,bP i];refine⟨_,?_,_,?_,i+1,rfl,by omega,?_,rfl⟩
    .omega
    .exact aN
    .unfold qZ at *;rw[cY,Ax,hq,hb];simp[qj];omega
  .rw[show(decide ((32:Int)<=x.toNat)&&decide ((x.toNat:Int)<=126))=false by simp;omega];simp;refine dB rfl ?_ rfl;rw[hno (by unfold qj;simp;omega)];rfl
 .simp[h];have hsz:s.data.toList.length=s.size:=rfl;rw[iP oM]at hq;refine dB rfl ?_ rfl;rw[hp,hq];simp only[aK,V.bool.injEq,l8,decide_eq_decide];omega
def qkL(e:El):∀S,Fn prog 181 [e.v] S (.bool e.aQ):=by
 refine Pu.ib Ao ?_;unfold El.aQ;by_cases h1:e.kind=1
 .simp[Ao,aC,ae,h1];exact aD (r:=by simp[aK];omega)
 by_cases h2:e.kind=2
 .simp[Ao,aC,ae,h2];exact aD (r:=by simp[aK];omega)
 by_cases h3:e.kind=3
 .simp[Ao,aC,ae,h3];exact aD (r:=by simp[aK];omega)
 simp[Ao,aC,ae,h1,h2,h3];exact aD (r:=rfl)
def Ex.iY(nm:Bz→Bool)(x:Ex):x.aQ nm=(
 if x.kind=1 then decide (0<=x.n/\x.n<=2147483647)&&decide (x.args.length=0)&&decide (x.op=0)&&(decide (x.man=0)&&decide (x.exp=0))&&e9 x.text
 else if x.kind=2 then pa x.man x.exp&&decide (0<=x.man)&&decide (x.args.length=0)&&decide (x.op=0)&&decide (x.n=0)&&e9 x.text
 else if x.kind=3\/x.kind=4 then decide (x.args.length=0)&&decide (x.op=0)&&decide (x.n=0)&&(decide (x.man=0)&&decide (x.exp=0))&&e9 x.text
 else if x.kind=5 then sy x.text&&decide (x.args.length=0)&&decide (x.op=0)&&decide (x.n=0)&&(decide (x.man=0)&&decide (x.exp=0))
 else if x.kind=6 then nm x.text&&decide (x.args.length=0)&&decide (x.op=0)&&decide (x.n=0)&&(decide (x.man=0)&&decide (x.exp=0))
 else if x.kind=7 then nm x.text&&decide (1<=x.args.length/\x.args.length<=4)&&decide (x.op=0)&&decide (x.n=0)&&(decide (x.man=0)&&decide (x.exp=0))
 else if x.kind=8 then nm x.text&&decide (1<=x.args.length/\x.args.length<=8)&&decide (x.op=0)&&decide (x.n=0)&&(decide (x.man=0)&&decide (x.exp=0))
 else if x.kind=9 then decide (x.op=1\/x.op=2)&&decide (x.args.length=1)&&decide (x.n=0)&&(decide (x.man=0)&&decide (x.exp=0))&&e9 x.text
 else if x.kind=10 then decide (3<=x.op/\x.op<=18)&&decide (x.args.length=2)&&decide (x.n=0)&&(decide (x.man=0)&&decide (x.exp=0))&&e9 x.text
 else if x.kind=11 then decide (x.args.length=3)&&decide (x.op=0)&&decide (x.n=0)&&(decide (x.man=0)&&decide (x.exp=0))&&e9 x.text
 else false):=by cases x;rfl
def uD{t:Bz}(h:t=⟨⟨[]⟩⟩):e9 t=true:=by subst h;rfl
def VN{t:Bz}(h:¬t=⟨⟨[]⟩⟩):e9 t=false:=dy fun hh=>h (Hw.2 hh)
def dE{P:Program}{a b:C'}{Q:cM}{e:af}{S:St}(M:af->St->Prop)(h1:WP P a (jw M Q) e S)(h2:∀e S,M e S->WP P b Q e S):WP P (.seq a b) Q e S:=by
 rw[vX];exact QU M h1 h2
def qF{P:Program}{a b t:C'}{M:af->St->Prop}{Q:cM}{e:af}{S:St}(h:WP P (.seq a b) (jw M Q) e S)(g:∀e S,WP P b (jw M Q) e S->WP P t Q e S):WP P (.seq a t) Q e S:=by
 rw[vX]at h |-;refine pN ?_ h;intro x e S hx;cases x<;>first|exact hx|exact g _ _ hx
def ym{P:Program}{a b c d t:C'}{Q:cM}{e:af}{S:St}(M:af->St->Prop)(h:WP P (.seq a (.seq b (.seq c d))) (jw M Q) e S)(g:∀e S,M e S->WP P t Q e S):WP P (.seq a (.seq b (.seq c (.seq d t)))) Q e S:=
 qF h fun _ _ h=>qF h fun _ _ h=>qF h fun _ _ h=>dE M h g
def rI(x:Ex)(E:af)(U:St):Prop:=∃(ok:Bool) (o n m e:Int) (t:Bz),x.aQ ar=(ok&&decide (o=0)&&decide (n=0)&&(decide (m=0)&&decide (e=0))&&e9 t)/\E.get 5=some (.ptr 1 0 0 1)/\E.get 6=some (.bool ok)/\
 U=[.arr [x.v] 7 1,.arr [.agg [.int .i64 0,.int .i64 o,.int .i64 n,.int .i64 m,.int .i64 e,.str t,.sl true []]] 7 1]
def rI.mk{x:Ex}{E:af}{ok:Bool}{o n m e:Int}{t:Bz}(h5:E.get 5=some (.ptr 1 0 0 1))(h6:E.get 6=some (.bool ok))(h:x.aQ ar=(ok&&decide (o=0)&&decide (n=0)&&(decide (m=0)&&decide (e=0))&&e9 t)):
 rI x E [.arr [x.v] 7 1,.arr [.agg [.int .i64 0,.int .i64 o,.int .i64 n,.int .i64 m,.int .i64 e,.str t,.sl true []]] 7 1]:=⟨_,_,_,_,_,_,h,h5,h6,rfl⟩
def qkK(x:Ex)(hx:x.ok):∀S,Fn prog 180 [x.v] S (.bool (x.aQ ar)):=by
 refine Pu.ib O1 ?_;have hv:=Ex.iY ar x;simp only[O1,eZ];refine qF ?_ fun _ _ h=>qF h fun _ _ h=>qF h fun _ _ h=>ym (rI x) h ?_
 .simp[aC,ae];refine aG (qkY _ _) ?_;simp[ae];refine aG (sK _ _ _ _) ?_;by_cases hk:1<=x.kind/\x.kind<=11
  case neg=>
   rw[rh hk];simp;exact aD (r:=by rw[hv];grind (splits:=16) [aK])
  rw[sB hk];have hc:x.kind=1\/x.kind=2\/x.kind=3\/x.kind=4\/x.kind=5\/x.kind=6\/x.kind=7\/x.kind=8\/x.kind=9\/x.kind=10\/x.kind=11:=by omega
  simp[ae];refine aG (sK _ _ _ _) ?_;by_cases hl:A4 x.kind<=x.args.length/\(x.args.length:Int)<=A3 x.kind
  case neg=>
   rw[rh hl];simp;exact aD (r:=by rw[hv];rcases hc with h|h|h|h|h|h|h|h|h|h|h<;>simp[h,A4,A3,aK]at hl |-<;>grind)
  rw[sB hl];rcases hc with h|h|h|h|h|h|h|h|h|h| h
  all_goals
   simp[A4,A3,h]at hl
   simp[aC,ae,aA,aE,qt,sW,jK,cH,bj,bz,aZ,jD,h]
  case inl|inr.inr.inr.inr.inr.inr.inr.inr.inr.inl=>
   refine aG (sK _ _ _ _) ?_;simp[aC,ae,aA,aE,qt,sW,jK,cH,bj,bz,aZ,jD];exact rI.mk rfl rfl (by rw[hv,dq];simp[h,uD]<;>grind)
  case inr.inl=>
   refine aG (qkZ _ _ _) ?_;cases hb:pa x.man x.exp<;>simp[aC,ae,aA,aE,qt,sW,jK,cH,bj,bz,aZ,jD]<;>exact rI.mk rfl rfl (by rw[hv,dq];simp[h,uD]<;>grind)
  case inr.inr.inr.inr.inl=>
   refine aG (qk0 _ (Ex.VW hx) _) ?_;simp[aC,ae,aA,aE,qt,sW,jK,cH,bj,bz,aZ,jD];exact rI.mk rfl rfl (by rw[hv,dq];simp[h,uD]<;>grind)
  case inr.inr.inr.inr.inr.inl|inr.inr.inr.inr.inr.inr.inl|inr.inr.inr.inr.inr.inr.inr.inl=>
   refine aG (DR _ _) ?_;simp[aC,ae,aA,aE,qt,sW,jK,cH,bj,bz,aZ,jD];exact rI.mk rfl rfl (by rw[hv,dq];simp[h,uD]<;>grind)
  case inr.inr.inr.inr.inr.inr.inr.inr.inl=>
   by_cases h1:x.op=1<;>simp[aC,ae,aA,aE,qt,sW,jK,cH,bj,bz,aZ,jD,h1]<;>exact rI.mk rfl rfl (by rw[hv,dq];simp[h,uD]<;>grind)
  all_goals exact rI.mk rfl rfl (by rw[hv,dq];simp[h,uD]<;>grind)
 rintro E U ⟨ok,o,n,m,e,t,hr,g5,g6,rfl⟩;rw[hr];cases ok
 case false=>
  simp[g5,g6,ae];exact aD (r:=by simp[aK])
 by_cases ho:o=0
 case neg=>
  simp[g5,g6,ae,ho];exact aD (r:=by simp[aK])
 by_cases hn:n=0
 case neg=>
  simp[g5,g6,ae,ho,hn];exact aD (r:=by simp[aK])
 by_cases hm:m=0/\e=0
 case neg=>
  rcases Decidable.not_and_iff_or_not.1 hm with h|h<;>simp[g5,g6,ae,ho,hn,h,cH,bj,bz,aZ,jD]<;>exact aD (r:=by simp[aK])
 by_cases ht:t=⟨⟨[]⟩⟩
 case neg=>
  simp[g5,g6,ae,ho,hn,hm,ht,cH,bj,bz,aZ,jD];exact aD (r:=by simp[aK,VN ht])
 simp[g5,g6,ae,ho,hn,hm,ht,cH,bj,bz,aZ,jD];exact aD (r:=by simp[aK,uD rfl])
end Go.Proofs.YtbifpocccfkhhaaGreatDoor
end
