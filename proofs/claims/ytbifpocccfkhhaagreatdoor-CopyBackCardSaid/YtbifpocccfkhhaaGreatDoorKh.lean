/- A part. -/
import Derived.Test.YtbifpocccfkhhaaGreatDoorKf
set_option linter.all false
noncomputable section
namespace Go.Proofs.YtbifpocccfkhhaaGreatDoor
open Go
theorem qt.frameR{P:Program}{f:FuncId}{args:List V}{R:V→Prop}(h:qt P f args [] (fun v U=>R v∧U=[]))(ha:∀v,v∈args→v.under 0=true)(hr:∀v,R v→v.under 0=true)(S:St):qt P f args S (fun v U=>R v∧U=S):=by
 refine ⟨h.1,fun E w us n hs hv=>?_⟩;obtain ⟨c1,c2⟩:=hs.cut (m:=0) (fun o ho=>by simp at ho) (qrA _);have c1:SR (E.cut 0) [] w:=by simpa using c1
 have hv0:VRs (E.cut 0) args us:=⟨hv.1,fun i v u h1 h2=>(hv.2 i v u h1 h2).cut (ha v (qq1 h1))⟩;refine (h.2 (E.cut 0) w us n c1 hv0).mono ?_;rintro e w' ⟨u,r0,E1,S1,h1,⟨hR,rfl⟩,h3,h4,h5,h6⟩
 have hno:∀{E:En} {b:Nat},¬ own E [] b:=by
  rintro E b ⟨l,st,x,⟨o,ho,_⟩,_⟩;simp at ho
 let E':En:={ I:=E1.I,ρ:=E.ρ }
 have hle:E.le E':=⟨fun b o c hc=>h5.I b o c hc,fun _ _ _ hx=>hx⟩;have hle1:En.le (E1.cut 0) E':=⟨fun b o c hc=>hc,fun l st x hx=>by simp[En.cut] at hx⟩;have hown:∀b,own E' S b→own E S b:=fun b ⟨l,st,x,hl,hx,he⟩=>⟨l,st,x,hl,hx,he⟩
 have hI:∀b o c,E1.I b o=some c→E.I b o=some c∨w.heap.size≤b:=fun b o c hc=>by
  rcases h5.newI b o c hc with hc|hc|hc
  ·exact .inl hc
  ·exact absurd hc hno
  ·exact .inr hc
 refine ⟨u,r0,E',S,h1,⟨hR,rfl⟩,(h3.cut (hr _ hR)).mono hle1,⟨⟨h4.gl.1,h4.gl.2⟩,h4.I,fun l o hl=>?_,hs.dom,fun b o hb=>?_,fun b hb=>?_,fun l l' st st' x x' hl hl' hx hx' he=>hs.inj l l' st st' x x' hl hl' hx hx' he⟩,
  ⟨h5.size,hle.1,fun _ _ _ _ hx=>hx,fun _ _ hx=>hx,fun b hb=>.inl (hown b hb),fun b o c hc=>(hI b o c hc).imp id .inr,fun b hb _=>h5.frame b hb hno,h5.out⟩,qqY _⟩
 ·by_cases hd:o=.dead
  ·subst hd;trivial
  ·exact (hs.obs l o hl).mono hle (fun _ _ hx=>hx) fun st x hx=>h5.frame _ (hs.lt _ ⟨l,st,x,⟨o,hl,hd⟩,hx,rfl⟩) hno
 ·cases hc:E'.I b o with
  | none=>rfl
  | some c=>
   exfalso;rcases hI b o c hc with h| h
   ·rw[hs.apart b o (hown b hb)] at h;cases h
   ·have:=hs.lt b (hown b hb);omega
 ·exact qry (hs.lt b (hown b hb)) h5.size
abbrev Pu(P:Program)(k:Nat)(args:List V)(R:V→Prop):Prop:=∀S,qt P k args S (fun v U=>R v∧U=S)
theorem Pu.intro{P:Program}{f:FuncId}{fn:Func}{f':F'}{args:List V}{R:V→Prop}(hf:P.funcs[f]?=some fn)(hc:ZW P fn=some f')(ha:args.length≤f'.N)
  (hu:(args.all fun v=>v.under 0)=true) (hr:∀v,R v→v.under 0=true) (h:WP P f'.body (JQ f'.rs 0 (fun v U=>R v∧U=[])) (yo 0 args) []):Pu P f args R:=fun S=>
 qt.frameR (qt.intro hf hc ha h) (fun v hv=>qri.1 hu v hv) hr S
theorem Pu.ib{P:Program}{f:FuncId}{fn:Func}{f':F'}{args:List V}{r:V}(hf:P.funcs[f]?=some fn)(hc:ZW P fn=some f')(ha:args.length≤f'.N)(hu:(args.all fun v=>v.under 0)=true)(hr:r.under 0=true)(h:WP P f'.body (JQ f'.rs 0 (fun v U=>v=r∧U=[])) (yo 0 args) []):∀S,Fn P f args S r:=Pu.intro (R:=fun v=>v=r) hf hc ha hu (fun v hv=>hv ▸ hr) h
theorem qa{rs:List RV}{R:V→Prop}{e:Env}{S:St}{vs:List V}(h:rvs e S rs=some vs)(hR:R (qo vs))(hu:(qo vs).under 0=true):JQ rs 0 (fun v U=>R v∧U=[]) .ret e S:=
 ⟨vs,h,_,[],zp.cut (m:=0) hu (by simp) (qqY _) (qrA _),hR,rfl⟩
def qii(P:Program)(k:Nat)(args:List V)(S:St)(Φ:V→St→Prop):Prop:=∃R:V→St→Prop,qt P k args S R∧(∃v S',R v S')∧∀v S',R v S'→Φ v S'
def qfz(P:Program)(base:Nat)(d:Option Nat)(wr:Bool)(ds:List D)(K:Env→List St→Prop)(e:Env)(H:List St)(v:V)(S:St):Prop:=dwp P base ds K (e.put d v) S (if wr then H++[S] else H)
def qql(r:Option (V×St))(P:Program)(base:Nat)(d:Option Nat)(wr:Bool)(ds:List D)(K:Env→List St→Prop)(e:Env)(H:List St):Prop:=match r with
 | some (v,S')=>qfz P base d wr ds K e H v S'
 | none=>False
def qqo(f:Option V)(vs:Option (List V))(P:Program)(base:Nat)(d:Option Nat)(wr:Bool)(ds:List D)(K:Env→List St→Prop)(e:Env)(S:St)(H:List St):Prop:=match f,vs with
 | some (.fn (.func k) fs cs),some vs=>qii P k (fs++vs++cs) S (qfz P base d wr ds K e H)
 | _,_=>False
def dgd(g:Option Bool)(P:Program)(base:Nat)(d:D)(ds:List D)(K:Env→List St→Prop)(e:Env)(S:St)(H:List St):Prop:=match g with
 | none=>False
 | some false=>qfz P base d.o.dst d.w ds K e H (.tup []) S
 | some true=>dwp P base ({ d with o:={ d.o with g:=none } }::ds) K e S H
theorem qhW{P:Program}{base:Nat}{d:Option Nat}{wr:Bool}{ds:List D}{K:Env→List St→Prop}{e:Env}{H:List St}{v:V}{S:St}:qfz P base d wr ds K e H v S=dwp P base ds K (e.put d v) S (if wr then H++[S] else H):=(rfl)
theorem qgm{P:Program}{base:Nat}{d:Option Nat}{wr:Bool}{ds:List D}{K:Env→List St→Prop}{e:Env}{H:List St}{v:V}{S:St}:qql (some (v,S)) P base d wr ds K e H=dwp P base ds K (e.put d v) S (if wr then H++[S] else H):=(rfl)
theorem qll{P:Program}{k:Nat}{fs cs vs:List V}{base:Nat}{d:Option Nat}{wr:Bool}{ds:List D}{K:Env→List St→Prop}{e:Env}{S:St}{H:List St}:qqo (some (.fn (.func k) fs cs)) (some vs) P base d wr ds K e S H=qii P k (fs++vs++cs) S (qfz P base d wr ds K e H):=(rfl)
theorem qeS{P:Program}{base:Nat}{d:D}{ds:List D}{K:Env→List St→Prop}{e:Env}{S:St}{H:List St}:dgd (some false) P base d ds K e S H=dwp P base ds K (e.put d.o.dst (.tup [])) S (if d.w then H++[S] else H):=(rfl)
theorem qip{P:Program}{base:Nat}{d:D}{ds:List D}{K:Env→List St→Prop}{e:Env}{S:St}{H:List St}:dgd (some true) P base d ds K e S H=dwp P base ({ d with o:={ d.o with g:=none } }::ds) K e S H:=(rfl)
theorem qmE{P:Program}{base:Nat}{K:Env→List St→Prop}{e:Env}{S:St}{H:List St}:dwp P base [] K e S H=K e H:=(rfl)
theorem qfp{P:Program}{base:Nat}{dst:Option Nat}{g:Nat×Bool}{k:K}{wr:Bool}{sl:Option Nat}{ck:Bool}{an:List Nat}{lo hi:Nat}{ds:List D}{K:Env→List St→Prop}{e:Env}{S:St}{H:List St}:
  dwp P base (⟨⟨dst,some g,k⟩,wr,sl,ck,an,lo,hi⟩::ds) K e S H=dgd (qU e (some g)) P base ⟨⟨dst,some g,k⟩,wr,sl,ck,an,lo,hi⟩ ds K e S H:=by
 unfold dgd
 cases h:qU e (some g) with
 | none=>simp only[dwp,h]
 | some b=>cases b <;> simp only[dwp,h] <;> rfl
theorem qh7{P:Program}{base:Nat}{dst:Option Nat}{k:K}{wr:Bool}{sl:Nat}{ck:Bool}{an:List Nat}{lo hi:Nat}{ds:List D}{K:Env→List St→Prop}{e:Env}{S:St}{H:List St}:
 dwp P base (⟨⟨dst,none,k⟩,wr,some sl,ck,an,lo,hi⟩::ds) K e S H=dwp P base ds K (e.put dst (.ptr (base+sl) 0 0 1)) S (if wr then H++[S] else H):=(rfl)
theorem qh9{P:Program}{base:Nat}{dst:Option Nat}{f:Opd}{args:List Opd}{wr:Bool}{ck:Bool}{an:List Nat}{lo hi:Nat}{ds:List D}{K:Env→List St→Prop}{e:Env}{S:St}{H:List St}:
 dwp P base (⟨⟨dst,none,.call f args⟩,wr,none,ck,an,lo,hi⟩::ds) K e S H=qqo (f.ev e) (evs e args) P base dst wr ds K e S H:=(rfl)
theorem qg5{P:Program}{base:Nat}{dst:Option Nat}{k:K}{wr:Bool}{ck:Bool}{an:List Nat}{lo hi:Nat}{ds:List D}{K:Env→List St→Prop}{e:Env}{S:St}{H:List St}(h:∀f args,k≠.call f args):
  dwp P base (⟨⟨dst,none,k⟩,wr,none,ck,an,lo,hi⟩::ds) K e S H=qql (evK e S k) P base dst wr ds K e H:=by
 cases k <;> first|rfl|exact absurd rfl (h _ _)
theorem qj3{P:Program}{ds:List D}{zs:List V}{Q:yD}{e:Env}{S:St}:WP P (.draw ds zs) Q e S=dwp P S.length ds (QZ S.length ds (Q .normal)) e (S++phs zs) [S++phs zs]:=(rfl)
theorem qiF{P:Program}{ds:List D}{zs:List V}{o:O'}{Q:yD}{e:Env}{S:St}:WP P (.drawl ds zs o) Q e S=dwp P S.length ds (QZ S.length ds (QX P o Q .normal)) e (S++phs zs) [S++phs zs]:=(rfl)
theorem jA{P:Program}{o:O'}{Q:yD}{e:Env}{S:St}:QX P o Q .normal e S=yK P [o] (Q .normal) e S:=(rfl)
theorem Qs{P:Program}{k:Nat}{args:List V}{S:St}{r:V}{Φ:V→St→Prop}(h:Fn P k args S r)(g:Φ r S):qii P k args S Φ:=Yx h g
theorem Qd{P:Program}{k:Nat}{args:List V}{S:St}{R:V→St→Prop}{Φ:V→St→Prop}(h:qt P k args S R)(hi:∃v U,R v U)(g:∀v U,R v U→Φ v U):qii P k args S Φ:=⟨R,h,hi,g⟩
def qks(ds:List D):Bool:=ds.all fun d=>!(d.chk && !d.w)
theorem j8{base:Nat}{ef:Env}{H:List St}:∀{ds:List D},qks ds=true→zW base ef H ds
 | [],_=>trivial
 | d::ds,h=>by
  simp only[qks,qsY,qq5] at h;refine ⟨?_,j8 h.2⟩;have h1:=h.1
  cases hb:(d.chk && !d.w) with
  | true=>rw[hb] at h1;cases h1
  | false=>rw[if_neg (by simp)];trivial
theorem jB{base:Nat}{ds:List D}{Q:Env→St→Prop}{ef:Env}{H:List St}{S:St}(h:qks ds=true)(hl:H.getLast?=some S)(hq:Q ef S):QZ base ds Q ef H:=by
 refine ⟨j8 h,?_⟩;rw[hl];exact hq
attribute [simp] qj3 qiF jA qhW qgm qll qeS qip qmE qfp qh7 qh9 qg5
inductive Ex where
 | mk (kind op n man exp:Int) (text:Bz) (args:List Ex)
structure El where
 kind:Int
 exps:List Ex
structure Fo where
 name:Bz
 value:Bool
 spec:Int
 type:Int
mutual
inductive De where
 | mk (kind:Int) (own:Bool) (type:Int) (names:List Bz) (exps:List Ex) (formals:List Fo) (body:List Sm)
inductive Sm where
 | mk (labels:List Bz) (kind:Int) (text:Bz) (targets exps:List Ex) (elems:List El) (decls:List De) (body:List Sm)
end
namespace Ex
def kind:Ex→Int|mk k _ _ _ _ _ _=>k
def op:Ex→Int|mk _ o _ _ _ _ _=>o
def n:Ex→Int|mk _ _ n _ _ _ _=>n
def man:Ex→Int|mk _ _ _ m _ _ _=>m
def exp:Ex→Int|mk _ _ _ _ e _ _=>e
def text:Ex→Bz|mk _ _ _ _ _ t _=>t
def args:Ex→List Ex|mk _ _ _ _ _ _ a=>a
end Ex
namespace De
def kind:De→Int|mk k _ _ _ _ _ _=>k
def own:De→Bool|mk _ o _ _ _ _ _=>o
def type:De→Int|mk _ _ t _ _ _ _=>t
def names:De→List Bz|mk _ _ _ n _ _ _=>n
def exps:De→List Ex|mk _ _ _ _ e _ _=>e
def formals:De→List Fo|mk _ _ _ _ _ f _=>f
def body:De→List Sm|mk _ _ _ _ _ _ b=>b
end De
namespace Sm
def labels:Sm→List Bz|mk l _ _ _ _ _ _ _=>l
def kind:Sm→Int|mk _ k _ _ _ _ _ _=>k
def text:Sm→Bz|mk _ _ t _ _ _ _ _=>t
def targets:Sm→List Ex|mk _ _ _ t _ _ _ _=>t
def exps:Sm→List Ex|mk _ _ _ _ e _ _ _=>e
def elems:Sm→List El|mk _ _ _ _ _ e _ _=>e
def decls:Sm→List De|mk _ _ _ _ _ _ d _=>d
def body:Sm→List Sm|mk _ _ _ _ _ _ _ b=>b
end Sm
mutual
def Ex.v:Ex→V
 | .mk k o n m e t a=>.agg [.int .i64 k,.int .i64 o,.int .i64 n,.int .i64 m,.int .i64 e,.str t,.sl false (Ex.vl a)]
def Ex.vl:List Ex→List V
 | []=>[]
 | x::l=>Ex.v x::Ex.vl l
end
theorem Ex.vl_map:∀l:List Ex,Ex.vl l=l.map Ex.v
 | []=>rfl
 | x::l=>by rw[Ex.vl,Ex.vl_map l];rfl
def El.v(e:El):V:=.agg [.int .i64 e.kind,.sl false (e.exps.map Ex.v)]
def Fo.v(f:Fo):V:=.agg [.str f.name,.bool f.value,.int .i64 f.spec,.int .i64 f.type]
mutual
def De.v:De→V
 | .mk k o t n e f b=>.agg [.int .i64 k,.bool o,.int .i64 t,.sl false (n.map .str),.sl false (e.map Ex.v),.sl false (f.map Fo.v),.sl false (Sm.vl b)]
def Sm.v:Sm→V
 | .mk l k t g e f d b=>.agg [.sl false (l.map .str),.int .i64 k,.str t,.sl false (g.map Ex.v),.sl false (e.map Ex.v),.sl false (f.map El.v),.sl false (De.vl d),.sl false (Sm.vl b)]
def De.vl:List De→List V
 | []=>[]
 | x::l=>De.v x::De.vl l
def Sm.vl:List Sm→List V
 | []=>[]
 | x::l=>Sm.v x::Sm.vl l
end
theorem De.vl_map:∀l:List De,De.vl l=l.map De.v
 | []=>rfl
 | x::l=>by rw[De.vl,De.vl_map l];rfl
theorem Sm.vl_map:∀l:List Sm,Sm.vl l=l.map Sm.v
 | []=>rfl
 | x::l=>by rw[Sm.vl,Sm.vl_map l];rfl
theorem Ex.v_eq(x:Ex):x.v=.agg [.int .i64 x.kind,.int .i64 x.op,.int .i64 x.n,.int .i64 x.man,.int .i64 x.exp,.str x.text,.sl false (x.args.map Ex.v)]:=by
 cases x;simp only[Ex.v,Ex.vl_map];rfl
theorem De.v_eq(d:De):d.v=.agg [.int .i64 d.kind,.bool d.own,.int .i64 d.type,.sl false (d.names.map .str),.sl false (d.exps.map Ex.v),.sl false (d.formals.map Fo.v),.sl false (d.body.map Sm.v)]:=by
 cases d;simp only[De.v,Sm.vl_map];rfl
theorem Sm.v_eq(s:Sm):s.v=.agg [.sl false (s.labels.map .str),.int .i64 s.kind,.str s.text,.sl false (s.targets.map Ex.v),.sl false (s.exps.map Ex.v),.sl false (s.elems.map El.v),.sl false (s.decls.map De.v),.sl false (s.body.map Sm.v)]:=by
 cases s;simp only[Sm.v,Sm.vl_map,De.vl_map];rfl
theorem Ex.v_size(x:Ex):x.v.size=7:=by rw[Ex.v_eq];rfl
theorem El.v_size(x:El):x.v.size=2:=rfl
theorem Fo.v_size(x:Fo):x.v.size=4:=rfl
theorem De.v_size(x:De):x.v.size=7:=by rw[De.v_eq];rfl
theorem Sm.v_size(x:Sm):x.v.size=8:=by rw[Sm.v_eq];rfl
theorem qer{α:Type}{f:α→V}{sz:Nat}(hf:∀x,(f x).size=sz){l:List α}{i:Nat}(h:i<l.length)(b:Bool)(S:St):iaS S sz (.sl b (l.map f)) i=some (.iptr (f l[i]) 0):=by
 simp[iaS,h,hf]
theorem qjB{l:List Ex}{i:Nat}(h:i<l.length)(b:Bool)(S:St):iaS S 7 (.sl b (l.map Ex.v)) i=some (.iptr (Ex.v l[i]) 0):=qer Ex.v_size h b S
theorem qnX{l:List El}{i:Nat}(h:i<l.length)(b:Bool)(S:St):iaS S 2 (.sl b (l.map El.v)) i=some (.iptr (El.v l[i]) 0):=qer El.v_size h b S
theorem qlp{l:List Fo}{i:Nat}(h:i<l.length)(b:Bool)(S:St):iaS S 4 (.sl b (l.map Fo.v)) i=some (.iptr (Fo.v l[i]) 0):=qer Fo.v_size h b S
theorem qm3{l:List De}{i:Nat}(h:i<l.length)(b:Bool)(S:St):iaS S 7 (.sl b (l.map De.v)) i=some (.iptr (De.v l[i]) 0):=qer De.v_size h b S
theorem qi4{l:List Sm}{i:Nat}(h:i<l.length)(b:Bool)(S:St):iaS S 8 (.sl b (l.map Sm.v)) i=some (.iptr (Sm.v l[i]) 0):=qer Sm.v_size h b S
theorem qqN(x:Ex)(S:St):ldS S (.iptr x.v 0) (some 7)=some x.v:=by simp[ldS,V.part,Ex.v_size,V.isAgg,Ex.v_eq]
theorem qqD(x:El)(S:St):ldS S (.iptr x.v 0) (some 2)=some x.v:=rfl
theorem qqR(x:Fo)(S:St):ldS S (.iptr x.v 0) (some 4)=some x.v:=rfl
theorem qqE(x:De)(S:St):ldS S (.iptr x.v 0) (some 7)=some x.v:=by simp[ldS,V.part,De.v_size,V.isAgg,De.v_eq]
theorem qqH(x:Sm)(S:St):ldS S (.iptr x.v 0) (some 8)=some x.v:=by simp[ldS,V.part,Sm.v_size,V.isAgg,Sm.v_eq]
theorem qE{α:Type}{f:α→V}{l:List α}(h:∀x,x∈l→(f x).under 0=true):V.underL 0 (l.map f)=true:=JZ fun v hv=>by
 obtain ⟨x,hx,rfl⟩:=qrf.1 hv;exact h x hx
mutual
theorem Ex.v_under:∀x:Ex,x.v.under 0=true
 | .mk k o n m e t a=>by simp[Ex.v,V.under,V.underL,Ex.vl_under a]
theorem Ex.vl_under:∀l:List Ex,V.underL 0 (Ex.vl l)=true
 | []=>rfl
 | x::l=>by simp[Ex.vl,V.underL,Ex.v_under x,Ex.vl_under l]
end
theorem El.v_under(x:El):x.v.under 0=true:=by simp[El.v,V.under,V.underL,qE (f:=Ex.v) fun x _=>Ex.v_under x]
theorem Fo.v_under(x:Fo):x.v.under 0=true:=rfl
mutual
theorem De.v_under:∀x:De,x.v.under 0=true
 | .mk k o t n e f b=>by simp[De.v,V.under,V.underL,qE (f:=Ex.v) fun x _=>Ex.v_under x,qE (f:=Fo.v) fun x _=>Fo.v_under x,qE (f:=V.str) (l:=n) fun x _=>rfl,Sm.vl_under b]
theorem Sm.v_under:∀x:Sm,x.v.under 0=true
 | .mk l k t g e f d b=>by simp[Sm.v,V.under,V.underL,qE (f:=Ex.v) fun x _=>Ex.v_under x,qE (f:=El.v) fun x _=>El.v_under x,qE (f:=V.str) (l:=l) fun x _=>rfl,De.vl_under d,Sm.vl_under b]
theorem De.vl_under:∀l:List De,V.underL 0 (De.vl l)=true
 | []=>rfl
 | x::l=>by simp[De.vl,V.underL,De.v_under x,De.vl_under l]
theorem Sm.vl_under:∀l:List Sm,V.underL 0 (Sm.vl l)=true
 | []=>rfl
 | x::l=>by simp[Sm.vl,V.underL,Sm.v_under x,Sm.vl_under l]
end
theorem vl_under{α:Type}{f:α→V}(h:∀x,(f x).under 0=true)(b:Bool)(l:List α):(V.sl b (l.map f)).under 0=true:=by
 simp only[V.under];exact qE fun x _=>h x
theorem qec(b:Bool)(l:List Bz):(V.sl b (l.map .str)).under 0=true:=vl_under (fun _=>rfl) b l
attribute [simp] Ex.v_size El.v_size Fo.v_size De.v_size Sm.v_size Ex.v_under El.v_under Fo.v_under De.v_under Sm.v_under vl_under qec qqN qqD qqR qqE qqH
def B50:Nat:=1125899906842624
mutual
def Ex.ok:Ex→Prop
 | .mk _ _ _ _ _ t a=>t.size≤B50∧a.length≤B50∧Ex.okL a
def Ex.okL:List Ex→Prop
 | []=>True
 | x::l=>Ex.ok x∧Ex.okL l
end
theorem Ex.okL_mem:∀{l:List Ex},Ex.okL l→∀x,x∈l→x.ok
 | [],_,x,h=>by cases h
 | y::l,⟨h1,h2⟩,x,h=>by
  rcases qrl.1 h with rfl| h
  ·exact h1
  ·exact Ex.okL_mem h2 x h
theorem Ex.ok_args{x:Ex}(h:x.ok):x.args.length≤B50∧Ex.okL x.args:=by cases x;exact ⟨h.2.1,h.2.2⟩
theorem Ex.ok_text{x:Ex}(h:x.ok):x.text.size≤B50:=by cases x;exact h.1
def El.ok(e:El):Prop:=e.exps.length≤B50∧Ex.okL e.exps
def okS(l:List Bz):Prop:=l.length≤B50∧∀s,s∈l→s.size≤B50
def Fo.ok(f:Fo):Prop:=f.name.size≤B50
mutual
def De.ok:De→Prop
 | .mk _ _ _ n e f b=>okS n∧(e.length≤B50∧Ex.okL e)∧(f.length≤B50∧∀x,x∈f→Fo.ok x)∧b.length≤B50∧Sm.okL b
def Sm.ok:Sm→Prop
 | .mk l _ t g e f d b=>okS l∧t.size≤B50∧(g.length≤B50∧Ex.okL g)∧(e.length≤B50∧Ex.okL e)∧(f.length≤B50∧∀x,x∈f→El.ok x)∧(d.length≤B50∧De.okL d)∧b.length≤B50∧Sm.okL b
def De.okL:List De→Prop
 | []=>True
 | x::l=>De.ok x∧De.okL l
def Sm.okL:List Sm→Prop
 | []=>True
 | x::l=>Sm.ok x∧Sm.okL l
end
theorem De.okL_mem:∀{l:List De},De.okL l→∀x,x∈l→x.ok
 | [],_,x,h=>by cases h
 | y::l,h,x,hx=>by
  simp only[De.okL] at h;rcases qrl.1 hx with rfl|hx
  ·exact h.1
  ·exact De.okL_mem h.2 x hx
theorem Sm.okL_mem:∀{l:List Sm},Sm.okL l→∀x,x∈l→x.ok
 | [],_,x,h=>by cases h
 | y::l,h,x,hx=>by
  simp only[Sm.okL] at h;rcases qrl.1 hx with rfl|hx
  ·exact h.1
  ·exact Sm.okL_mem h.2 x hx
structure De.Ok(d:De):Prop where
 names:okS d.names
 exps:d.exps.length≤B50∧Ex.okL d.exps
 formals:d.formals.length≤B50∧∀x,x∈d.formals→Fo.ok x
 body:d.body.length≤B50∧Sm.okL d.body
theorem De.ok_iff(d:De):d.ok↔d.Ok:=by
 cases d;simp only[De.ok];exact ⟨fun ⟨a,b,c,e,f⟩=>⟨a,b,c,e,f⟩,fun ⟨a,b,c,e⟩=>⟨a,b,c,e.1,e.2⟩⟩
structure Sm.Ok(s:Sm):Prop where
 labels:okS s.labels
 text:s.text.size≤B50
 targets:s.targets.length≤B50∧Ex.okL s.targets
 exps:s.exps.length≤B50∧Ex.okL s.exps
 elems:s.elems.length≤B50∧∀x,x∈s.elems→El.ok x
 decls:s.decls.length≤B50∧De.okL s.decls
 body:s.body.length≤B50∧Sm.okL s.body
theorem Sm.ok_iff(s:Sm):s.ok↔s.Ok:=by
 cases s;simp only[Sm.ok];exact ⟨fun ⟨a,b,c,e,f,g,h,i⟩=>⟨a,b,c,e,f,g,h,i⟩,fun ⟨a,b,c,e,f,g,h⟩=>⟨a,b,c,e,f,g,h.1,h.2⟩⟩
mutual
def Ex.left:Ex→Int→Int→Int
 | .mk _ _ _ _ _ _ a,deep,n=>if deep+1 > 40 then 0 else Ex.leftG a (deep+1) (n - 1)
def Ex.leftG:List Ex→Int→Int→Int
 | [],_,n=>n
 | x::l,deep,n=>if n > 0 then Ex.leftG l deep (Ex.left x deep n) else n
end
def Ex.leftL(l:List Ex)(deep n:Int):Int:=if deep > 40 then 0 else Ex.leftG l deep n
theorem Ex.left_eq(x:Ex)(deep n:Int):x.left deep n=Ex.leftL x.args (deep+1) (n - 1):=by cases x;rw[Ex.left];rfl
mutual
theorem Ex.left_le:∀(x:Ex) (deep n:Int),0<n→x.left deep n≤n - 1∧0≤x.left deep n
 | .mk _ _ _ _ _ _ a,deep,n,h=>by
  rw[Ex.left];split
  ·omega
  ·exact Ex.leftG_le a _ _ (by omega)
theorem Ex.leftG_le:∀(l:List Ex) (deep n:Int),0≤n→Ex.leftG l deep n≤n∧0≤Ex.leftG l deep n
 | [],_,n,h=>⟨Int.le_refl _,h⟩
 | x::l,deep,n,h=>by
  rw[Ex.leftG];split
  ·rename_i h0;have h1:=Ex.left_le x deep n h0;have h2:=Ex.leftG_le l deep (x.left deep n) h1.2;omega
  ·omega
end
theorem Ex.leftG_neg:∀(l:List Ex) (deep n:Int),n≤0→Ex.leftG l deep n=n
 | [],_,n,_=>rfl
 | x::l,deep,n,h=>by rw[Ex.leftG,if_neg (by omega)]
theorem Ex.leftL_le(l:List Ex)(deep n:Int)(h:0≤n):Ex.leftL l deep n≤n∧0≤Ex.leftL l deep n:=by
 unfold Ex.leftL;split
 ·omega
 ·exact Ex.leftG_le l deep n h
mutual
def De.left:De→Int→Int→Int
 | .mk _ _ _ nm e f b,deep,n=>Sm.leftG b (deep+1) (Ex.leftL e (deep+1) (n - 1 - nm.length - f.length))
def Sm.left:Sm→Int→Int→Int
 | .mk l _ _ g e f d b,deep,n=>if deep > 30 then 0 else
  Sm.leftG b (deep+1) (De.leftG d deep (El.leftG f deep (Ex.leftL g (deep+1) (Ex.leftL e (deep+1) (n - 1 - l.length)))))
def De.leftG:List De→Int→Int→Int
 | [],_,n=>n
 | x::l,deep,n=>if n > 0 then De.leftG l deep (De.left x deep n) else n
def Sm.leftG:List Sm→Int→Int→Int
 | [],_,n=>n
 | x::l,deep,n=>if n > 0 then Sm.leftG l deep (Sm.left x deep n) else n
def El.leftG:List El→Int→Int→Int
 | [],_,n=>n
 | x::l,deep,n=>if n > 0 then El.leftG l deep (Ex.leftL x.exps (deep+1) (n - 1)) else n
end
mutual
def V.weak:V→V
 | .sl _ xs=>.sl false (V.weakL xs)
 | .agg cs=>.agg (V.weakL cs)
 | .tup cs=>.tup (V.weakL cs)
 | v=>v
def V.weakL:List V→List V
 | []=>[]
 | v::vs=>V.weak v::V.weakL vs
end
theorem zc:∀vs:List V,V.weakL vs=vs.map V.weak
 | []=>rfl
 | v::vs=>by simp only[V.weakL,qq8,zc vs]
theorem kH(v:V):v.weak.cells=v.cells.map V.weak:=by
 cases v <;> simp[V.weak,V.cells,zc]
theorem VR.weak{E:En}{v:V}{u:Value}(r:VR E v u):VR E v.weak u:=by
 induction r with
 | slnil x=>exact .slnil _
 | slz x a=>exact .slz _ a
 | @sl x xs b o cap sz hc hx hs hI hv ih=>
  simp only[V.weak,zc];have hl:(xs.map V.weak).length=xs.length:=by simp
  rw[←hl];refine .sl (sz:=sz) (by simpa using hc) (by simp) (fun v hv=>?_) (fun i j hi hj=>hI i j (by simpa using hi) hj) (fun i v j c' c h1 h2 h3=>?_)
  ·obtain ⟨y,hy,rfl⟩:=qrf.1 hv;rw[kH,qq2];exact hs y hy
  ·rw[qq7] at h1;obtain ⟨y,hy,rfl⟩:=qq3.1 h1;rw[kH,qq7] at h2;obtain ⟨d,hd,rfl⟩:=qq3.1 h2;exact ih i y j d c hy hd h3
 | agg hl _ ih=>
  simp only[V.weak,zc];refine .agg (by simpa using hl) fun i v u h1 h2=>?_
  rw[qq7] at h1;obtain ⟨y,hy,rfl⟩:=qq3.1 h1;exact ih i y u hy h2
 | tup hl _ ih=>
  simp only[V.weak,zc];refine .tup (by simpa using hl) fun i v u h1 h2=>?_
  rw[qq7] at h1;obtain ⟨y,hy,rfl⟩:=qq3.1 h1;exact ih i y u hy h2
 | top u=>exact .top u
 | bool b=>exact .bool b
 | int k n=>exact .int k n
 | str s=>exact .str s
 | nilp=>exact .nilp
 | ptr i off hr=>exact .ptr i off hr
 | glob g off=>exact .glob g off
 | iptr off hI hv _=>exact .iptr off hI hv
 | arr hr hN hc=>exact .arr hr hN hc
 | nilmap=>exact .nilmap
 | map hr=>exact .map hr
 | fn h1 h2 g1 g2 _ _=>exact .fn h1 h2 g1 g2
 | nilfn=>exact .nilfn
 | iface t h _=>exact .iface t h
 | niliface=>exact .niliface
 | yld hr=>exact .yld hr
theorem VRs.weak{E:En}{vs:List V}{us:Array Value}(h:VRs E vs us):VRs E (V.weakL vs) us:=by
 rw[zc];refine ⟨by simpa using h.1,fun i v u h1 h2=>?_⟩;rw[qq7] at h1;obtain ⟨y,hy,rfl⟩:=qq3.1 h1;exact (h.2 i y u hy h2).weak
theorem qt.weakA{P:Program}{f:FuncId}{args:List V}{S:St}{R:V→St→Prop}(h:qt P f (V.weakL args) S R):qt P f args S R:=
 ⟨h.1,fun E w us n hs hv=>h.2 E w us n hs hv.weak⟩
theorem zp.weak{n:Nat}{r:V}{S:St}:zp n r S r.weak S:=fun E w u hs hr hn=>⟨E,hr.weak,hs,Ext.refl _ _ _ _,hn⟩
inductive Pa where
 | st (s:Sm)
 | de (d:De)
 | el (e:El)
 | ex (x:Ex)
namespace Pa
def kids:Pa→List Pa
 | .st s=>s.targets.map .ex++(s.exps.map .ex++(s.elems.map .el++(s.decls.map .de++s.body.map .st)))
 | .de d=>d.exps.map .ex++d.body.map .st
 | .el e=>e.exps.map .ex
 | .ex x=>x.args.map .ex
def own:Pa→Nat
 | .st s=>1+s.labels.length
 | .de d=>1+d.names.length+d.formals.length
 | _=>1
def wt:Pa→Nat
 | .st s=>SizeOf.sizeOf s
 | .de d=>SizeOf.sizeOf d
 | .el e=>SizeOf.sizeOf e
 | .ex x=>SizeOf.sizeOf x
def ok:Pa→Prop
 | .st s=>s.ok
 | .de d=>d.ok
 | .el e=>e.ok
 | .ex x=>x.ok
end Pa
theorem Pa.kid_lt{p q:Pa}(h:q∈p.kids):q.wt<p.wt:=by
 cases p with
 | st s=>
  cases s;simp only[Pa.kids,qq0,qrf,Sm.targets,Sm.exps,Sm.elems,Sm.decls,Sm.body] at h;rcases h with ⟨x,hx,rfl⟩|⟨x,hx,rfl⟩|⟨x,hx,rfl⟩|⟨x,hx,rfl⟩|⟨x,hx,rfl⟩
  all_goals
   have:=qrL hx
   simp only[Pa.wt,Sm.mk.sizeOf_spec];omega
 | de d=>
  cases d;simp only[Pa.kids,qq0,qrf,De.exps,De.body] at h;rcases h with ⟨x,hx,rfl⟩|⟨x,hx,rfl⟩
  all_goals
   have:=qrL hx
   simp only[Pa.wt,De.mk.sizeOf_spec];omega
 | el e=>
  cases e;simp only[Pa.kids,qrf] at h;obtain ⟨x,hx,rfl⟩:=h;have:=qrL hx;simp only[Pa.wt,El.mk.sizeOf_spec];omega
 | ex x=>
  cases x;simp only[Pa.kids,qrf,Ex.args] at h;obtain ⟨x,hx,rfl⟩:=h;have:=qrL hx;simp only[Pa.wt,Ex.mk.sizeOf_spec];omega
theorem Pa.kid_ok{p q:Pa}(hp:p.ok)(h:q∈p.kids):q.ok:=by
 cases p with
 | st s=>
  have hs:=(Sm.ok_iff s).1 hp;simp only[Pa.kids,qq0,qrf] at h;rcases h with ⟨x,hx,rfl⟩|⟨x,hx,rfl⟩|⟨x,hx,rfl⟩|⟨x,hx,rfl⟩|⟨x,hx,rfl⟩
  ·exact Ex.okL_mem hs.targets.2 x hx
  ·exact Ex.okL_mem hs.exps.2 x hx
  ·exact hs.elems.2 x hx
  ·exact De.okL_mem hs.decls.2 x hx
  ·exact Sm.okL_mem hs.body.2 x hx
 | de d=>
  have hs:=(De.ok_iff d).1 hp;simp only[Pa.kids,qq0,qrf] at h;rcases h with ⟨x,hx,rfl⟩|⟨x,hx,rfl⟩
  ·exact Ex.okL_mem hs.exps.2 x hx
  ·exact Sm.okL_mem hs.body.2 x hx
 | el e=>
  simp only[Pa.kids,qrf] at h;obtain ⟨x,hx,rfl⟩:=h;exact Ex.okL_mem hp.2 x hx
 | ex x=>
  simp only[Pa.kids,qrf] at h;obtain ⟨y,hy,rfl⟩:=h;exact Ex.okL_mem (Ex.ok_args hp).2 y hy
def Sm.cs(s:Sm):List V:=[.sl false (s.labels.map .str),.int .i64 s.kind,.str s.text,.sl false (s.targets.map Ex.v),.sl false (s.exps.map Ex.v),.sl false (s.elems.map El.v),.sl false (s.decls.map De.v),.sl false (s.body.map Sm.v)]
def De.cs(d:De):List V:=[.int .i64 d.kind,.bool d.own,.int .i64 d.type,.sl false (d.names.map .str),.sl false (d.exps.map Ex.v),.sl false (d.formals.map Fo.v),.sl false (d.body.map Sm.v)]
def El.cs(e:El):List V:=[.int .i64 e.kind,.sl false (e.exps.map Ex.v)]
def Ex.cs(x:Ex):List V:=[.int .i64 x.kind,.int .i64 x.op,.int .i64 x.n,.int .i64 x.man,.int .i64 x.exp,.str x.text,.sl false (x.args.map Ex.v)]
def Sm.z:Sm:=.mk [] 0 ⟨⟨[]⟩⟩ [] [] [] [] []
def De.z:De:=.mk 0 false 0 [] [] [] []
def El.z:El:=⟨0,[]⟩
def Ex.z:Ex:=.mk 0 0 0 0 0 ⟨⟨[]⟩⟩ []
def paV(k:Int)(s:Sm)(d:De)(e:El)(x:Ex):V:=.agg (.int .i64 k::(s.cs++(d.cs++(e.cs++x.cs))))
namespace Pa
def kind:Pa→Int
 | .st _=>1|.de _=>2|.el _=>3|.ex _=>4
def toS:Pa→Sm|.st s=>s|_=>Sm.z
def toD:Pa→De|.de s=>s|_=>De.z
def toE:Pa→El|.el s=>s|_=>El.z
def toX:Pa→Ex|.ex s=>s|_=>Ex.z
def v(p:Pa):V:=paV p.kind p.toS p.toD p.toE p.toX
end Pa
theorem qbF(k:Int)(s:Sm)(d:De)(e:El)(x:Ex):(paV k s d e x).under 0=true:=by
 simp only[paV,Sm.cs,De.cs,El.cs,Ex.cs,V.under,V.underL,qrp,qr9,qq5,Bool.and_true,qsc];simp only[qE fun x _=>Ex.v_under x,qE fun x _=>El.v_under x,qE fun x _=>De.v_under x,qE fun x _=>Sm.v_under x,qE fun x _=>Fo.v_under x,qE (f:=V.str) fun x _=>rfl,and_self]
theorem Pa.v_under(p:Pa):p.v.under 0=true:=qbF _ _ _ _ _
theorem Pa.v_size(p:Pa):p.v.size=25:=rfl
namespace Pa
def size(p:Pa):Nat:=p.own+((p.kids.attach.map fun q=>q.1.size)).sum
termination_by p.wt
decreasing_by exact Pa.kid_lt q.2
def depth(p:Pa):Nat:=1+((p.kids.attach.map fun q=>q.1.depth)).foldr max 0
termination_by p.wt
decreasing_by exact Pa.kid_lt q.2
end Pa
def qK(l:List Pa):Nat:=(l.map Pa.size).sum
def zr(l:List Pa):Nat:=(l.map Pa.depth).foldr max 0
theorem Pa.size_eq(p:Pa):p.size=p.own+qK p.kids:=by
 rw[Pa.size,qK];congr 2;exact List.attach_map_val (f:=Pa.size) ..
theorem Pa.depth_eq(p:Pa):p.depth=1+zr p.kids:=by
 rw[Pa.depth,zr];congr 2;exact List.attach_map_val (f:=Pa.depth) ..
@[simp] theorem sizes_nil:qK []=0:=rfl
@[simp] theorem sizes_cons(p:Pa)(l:List Pa):qK (p::l)=p.size+qK l:=by simp[qK]
@[simp] theorem depths_nil:zr []=0:=rfl
@[simp] theorem depths_cons(p:Pa)(l:List Pa):zr (p::l)=max p.depth (zr l):=by simp[zr]
theorem Pa.own_pos(p:Pa):1≤p.own:=by cases p <;> simp[Pa.own] <;> omega
theorem Pa.size_pos(p:Pa):1≤p.size:=by rw[Pa.size_eq];have:=p.own_pos;omega
theorem Pa.depth_pos(p:Pa):1≤p.depth:=by rw[Pa.depth_eq];omega
theorem zQ:∀l:List Pa,l.length≤qK l
 | []=>qrA _
 | p::l=>by have:=zQ l;have:=p.size_pos;simp only[qrk,sizes_cons];omega
def Ex.named(k:Int):Bool:=k==6 || k==7 || k==8
def Pa.fits(p:Pa):Prop:=p.size≤2000∧p.depth≤60
instance (p:Pa):Decidable p.fits:=inferInstanceAs (Decidable (_∧_))
theorem Pa.own_le{p:Pa}(h:p.ok):p.own≤1+B50+B50:=by
 cases p with
 | st s=>have:=((Sm.ok_iff s).1 h).labels.1;simp only[Pa.own];omega
 | de d=>have:=((De.ok_iff d).1 h).names.1;have:=((De.ok_iff d).1 h).formals.1;simp only[Pa.own];omega
 | el e=>simp only[Pa.own];omega
 | ex e=>simp only[Pa.own];omega
def mag(m:Int):Int:=if m<0 then IntKind.i64.wrap (-m) else m
def qkH(man exp:Int):Bool:=decide (man=0∧exp=0) || (decide (1≤mag man∧mag man<16777216) && (decide (exp=-150) || (decide (8388608≤mag man) && decide (-150<exp∧exp≤150))))
def j7(b:UInt8):Bool:=decide (32≤b.toNat∧b.toNat≤126∧b.toNat≠34)
def Ji(s:Bz):Bool:=s.data.toList.all j7 && decide (s.size≤80)
def zu(t:Bz):Bool:=decide (t.size=0)
def Ex.vOwn(nm:Bz→Bool):Ex→Bool
 | .mk k o n m e t a=>
  if k=1 then decide (0≤n∧n≤2147483647) && decide (a.length=0) && decide (o=0) && (decide (m=0) && decide (e=0)) && zu t
  else if k=2 then qkH m e && decide (0≤m) && decide (a.length=0) && decide (o=0) && decide (n=0) && zu t
  else if k=3∨k=4 then decide (a.length=0) && decide (o=0) && decide (n=0) && (decide (m=0) && decide (e=0)) && zu t
  else if k=5 then Ji t && decide (a.length=0) && decide (o=0) && decide (n=0) && (decide (m=0) && decide (e=0))
  else if k=6 then nm t && decide (a.length=0) && decide (o=0) && decide (n=0) && (decide (m=0) && decide (e=0))
  else if k=7 then nm t && decide (1≤a.length∧a.length≤4) && decide (o=0) && decide (n=0) && (decide (m=0) && decide (e=0))
  else if k=8 then nm t && decide (1≤a.length∧a.length≤8) && decide (o=0) && decide (n=0) && (decide (m=0) && decide (e=0))
  else if k=9 then decide (o=1∨o=2) && decide (a.length=1) && decide (n=0) && (decide (m=0) && decide (e=0)) && zu t
  else if k=10 then decide (3≤o∧o≤18) && decide (a.length=2) && decide (n=0) && (decide (m=0) && decide (e=0)) && zu t
  else if k=11 then decide (a.length=3) && decide (o=0) && decide (n=0) && (decide (m=0) && decide (e=0)) && zu t
  else false
def El.vOwn(e:El):Bool:=(decide (e.kind=1) && decide (e.exps.length=1)) || (decide (e.kind=2) && decide (e.exps.length=3)) || (decide (e.kind=3) && decide (e.exps.length=2))
def Fo.vOwn(nm:Bz→Bool)(f:Fo):Bool:=nm f.name &&
 (if f.spec=0∨f.spec=3∨f.spec=4∨f.spec=5 then decide (f.type=0) && !f.value
  else if f.spec=1 then decide (1≤f.type∧f.type≤3)
  else if f.spec=2 then decide (0≤f.type∧f.type≤3) && (!f.value || decide (f.type≠0))
  else if f.spec=6 then decide (0≤f.type∧f.type≤3) && !f.value
  else false)
def yx(nm:Bz→Bool):List Fo→List Bz→Bool
 | [],_=>true
 | f::l,had=>f.vOwn nm && !(had.any fun x=>decide (x=f.name)) && yx nm l (had++[f.name])
def De.vOwn(nm:Bz→Bool):De→Bool
 | .mk k o t n e f b=>n.all nm &&
  (if k=1 then decide (1≤n.length) && decide (e.length=0) && decide (f.length=0) && decide (b.length=0) && decide (1≤t∧t≤3)
   else if k=2 then decide (1≤n.length) && decide (2≤e.length∧e.length≤8) && decide (e.length % 2=0) && decide (f.length=0) && decide (b.length=0) && decide (1≤t∧t≤3)
   else if k=3 then decide (n.length=1) && decide (1≤e.length) && decide (f.length=0) && decide (b.length=0) && !o && decide (t=0)
   else if k=4 then decide (n.length=1) && decide (e.length=0) && decide (b.length=1) && decide (f.length≤8) && !o && decide (0≤t∧t≤3) && yx nm f []
   else false)
def Ex.tgt(x:Ex):Bool:=decide (x.kind=6∨x.kind=7)
def Sm.noIf:List Sm→Bool
 | []=>false
 | s::_=>decide (s.kind≠4∧s.kind≠5)
def Sm.vOwn(nm:Bz→Bool):Sm→Bool
 | .mk l k t g e h d b=>l.all nm && g.all Ex.tgt &&
  (if k=1 then decide (g.length=0) && decide (e.length=0) && decide (h.length=0) && decide (d.length=0) && decide (b.length=0) && zu t
   else if k=2 then decide (1≤g.length) && decide (e.length=1) && decide (h.length=0) && decide (d.length=0) && decide (b.length=0) && zu t
   else if k=3 then decide (g.length=0) && decide (e.length=1) && decide (h.length=0) && decide (d.length=0) && decide (b.length=0) && zu t
   else if k=4 then decide (g.length=0) && decide (e.length=1) && decide (h.length=0) && decide (d.length=0) && decide (1≤b.length∧b.length≤2) && zu t && Sm.noIf b
   else if k=5 then decide (g.length=1) && decide (e.length=0) && decide (1≤h.length) && decide (d.length=0) && decide (b.length=1) && zu t
   else if k=6 then decide (g.length=0) && decide (e.length≤8) && decide (h.length=0) && decide (d.length=0) && decide (b.length=0) && nm t
   else if k=7 then decide (g.length=0) && decide (e.length=0) && decide (h.length=0) && decide (1≤d.length) && decide (1≤b.length) && zu t
   else if k=8 then decide (g.length=0) && decide (e.length=0) && decide (h.length=0) && decide (d.length=0) && decide (1≤b.length) && zu t
   else false)
def Pa.vOwn(nm:Bz→Bool):Pa→Bool
 | .st s=>s.vOwn nm
 | .de d=>d.vOwn nm
 | .el e=>e.vOwn
 | .ex x=>x.vOwn nm
def Pa.valid(nm:Bz→Bool)(p:Pa):Bool:=p.vOwn nm && (p.kids.attach.all fun q=>q.1.valid nm)
termination_by p.wt
decreasing_by exact Pa.kid_lt q.2
theorem Pa.valid_eq(nm:Bz→Bool)(p:Pa):p.valid nm=(p.vOwn nm && p.kids.all (Pa.valid nm)):=by
 rw[Pa.valid];congr 1;rw[qrz,qri,qri];exact ⟨fun h q hq=>h ⟨q,hq⟩ (List.mem_attach _ _),fun h q _=>h q.1 q.2⟩
theorem Pa.valid_iff{nm:Bz→Bool}{p:Pa}:p.valid nm=true↔p.vOwn nm=true∧∀q,q∈p.kids→q.valid nm=true:=by
 rw[Pa.valid_eq,qq5,qri]
def Pa.err(nm:Bz→Bool)(p:Pa):Int:=if p.fits then (if p.valid nm=true then 0 else 1) else 2
theorem Ex.valid_args{nm:Bz→Bool}{x:Ex}(h:(Pa.ex x).valid nm=true):∀y,y∈x.args→(Pa.ex y).valid nm=true:=fun y hy=>(Pa.valid_iff.1 h).2 _ (by simp only[Pa.kids,qrf];exact ⟨y,hy,rfl⟩)
theorem Ex.valid_text{nm:Bz→Bool}{x:Ex}(h:(Pa.ex x).valid nm=true)(hk:Ex.named x.kind=true):nm x.text=true:=by
 have h1:=(Pa.valid_iff.1 h).1
 cases x with
 | mk k o n m e t a=>
  simp only[Ex.kind,Ex.text] at *;simp only[Pa.vOwn,Ex.vOwn] at h1;have hk:k=6∨k=7∨k=8:=by simpa[Ex.named,or_assoc] using hk
  rcases hk with rfl|rfl|rfl <;> simp at h1 <;> simp[h1]
abbrev Sco:=List (Bz×Nat)
abbrev Scs:=List Sco
def Sco.at(s:Sco)(x:Bz):Option Nat:=(s.find? fun p=>decide (p.1=x)).map (·.2)
def Scs.at:Scs→Bz→Option Nat
 | [],_=>none
 | s::r,x=>match Sco.at s x with
  | some k=>some k
  | none=>Scs.at r x
def binds:List Bz→Sco→Nat→Sco
 | [],s,_=>s
 | x::l,s,n=>if (s.at x).isSome then binds l s n else binds l (s++[(x,n)]) (n+1)
def qd(l:List Bz)(n:Nat):Sco:=binds l [] n
def qk(l:List Sm):List Bz:=l.flatMap Sm.labels
def qe(d:List De)(b:List Sm):List Bz:=d.flatMap De.names++qk b
def zH(f:Nat→Bz)(sc:Scs)(x:Bz):Bz:=match sc.at x with
 | some k=>f k
 | none=>x
mutual
def Ex.w(f:Nat→Bz)(sc:Scs):Ex→Ex
 | .mk k o n m e t a=>.mk k o n m e (if Ex.named k then zH f sc t else t) (Ex.wl f sc a)
def Ex.wl(f:Nat→Bz)(sc:Scs):List Ex→List Ex
 | []=>[]
 | x::l=>Ex.w f sc x::Ex.wl f sc l
end
theorem Ex.wl_map(f:Nat→Bz)(sc:Scs):∀l,Ex.wl f sc l=l.map (Ex.w f sc)
 | []=>rfl
 | x::l=>by rw[Ex.wl,Ex.wl_map f sc l];rfl
def El.w(f:Nat→Bz)(sc:Scs)(e:El):El:=⟨e.kind,e.exps.map (Ex.w f sc)⟩
def Fo.w(f:Nat→Bz)(sc:Scs)(x:Fo):Fo:=⟨zH f sc x.name,x.value,x.spec,x.type⟩
mutual
def Sm.nb:Sm→Nat
 | .mk _ k _ _ _ _ d b=>if k=7 then (qd (qe d b) 0).length+De.nbl d+Sm.nbl b else if k=8 then (qd (qk b) 0).length+Sm.nbl b else Sm.nb1 b
def De.nb:De→Nat
 | .mk k _ _ _ _ f b=>if k=4 then (qd (f.map Fo.name) 0).length+Sm.nb1 b else 0
def De.nbl:List De→Nat
 | []=>0
 | x::l=>De.nb x+De.nbl l
def Sm.nbl:List Sm→Nat
 | []=>0
 | x::l=>Sm.nb x+Sm.nbl l
def Sm.nb1:List Sm→Nat
 | []=>0
 | x::l=>(qd x.labels 0).length+Sm.nb x+Sm.nb1 l
end
mutual
def Sm.w(f:Nat→Bz)(sc:Scs)(n:Nat):Sm→Sm
 | .mk l k t g e h d b=>
  if k=7 then
   .mk (l.map (zH f sc)) k t [] [] [] (De.wl f (qd (qe d b) n::sc) sc (n+(qd (qe d b) n).length) d) (Sm.wl f (qd (qe d b) n::sc) (n+(qd (qe d b) n).length+De.nbl d) b)
  else if k=8 then
   .mk (l.map (zH f sc)) k t [] [] [] [] (Sm.wl f (qd (qk b) n::sc) (n+(qd (qk b) n).length) b)
  else .mk (l.map (zH f sc)) k (if k=6 then zH f sc t else t) (Ex.wl f sc g) (Ex.wl f sc e) (h.map (El.w f sc)) [] (Sm.w1 f sc n b)
def De.w(f:Nat→Bz)(own sc:Scs)(n:Nat):De→De
 | .mk k o t nm e fo b=>
  if k=4 then .mk k o t (nm.map (zH f own)) [] (fo.map (Fo.w f (qd (fo.map Fo.name) n::own))) (Sm.w1 f (qd (fo.map Fo.name) n::own) (n+(qd (fo.map Fo.name) n).length) b)
  else .mk k o t (nm.map (zH f own)) (Ex.wl f (if k=2 then sc else own) e) [] []
def De.wl(f:Nat→Bz)(own sc:Scs)(n:Nat):List De→List De
 | []=>[]
 | x::l=>De.w f own sc n x::De.wl f own sc (n+De.nb x) l
def Sm.wl(f:Nat→Bz)(sc:Scs)(n:Nat):List Sm→List Sm
 | []=>[]
 | x::l=>Sm.w f sc n x::Sm.wl f sc (n+Sm.nb x) l
def Sm.w1(f:Nat→Bz)(sc:Scs)(n:Nat):List Sm→List Sm
 | []=>[]
 | x::l=>Sm.w f (qd x.labels n::sc) (n+(qd x.labels n).length) x::Sm.w1 f sc (n+(qd x.labels n).length+Sm.nb x) l
end
def Sm.whole(f:Nat→Bz)(s:Sm):Sm:=s.w f [qd s.labels 0] (qd s.labels 0).length
theorem zm:∀(l m:List Pa),qK (l++m)=qK l+qK m
 | [],m=>by simp
 | p::l,m=>by simp only[qrp,sizes_cons,zm l m];omega
theorem yr:∀(l m:List Pa),zr (l++m)=max (zr l) (zr m)
 | [],m=>by simp
 | p::l,m=>by simp only[qrp,depths_cons,yr l m];omega
def Pa.le(p q:Pa):Prop:=p.size≤q.size∧p.depth≤q.depth
theorem Pa.le_of{p q:Pa}(ho:p.own≤q.own)(hs:qK p.kids≤qK q.kids)(hd:zr p.kids≤zr q.kids):p.le q:=by
 unfold Pa.le;rw[Pa.size_eq,Pa.size_eq q,Pa.depth_eq,Pa.depth_eq q];omega
def km(l m:List Pa):Prop:=qK l≤qK m∧zr l≤zr m
theorem zh(m:List Pa):km [] m:=⟨qrA _,qrA _⟩
theorem qH{a b c d:List Pa}(h:km a b)(g:km c d):km (a++c) (b++d):=by
 unfold km at *;rw[zm,zm,yr,yr];omega
theorem zZ{p q:Pa}{l m:List Pa}(h:p.le q)(g:km l m):km (p::l) (q::m):=by
 unfold km Pa.le at *;rw[sizes_cons,sizes_cons,depths_cons,depths_cons];omega
theorem Pa.le_of'{p q:Pa}(ho:p.own≤q.own)(h:km p.kids q.kids):p.le q:=Pa.le_of ho h.1 h.2
mutual
theorem Ex.w_le(f:Nat→Bz)(sc:Scs):∀x:Ex,(Pa.ex (x.w f sc)).le (.ex x)
 | .mk k o n m e t a=>Pa.le_of' (qqY _) (by simp only[Ex.w,Pa.kids,Ex.args];exact Ex.wl_le f sc a)
theorem Ex.wl_le(f:Nat→Bz)(sc:Scs):∀l:List Ex,km ((Ex.wl f sc l).map Pa.ex) (l.map Pa.ex)
 | []=>zh _
 | x::l=>zZ (Ex.w_le f sc x) (Ex.wl_le f sc l)
end
theorem El.w_le(f:Nat→Bz)(sc:Scs)(e:El):(Pa.el (e.w f sc)).le (.el e):=Pa.le_of' (qqY _) (by
 have:=Ex.wl_le f sc e.exps;rw[Ex.wl_map] at this;exact this)
theorem Els.w_le(f:Nat→Bz)(sc:Scs):∀l:List El,km ((l.map (El.w f sc)).map Pa.el) (l.map Pa.el)
 | []=>zh _
 | x::l=>zZ (El.w_le f sc x) (Els.w_le f sc l)
mutual
theorem Sm.w_le(f:Nat→Bz):∀(s:Sm) (sc:Scs) (n:Nat),(Pa.st (s.w f sc n)).le (.st s)
 | .mk l k t g e h d b,sc,n=>by
  simp only[Sm.w];split
  ·refine Pa.le_of' (by simp[Pa.own,Sm.labels]) ?_;simp only[Pa.kids,Sm.targets,Sm.exps,Sm.elems,Sm.decls,Sm.body,qrY];exact qH (zh _) (qH (zh _) (qH (zh _) (qH (De.wl_le f d _ _ _) (Sm.wl_le f b _ _))))
  ·split
   ·refine Pa.le_of' (by simp[Pa.own,Sm.labels]) ?_;simp only[Pa.kids,Sm.targets,Sm.exps,Sm.elems,Sm.decls,Sm.body,qrY];exact qH (zh _) (qH (zh _) (qH (zh _) (qH (zh _) (Sm.wl_le f b _ _))))
   ·refine Pa.le_of' (by simp[Pa.own,Sm.labels]) ?_;simp only[Pa.kids,Sm.targets,Sm.exps,Sm.elems,Sm.decls,Sm.body,qrY];exact qH (Ex.wl_le f sc g) (qH (Ex.wl_le f sc e) (qH (Els.w_le f sc h) (qH (zh _) (Sm.w1_le f b _ _))))
theorem De.w_le(f:Nat→Bz):∀(d:De) (own sc:Scs) (n:Nat),(Pa.de (d.w f own sc n)).le (.de d)
 | .mk k o t nm e fo b,own,sc,n=>by
  simp only[De.w];split
  ·refine Pa.le_of' (by simp[Pa.own,De.names,De.formals]) ?_;simp only[Pa.kids,De.exps,De.body,qrY];exact qH (zh _) (Sm.w1_le f b _ _)
  ·refine Pa.le_of' (by simp[Pa.own,De.names,De.formals]) ?_;simp only[Pa.kids,De.exps,De.body,qrY];exact qH (Ex.wl_le f _ e) (zh _)
theorem De.wl_le(f:Nat→Bz):∀(l:List De) (own sc:Scs) (n:Nat),km ((De.wl f own sc n l).map Pa.de) (l.map Pa.de)
 | [],_,_,_=>zh _
 | x::l,own,sc,n=>zZ (De.w_le f x own sc n) (De.wl_le f l _ _ _)
theorem Sm.wl_le(f:Nat→Bz):∀(l:List Sm) (sc:Scs) (n:Nat),km ((Sm.wl f sc n l).map Pa.st) (l.map Pa.st)
 | [],_,_=>zh _
 | x::l,sc,n=>zZ (Sm.w_le f x sc n) (Sm.wl_le f l _ _)
theorem Sm.w1_le(f:Nat→Bz):∀(l:List Sm) (sc:Scs) (n:Nat),km ((Sm.w1 f sc n l).map Pa.st) (l.map Pa.st)
 | [],_,_=>zh _
 | x::l,sc,n=>zZ (Sm.w_le f x _ _) (Sm.w1_le f l _ _)
end
theorem Sm.whole_fits(f:Nat→Bz)(s:Sm)(h:(Pa.st s).fits):(Pa.st (s.whole f)).fits:=by
 have:=Sm.w_le f s [qd s.labels 0] (qd s.labels 0).length;unfold Pa.fits Pa.le at *;unfold Sm.whole;omega
structure Namer(nm:Bz→Bool)(f g:Nat→Bz):Prop where
 f1:∀i j,f i=f j→i=j
 g1:∀i j,g i=g j→i=j
 f2:∀i,nm (f i)=false
 g2:∀i,nm (g i)=false
section
variable {nm:Bz→Bool} {f g:Nat→Bz} (N:Namer nm f g)
include N
end
theorem jf{nm:Bz→Bool}:∀{l:List Fo} {had:List Bz},yx nm l had=true→∀x,x∈l→nm x.name=true
 | f::l,had,h,x,hx=>by
  simp only[yx,qq5] at h;rcases qrl.1 hx with rfl|hx
  ·have:=h.1.1;simp only[Fo.vOwn,qq5] at this;exact this.1
  ·exact jf h.2 x hx
theorem De.valid_names{nm:Bz→Bool}{d:De}(h:(Pa.de d).valid nm=true):∀x,x∈d.names→nm x=true:=by
 have h1:=(Pa.valid_iff.1 h).1;cases d;simp only[Pa.vOwn,De.vOwn,qq5,qri] at h1;exact h1.1
theorem De.valid_formals{nm:Bz→Bool}{d:De}(h:(Pa.de d).valid nm=true):∀x,x∈d.formals→nm x.name=true:=by
 have h1:=(Pa.valid_iff.1 h).1
 cases d with
 | mk k o t n e f b=>
  simp only[Pa.vOwn,De.vOwn,qq5] at h1;have h1:=h1.2;simp only[De.formals];split at h1
  ·simp at h1;have:f=[]:=by simp[h1]
   subst this;simp
  split at h1
  ·simp at h1;have:f=[]:=by simp[h1]
   subst this;simp
  split at h1
  ·simp at h1;have:f=[]:=by simp[h1]
   subst this;simp
  split at h1
  ·simp only[qq5] at h1;exact jf h1.2
  ·cases h1
theorem De.valid_exps{nm:Bz→Bool}{d:De}(h:(Pa.de d).valid nm=true):∀x,x∈d.exps→(Pa.ex x).valid nm=true:=fun x hx=>(Pa.valid_iff.1 h).2 _ (by simp only[Pa.kids,qq0,qrf];exact .inl ⟨x,hx,rfl⟩)
theorem De.valid_body{nm:Bz→Bool}{d:De}(h:(Pa.de d).valid nm=true):∀x,x∈d.body→(Pa.st x).valid nm=true:=fun x hx=>(Pa.valid_iff.1 h).2 _ (by simp only[Pa.kids,qq0,qrf];exact .inr ⟨x,hx,rfl⟩)
theorem Sm.valid_labels{nm:Bz→Bool}{s:Sm}(h:(Pa.st s).valid nm=true):∀x,x∈s.labels→nm x=true:=by
 have h1:=(Pa.valid_iff.1 h).1;cases s;simp only[Pa.vOwn,Sm.vOwn,qq5,qri] at h1;exact h1.1.1
theorem Sm.valid_text{nm:Bz→Bool}{s:Sm}(h:(Pa.st s).valid nm=true)(hk:s.kind=6):nm s.text=true:=by
 have h1:=(Pa.valid_iff.1 h).1;cases s;simp only[Sm.kind] at hk;subst hk;simp[Pa.vOwn,Sm.vOwn] at h1;simp[Sm.text,h1]
theorem Sm.valid_targets{nm:Bz→Bool}{s:Sm}(h:(Pa.st s).valid nm=true):∀x,x∈s.targets→(Pa.ex x).valid nm=true:=fun x hx=>(Pa.valid_iff.1 h).2 _ (by simp only[Pa.kids,qq0,qrf];exact .inl ⟨x,hx,rfl⟩)
theorem Sm.valid_exps{nm:Bz→Bool}{s:Sm}(h:(Pa.st s).valid nm=true):∀x,x∈s.exps→(Pa.ex x).valid nm=true:=fun x hx=>(Pa.valid_iff.1 h).2 _ (by simp only[Pa.kids,qq0,qrf];exact .inr (.inl ⟨x,hx,rfl⟩))
theorem Sm.valid_elems{nm:Bz→Bool}{s:Sm}(h:(Pa.st s).valid nm=true):∀x,x∈s.elems→(Pa.el x).valid nm=true:=fun x hx=>(Pa.valid_iff.1 h).2 _ (by simp only[Pa.kids,qq0,qrf];exact .inr (.inr (.inl ⟨x,hx,rfl⟩)))
theorem Sm.valid_decls{nm:Bz→Bool}{s:Sm}(h:(Pa.st s).valid nm=true):∀x,x∈s.decls→(Pa.de x).valid nm=true:=fun x hx=>(Pa.valid_iff.1 h).2 _ (by simp only[Pa.kids,qq0,qrf];exact .inr (.inr (.inr (.inl ⟨x,hx,rfl⟩))))
theorem Sm.valid_body{nm:Bz→Bool}{s:Sm}(h:(Pa.st s).valid nm=true):∀x,x∈s.body→(Pa.st x).valid nm=true:=fun x hx=>(Pa.valid_iff.1 h).2 _ (by simp only[Pa.kids,qq0,qrf];exact .inr (.inr (.inr (.inr ⟨x,hx,rfl⟩))))
section
variable {nm:Bz→Bool} {f g:Nat→Bz} (N:Namer nm f g)
include N
end
def Gr(sz n0:Nat)(xs:List V)(v:V)(S:St):Prop:=(xs=[]∧v=.sl true [])∨∃l wr,n0≤l∧v=.arr l 0 xs.length xs.length∧S[l]?=some (.arr xs sz wr)∧wr≤xs.length
theorem Gr.nil(sz n0:Nat)(S:St):Gr sz n0 [] (.sl true []) S:=.inl ⟨rfl,rfl⟩
theorem ZX(S:St)(b:Bool)(ys:List V):elems S (.sl b ys)=some ys:=rfl
theorem Gr.app{sz n0 bytes:Nat}{xs ys:List V}{v:V}{S:St}{b:Bool}(h:Gr sz n0 xs v S)(hy:fits sz ys=true)(hne:ys≠[])(hr:(xs.length+ys.length) * bytes≤2 ^ 47)(hn:n0≤S.length):
  ∃v' S',Jz S sz bytes v (.sl b ys)=some (v',S')∧Gr sz n0 (xs++ys) v' S'∧S.length≤S'.length∧∀l,l<n0→S'[l]?=S[l]?:=by
 rcases h with ⟨rfl,rfl⟩|⟨l,wr,h1,rfl,h3,h4⟩
 ·have he:ys.isEmpty=false:=by cases ys with
   | nil=>exact absurd rfl hne
   | cons=>rfl
  have hr':ys.length * bytes≤2 ^ 47:=by simpa using hr
  refine ⟨.arr S.length 0 ys.length ys.length,S++[.arr ys sz ys.length],?_,.inr ⟨S.length,ys.length,hn,by simp,by simp,by simp⟩,by simp,fun l hl=>by rw[qqW (by omega)]⟩;unfold Jz;rw[ZX];have hc:true=true∧fits sz ys=true∧(([]:List V).all fun v=>v.size==sz)=true∧(([]:List V).length+ys.length) * bytes≤2 ^ 47:=⟨rfl,hy,rfl,hr⟩;show (if ys.isEmpty=true then _ else _)=_;rw[if_neg (by rw[he];simp),if_pos hc];simp
 ·have hc:0=0∧xs.length=xs.length∧xs.length=xs.length∧sz=sz∧fits sz ys=true∧(xs.length+ys.length) * bytes≤2 ^ 47:=⟨rfl,rfl,rfl,rfl,hy,hr⟩;have hlt:l<S.length:=(qqT.1 h3).1;refine ⟨.arr l 0 (xs.length+ys.length) (xs.length+ys.length),S.set l (.arr (xs++ys) sz wr),?_,.inr ⟨l,wr,h1,by simp,by rw[qqV hlt],by simp;omega⟩,by simp,fun k hk=>by rw[qqX (by omega)]⟩;unfold Jz;rw[ZX];show (match S[l]? with|_=>_)=_;rw[h3];show (if _ then _ else _)=_;rw[if_pos hc]
theorem Gr.app1{sz n0 bytes:Nat}{xs:List V}{y v:V}{S:St}{b:Bool}(h:Gr sz n0 xs v S)(hy:fits sz [y]=true)(hr:(xs.length+1) * bytes≤2 ^ 47)(hn:n0≤S.length):
 ∃v' S',Jz S sz bytes v (.sl b [y])=some (v',S')∧Gr sz n0 (xs++[y]) v' S'∧S.length≤S'.length∧∀l,l<n0→S'[l]?=S[l]?:=h.app hy (by simp) hr hn
theorem Gr.keep{sz n0:Nat}{xs:List V}{v:V}{S S':St}(h:Gr sz n0 xs v S)(hk:∀l,n0≤l→l<S.length→S'[l]?=S[l]?):Gr sz n0 xs v S':=by
 rcases h with h|⟨l,wr,h1,h2,h3,h4⟩
 ·exact .inl h
 ·exact .inr ⟨l,wr,h1,h2,(hk l h1 (qqT.1 h3).1).trans h3,h4⟩
theorem Gr.ghost{sz n0:Nat}{xs:List V}{v:V}{S S0:St}(h:Gr sz n0 xs v S)(h0:S.take n0=S0)(hn:n0≤S.length)(hS:∀o,o∈S0→o.under n0=true)(hx:∀x,x∈xs→x.weak.under n0=true):
  zp n0 v S (.sl false (xs.map V.weak)) S0:=by
 have hu:∀b,(V.sl b (xs.map V.weak)).under n0=true:=fun b=>by
  simp only[V.under]
  exact JZ fun y hy=>by
   obtain ⟨x,h1,rfl⟩:=qrf.1 hy;exact hx x h1
 rcases h with ⟨rfl,rfl⟩|⟨l,wr,h1,rfl,h3,h4⟩
 ·have g1:zp n0 (.sl true []) S (.sl false []) S:=zp.weak (r:=.sl true []);have g2:=zp.cut (n:=n0) (m:=n0) (r:=.sl false []) (S:=S) rfl (by rw[h0];exact hS) (qqY _) hn;rw[h0] at g2;exact g1.trans g2
 ·have g1:=zp.freeze (n:=n0) (l:=l) (off:=0) (len:=xs.length) (st:=xs.length) h3 h4 (by omega);simp only[List.drop_zero,qrP] at g1;have g2:zp n0 (.sl false xs) (S.set l .dead) (V.sl false xs).weak (S.set l .dead):=zp.weak;simp only[V.weak,zc] at g2
  have ht:(S.set l .dead).take n0=S0:=by
   rw[←h0];apply qrM;intro i;rw[List.getElem?_take,List.getElem?_take];split
   ·rw[qqX (by omega)]
   ·rfl
  have g3:=zp.cut (n:=n0) (m:=n0) (r:=.sl false (xs.map V.weak)) (S:=S.set l .dead) (hu _) (by rw[ht];exact hS) (qqY _) (by simp;exact hn);rw[ht] at g3;exact (g1.trans g2).trans g3
theorem qkd{rs:List RV}{R:V→Prop}{e:Env}{S:St}{v:V}{sz:Nat}{xs:List V}(h:rvs e S rs=some [v])(g:Gr sz 0 xs v S)(hu:∀x,x∈xs→x.weak.under 0=true)(hR:R (.sl false (xs.map V.weak))):
  JQ rs 0 (fun v U=>R v∧U=[]) .ret e S:=
 ⟨_,h,_,_,g.ghost (by simp) (qrA _) (by simp) hu,hR,rfl⟩
theorem Zf{rs:List RV}{R:V→Prop}{e:Env}{S:St}{vs:List V}(h:rvs e S rs=some vs)(hR:R (qo vs).weak)(hu:(qo vs).weak.under 0=true):JQ rs 0 (fun v U=>R v∧U=[]) .ret e S:=
 ⟨vs,h,_,[],zp.weak.trans (zp.cut (m:=0) hu (by simp) (qqY _) (qrA _)),hR,rfl⟩
structure Kp(M:Np)(S U:St):Prop where
 len:S.length≤U.length
 get:∀l,l<S.length→¬ M l→U[l]?=S[l]?
theorem Kp.refl(M:Np)(S:St):Kp M S S:=⟨qqY _,fun _ _ _=>rfl⟩
theorem Kp.trans{M:Np}{S T U:St}(h:Kp M S T)(g:Kp M T U):Kp M S U:=
 ⟨qrt h.len g.len,fun l hl hm=>(g.get l (qry hl h.len) hm).trans (h.get l hl hm)⟩
theorem Kp.mono{M N:Np}{S T:St}(h:Kp M S T)(hm:∀l,l<S.length→M l→N l):Kp N S T:=⟨h.len,fun l hl hn=>h.get l hl fun hh=>hn (hm l hl hh)⟩
theorem Kp.push{M:Np}{S U:St}(h:Kp M S U)(os:List Ob):Kp M S (U++os):=
 ⟨by simp;have:=h.len;omega,fun l hl hm=>by rw[qqW (qry hl h.len)];exact h.get l hl hm⟩
theorem Kp.set{M:Np}{S U:St}(h:Kp M S U){l:Nat}(o:Ob)(hl:M l∨S.length≤l):Kp M S (U.set l o):=
  ⟨by simp;exact h.len,fun k hk hm=>by
    rw[qqX ?_]
    · exact h.get k hk hm
    · rintro rfl;rcases hl with hl|hl
      · exact hm hl
      · omega⟩
theorem Kp.at{M:Np}{S U:St}(h:Kp M S U){l:Nat}{o:Ob}(ho:S[l]?=some o)(hm:¬ M l):U[l]?=some o:=(h.get l (qqT.1 ho).1 hm).trans ho
theorem Kp.ofPush{M:Np}{S U:St}{os:List Ob}(h:Kp M (S++os) U):Kp M S U:=
 ⟨by have:=h.len;simp at this;omega,fun l hl hm=>(h.get l (by simp;omega) hm).trans (qqW hl)⟩
theorem ye.mono'{P:Program}{l:Nat}{args:List V}{S:St}{R R':V→St→Prop}(h:ye P l args S R)(hr:∀r S',R r S'→R' r S'):ye P l args S R':=fun E w us n x h1 h2 h3=>by
 obtain ⟨f,tmps,asg,body,g1,g2⟩:=h E w us n x h1 h2 h3;exact ⟨f,tmps,asg,body,g1,g2.mono fun e w' ⟨u,r,E',S',k1,k2,k3⟩=>⟨u,r,E',S',k1,hr _ _ k2,k3⟩⟩
theorem qjh{P:Program}{l:Nat}{args:List V}{S:St}{R:V→St→Prop}{Φ:V→St→Prop}(h:ye P l args S R)(g:∀v U,R v U→Φ v U):qph P l args S Φ:=⟨_,h,g⟩
def RR(M:Np)(U0:St)(L:Nat)(i0:LI)(J1:St→Prop)(Dr:St→Prop)(De:Nat→St→Prop):V→St→Prop:=fun v U=>Kp M U0 U∧
 ((v=.bool true∧J1 U∧U[L]?=some (.loop i0))∨(v=.bool false∧Dr U∧U[L]?=some (.loop { i0 with st:=.done,pend:=some .ret }))∨
  ∃id,v=.bool false∧De id U∧U[L]?=some (.loop { i0 with st:=.done,pend:=some (.exit id) }))
theorem Q4{P:Program}{L:Nat}{cb:C'}{R:V→St→Prop}{e:Env}{U:St}{i0:LI}(h:U[L]?=some (.loop i0))(hr:i0.st=.ready)(g:WP P cb (Jp L R) e (U.set L (.loop { i0 with st:=.busy }))):
 qa6 P L cb R .normal e U:=⟨i0,h,hr,g⟩
theorem kI{M:Np}{U0:St}{L:Nat}{i0:LI}{J1 Dr:St→Prop}{De:Nat→St→Prop}{e:Env}{U:St}(hi:i0.st=.ready∧i0.pend=none)(hM:M L)(h:U[L]?=some (.loop { i0 with st:=.busy }))(k:Kp M U0 U)(g:J1 (U.set L (.loop i0))):Jp L (RR M U0 L i0 J1 Dr De) .normal e U:=by
 have hlt:=(qqT.1 h).1;have:({ i0 with st:=.ready,pend:=none }:LI)=i0:=by cases i0;simp only at hi;simp[hi.1,hi.2]
 refine ⟨_,h,k.set _ (.inl hM),.inl ⟨rfl,?_,?_⟩⟩
 ·simp only[this];exact g
 ·simp only[this];rw[qqV hlt]
theorem qbK{M:Np}{U0:St}{L:Nat}{i0:LI}{J1 Dr:St→Prop}{De:Nat→St→Prop}{e:Env}{U:St}(hM:M L)(h:U[L]?=some (.loop { i0 with st:=.busy }))(k:Kp M U0 U)(g:Dr (U.set L (.loop { i0 with st:=.done,pend:=some .ret }))):Jp L (RR M U0 L i0 J1 Dr De) .ret e U:=by
 have hlt:=(qqT.1 h).1;exact ⟨_,h,k.set _ (.inl hM),.inr (.inl ⟨rfl,g,by rw[qqV hlt]⟩)⟩
def qjo(P:Program)(k:Nat)(fs cs:List V)(aa:List (List V))(cap:St→Prop):Prop:=
 ∀(S:St) (l:Nat) (J:Nat→St→Prop) (D:St→Prop) (M:Np),(∀x,M x→x<S.length)→(∀i U,J i U→cap U)→(∀i U o,J i U→J i (U++[o]))→(∀U o,D U→D (U++[o]))→
  (∀i U L o o',S.length≤L→J i U→U[L]?=some (.loop o)→J i (U.set L (.loop o')))→(∀U L o o',S.length≤L→D U→U[L]?=some (.loop o)→D (U.set L (.loop o')))→
  (∀(i:Nat) (a:List V),aa[i]?=some a→∀U,J i U→Kp M S U→ye P l a U (fun v U'=>Kp M U U'∧((v=.bool true∧J (i+1) U')∨(v=.bool false∧D U'))))→J 0 S→
  qt P k (fs++[.yld l]++cs) S (fun _ U=>Kp M S U∧(J aa.length U∨D U))
theorem Kp.unloop{M:Np}{S U:St}{o o':Ob}(h:Kp (fun x=>M x∨x=S.length) (S++[o]) U):Kp M S (U.set S.length o'):=by
 refine ⟨by have:=h.len;simp at this ⊢;omega,fun l hl hm=>?_⟩;rw[qqX (by omega)];rw[h.get l (by simp;omega) (by rintro (hh|hh);exact hm hh;omega)];exact qqW hl
theorem gl{U:St}{x L:Nat}{o:Ob}{i i':LI}(h:U[x]?=some o)(ho:∀i,o≠.loop i)(hL:U[L]?=some (.loop i)):(U.set L (.loop i'))[x]?=some o:=by
 rw[qqX]
 ·exact h
 ·rintro rfl;rw[hL] at h;cases h;exact ho i rfl
theorem qdu{P:Program}{g:Opd}{ps:List Nat}{asg body:Code}{ca cb:C'}{N:Nat}{ts:List Nat}{Q:yD}{e:Env}{S:St}{k:Nat}{fs cs:List V}{aa:List (List V)}{cap:St→Prop}
  (hg:g.ev e=some (.fn (.func k) fs cs)) (hy:qjo P k fs cs aa cap) (na:ca.noRf=true) (nb:cb.noRf=true) (hps:ps.all (fun p=>decide (p<N))=true) (hlen:∀a,a∈aa→a.length=ps.length)
  (M:Np) (hM:∀x,M x→x<S.length) (J:Nat→St→Prop) (Dr:St→Prop) (De:Nat→St→Prop) (hcap:∀i U,J i U→cap U)
  (hJ:∀i U,J i U→∀o,J i (U++[o])) (hDr:∀U,Dr U→∀o,Dr (U++[o])) (hDe:∀id U,De id U→∀o,De id (U++[o]))
  (hJl:∀i U L o o',S.length≤L→J i U→U[L]?=some (.loop o)→J i (U.set L (.loop o'))) (hDl:∀U L o o',S.length≤L→Dr U→U[L]?=some (.loop o)→Dr (U.set L (.loop o'))) (hDel:∀id U L o o',S.length≤L→De id U→U[L]?=some (.loop o)→De id (U.set L (.loop o')))
  (h0:J 0 (S++[.loop ⟨.ready,none,ps,asg,body,e.keep ts,N⟩]))
  (hr:∀(i:Nat) (a:List V),aa[i]?=some a→∀U,J i U→Kp (fun x=>M x∨x=S.length) (S++[.loop ⟨.ready,none,ps,asg,body,e.keep ts,N⟩]) U→U[S.length]?=some (.loop ⟨.ready,none,ps,asg,body,e.keep ts,N⟩)→
   WP P ca (qa6 P S.length cb (RR (fun x=>M x∨x=S.length) U S.length ⟨.ready,none,ps,asg,body,e.keep ts,N⟩ (J (i+1)) Dr De)) (QL ps a (e.keep ts)) U)
  (hn:∀U,J aa.length U→Kp M S U→Q .normal e U) (hret:∀U,Dr U→Kp M S U→Q .ret e U) (hexit:∀id U,De id U→Kp M S U→Q (.exit id) e U):
  WP P (.rf g ps asg body ca cb N ts) Q e S:=by
 intro hca hcb;rw[hg];refine ⟨_,hy (S++[.loop ⟨.ready,none,ps,asg,body,e.keep ts,N⟩]) S.length (fun i U=>J i U∧U[S.length]?=some (.loop ⟨.ready,none,ps,asg,body,e.keep ts,N⟩))
  (fun U=>(Dr U∧U[S.length]?=some (.loop ⟨.done,some .ret,ps,asg,body,e.keep ts,N⟩))∨∃id,De id U∧U[S.length]?=some (.loop ⟨.done,some (.exit id),ps,asg,body,e.keep ts,N⟩))
  (fun x=>M x∨x=S.length) ?_ (fun i U h=>hcap i U h.1) (fun i U o h=>⟨hJ i U h.1 o,?_⟩) ?_ ?_ ?_ ?_ ⟨h0,by simp⟩,?_⟩
 ·rintro x (h|rfl)
  ·have:=hM x h;simp;omega
  ·simp
 ·rw[qqW (qqT.1 h.2).1];exact h.2
 ·rintro U o (⟨h1,h2⟩|⟨id,h1,h2⟩)
  ·exact .inl ⟨hDr U h1 o,by rw[qqW (qqT.1 h2).1];exact h2⟩
  ·exact .inr ⟨id,hDe id U h1 o,by rw[qqW (qqT.1 h2).1];exact h2⟩
 ·rintro i U L o o' hL ⟨h1,h2⟩ h3;simp at hL;exact ⟨hJl i U L o o' (by omega) h1 h3,by rw[qqX (by omega)];exact h2⟩
 ·rintro U L o o' hL (⟨h1,h2⟩|⟨id,h1,h2⟩) h3
  ·simp at hL;exact .inl ⟨hDl U L o o' (by omega) h1 h3,by rw[qqX (by omega)];exact h2⟩
  ·simp at hL;exact .inr ⟨id,hDel id U L o o' (by omega) h1 h3,by rw[qqX (by omega)];exact h2⟩
 ·rintro i a ha U ⟨hj,hl⟩ hk;refine ye.mono' (ye.intro hl hca hcb rfl na nb ?_ hps (hr i a ha U hj hk hl)) ?_
  ·exact hlen _ (qq1 ha)
  ·rintro v U' ⟨hk',⟨rfl,h1,h2⟩|⟨rfl,h1,h2⟩|⟨id,rfl,h1,h2⟩⟩
   ·exact ⟨hk',.inl ⟨rfl,h1,h2⟩⟩
   ·exact ⟨hk',.inr ⟨rfl,.inl ⟨h1,h2⟩⟩⟩
   ·exact ⟨hk',.inr ⟨rfl,.inr ⟨id,h1,h2⟩⟩⟩
 ·rintro r U ⟨hk,⟨h1,h2⟩|⟨h1,h2⟩|⟨id,h1,h2⟩⟩
  ·exact ⟨_,h2,by simp,hn _ (hJl _ U _ _ _ (qqY _) h1 h2) hk.unloop⟩
  ·exact ⟨_,h2,by simp,hret _ (hDl U _ _ _ (qqY _) h1 h2) hk.unloop⟩
  ·exact ⟨_,h2,by simp,hexit id _ (hDel id U _ _ _ (qqY _) h1 h2) hk.unloop⟩
theorem qdS{N N':Env→St→Prop}{Q Q':yD}(hn:∀e S,N e S→N' e S)(hq:∀x e S,Q x e S→Q' x e S):∀x e S,Zi N Q x e S→Zi N' Q' x e S:=by
 intro x e S h;cases x <;> first|exact hn _ _ h|exact hq _ _ _ h
theorem qoE{P:Program}{a:C'}{N:Env→St→Prop}{Q:yD}{e:Env}{S:St}(M:Env→St→Prop)(h1:WP P a (Zi M Q) e S)(h2:∀e S,M e S→N e S):WP P a (Zi N Q) e S:=
 QD (qdS h2 fun _ _ _ h=>h) h1
theorem qQ{P:Program}{id:Nat}{c:C'}{Q:yD}{e:Env}{S:St}(M:Env→St→Prop)(h1:WP P (.loop c) (Zh id (Zi M Q)) e S)(h2:∀e S,M e S→Q .normal e S):WP P (.loop c) (Zh id Q) e S:=
 QD (fun x e S hx=>by
  cases x <;> simp only[Zh,Zi] at hx ⊢<;> first|exact h2 _ _ hx|exact hx|skip
  split <;> rename_i hh
  ·rw[if_pos hh] at hx;exact h2 _ _ hx
  ·rw[if_neg hh] at hx;exact hx) h1
theorem qg9(v:V)(o:Nat):V.part v o none=v.cells[o]?:=rfl
theorem qgk(cs:List V):(V.agg cs).cells=cs:=rfl
theorem qhk(k:IntKind)(n:Int):(V.int k n).cells=[V.int k n]:=rfl
theorem qek(b:Bool):(V.bool b).cells=[V.bool b]:=rfl
theorem qgs(b:Bz):(V.str b).cells=[V.str b]:=rfl
theorem qiN(b:Bool)(l:List V):(V.sl b l).cells=[V.sl b l]:=rfl
theorem qgR(a b c d:Nat):(V.arr a b c d).cells=[V.arr a b c d]:=rfl
theorem qho(a b c d:Nat):(V.ptr a b c d).cells=[V.ptr a b c d]:=rfl
theorem qfx(a:Nat):(V.map a).cells=[V.map a]:=rfl
theorem qjf(f:Go.Fn)(a b:List V):(V.fn f a b).cells=[V.fn f a b]:=rfl
theorem qd3:V.nilp.cells=[V.nilp]:=rfl
theorem qbZ:V.nilfn.cells=[V.nilfn]:=rfl
theorem qaY:V.nilmap.cells=[V.nilmap]:=rfl
theorem qev(v:V)(o:Nat):(V.iptr v o).cells=[V.iptr v o]:=rfl
theorem qiC(cs:List V):(V.agg cs).size=cs.length:=rfl
theorem qhZ(k:IntKind)(n:Int):(V.int k n).size=1:=rfl
theorem qfT(b:Bool):(V.bool b).size=1:=rfl
theorem qi1(b:Bz):(V.str b).size=1:=rfl
theorem qla(b:Bool)(l:List V):(V.sl b l).size=1:=rfl
theorem qiw(a b c d:Nat):(V.arr a b c d).size=1:=rfl
theorem qiP(a b c d:Nat):(V.ptr a b c d).size=1:=rfl
theorem qiS(a:Nat):(V.map a).size=1:=rfl
theorem qk5(f:Go.Fn)(a b:List V):(V.fn f a b).size=1:=rfl
theorem qgT:V.nilp.size=1:=rfl
theorem qd8:V.nilfn.size=1:=rfl
theorem qbR:V.nilmap.size=1:=rfl
theorem qfW(cs:List V):(V.agg cs).isAgg=true:=rfl
theorem qid(k:IntKind)(n:Int):(V.int k n).flat=true:=rfl
theorem qfY(b:Bool):(V.bool b).flat=true:=rfl
theorem qio(b:Bz):(V.str b).flat=true:=rfl
theorem qkL(b:Bool)(l:List V):(V.sl b l).flat=true:=rfl
theorem qhB(a b c d:Nat):(V.arr a b c d).flat=true:=rfl
theorem qih(a b c d:Nat):(V.ptr a b c d).flat=true:=rfl
theorem qi8(a:Nat):(V.map a).flat=true:=rfl
theorem qkb(f:Go.Fn)(a b:List V):(V.fn f a b).flat=true:=rfl
theorem qeR:V.nilp.flat=true:=rfl
theorem qd0:V.nilfn.flat=true:=rfl
theorem qb1:V.nilmap.flat=true:=rfl
theorem Sm.v_cells(s:Sm):s.v.cells=[.sl false (s.labels.map .str),.int .i64 s.kind,.str s.text,.sl false (s.targets.map Ex.v),.sl false (s.exps.map Ex.v),.sl false (s.elems.map El.v),.sl false (s.decls.map De.v),.sl false (s.body.map Sm.v)]:=by rw[Sm.v_eq];rfl
theorem De.v_cells(d:De):d.v.cells=[.int .i64 d.kind,.bool d.own,.int .i64 d.type,.sl false (d.names.map .str),.sl false (d.exps.map Ex.v),.sl false (d.formals.map Fo.v),.sl false (d.body.map Sm.v)]:=by rw[De.v_eq];rfl
theorem Ex.v_cells(x:Ex):x.v.cells=[.int .i64 x.kind,.int .i64 x.op,.int .i64 x.n,.int .i64 x.man,.int .i64 x.exp,.str x.text,.sl false (x.args.map Ex.v)]:=by rw[Ex.v_eq];rfl
theorem El.v_cells(e:El):e.v.cells=[.int .i64 e.kind,.sl false (e.exps.map Ex.v)]:=rfl
theorem Fo.v_cells(f:Fo):f.v.cells=[.str f.name,.bool f.value,.int .i64 f.spec,.int .i64 f.type]:=rfl
theorem qgD(k:Int)(s:Sm)(d:De)(e:El)(x:Ex):(paV k s d e x).cells=
 [.int .i64 k,.sl false (s.labels.map .str),.int .i64 s.kind,.str s.text,.sl false (s.targets.map Ex.v),.sl false (s.exps.map Ex.v),.sl false (s.elems.map El.v),.sl false (s.decls.map De.v),.sl false (s.body.map Sm.v),
  .int .i64 d.kind,.bool d.own,.int .i64 d.type,.sl false (d.names.map .str),.sl false (d.exps.map Ex.v),.sl false (d.formals.map Fo.v),.sl false (d.body.map Sm.v),
  .int .i64 e.kind,.sl false (e.exps.map Ex.v),
  .int .i64 x.kind,.int .i64 x.op,.int .i64 x.n,.int .i64 x.man,.int .i64 x.exp,.str x.text,.sl false (x.args.map Ex.v)]:=rfl
theorem qhE(k:Int)(s:Sm)(d:De)(e:El)(x:Ex):(paV k s d e x).size=25:=rfl
theorem Sm.v_isAgg(s:Sm):s.v.isAgg=true:=by rw[Sm.v_eq];rfl
theorem De.v_isAgg(s:De):s.v.isAgg=true:=by rw[De.v_eq];rfl
theorem Ex.v_isAgg(s:Ex):s.v.isAgg=true:=by rw[Ex.v_eq];rfl
theorem El.v_isAgg(s:El):s.v.isAgg=true:=rfl
theorem Fo.v_isAgg(s:Fo):s.v.isAgg=true:=rfl
theorem qfF(k:Int)(s:Sm)(d:De)(e:El)(x:Ex):(paV k s d e x).isAgg=true:=rfl
theorem ZY(s:Sm):V.part s.v 0 (some 8)=some s.v:=by simp[V.part,Sm.v_size,Sm.v_isAgg]
theorem qkr(s:De):V.part s.v 0 (some 7)=some s.v:=by simp[V.part,De.v_size,De.v_isAgg]
theorem qkW(s:Ex):V.part s.v 0 (some 7)=some s.v:=by simp[V.part,Ex.v_size,Ex.v_isAgg]
theorem ql9(s:El):V.part s.v 0 (some 2)=some s.v:=rfl
theorem qm2(s:Fo):V.part s.v 0 (some 4)=some s.v:=rfl
theorem qlb(k:Int)(s:Sm)(d:De)(e:El)(x:Ex):V.part (paV k s d e x) 0 (some 25)=some (paV k s d e x):=rfl
theorem qh5(k:Int)(s:Sm)(d:De)(e:El)(x:Ex):V.part (paV k s d e x) 1 (some 8)=some s.v:=by rw[Sm.v_eq];rfl
theorem qhA(k:Int)(s:Sm)(d:De)(e:El)(x:Ex):V.part (paV k s d e x) 9 (some 7)=some d.v:=by rw[De.v_eq];rfl
theorem qhF(k:Int)(s:Sm)(d:De)(e:El)(x:Ex):V.part (paV k s d e x) 16 (some 2)=some e.v:=rfl
theorem qh4(k:Int)(s:Sm)(d:De)(e:El)(x:Ex):V.part (paV k s d e x) 18 (some 7)=some x.v:=by rw[Ex.v_eq];rfl
theorem qlK(b:Bool)(l:List V):qpu (.sl b l)=some (.int .i64 l.length):=rfl
theorem qhH(a b c d:Nat):qpu (.arr a b c d)=some (.int .i64 c):=rfl
theorem qiT(s:Bz):qpu (.str s)=some (.int .i64 s.size):=rfl
theorem qlB(l i o st off:Nat):faV (.ptr l i o st) off=some (.ptr l i (o+off) st):=rfl
theorem qit(v:V)(o off:Nat):faV (.iptr v o) off=some (.iptr v (o+off)):=rfl
theorem qjd(S:St)(v:V)(o:Nat)(k:Option Nat):ldS S (.iptr v o) k=V.part v o k:=rfl
theorem qki{S:St}{x:V}(h:x.cells.all V.flat=true)(h0:0<x.size):qG S x=some (.ptr S.length 0 0 1,S++[.arr [x] x.size 1]):=by simp[qG,h,h0]
theorem zR{v x:V}{off n:Nat}:V.upd v off n x=if x.size=n∧x.cells.all V.flat=true then (if off=0∧n=v.size then some x else match v with
 | .agg cs=>if off+n≤cs.length then some (.agg (cs.take off++x.cells++cs.drop (off+n))) else none
 | _=>none) else none:=rfl
theorem ql0:phs []=[]:=rfl
attribute [simp] qg9 qgk qhk qek qgs qiN qgR qho qfx qjf qd3 qbZ qaY qev
 qiC qhZ qfT qi1 qla qiw qiP qiS qk5 qgT qd8 qbR qfW
 qid qfY qio qkL qhB qih qi8 qkb qeR qd0 qb1
 Sm.v_cells De.v_cells Ex.v_cells El.v_cells Fo.v_cells qgD qhE Sm.v_isAgg De.v_isAgg Ex.v_isAgg El.v_isAgg Fo.v_isAgg qfF
 ZY qkr qkW ql9 qm2 qlb qh5 qhA qhF qh4 qlK qhH qiT qlB qit qjd ql0
open Go.Proofs.Tryz
set_option maxRecDepth 20000
noncomputable def c17:F':=⟨6,[.t 2],.k [.B 1 0,.F 2] (.k [.j 3 8 1,.o 4 (.call (.f 52) [(.t 3),(.c z0),(.c (.int .i64 150))]),.u 5 .gtr 4 0,.m 2 5] .ret)⟩
theorem ok17:okF f17 c17:=okI
noncomputable def c52:F':=⟨125,[.t 6],.k [.B 3 0,.G 6 0] (.k [.m 12 2,.u 13 .sub 12 1,.f 14 0 3,.l 15 14,.L 16 15,.b 17 .sub 13 16,.m 2 17] (.seq (.k [.m 18 1,.u 19 .gtr 18 30] (.d 19 (.k [.G 6 0] .ret) .skip)) (.seq (.draw [.q (.f 20 3 3) false false [] 0 1,.q (.l 21 20) false true [0] 0 1,.q (.m 22 1) false false [] 0 1,.q (.u 23 .add 22 1) false false [2] 0 1,.p (.f 24 4 3) [],.p (.l 25 24) [4],.p (.m 26 1) [],.p (.u 27 .add 26 1) [6],.p (.m 28 2) [],.q (.x 29 72 25 27 28) true false [5,7,8,4,6] 0 0,.q (.x 30 72 21 23 29) true false [1,3,9,0,2,5,7,8,4,6] 1 1,.q (.m 2 30) false false [10,1,3,9,0,2,5,7,8,4,6] 2 2] []) (.seq (.k [.G 7 0] (.block 0 (.loop (.seq (.k [.m 31 7,.f 32 5 3,.l 33 32,.L 34 33,.b 35 .lss 31 34,.m 36 35,.V 37 36 true 2,.v 38 36 true (.bin .gtr (.t 37) (.c z0)),.y 39 36 38] (.d 39 .skip (.exit 0))) (.seq (.block 1 (.reg [.f 42 5 3,.l 43 42,.m 44 7,.i 45 2 43 44,.f 46 1 45,.l 47 46,.m 48 1,.u 49 .add 48 1,.m 50 2,.u 51 .sub 50 1,.x 52 72 47 49 51,.m 2 52])) (.reg [.m 40 7,.u 41 .add 40 1,.m 7 41])))))) (.seq (.k [.G 8 0] (.block 2 (.loop (.seq (.k [.m 53 8,.f 54 6 3,.l 55 54,.L 56 55,.b 57 .lss 53 56,.m 58 57,.V 59 58 true 2,.v 60 58 true (.bin .gtr (.t 59) (.c z0)),.y 61 58 60] (.d 61 .skip (.exit 2))) (.seq (.block 3 (.k [.f 64 6 3,.l 65 64,.m 66 8,.i 67 7 65 66,.j 68 7 67,.o 9 (.new zD),.s 7 9 68] (.k [.f 69 4 9,.l 70 69,.m 71 1,.u 72 .add 71 1,.m 73 2,.u 74 .sub 73 1,.f 75 3 9,.l 76 75,.L 77 76,.b 78 .sub 74 77,.f 79 5 9,.l 80 79,.L 81 80,.b 82 .sub 78 81,.x 83 72 70 72 82,.m 2 83] (.k [.G 10 0] (.block 4 (.loop (.seq (.k [.m 84 10,.f 85 6 9,.l 86 85,.L 87 86,.b 88 .lss 84 87,.m 89 88,.V 90 89 true 2,.v 91 89 true (.bin .gtr (.t 90) (.c z0)),.y 92 89 91] (.d 92 .skip (.exit 4))) (.seq (.block 5 (.reg [.f 95 6 9,.l 96 95,.m 97 10,.i 98 8 96 97,.j 99 8 98,.m 100 1,.u 101 .add 100 1,.m 102 2,.x 103 52 99 101 102,.m 2 103])) (.reg [.m 93 10,.u 94 .add 93 1,.m 10 94]))))))))) (.reg [.m 62 8,.u 63 .add 62 1,.m 8 63])))))) (.seq (.k [.G 11 0] (.block 6 (.loop (.seq (.k [.m 104 11,.f 105 7 3,.l 106 105,.L 107 106,.b 108 .lss 104 107,.m 109 108,.V 110 109 true 2,.v 111 109 true (.bin .gtr (.t 110) (.c z0)),.y 112 109 111] (.d 112 .skip (.exit 6))) (.seq (.block 7 (.reg [.f 115 7 3,.l 116 115,.m 117 11,.i 118 8 116 117,.j 119 8 118,.m 120 1,.u 121 .add 120 1,.m 122 2,.x 123 52 119 121 122,.m 2 123])) (.reg [.m 113 11,.u 114 .add 113 1,.m 11 114])))))) (.k [.m 124 2,.m 6 124] .ret)))))))⟩
theorem ok52:okF f52 c52:=okI
noncomputable def c72:F':=⟨31,[.t 6],.k [.G 6 0] (.seq (.k [.m 8 1,.u 9 .gtr 8 40] (.d 9 (.k [.G 6 0] .ret) .skip)) (.seq (.k [.G 7 0] (.block 0 (.loop (.seq (.k [.m 10 7,.m 11 0,.L 12 11,.b 13 .lss 10 12,.m 14 13,.V 15 14 true 2,.v 16 14 true (.bin .gtr (.t 15) (.c z0)),.y 17 14 16] (.d 17 .skip (.exit 0))) (.seq (.block 1 (.reg [.m 20 0,.m 21 7,.i 22 7 20 21,.f 23 6 22,.l 24 23,.m 25 1,.u 26 .add 25 1,.m 27 2,.u 28 .sub 27 1,.x 29 72 24 26 28,.m 2 29])) (.reg [.m 18 7,.u 19 .add 18 1,.m 7 19])))))) (.k [.m 30 2,.m 6 30] .ret)))⟩
theorem ok72:okF f72 c72:=okI
noncomputable def c181:F':=⟨23,[.t 2],.k [.B 1 0,.F 2] (.seq (.k [.f 3 0 1,.l 4 3] (.block 0 (.k [.u 6 .eql 4 1,.m 5 6] (.d 5 (.k [.f 7 1 1,.l 8 7,.L 9 8,.u 10 .eql 9 1,.m 2 10] .ret) (.k [.u 12 .eql 4 2,.m 11 12] (.d 11 (.k [.f 13 1 1,.l 14 13,.L 15 14,.u 16 .eql 15 3,.m 2 16] .ret) (.k [.u 18 .eql 4 3,.m 17 18] (.d 17 (.k [.f 19 1 1,.l 20 19,.L 21 20,.u 22 .eql 21 2,.m 2 22] .ret) .skip)))))))) (.k [.F 2] .ret))⟩
theorem ok181:okF f181 c181:=okI
noncomputable def c205:F':=⟨5,[.cell 2 (some 25)],.k [.B 1 0,.o 2 (.new zP)] (.k [.j 3 2 1,.o 4 (.build zP [(0,0,1,(.c (.int .i64 3))),(3,16,2,(.t 3))]),.s 25 2 4] .ret)⟩
theorem ok205:okF f205 c205:=okI
noncomputable def c210:F':=⟨36,[.t 2],.k [.B 1 0,.F 2] (.seq (.k [.j 4 2 1,.o 5 (.build (.agg [(.int .i64 0),(.int .i64 0)]) []),.o 6 (.ex (.eqs false 2 [(0,.i),(1,.i)] (.t 4) (.t 5)))] (.d 6 (.k [.T 2] .ret) .skip)) (.k [.f 7 0 1,.l 8 7,.f 9 0 1,.l 10 9,.o 11 (.un .neg (.t 10)),.o 12 (.ex (.mm true (.t 8) (.t 11))),.m 3 12] (.seq (.k [.m 13 3,.u 14 .lss 13 1,.m 15 14,.V 16 15 false 3,.v 17 15 false (.bin .geq (.t 16) (.c (.int .i64 16777216))),.z 18 15 17] (.d 18 (.k [.F 2] .ret) .skip)) (.k [.f 19 1 1,.l 20 19,.u 21 .eql 20 (-150),.m 22 21,.V 23 22 false 3,.v 24 22 false (.bin .geq (.t 23) (.c (.int .i64 8388608))),.V 25 22 false 24,.v 26 25 true (.fa 1 (.t 1)),.M 27 25 true 26,.v 28 25 true (.bin .gtr (.t 27) (.c (.int .i64 (-150)))),.v 29 22 false (.pick (.t 25) (.t 28) (.c (.bool false))),.V 30 22 false 29,.v 31 30 true (.fa 1 (.t 1)),.M 32 30 true 31,.v 33 30 true (.bin .leq (.t 32) (.c (.int .i64 150))),.v 34 22 false (.pick (.t 30) (.t 33) (.c (.bool false))),.z 35 22 34,.m 2 35] .ret))))⟩
theorem ok210:okF f210 c210:=okI
noncomputable def c211:F':=⟨25,[.t 2],.k [.F 2] (.seq (.k [.G 3 0] (.block 0 (.loop (.seq (.k [.m 4 3,.m 5 0,.o 6 (.len true (.t 5)),.b 7 .lss 4 6] (.d 7 .skip (.exit 0))) (.seq (.block 1 (.k [.m 10 0,.m 11 3,.o 12 (.idx (.t 10) (.t 11)),.o 13 (.conv .i64 (.t 12)),.o 14 (.call (.f 209) [(.t 13),(.c (.int .i64 32)),(.c (.int .i64 126))]),.o 15 (.un .not (.t 14)),.m 16 15,.V 17 16 false 0,.V 18 16 false 3,.v 19 16 false (.idx (.t 17) (.t 18)),.v 20 16 false (.bin .eql (.t 19) (.c (.int .u8 34))),.z 21 16 20] (.d 21 (.k [.F 2] .ret) .skip))) (.reg [.m 8 3,.u 9 .add 8 1,.m 3 9])))))) (.k [.m 22 0,.o 23 (.len true (.t 22)),.u 24 .leq 23 80,.m 2 24] .ret))⟩
theorem ok211:okF f211 c211:=okI
@[simp] theorem uEx(l:List Ex):V.underL 0 (l.map Ex.v)=true:=qE fun x _=>Ex.v_under x
@[simp] theorem uEl(l:List El):V.underL 0 (l.map El.v)=true:=qE fun x _=>El.v_under x
@[simp] theorem uFo(l:List Fo):V.underL 0 (l.map Fo.v)=true:=qE fun x _=>Fo.v_under x
@[simp] theorem uDe(l:List De):V.underL 0 (l.map De.v)=true:=qE fun x _=>De.v_under x
@[simp] theorem uSm(l:List Sm):V.underL 0 (l.map Sm.v)=true:=qE fun x _=>Sm.v_under x
@[simp] theorem uStr(l:List Bz):V.underL 0 (l.map .str)=true:=qE fun x _=>rfl
theorem qdT{l:List Ex}{i:Nat}(h:i<l.length):SizeOf.sizeOf l[i].args<SizeOf.sizeOf l:=by
 have h1:=qrL (qra h)
 have h2:SizeOf.sizeOf l[i].args<SizeOf.sizeOf l[i]:=by
  cases l[i] with
  | mk k o n m e t a=>simp[Ex.args];omega
 omega
theorem Zl{α:Type}{l:List α}{i:Nat}(h:i<l.length):l.drop i=l[i]::l.drop (i+1):=qst h
theorem qdC:∀(k:Nat) (l:List Ex),SizeOf.sizeOf l≤k→l.length≤B50→Ex.okL l→∀deep n:Int,0≤deep→deep≤1000→-4503599627370496≤n→n≤1000→∀S,Fn prog 72 [.sl false (l.map Ex.v),.int .i64 deep,.int .i64 n] S (.int .i64 (Ex.leftL l deep n)):=by
 intro k
 induction k with
 | zero=>intro l h;cases l <;> simp at h
 | succ k ih=>
  intro l hsz hlen hok deep n hd0 hd1 hn0 hn1;refine Pu.intro (R:=fun v=>v=.int .i64 (Ex.leftL l deep n)) func72 ok72 (by simp[c72]) (by simp[V.under,V.underL]) (by rintro v rfl;rfl) ?_;unfold Ex.leftL;by_cases hd:deep > 40
  ·simp[c72,show (40:Int)<deep from hd];exact qa rfl rfl rfl
  simp[c72,show ¬ (40:Int)<deep from hd];refine qw (fun j e S'=>∃(i:Nat) (m:Int),j=l.length - i∧i≤l.length∧Ex.leftG (l.drop i) deep m=Ex.leftG l deep n∧m≤n∧-4503599627370496≤m∧S'=[]∧
   e=[(7,.int .i64 i),(2,.int .i64 m),(0,.sl false (l.map Ex.v)),(1,.int .i64 deep),(6,.int .i64 0)]) l.length _ ?_ ⟨0,n,by simp,by omega,rfl,by omega,by omega,rfl,rfl⟩ ?_
  ·exact Env.so (by simp)
  rintro j e S' ⟨i,m,rfl,hi,hm,hmn,hm0,rfl,rfl⟩;by_cases h:i<l.length
  ·by_cases h0:0<m
   ·have hx:=ih l[i].args (by have:=qdT h;omega) (Ex.ok_args (Ex.okL_mem hok _ (qra h))).1 (Ex.ok_args (Ex.okL_mem hok _ (qra h))).2 (deep+1) (m - 1) (by omega) (by omega) (by omega) (by omega);have hle:=Ex.left_le l[i] deep m h0;simp[h,h0,qjB,qu (n:=deep+1) (by omega) (by omega),qu (n:=m - 1) (by omega) (by omega)];refine qg (hx []) ?_;rw[←Ex.left_eq];simp[qu (n:=(i:Int)+1) (by unfold B50 at hlen;omega) (by unfold B50 at hlen;omega)];refine ⟨_,?_,_,?_,i+1,rfl,by omega,l[i].left deep m,?_,?_,?_,rfl⟩
    ·omega
    ·repeat' first|exact Env.sub_nil _|refine Env.sub_cons (by simp;rfl) ?_|refine Env.sub_cons (by simp) ?_
    ·rw[←hm,Zl h,Ex.leftG,if_pos h0]
    ·omega
    ·omega
   ·simp[h,h0];refine qa rfl ?_ rfl;simp only[qo];rw[←hm,Ex.leftG_neg _ _ _ (by omega)]
  ·simp[h];refine qa rfl ?_ rfl;simp only[qo];rw[←hm,qss (by omega),Ex.leftG]
theorem zC(l:List Ex)(deep n:Int):Ex.leftL l deep n≤max n 0∧min n 0≤Ex.leftL l deep n:=by
 by_cases h:0≤n
 ·have:=Ex.leftL_le l deep n h;omega
 ·unfold Ex.leftL;split
  ·omega
  ·rw[Ex.leftG_neg _ _ _ (by omega)];omega
theorem qk7{s:Sm}{i:Nat}(h:i<s.body.length):SizeOf.sizeOf s.body[i]<SizeOf.sizeOf s:=by
 have h1:=qrL (qra h);cases s;simp only[Sm.body] at *;simp;omega
theorem qpB{s:Sm}{i:Nat}(h:i<s.decls.length):SizeOf.sizeOf s.decls[i]<SizeOf.sizeOf s:=by
 have h1:=qrL (qra h);cases s;simp only[Sm.decls] at *;simp;omega
theorem qjZ{s:De}{i:Nat}(h:i<s.body.length):SizeOf.sizeOf s.body[i]<SizeOf.sizeOf s:=by
 have h1:=qrL (qra h);cases s;simp only[De.body] at *;simp;omega
def Bd(m:Int):Prop:=-4503599627370496≤m∧m≤1000
theorem El.leftG_bd:∀(l:List El) (deep n:Int),Bd n→Bd (El.leftG l deep n)
 | [],_,n,h=>h
 | x::l,deep,n,h=>by
  rw[El.leftG];split
  ·have:=zC x.exps (deep+1) (n - 1);refine El.leftG_bd l deep _ ?_;unfold Bd at *;omega
  ·exact h
mutual
theorem Sm.left_bd:∀(s:Sm) (deep n:Int),s.ok→0<n→n≤1000→Bd (s.left deep n)
 | .mk l k t g e f d b,deep,n,h,h0,h1=>by
  simp only[Sm.ok] at h;obtain ⟨hl,ht,hg,he,hf,hd,hb,hbl⟩:=h;rw[Sm.left];split
  ·unfold Bd;omega
  ·have h2:=hl.1;have h3:=zC e (deep+1) (n - 1 - l.length);have h4:=zC g (deep+1) (Ex.leftL e (deep+1) (n - 1 - l.length));refine Sm.leftG_bd b _ _ hbl (De.leftG_bd d _ _ hd.2 (El.leftG_bd f _ _ ?_));unfold Bd B50 at *;omega
theorem De.left_bd:∀(s:De) (deep n:Int),s.ok→0<n→n≤1000→Bd (s.left deep n)
 | .mk k o t nm e f b,deep,n,h,h0,h1=>by
  simp only[De.ok] at h;obtain ⟨hn,he,hf,hb,hbl⟩:=h;rw[De.left];have h2:=hn.1;have h3:=hf.1;have h4:=zC e (deep+1) (n - 1 - nm.length - f.length);refine Sm.leftG_bd b _ _ hbl ?_;unfold Bd B50 at *;omega
theorem De.leftG_bd:∀(l:List De) (deep n:Int),De.okL l→Bd n→Bd (De.leftG l deep n)
 | [],_,n,_,h=>h
 | x::l,deep,n,hk,h=>by
  simp only[De.okL] at hk;rw[De.leftG];split
  ·rename_i h0;exact De.leftG_bd l deep _ hk.2 (De.left_bd x deep n hk.1 h0 h.2)
  ·exact h
theorem Sm.leftG_bd:∀(l:List Sm) (deep n:Int),Sm.okL l→Bd n→Bd (Sm.leftG l deep n)
 | [],_,n,_,h=>h
 | x::l,deep,n,hk,h=>by
  simp only[Sm.okL] at hk;rw[Sm.leftG];split
  ·rename_i h0;exact Sm.leftG_bd l deep _ hk.2 (Sm.left_bd x deep n hk.1 h0 h.2)
  ·exact h
end
theorem El.leftG_neg{l:List El}{deep n:Int}(h:¬ 0<n):El.leftG l deep n=n:=by cases l <;> simp[El.leftG,h]
theorem De.leftG_neg{l:List De}{deep n:Int}(h:¬ 0<n):De.leftG l deep n=n:=by cases l <;> simp[De.leftG,h]
theorem Sm.leftG_neg{l:List Sm}{deep n:Int}(h:¬ 0<n):Sm.leftG l deep n=n:=by cases l <;> simp[Sm.leftG,h]
theorem De.left_eq(d:De)(deep n:Int):d.left deep n=Sm.leftG d.body (deep+1) (Ex.leftL d.exps (deep+1) (n - 1 - d.names.length - d.formals.length)):=by cases d;rw[De.left];rfl
theorem Sm.left_eq(s:Sm)(deep n:Int):s.left deep n=if deep > 30 then 0 else
 Sm.leftG s.body (deep+1) (De.leftG s.decls deep (El.leftG s.elems deep (Ex.leftL s.targets (deep+1) (Ex.leftL s.exps (deep+1) (n - 1 - s.labels.length))))):=by cases s;rw[Sm.left];rfl
theorem qne:∀(k:Nat) (s:Sm),SizeOf.sizeOf s≤k→s.ok→∀deep n:Int,0≤deep→deep≤1000→0<n→n≤1000→∀S,Fn prog 52 [s.v,.int .i64 deep,.int .i64 n] S (.int .i64 (s.left deep n)):=by
 intro k
 induction k with
 | zero=>intro s h;cases s;simp at h
 | succ k ih=>
  intro s hsz hok deep n hd0 hd1 hn0 hn1;have O:=(Sm.ok_iff s).1 hok;refine Pu.ib func52 ok52 (by simp[c52]) (by simp[V.under]) rfl ?_;have hl:=O.labels.1;rw[Sm.left_eq];by_cases hd:deep > 30
  ·simp[c52,qG,ldS,show (30:Int)<deep from hd];exact qa rfl rfl rfl
  have e1:IntKind.i64.wrap (n - 1)=n - 1:=qu (by omega) (by omega);have e2:IntKind.i64.wrap (n - 1 - s.labels.length)=n - 1 - s.labels.length:=qu (by unfold B50 at hl;omega) (by omega);have e3:IntKind.i64.wrap (deep+1)=deep+1:=qu (by omega) (by omega);have b1:=zC s.exps (deep+1) (n - 1 - s.labels.length);have b2:=zC s.targets (deep+1) (Ex.leftL s.exps (deep+1) (n - 1 - s.labels.length));simp[c52,qG,ldS,show ¬ (30:Int)<deep from hd,e1,e2,e3];refine Qs (qdC _ s.exps (qqY _) O.exps.1 O.exps.2 (deep+1) (n - 1 - s.labels.length) (by omega) (by omega) (by unfold B50 at hl;omega) (by omega) _) ?_;simp;refine Qs (qdC _ s.targets (qqY _) O.targets.1 O.targets.2 (deep+1) _ (by omega) (by omega) (by unfold B50 at hl;omega) (by omega) _) ?_;simp[QZ,zW,yp,ldS];generalize hm0:Ex.leftL s.targets (deep+1) (Ex.leftL s.exps (deep+1) (n - 1 - s.labels.length))=m0 at b2 ⊢;have B0:Bd m0:=by unfold Bd;unfold B50 at hl;omega
  have B1:=El.leftG_bd s.elems deep m0 B0;have B2:=De.leftG_bd s.decls deep _ O.decls.2 B1;have l1:=O.elems.1;have l2:=O.decls.1;have l3:=O.body.1;unfold B50 at l1 l2 l3;refine qQ (fun e S=>e.get 2=some (.int .i64 (El.leftG s.elems deep m0))∧e.get 3=some (.ptr 0 0 0 1)∧e.get 1=some (.int .i64 deep)∧e.get 6=some (.int .i64 0)∧S=[.arr [s.v] 8 1]) ?_ ?_
  ·refine qw (fun j e S'=>∃(i:Nat) (m:Int),j=s.elems.length - i∧i≤s.elems.length∧El.leftG (s.elems.drop i) deep m=El.leftG s.elems deep m0∧Bd m∧S'=[.arr [s.v] 8 1]∧
    e=[(7,.int .i64 i),(2,.int .i64 m),(3,.ptr 0 0 0 1),(1,.int .i64 deep),(6,.int .i64 0)]) s.elems.length _ ?_ ⟨0,m0,by simp,by omega,rfl,B0,rfl,rfl⟩ ?_
   ·exact Env.so (by simp)
   rintro j e S' ⟨i,m,rfl,hi,hm,hB,rfl,rfl⟩;by_cases h:i<s.elems.length
   ·by_cases h0:0<m
    ·have hB':=hB;unfold Bd at hB';have b3:=zC s.elems[i].exps (deep+1) (m - 1);have o3:=O.elems.2 _ (qra h);have hx:=qdC _ s.elems[i].exps (qqY _) o3.1 o3.2 (deep+1) (m - 1) (by omega) (by omega) (by omega) (by omega);simp[h,h0,ldS,qnX,e3,qu (n:=m - 1) (by omega) (by omega)];refine qg (hx _) ?_;simp[zk (n:=(i:Int)+1)];refine ⟨_,?_,_,?_,i+1,rfl,by omega,Ex.leftL s.elems[i].exps (deep+1) (m - 1),?_,?_,rfl⟩
     ·omega
     ·repeat' first|exact Env.sub_nil _|refine Env.sub_cons (by simp;rfl) ?_|refine Env.sub_cons (by simp) ?_
     ·rw[←hm,Zl h,El.leftG,if_pos h0]
     ·unfold Bd;omega
    ·simp[h,h0,ldS];rw[←hm,El.leftG_neg h0]
   ·simp[h,ldS];rw[←hm,qss (by omega)];rfl
  rintro e S ⟨g2,g3,g1,g6,rfl⟩;generalize hm1:El.leftG s.elems deep m0=m1 at *;simp[g1,g2,g3];refine qQ (fun e S=>e.get 2=some (.int .i64 (De.leftG s.decls deep m1))∧e.get 3=some (.ptr 0 0 0 1)∧e.get 1=some (.int .i64 deep)∧e.get 6=some (.int .i64 0)∧S[0]?=some (.arr [s.v] 8 1)) ?_ ?_
  ·refine qw (fun j e S'=>∃(i:Nat) (m:Int),j=s.decls.length - i∧i≤s.decls.length∧De.leftG (s.decls.drop i) deep m=De.leftG s.decls deep m1∧Bd m∧S'[0]?=some (.arr [s.v] 8 1)∧
    e=[(8,.int .i64 i),(2,.int .i64 m),(3,.ptr 0 0 0 1),(1,.int .i64 deep),(6,.int .i64 0)]) s.decls.length _ ?_ ⟨0,m1,by simp,by omega,rfl,B1,rfl,rfl⟩ ?_
   ·repeat' first|exact Env.sub_nil _|refine Env.sub_cons (by simp[g1,g2,g3,g6]) ?_
   rintro j e S' ⟨i,m,rfl,hi,hm,hB,hz,rfl⟩;by_cases h:i<s.decls.length
   ·by_cases h0:0<m
    ·have hB':=hB;unfold Bd at hB';have o3:=(De.ok_iff _).1 (De.okL_mem O.decls.2 _ (qra h));have lt3:=qpB h;generalize hdd:s.decls[i]=d at *;have q1:=o3.names.1;have q2:=o3.formals.1;have q3:=o3.body.1;unfold B50 at q1 q2 q3;have b3:=zC d.exps (deep+1) (m - 1 - d.names.length - d.formals.length);have hx:=qdC _ d.exps (qqY _) o3.exps.1 o3.exps.2 (deep+1) (m - 1 - d.names.length - d.formals.length) (by omega) (by omega) (by omega) (by omega);have w1:IntKind.i64.wrap (m - 1)=m - 1:=qu (by omega) (by omega);have w2:IntKind.i64.wrap (m - 1 - d.names.length)=m - 1 - d.names.length:=qu (by omega) (by omega);have w3:IntKind.i64.wrap (m - 1 - d.names.length - d.formals.length)=m - 1 - d.names.length - d.formals.length:=qu (by omega) (by omega);have B3:Bd (Ex.leftL d.exps (deep+1) (m - 1 - d.names.length - d.formals.length)):=by unfold Bd;omega
     have hnext:De.leftG (s.decls.drop (i+1)) deep (d.left deep m)=De.leftG s.decls deep m1:=by rw[←hm,Zl h,De.leftG,if_pos h0,hdd]
     rw[De.left_eq] at hnext;have B4:=Sm.leftG_bd d.body (deep+1) _ o3.body.2 B3;simp[h,h0,hz,ldS,qm3,hdd,qG,stS,zR,e3,w1,w2,w3];refine qg (hx _) ?_;generalize Ex.leftL d.exps (deep+1) (m - 1 - d.names.length - d.formals.length)=m2 at *;simp;refine qQ (fun e U=>e.get 2=some (.int .i64 (Sm.leftG d.body (deep+1) m2))∧e.get 3=some (.ptr 0 0 0 1)∧e.get 1=some (.int .i64 deep)∧e.get 6=some (.int .i64 0)∧e.get 8=some (.int .i64 i)∧U[0]?=some (.arr [s.v] 8 1)) ?_ ?_
     ·have hz':(S'++[Ob.arr [d.v] 7 1])[0]?=some (.arr [s.v] 8 1):=by rw[qqW (qqT.1 hz).1];exact hz
      have hd':(S'++[Ob.arr [d.v] 7 1])[S'.length]?=some (.arr [d.v] 7 1):=by simp
      generalize S'++[Ob.arr [d.v] 7 1]=U at *;generalize S'.length=L at *;refine qw (fun j e S'=>∃(r:Nat) (q:Int),j=d.body.length - r∧r≤d.body.length∧Sm.leftG (d.body.drop r) (deep+1) q=Sm.leftG d.body (deep+1) m2∧Bd q∧S'=U∧
       e=[(10,.int .i64 r),(9,.ptr L 0 0 1),(8,.int .i64 i),(2,.int .i64 q),(3,.ptr 0 0 0 1),(1,.int .i64 deep),(6,.int .i64 0)]) d.body.length _ ?_ ⟨0,m2,by simp,by omega,rfl,B3,rfl,rfl⟩ ?_
      ·exact Env.so (by simp)
      rintro j e S' ⟨r,q,rfl,hr,hq,hBq,rfl,rfl⟩;by_cases g:r<d.body.length
      ·by_cases g0:0<q
       ·have hBq':=hBq;unfold Bd at hBq';have lt4:SizeOf.sizeOf d.body[r]<SizeOf.sizeOf d:=qjZ g;have ok4:=Sm.okL_mem o3.body.2 _ (qra g);have hy:=ih d.body[r] (by omega) ok4 (deep+1) q (by omega) (by omega) g0 (by omega) S';have B5:=Sm.left_bd d.body[r] (deep+1) q ok4 g0 hBq'.2;simp[g,g0,hz',hd',ldS,qi4,e3];refine qg hy ?_;simp[zk (n:=(r:Int)+1)];refine ⟨_,?_,_,?_,r+1,rfl,by omega,d.body[r].left (deep+1) q,?_,B5,rfl⟩
        ·omega
        ·repeat' first|exact Env.sub_nil _|refine Env.sub_cons (by simp;rfl) ?_|refine Env.sub_cons (by simp) ?_
        ·rw[←hq,Zl g,Sm.leftG,if_pos g0]
       ·simp[g,g0,hz',hd',ldS];rw[←hq,Sm.leftG_neg g0]
      ·simp[g,hz',hd',ldS];rw[←hq,qss (by omega)];rfl
     ·rintro e U ⟨f2,f3,f1,f6,f8,fz⟩;simp[f8,zk (n:=(i:Int)+1)];refine ⟨_,?_,_,?_,i+1,rfl,by omega,Sm.leftG d.body (deep+1) m2,hnext,B4,fz,rfl⟩
      ·omega
      ·repeat' first|exact Env.sub_nil _|refine Env.sub_cons (by simp[f1,f2,f3,f6];try rfl) ?_
    ·simp[h,h0,hz,ldS];rw[←hm,De.leftG_neg h0]
   ·simp[h,hz,ldS];rw[←hm,qss (by omega)];rfl
  clear g1 g2 g3 g6;rintro e S ⟨g2,g3,g1,g6,hz⟩;generalize hm2:De.leftG s.decls deep m1=m2 at *;simp[g1,g2,g3];refine qQ (fun e S=>e.get 2=some (.int .i64 (Sm.leftG s.body (deep+1) m2))) ?_ ?_
  ·refine qw (fun j e S'=>∃(r:Nat) (q:Int),j=s.body.length - r∧r≤s.body.length∧Sm.leftG (s.body.drop r) (deep+1) q=Sm.leftG s.body (deep+1) m2∧Bd q∧S'=S∧
    e=[(11,.int .i64 r),(2,.int .i64 q),(3,.ptr 0 0 0 1),(1,.int .i64 deep),(6,.int .i64 0)]) s.body.length _ ?_ ⟨0,m2,by simp,by omega,rfl,B2,rfl,rfl⟩ ?_
   ·repeat' first|exact Env.sub_nil _|refine Env.sub_cons (by simp[g1,g2,g3,g6]) ?_
   rintro j e S' ⟨r,q,rfl,hr,hq,hBq,rfl,rfl⟩;by_cases g:r<s.body.length
   ·by_cases g0:0<q
    ·have hBq':=hBq;unfold Bd at hBq';have lt4:SizeOf.sizeOf s.body[r]<SizeOf.sizeOf s:=qk7 g;have ok4:=Sm.okL_mem O.body.2 _ (qra g);have hy:=ih s.body[r] (by omega) ok4 (deep+1) q (by omega) (by omega) g0 (by omega) S';have B5:=Sm.left_bd s.body[r] (deep+1) q ok4 g0 hBq'.2;simp[g,g0,hz,ldS,qi4,e3];refine qg hy ?_;simp[zk (n:=(r:Int)+1)];refine ⟨_,?_,_,?_,r+1,rfl,by omega,s.body[r].left (deep+1) q,?_,B5,rfl⟩
     ·omega
     ·repeat' first|exact Env.sub_nil _|refine Env.sub_cons (by simp;rfl) ?_|refine Env.sub_cons (by simp) ?_
     ·rw[←hq,Zl g,Sm.leftG,if_pos g0]
    ·simp[g,g0,hz,ldS];rw[←hq,Sm.leftG_neg g0]
   ·simp[g,hz,ldS];rw[←hq,qss (by omega)];rfl
  ·rintro e S g;simp[g];exact qa (vs:=[.int .i64 (Sm.leftG s.body (deep+1) m2)]) (by simp) rfl rfl
def Sm.light(s:Sm):Bool:=decide (0<s.left 0 150)
theorem qoN(s:Sm)(hok:s.ok):∀S,Fn prog 17 [s.v] S (.bool s.light):=by
 refine Pu.ib func17 ok17 (by simp[c17]) (by simp[V.under]) rfl ?_;simp[c17,qG,ldS];refine qg (qne _ s (qqY _) hok 0 150 (by omega) (by omega) (by omega) (by omega) _) ?_;simp;exact qa rfl rfl rfl
mutual
theorem Ex.v_weak:∀x:Ex,x.v.weak=x.v
 | .mk k o n m e t a=>by simp only[Ex.v,V.weak,V.weakL,Ex.vl_weak a]
theorem Ex.vl_weak:∀l:List Ex,V.weakL (Ex.vl l)=Ex.vl l
 | []=>rfl
 | x::l=>by simp only[Ex.vl,V.weakL,Ex.v_weak x,Ex.vl_weak l]
end
theorem ZL{α:Type}{f:α→V}(h:∀x,(f x).weak=f x)(l:List α):V.weakL (l.map f)=l.map f:=by
 rw[zc,qr2];exact qrx fun x _=>h x
theorem wEx(l:List Ex):V.weakL (l.map Ex.v)=l.map Ex.v:=ZL Ex.v_weak l
theorem El.v_weak(e:El):e.v.weak=e.v:=by simp only[El.v,V.weak,V.weakL,wEx]
theorem Fo.v_weak(e:Fo):e.v.weak=e.v:=rfl
theorem wEl(l:List El):V.weakL (l.map El.v)=l.map El.v:=ZL El.v_weak l
theorem wFo(l:List Fo):V.weakL (l.map Fo.v)=l.map Fo.v:=ZL Fo.v_weak l
theorem qeM(l:List Bz):V.weakL (l.map .str)=l.map .str:=ZL (fun _=>rfl) l
mutual
theorem De.v_weak:∀x:De,x.v.weak=x.v
 | .mk k o t n e f b=>by simp only[De.v,V.weak,V.weakL,wEx,wFo,qeM,Sm.vl_weak b]
theorem Sm.v_weak:∀x:Sm,x.v.weak=x.v
 | .mk l k t g e f d b=>by simp only[Sm.v,V.weak,V.weakL,wEx,wEl,qeM,De.vl_weak d,Sm.vl_weak b]
theorem De.vl_weak:∀l:List De,V.weakL (De.vl l)=De.vl l
 | []=>rfl
 | x::l=>by simp only[De.vl,V.weakL,De.v_weak x,De.vl_weak l]
theorem Sm.vl_weak:∀l:List Sm,V.weakL (Sm.vl l)=Sm.vl l
 | []=>rfl
 | x::l=>by simp only[Sm.vl,V.weakL,Sm.v_weak x,Sm.vl_weak l]
end
theorem wDe(l:List De):V.weakL (l.map De.v)=l.map De.v:=ZL De.v_weak l
theorem wSm(l:List Sm):V.weakL (l.map Sm.v)=l.map Sm.v:=ZL Sm.v_weak l
theorem qc1(k:Int)(s:Sm)(d:De)(e:El)(x:Ex):(paV k s d e x).weak=paV k s d e x:=by
 simp only[paV,Sm.cs,De.cs,El.cs,Ex.cs,qrp,qr9,V.weak,V.weakL,wEx,wEl,wFo,qeM,wDe,wSm]
theorem Pa.v_weak(p:Pa):p.v.weak=p.v:=qc1 _ _ _ _ _
attribute [simp] Ex.v_weak El.v_weak Fo.v_weak De.v_weak Sm.v_weak wEx wEl wFo qeM wDe wSm qc1 Pa.v_weak qbF Pa.v_under
theorem qgZ(s:Sm):∀S,Fn prog 101 [s.v] S (Pa.st s).v:=by
 refine Pu.intro (R:=fun v=>v=(Pa.st s).v) func101 ok101 (by simp[c101]) (by simp[V.under]) (by rintro v rfl;simp) ?_;simp[c101,qG,ldS,stS,zR,qB,qF];refine Zf rfl ?_ ?_
 ·simp only[qo,V.weak,V.weakL,wEx,wEl,wFo,qeM,wDe,wSm];rfl
 ·simp[qo,V.weak,V.weakL,V.under,V.underL]
theorem qgE(s:Ex):∀S,Fn prog 142 [s.v] S (Pa.ex s).v:=by
 refine Pu.intro (R:=fun v=>v=(Pa.ex s).v) func142 ok142 (by simp[c142]) (by simp[V.under]) (by rintro v rfl;simp) ?_;simp[c142,qG,ldS,stS,zR,qB,qF];refine Zf rfl ?_ ?_
 ·simp only[qo,V.weak,V.weakL,wEx,wEl,wFo,qeM,wDe,wSm];rfl
 ·simp[qo,V.weak,V.weakL,V.under,V.underL]
theorem qmn(s:De):∀S,Fn prog 168 [s.v] S (Pa.de s).v:=by
 refine Pu.intro (R:=fun v=>v=(Pa.de s).v) func168 ok168 (by simp[c168]) (by simp[V.under]) (by rintro v rfl;simp) ?_;simp[c168,qG,ldS,stS,zR,qB,qF];refine Zf rfl ?_ ?_
 ·simp only[qo,V.weak,V.weakL,wEx,wEl,wFo,qeM,wDe,wSm];rfl
 ·simp[qo,V.weak,V.weakL,V.under,V.underL]
theorem qkA(s:El):∀S,Fn prog 205 [s.v] S (Pa.el s).v:=by
 refine Pu.intro (R:=fun v=>v=(Pa.el s).v) func205 ok205 (by simp[c205]) (by simp[V.under]) (by rintro v rfl;simp) ?_;simp[c205,qG,ldS,stS,zR,qB,qF];refine Zf rfl ?_ ?_
 ·simp only[qo,V.weak,V.weakL,wEx,wEl,wFo,qeM,wDe,wSm];rfl
 ·simp[qo,V.weak,V.weakL,V.under,V.underL]
theorem ql2(p:Pa)(hp:p.ok):∀S,Fn prog 178 [p.v] S (.int .i64 p.own):=by
 refine Pu.ib func178 ok178 (by simp[c178]) (by simp[V.under]) rfl ?_;have h1:=Pa.own_le hp;unfold B50 at h1
 cases p with
 | st s=>
  simp only[Pa.own] at h1;simp[c178,qG,ldS,Pa.v,Pa.kind,Pa.toS,Pa.own,qu (n:=1+(s.labels.length:Int)) (by omega) (by omega)];exact qa rfl rfl rfl
 | de d=>
  simp only[Pa.own] at h1;simp[c178,qG,ldS,Pa.v,Pa.kind,Pa.toD,Pa.own,qu (n:=1+(d.names.length:Int)) (by omega) (by omega),qu (n:=1+(d.names.length:Int)+d.formals.length) (by omega) (by omega)];exact qa rfl rfl rfl
 | el e=>
  simp[c178,qG,ldS,Pa.v,Pa.kind,Pa.own];exact qa rfl rfl rfl
 | ex x=>
  simp[c178,qG,ldS,Pa.v,Pa.kind,Pa.own];exact qa rfl rfl rfl
theorem Pa.v_flat(p:Pa):p.v.cells.all V.flat=true:=rfl
theorem qgz(p:Pa)(S:St):qt prog 179 [p.v] S (fun v U=>v=.fn (.func 202) [] [.ptr S.length 0 0 1]∧U=S++[.arr [p.v] 25 1]):=by
 refine qt.ib func179 ok179 ?_;simp[c179,qki (Pa.v_flat p) (by rw[Pa.v_size];omega),Pa.v_size];exact qf rfl ⟨rfl,rfl⟩
theorem jI(l:List Ex)(hl:l.length≤B50)(y:Nat)(S:St)(J:Nat→St→Prop)(D:St→Prop)(M:Np)(hM:∀x,M x→x<S.length)(hJ:∀i U o,J i U→J i (U++[o]))(hD:∀U o,D U→D (U++[o]))
  (hy:∀i x,l[i]?=some x→∀U,J i U→Kp M S U→ye prog y [(Pa.ex x).v] U (fun v U'=>Kp M U U'∧((v=.bool true∧J (i+1) U')∨(v=.bool false∧D U')))) (h0:J 0 S):
  qt prog 203 [.sl false (l.map Ex.v),.fn (.func 142) [] [],.yld y] S (fun v U=>Kp M S U∧((v=.bool true∧J l.length U)∨(v=.bool false∧D U))):=by
 unfold B50 at hl;refine qt.ib func203 ok203 ?_;simp[c203];refine qw (fun j e S'=>∃i:Nat,j=l.length - i∧i≤l.length∧J i S'∧Kp M S S'∧
  e=[(11,.int .i64 i),(10,.int .i64 l.length),(9,.sl false (l.map Ex.v)),(1,.fn (.func 142) [] []),(2,.yld y)]) l.length _ ?_ ⟨0,by simp,by omega,h0,Kp.refl _ _,rfl⟩ ?_
 ·exact Env.so (by simp)
 rintro j e S' ⟨i,rfl,hi,hj,hk,rfl⟩;by_cases h:i<l.length
 ·simp[h,qjB,qG,stS,zR,ldS];refine qg (qgE l[i] _) ?_;simp;refine qjh (hy i l[i] (by simp[h]) _ (hJ _ _ _ hj) (hk.push _)) ?_;rintro v U' ⟨hk',⟨rfl,hj'⟩|⟨rfl,hd'⟩⟩
  ·simp[zk (n:=(i:Int)+1)];refine ⟨_,?_,_,?_,i+1,rfl,by omega,hj',(hk.push _).trans hk',rfl⟩
   ·omega
   ·exact Env.so (by simp)
  ·simp;exact qf rfl ⟨(hk.push _).trans hk',.inr ⟨rfl,hd'⟩⟩
 ·simp[h];have:i=l.length:=by omega
  subst this;exact qf rfl ⟨hk,.inl ⟨rfl,hj⟩⟩
theorem qlt(l:List El)(hl:l.length≤B50)(y:Nat)(S:St)(J:Nat→St→Prop)(D:St→Prop)(M:Np)(hM:∀x,M x→x<S.length)(hJ:∀i U o,J i U→J i (U++[o]))(hD:∀U o,D U→D (U++[o]))
  (hy:∀i x,l[i]?=some x→∀U,J i U→Kp M S U→ye prog y [(Pa.el x).v] U (fun v U'=>Kp M U U'∧((v=.bool true∧J (i+1) U')∨(v=.bool false∧D U')))) (h0:J 0 S):
  qt prog 204 [.sl false (l.map El.v),.fn (.func 205) [] [],.yld y] S (fun v U=>Kp M S U∧((v=.bool true∧J l.length U)∨(v=.bool false∧D U))):=by
 unfold B50 at hl;refine qt.ib func204 ok204 ?_;simp[c204];refine qw (fun j e S'=>∃i:Nat,j=l.length - i∧i≤l.length∧J i S'∧Kp M S S'∧
  e=[(11,.int .i64 i),(10,.int .i64 l.length),(9,.sl false (l.map El.v)),(1,.fn (.func 205) [] []),(2,.yld y)]) l.length _ ?_ ⟨0,by simp,by omega,h0,Kp.refl _ _,rfl⟩ ?_
 ·exact Env.so (by simp)
 rintro j e S' ⟨i,rfl,hi,hj,hk,rfl⟩;by_cases h:i<l.length
 ·simp[h,qnX,qG,stS,zR,ldS];refine qg (qkA l[i] _) ?_;simp;refine qjh (hy i l[i] (by simp[h]) _ (hJ _ _ _ hj) (hk.push _)) ?_;rintro v U' ⟨hk',⟨rfl,hj'⟩|⟨rfl,hd'⟩⟩
  ·simp[zk (n:=(i:Int)+1)];refine ⟨_,?_,_,?_,i+1,rfl,by omega,hj',(hk.push _).trans hk',rfl⟩
   ·omega
   ·exact Env.so (by simp)
  ·simp;exact qf rfl ⟨(hk.push _).trans hk',.inr ⟨rfl,hd'⟩⟩
 ·simp[h];have:i=l.length:=by omega
  subst this;exact qf rfl ⟨hk,.inl ⟨rfl,hj⟩⟩
theorem qmF(l:List De)(hl:l.length≤B50)(y:Nat)(S:St)(J:Nat→St→Prop)(D:St→Prop)(M:Np)(hM:∀x,M x→x<S.length)(hJ:∀i U o,J i U→J i (U++[o]))(hD:∀U o,D U→D (U++[o]))
  (hy:∀i x,l[i]?=some x→∀U,J i U→Kp M S U→ye prog y [(Pa.de x).v] U (fun v U'=>Kp M U U'∧((v=.bool true∧J (i+1) U')∨(v=.bool false∧D U')))) (h0:J 0 S):
  qt prog 206 [.sl false (l.map De.v),.fn (.func 168) [] [],.yld y] S (fun v U=>Kp M S U∧((v=.bool true∧J l.length U)∨(v=.bool false∧D U))):=by
 unfold B50 at hl;refine qt.ib func206 ok206 ?_;simp[c206];refine qw (fun j e S'=>∃i:Nat,j=l.length - i∧i≤l.length∧J i S'∧Kp M S S'∧
  e=[(11,.int .i64 i),(10,.int .i64 l.length),(9,.sl false (l.map De.v)),(1,.fn (.func 168) [] []),(2,.yld y)]) l.length _ ?_ ⟨0,by simp,by omega,h0,Kp.refl _ _,rfl⟩ ?_
 ·exact Env.so (by simp)
 rintro j e S' ⟨i,rfl,hi,hj,hk,rfl⟩;by_cases h:i<l.length
 ·simp[h,qm3,qG,stS,zR,ldS];refine qg (qmn l[i] _) ?_;simp;refine qjh (hy i l[i] (by simp[h]) _ (hJ _ _ _ hj) (hk.push _)) ?_;rintro v U' ⟨hk',⟨rfl,hj'⟩|⟨rfl,hd'⟩⟩
  ·simp[zk (n:=(i:Int)+1)];refine ⟨_,?_,_,?_,i+1,rfl,by omega,hj',(hk.push _).trans hk',rfl⟩
   ·omega
   ·exact Env.so (by simp)
  ·simp;exact qf rfl ⟨(hk.push _).trans hk',.inr ⟨rfl,hd'⟩⟩
 ·simp[h];have:i=l.length:=by omega
  subst this;exact qf rfl ⟨hk,.inl ⟨rfl,hj⟩⟩
theorem qf2(l:List Sm)(hl:l.length≤B50)(y:Nat)(S:St)(J:Nat→St→Prop)(D:St→Prop)(M:Np)(hM:∀x,M x→x<S.length)(hJ:∀i U o,J i U→J i (U++[o]))(hD:∀U o,D U→D (U++[o]))
  (hy:∀i x,l[i]?=some x→∀U,J i U→Kp M S U→ye prog y [(Pa.st x).v] U (fun v U'=>Kp M U U'∧((v=.bool true∧J (i+1) U')∨(v=.bool false∧D U')))) (h0:J 0 S):
  qt prog 207 [.sl false (l.map Sm.v),.fn (.func 101) [] [],.yld y] S (fun v U=>Kp M S U∧((v=.bool true∧J l.length U)∨(v=.bool false∧D U))):=by
 unfold B50 at hl;refine qt.ib func207 ok207 ?_;simp[c207];refine qw (fun j e S'=>∃i:Nat,j=l.length - i∧i≤l.length∧J i S'∧Kp M S S'∧
  e=[(11,.int .i64 i),(10,.int .i64 l.length),(9,.sl false (l.map Sm.v)),(1,.fn (.func 101) [] []),(2,.yld y)]) l.length _ ?_ ⟨0,by simp,by omega,h0,Kp.refl _ _,rfl⟩ ?_
 ·exact Env.so (by simp)
 rintro j e S' ⟨i,rfl,hi,hj,hk,rfl⟩;by_cases h:i<l.length
 ·simp[h,qi4,qG,stS,zR,ldS];refine qg (qgZ l[i] _) ?_;simp;refine qjh (hy i l[i] (by simp[h]) _ (hJ _ _ _ hj) (hk.push _)) ?_;rintro v U' ⟨hk',⟨rfl,hj'⟩|⟨rfl,hd'⟩⟩
  ·simp[zk (n:=(i:Int)+1)];refine ⟨_,?_,_,?_,i+1,rfl,by omega,hj',(hk.push _).trans hk',rfl⟩
   ·omega
   ·exact Env.so (by simp)
  ·simp;exact qf rfl ⟨(hk.push _).trans hk',.inr ⟨rfl,hd'⟩⟩
 ·simp[h];have:i=l.length:=by omega
  subst this;exact qf rfl ⟨hk,.inl ⟨rfl,hj⟩⟩
theorem ZJ(p:Pa):p.kids.length=match p with
 | .st s=>s.targets.length+(s.exps.length+(s.elems.length+(s.decls.length+s.body.length)))
 | .de d=>d.exps.length+d.body.length
 | .el e=>e.exps.length
 | .ex x=>x.args.length:=by cases p <;> simp[Pa.kids]
theorem qbE(p:Pa)(hp:p.ok)(c:Nat):qjo prog 202 [] [.ptr c 0 0 1] (p.kids.map fun q=>[q.v]) (fun U=>U[c]?=some (.arr [p.v] 25 1)):=by
 intro S l J D M hM hcap hJ hD _ _ hy h0;have hc:=hcap _ _ h0;have hyk:∀i q,p.kids[i]?=some q→∀U,J i U→Kp M S U→ye prog l [q.v] U (fun v U'=>Kp M U U'∧((v=.bool true∧J (i+1) U')∨(v=.bool false∧D U'))):=fun i q hq=>hy i [q.v] (by simp[hq])
 clear hy;simp only[qq2,qr9,qrp];have hlt:c<S.length:=(qqT.1 hc).1;refine qt.ib func202 ok202 ?_
 cases p with
 | el e=>
  have o:=hp;have hA:=jI e.exps o.1 l S J D M hM hJ hD (fun i x hx=>hyk i (.ex x) (by simp[Pa.kids,hx])) h0;simp[c202,ldS,hc,Pa.v,Pa.kind,Pa.toE];refine qi hA ?_;rintro v U ⟨hk,⟨rfl,hj⟩|⟨rfl,hd⟩⟩
  ·simp;exact qA rfl ⟨hk,.inl (by simpa[Pa.kids] using hj)⟩
  ·simp;exact qA rfl ⟨hk,.inr hd⟩
 | ex e=>
  have o:=Ex.ok_args hp;have hA:=jI e.args o.1 l S J D M hM hJ hD (fun i x hx=>hyk i (.ex x) (by simp[Pa.kids,hx])) h0;simp[c202,ldS,hc,Pa.v,Pa.kind,Pa.toX];refine qi hA ?_;rintro v U ⟨hk,⟨rfl,hj⟩|⟨rfl,hd⟩⟩
  ·simp;exact qA rfl ⟨hk,.inl (by simpa[Pa.kids] using hj)⟩
  ·simp;exact qA rfl ⟨hk,.inr hd⟩
 | de d=>
  have o:=(De.ok_iff d).1 hp;have hA:=jI d.exps o.exps.1 l S J D M hM hJ hD (fun i x hx=>hyk i (.ex x) (by simp only[Pa.kids];rw[qqW (by simpa using (qqT.1 hx).1)];simp[hx])) h0;simp[c202,ldS,hc,Pa.v,Pa.kind,Pa.toD];refine qi hA ?_;rintro v U ⟨hk,⟨rfl,hj⟩|⟨rfl,hd⟩⟩
  ·have hc':=hcap _ _ hj;have hB:=qf2 d.body o.body.1 l U (fun i=>J (d.exps.length+i)) D M (fun x hx=>qry (hM x hx) hk.len) (fun i U o=>hJ _ U o) hD
    (fun i x hx U' hj' hk'=>hyk (d.exps.length+i) (.st x) (by simp only[Pa.kids];rw[qqU (by simp)];simp[hx]) U' hj' (hk.trans hk')) hj
   simp[ldS,hc',Pa.v,Pa.kind,Pa.toD];refine qi hB ?_;rintro v U' ⟨hk',⟨rfl,hj'⟩|⟨rfl,hd'⟩⟩
   ·simp;exact qA rfl ⟨hk.trans hk',.inl (by simpa[Pa.kids] using hj')⟩
   ·simp;exact qA rfl ⟨hk.trans hk',.inr hd'⟩
  ·simp;exact qA rfl ⟨hk,.inr hd⟩
 | st s=>
  have o:=(Sm.ok_iff s).1 hp
  have g1:∀(i:Nat) x,s.targets[i]?=some x→(Pa.st s).kids[i]?=some (.ex x):=fun i x hx=>by
   simp only[Pa.kids];rw[qqW (by simpa using (qqT.1 hx).1)];simp[hx]
  have g2:∀(i:Nat) x,s.exps[i]?=some x→(Pa.st s).kids[s.targets.length+i]?=some (.ex x):=fun i x hx=>by
   simp only[Pa.kids];rw[qqU (by simp),qqW (by simpa using (qqT.1 hx).1)];simp[hx]
  have g3:∀(i:Nat) x,s.elems[i]?=some x→(Pa.st s).kids[s.targets.length+s.exps.length+i]?=some (.el x):=fun i x hx=>by
   simp only[Pa.kids];rw[qqU (by simp;omega),qqU (by simp;omega),qqW (by have:=(qqT.1 hx).1;simp;omega)];simp[show s.targets.length+s.exps.length+i - s.targets.length - s.exps.length=i by omega,hx]
  have g4:∀(i:Nat) x,s.decls[i]?=some x→(Pa.st s).kids[s.targets.length+s.exps.length+s.elems.length+i]?=some (.de x):=fun i x hx=>by
   simp only[Pa.kids];rw[qqU (by simp;omega),qqU (by simp;omega),qqU (by simp;omega),qqW (by have:=(qqT.1 hx).1;simp;omega)];simp[show s.targets.length+s.exps.length+s.elems.length+i - s.targets.length - s.exps.length - s.elems.length=i by omega,hx]
  have g5:∀(i:Nat) x,s.body[i]?=some x→(Pa.st s).kids[s.targets.length+s.exps.length+s.elems.length+s.decls.length+i]?=some (.st x):=fun i x hx=>by
   simp only[Pa.kids];rw[qqU (by simp;omega),qqU (by simp;omega),qqU (by simp;omega),qqU (by simp;omega)];simp[show s.targets.length+s.exps.length+s.elems.length+s.decls.length+i - s.targets.length - s.exps.length - s.elems.length - s.decls.length=i by omega,hx]
  have S1k:Kp M S (S++[.arr [s.v] 8 1]):=(Kp.refl _ _).push _;have hA:=jI s.targets o.targets.1 l (S++[.arr [s.v] 8 1]) J D M (fun x hx=>by have:=hM x hx;simp;omega) hJ hD (fun i x hx U hj hk=>hyk i (.ex x) (g1 i x hx) U hj (S1k.trans hk)) (hJ _ _ _ h0);have hs:(S++[Ob.arr [s.v] 8 1])[S.length]?=some (.arr [s.v] 8 1):=by simp
  have nM:¬ M S.length:=fun h=>by have:=hM _ h;omega
  simp[c202,ldS,hc,Pa.v,Pa.kind,Pa.toS,qG,stS,zR];refine qi hA ?_;rintro v U1 ⟨k1,⟨rfl,j1⟩|⟨rfl,hd⟩⟩
  ·have hs1:=k1.at hs nM;have k1':=S1k.trans k1;have hB:=jI s.exps o.exps.1 l U1 (fun i=>J (s.targets.length+i)) D M (fun x hx=>qry (hM x hx) k1'.len) (fun i U o=>hJ _ U o) hD (fun i x hx U' hj' hk'=>hyk _ (.ex x) (g2 i x hx) U' hj' (k1'.trans hk')) j1;simp[ldS,hs1];refine qi hB ?_;rintro v U2 ⟨k2,⟨rfl,j2⟩|⟨rfl,hd⟩⟩
   ·have hs2:=k2.at hs1 nM;have k2':=k1'.trans k2;have hC:=qlt s.elems o.elems.1 l U2 (fun i=>J (s.targets.length+s.exps.length+i)) D M (fun x hx=>qry (hM x hx) k2'.len) (fun i U o=>hJ _ U o) hD (fun i x hx U' hj' hk'=>hyk _ (.el x) (g3 i x hx) U' hj' (k2'.trans hk')) j2;simp[ldS,hs2];refine qi hC ?_;rintro v U3 ⟨k3,⟨rfl,j3⟩|⟨rfl,hd⟩⟩
    ·have hs3:=k3.at hs2 nM;have k3':=k2'.trans k3;have hE:=qmF s.decls o.decls.1 l U3 (fun i=>J (s.targets.length+s.exps.length+s.elems.length+i)) D M (fun x hx=>qry (hM x hx) k3'.len) (fun i U o=>hJ _ U o) hD (fun i x hx U' hj' hk'=>hyk _ (.de x) (g4 i x hx) U' hj' (k3'.trans hk')) j3;simp[ldS,hs3];refine qi hE ?_;rintro v U4 ⟨k4,⟨rfl,j4⟩|⟨rfl,hd⟩⟩
     ·have hs4:=k4.at hs3 nM;have k4':=k3'.trans k4;have hF:=qf2 s.body o.body.1 l U4 (fun i=>J (s.targets.length+s.exps.length+s.elems.length+s.decls.length+i)) D M (fun x hx=>qry (hM x hx) k4'.len) (fun i U o=>hJ _ U o) hD (fun i x hx U' hj' hk'=>hyk _ (.st x) (g5 i x hx) U' hj' (k4'.trans hk')) j4;simp[ldS,hs4];refine qi hF ?_;rintro v U5 ⟨k5,⟨rfl,j5⟩|⟨rfl,hd⟩⟩
      ·simp;refine qA rfl ⟨k4'.trans k5,.inl ?_⟩;rw[ZJ];simpa[qrF] using j5
      ·simp;exact qA rfl ⟨k4'.trans k5,.inr hd⟩
     ·simp;exact qA rfl ⟨k3'.trans k4,.inr hd⟩
    ·simp;exact qA rfl ⟨k2'.trans k3,.inr hd⟩
   ·simp;exact qA rfl ⟨k1'.trans k2,.inr hd⟩
  ·simp;exact qA rfl ⟨S1k.trans k1,.inr hd⟩
theorem gp{U:St}{x:Nat}{o o':Ob}(h:U[x]?=some o):(U++[o'])[x]?=some o:=by rw[qqW (qqT.1 h).1];exact h
theorem gs{U:St}{x L:Nat}{o o':Ob}(h:U[x]?=some o)(hx:x≠L):(U.set L o')[x]?=some o:=by rw[qqX (Ne.symm hx)];exact h
theorem glt{U:St}{x:Nat}{o:Ob}(h:U[x]?=some o):x<U.length:=(qqT.1 h).1
@[simp] theorem Pa.v_flatA(p:Pa):(∀x,x∈p.v.cells→x.flat=true)=True:=by
 have:=Pa.v_flat p;rw[qri] at this;exact eq_true this
@[simp] theorem Pa.v_flatB(p:Pa):(p.v.cells.all V.flat)=true:=Pa.v_flat p
@[simp] theorem Pa.v_sz(p:Pa):p.v.size=25:=rfl
@[simp] theorem Pa.v_part(p:Pa):V.part p.v 0 (some 25)=some p.v:=rfl
theorem qhp{α:Type}{l:List α}{i:Nat}{x:α}(h:l[i]?=some x):l.set i x=l:=by
 apply qrM;intro j;rw[List.getElem?_set];split
 ·rename_i hij;subst hij;rw[h];have:=(qqT.1 h).1;simp[this]
 ·rfl
theorem Kp.chain{M N:Np}{S T U:St}(h:Kp M S T)(g:Kp N T U)(hn:∀l,l<S.length→N l→M l):Kp M S U:=
 ⟨qrt h.len g.len,fun l hl hm=>(g.get l (qry hl h.len) fun hh=>hm (hn l hl hh)).trans (h.get l hl hm)⟩
def qdR(a b c:Nat):V:=.fn (.func 177) [] [.ptr a 0 0 1,.ptr b 0 0 1,.ptr c 0 0 1]
structure MJ(a b c n:Nat)(p:Pa)(at' z d:Int)(U:St):Prop where
 ta:U[a]?=some (.arr [.int .i64 z] 1 1)
 tb:U[b]?=some (.arr [.int .i64 d] 1 1)
 tc:U[c]?=some (.arr [qdR a b c] 1 1)
 t6:U[n+1]?=some (.arr [.int .i64 at'] 1 1)
 t7:U[n+2]?=some (.arr [.bool false] 1 1)
 k:U[n+3]?=some (.arr [p.v] 25 1)
theorem MJ.push{a b c n:Nat}{p:Pa}{at' z d:Int}{U:St}(h:MJ a b c n p at' z d U)(o:Ob):MJ a b c n p at' z d (U++[o]):=⟨gp h.ta,gp h.tb,gp h.tc,gp h.t6,gp h.t7,gp h.k⟩
theorem MJ.set{a b c n:Nat}{p:Pa}{at' z d:Int}{U:St}(h:MJ a b c n p at' z d U){L:Nat}(o:Ob)(ha:a<n)(hb:b<n)(hc:c<n)(hL:n+4≤L):MJ a b c n p at' z d (U.set L o):=
 ⟨gs h.ta (by omega),gs h.tb (by omega),gs h.tc (by omega),gs h.t6 (by omega),gs h.t7 (by omega),gs h.k (by omega)⟩
structure MD(a b c n:Nat)(U:St):Prop where
 z:∃z:Int,U[a]?=some (.arr [.int .i64 z] 1 1)
 d:∃d:Int,U[b]?=some (.arr [.int .i64 d] 1 1)
 t7:U[n+2]?=some (.arr [.bool false] 1 1)
theorem MD.push{a b c n:Nat}{U:St}(h:MD a b c n U)(o:Ob):MD a b c n (U++[o]):=⟨let ⟨z,hz⟩:=h.z;⟨z,gp hz⟩,let ⟨z,hz⟩:=h.d;⟨z,gp hz⟩,gp h.t7⟩
def mOk(p:Pa)(z at':Int):Prop:=z+p.size≤2000∧at'+p.depth - 1≤60
theorem yV{l:List Pa}{i:Nat}{q:Pa}(h:l[i]?=some q):zr (l.take (i+1))=max (zr (l.take i)) q.depth:=by
 rw[qrj,h,yr];simp
theorem Qq{l:List Pa}{i:Nat}{q:Pa}(h:l[i]?=some q):qK (l.take (i+1))=qK (l.take i)+q.size:=by
 rw[qrj,h,zm];simp
theorem qdZ{l:List Pa}{i:Nat}{q:Pa}(h:l[i]?=some q):q.depth≤zr l:=by
 have:=yV h;have h2:zr l=max (zr (l.take (i+1))) (zr (l.drop (i+1))):=by rw[←yr,qsd]
 omega
theorem zK{l:List Pa}{i:Nat}{q:Pa}(h:l[i]?=some q):qK (l.take i)+q.size≤qK l:=by
 have:=Qq h;have h2:qK l=qK (l.take (i+1))+qK (l.drop (i+1)):=by rw[←zm,qsd]
 omega
def mR(a b:Nat)(p:Pa)(z d at':Int)(S:St)(v:V)(U:St):Prop:=Kp (fun x=>x=a∨x=b) S U∧∃z' d':Int,U[a]?=some (.arr [.int .i64 z'] 1 1)∧U[b]?=some (.arr [.int .i64 d'] 1 1)∧
 ((v=.bool true∧z'=z+p.size∧d'=max d (at'+p.depth - 1)∧mOk p z at')∨(v=.bool false∧¬ mOk p z at'))
theorem qmi:∀(k:Nat) (p:Pa),p.wt≤k→p.ok→∀(at':Int),1≤at'→at'≤61→∀(a b c:Nat),a≠b→a≠c→b≠c→∀(z d:Int),0≤z→z≤2000→0≤d→d≤60→∀S:St,
  S[a]?=some (.arr [.int .i64 z] 1 1)→S[b]?=some (.arr [.int .i64 d] 1 1)→S[c]?=some (.arr [qdR a b c] 1 1)→
  qt prog 177 [p.v,.int .i64 at',.ptr a 0 0 1,.ptr b 0 0 1,.ptr c 0 0 1] S (mR a b p z d at' S):=by
 intro k
 induction k with
 | zero=>intro p h;exfalso;cases p with
  | st s=>cases s;simp[Pa.wt] at h
  | de s=>cases s;simp[Pa.wt] at h
  | el s=>cases s;simp[Pa.wt] at h
  | ex s=>cases s;simp[Pa.wt] at h
 | succ k ih=>
  intro p hw hp at' ha0 ha1 a b c hab hac hbc z d hz0 hz1 hd0 hd1 S hA hB hC;have la:=glt hA;have lb:=glt hB;have lc:=glt hC;have ho:=Pa.own_le hp;have ho1:=p.own_pos;unfold B50 at ho;refine qt.ib func177 ok177 ?_;have e1:IntKind.i64.wrap (z+p.own)=z+p.own:=qu (by omega) (by omega);simp[c177,qG];obtain ⟨T,hT⟩:∃T,S++[.arr [p.v] 25 1,.arr [.int .i64 at'] 1 1,.arr [.bool false] 1 1]=T:=⟨_,rfl⟩;have kT:Kp (fun x=>x=a∨x=b) S T:=by rw[←hT];exact (Kp.refl _ _).push _
  have lT:T.length=S.length+3:=by rw[←hT];simp
  have tA:T[a]?=some (.arr [.int .i64 z] 1 1):=by rw[←hT,qqW la];exact hA
  have tB:T[b]?=some (.arr [.int .i64 d] 1 1):=by rw[←hT,qqW lb];exact hB
  have tC:T[c]?=some (.arr [qdR a b c] 1 1):=by rw[←hT,qqW lc];exact hC
  have t5:T[S.length]?=some (.arr [p.v] 25 1):=by rw[←hT,qqU (by omega)];simp
  have t6:T[S.length+1]?=some (.arr [.int .i64 at'] 1 1):=by rw[←hT,qqU (by omega)];simp
  have t7:T[S.length+2]?=some (.arr [.bool false] 1 1):=by rw[←hT,qqU (by omega)];simp
  rw[hT];clear hT;simp[ldS,tA,t5];refine Qs (ql2 p hp _) ?_;simp[QZ,zW,yp,ldS,stS,zR,e1,tA];obtain ⟨T1,hT1⟩:∃T1,List.set T a (.arr [.int .i64 (z+p.own)] 1 1)=T1:=⟨_,rfl⟩;have uA:T1[a]?=some (.arr [.int .i64 (z+p.own)] 1 1):=by rw[←hT1,qqV (by omega)]
  have uB:T1[b]?=some (.arr [.int .i64 d] 1 1):=by rw[←hT1];exact gs tB hab.symm
  have uC:T1[c]?=some (.arr [qdR a b c] 1 1):=by rw[←hT1];exact gs tC hac.symm
  have u5:T1[S.length]?=some (.arr [p.v] 25 1):=by rw[←hT1];exact gs t5 (by omega)
  have u6:T1[S.length+1]?=some (.arr [.int .i64 at'] 1 1):=by rw[←hT1];exact gs t6 (by omega)
  have u7:T1[S.length+2]?=some (.arr [.bool false] 1 1):=by rw[←hT1];exact gs t7 (by omega)
  have kU:Kp (fun x=>x=a∨x=b) S T1:=by rw[←hT1];exact kT.set _ (.inl (.inl rfl))
  have lU:T1.length=S.length+3:=by rw[←hT1];simp[lT]
  rw[hT1];clear hT1 tA tB tC t5 t6 t7 kT lT T;have hmx:(if d<at' then at' else d)=max d at':=by omega
  simp[evX,mmV,uB,u6,stS,zR,ldS,hmx];obtain ⟨T2,hT2⟩:∃T2,List.set T1 b (.arr [.int .i64 (max d at')] 1 1)=T2:=⟨_,rfl⟩;have wA:T2[a]?=some (.arr [.int .i64 (z+p.own)] 1 1):=by rw[←hT2];exact gs uA hab
  have wB:T2[b]?=some (.arr [.int .i64 (max d at')] 1 1):=by rw[←hT2,qqV (by omega)]
  have wC:T2[c]?=some (.arr [qdR a b c] 1 1):=by rw[←hT2];exact gs uC hbc.symm
  have w5:T2[S.length]?=some (.arr [p.v] 25 1):=by rw[←hT2];exact gs u5 (by omega)
  have w6:T2[S.length+1]?=some (.arr [.int .i64 at'] 1 1):=by rw[←hT2];exact gs u6 (by omega)
  have w7:T2[S.length+2]?=some (.arr [.bool false] 1 1):=by rw[←hT2];exact gs u7 (by omega)
  have kW:Kp (fun x=>x=a∨x=b) S T2:=by rw[←hT2];exact kU.set _ (.inl (.inr rfl))
  have lW:T2.length=S.length+3:=by rw[←hT2];simp[lU]
  rw[hT2];clear hT2 uA uB uC u5 u6 u7 kU lU T1;have hsz:=p.size_eq;have hdp:=p.depth_eq;by_cases g1:2000<z+p.own
  ·simp[g1,wA,stS,zR,w7];refine qf (by simp[ldS,lW];rfl) ⟨kW.set _ (.inr (by omega)),z+p.own,max d at',gs wA (by omega),gs wB (by omega),.inr ⟨rfl,?_⟩⟩;unfold mOk;have:=Pa.own_pos p;omega
  by_cases g2:60<max d at'
  ·simp[g1,g2,wA,wB,stS,zR,w7,ldS];refine qf (by simp[ldS,lW];rfl) ⟨kW.set _ (.inr (by omega)),z+p.own,max d at',gs wA (by omega),gs wB (by omega),.inr ⟨rfl,?_⟩⟩;unfold mOk;have:=Pa.depth_pos p;omega
  simp[g1,g2,wA,wB,stS,zR,w5,ldS];refine qi (qgz p T2) ?_;rintro v U ⟨rfl,rfl⟩;simp;have hkl:(p.kids.map fun q=>[q.v]).length=p.kids.length:=by simp
  refine qdu (k:=202) (fs:=[]) (cs:=[.ptr T2.length 0 0 1]) (by simp) (qbE p hp T2.length) rfl rfl rfl (by simp) (fun x=>x=a∨x=b∨x=S.length+2) ?_
   (fun i U=>MJ a b c S.length p at' (z+p.own+qK (p.kids.take i)) (max (max d at') (at'+zr (p.kids.take i))) U∧z+p.own+qK (p.kids.take i)≤2000∧max (max d at') (at'+zr (p.kids.take i))≤60)
   (fun U=>MD a b c S.length U∧¬ mOk p z at') (fun _ _=>False) ?_ ?_ ?_ ?_ (fun i U L o o' _ h hl=>⟨⟨gl h.1.ta (by simp) hl,gl h.1.tb (by simp) hl,gl h.1.tc (by simp) hl,gl h.1.t6 (by simp) hl,gl h.1.t7 (by simp) hl,gl h.1.k (by simp) hl⟩,h.2⟩)
   (fun U L o o' _ h hl=>⟨⟨let ⟨z,hz⟩:=h.1.z;⟨z,gl hz (by simp) hl⟩,let ⟨z,hz⟩:=h.1.d;⟨z,gl hz (by simp) hl⟩,gl h.1.t7 (by simp) hl⟩,h.2⟩) (fun id U L o o' _ h hl=>h.elim) ?_ ?_ ?_ ?_ ?_
  ·rintro x (rfl|rfl|rfl) <;> simp <;> omega
  ·rintro i U ⟨h,_⟩;rw[lW];exact h.k
  ·rintro i U ⟨h,h1⟩;exact fun o=>⟨h.push o,h1⟩
  ·rintro U ⟨h,h1⟩;exact fun o=>⟨h.push o,h1⟩
  ·rintro id U h;exact h.elim
  ·refine ⟨⟨gp (gp wA) |> fun h=>by simpa using h,gp (gp wB) |> fun h=>by simpa using h,gp (gp wC),gp (gp w6),gp (gp w7),?_⟩,by simp;omega,by simp;omega⟩;refine gp ?_;rw[←lW,qqU (qqY _)];simp
  ·rintro i av hav U ⟨hj,hj1,hj2⟩ hk hl;rw[qq7] at hav;obtain ⟨q,hq,rfl⟩:=qq3.1 hav;have q1:=Qq hq;have q2:=yV hq;have q3:=zK hq;have q4:=qdZ hq;have hqk:q∈p.kids:=qq1 hq;have hqw:=Pa.kid_lt hqk;have hL:(T2++[Ob.arr [p.v] 25 1]).length=S.length+4:=by simp[lW]
   simp[Env.keep] at hl;simp[QL,Env.keep,qG,stS,zR];refine Q4 (gp hl) rfl ?_;have lU:=glt hl;have nU:U.length≠T2.length+1:=by omega
   have vq:((U++[Ob.arr [q.v] 25 1]).set (T2.length+1) (.loop { st:=.busy,pend:=none,ps:=[24],asg:=(QB Tryz.f177 0).1,body:=(QB Tryz.f177 0).2,e:=[(4,V.ptr c 0 0 1),(6,V.ptr (S.length+1) 0 0 1),(7,V.ptr (S.length+2) 0 0 1)],N:=31 }))[U.length]?=some (.arr [q.v] 25 1):=gs (by simp) nU;have vL:((U++[Ob.arr [q.v] 25 1]).set (T2.length+1) (.loop { st:=.busy,pend:=none,ps:=[24],asg:=(QB Tryz.f177 0).1,body:=(QB Tryz.f177 0).2,e:=[(4,V.ptr c 0 0 1),(6,V.ptr (S.length+1) 0 0 1),(7,V.ptr (S.length+2) 0 0 1)],N:=31 }))[T2.length+1]?=some (.loop _):=qqV (by simp;omega);have vj:=(hj.push (Ob.arr [q.v] 25 1)).set (L:=T2.length+1) (.loop { st:=.busy,pend:=none,ps:=[24],asg:=(QB Tryz.f177 0).1,body:=(QB Tryz.f177 0).2,e:=[(4,V.ptr c 0 0 1),(6,V.ptr (S.length+1) 0 0 1),(7,V.ptr (S.length+2) 0 0 1)],N:=31 }) la lb lc (by omega);have vk:Kp (fun x=>(x=a∨x=b∨x=S.length+2)∨x=T2.length+1) U ((U++[Ob.arr [q.v] 25 1]).set (T2.length+1) (.loop { st:=.busy,pend:=none,ps:=[24],asg:=(QB Tryz.f177 0).1,body:=(QB Tryz.f177 0).2,e:=[(4,V.ptr c 0 0 1),(6,V.ptr (S.length+1) 0 0 1),(7,V.ptr (S.length+2) 0 0 1)],N:=31 })):=((Kp.refl _ _).push _).set _ (.inl (.inr rfl));generalize (U++[Ob.arr [q.v] 25 1]).set (T2.length+1) _=W at vq vL vj vk ⊢;have lWl:=glt vL;simp[ldS,vj.tc,vq,vj.t6,qdR,qu (n:=at'+1) (by omega) (by omega)];refine qi (ih q (by omega) (Pa.kid_ok hp hqk) (at'+1) (by omega) (by omega) a b c hab hac hbc _ _ (by omega) hj1 (by omega) hj2 W vj.ta vj.tb vj.tc) ?_;rintro v X ⟨xk,z',d',xa,xb,⟨rfl,rfl,rfl,xo⟩|⟨rfl,xo⟩⟩
   ·simp;have xo':=xo;unfold mOk at xo';refine kI ⟨rfl,rfl⟩ (.inr rfl) (xk.at vL (by omega)) (vk.trans (xk.mono fun l _ h=>.inl (h.elim .inl fun h=>.inr (.inl h)))) ⟨⟨gs xa (by omega) |>.trans ?_,gs xb (by omega) |>.trans ?_,gs (xk.at vj.tc (by omega)) (by omega),gs (xk.at vj.t6 (by omega)) (by omega),gs (xk.at vj.t7 (by omega)) (by omega),gs (xk.at vj.k (by omega)) (by omega)⟩,?_,?_⟩
    ·rw[q1];congr 4;omega
    ·rw[q2];congr 4;omega
    ·omega
    ·omega
   ·have x7:=xk.at vj.t7 (by omega);simp[stS,zR,x7];refine qbK (.inr rfl) (gs (xk.at vL (by omega)) (by omega)) ((vk.trans (xk.mono fun l _ h=>.inl (h.elim .inl fun h=>.inr (.inl h)))).set _ (.inl (.inl (.inr (.inr rfl))))) ⟨⟨⟨_,gs (gs xa (by omega)) (by omega)⟩,⟨_,gs (gs xb (by omega)) (by omega)⟩,gs (qqV (glt x7)) (by omega)⟩,?_⟩;unfold mOk at xo ⊢;omega
  ·rintro U ⟨hj,hj1,hj2⟩ hk;rw[hkl,qrP] at hj hj1 hj2;simp[stS,zR,hj.t7];refine qf (by simp[ldS,glt hj.t7];rfl) ⟨?_,_,_,gs hj.ta (by omega),gs hj.tb (by omega),.inl ⟨rfl,by omega,by omega,?_⟩⟩
   ·exact (kW.chain hk.ofPush fun l hl h=>by omega).set _ (.inr (by omega))
   ·unfold mOk;omega
  ·rintro U ⟨hj,hj1⟩ hk;obtain ⟨⟨z',hz'⟩,⟨d',hd'⟩,h7⟩:=hj;simp;refine qf (by simp[ldS,h7];rfl) ⟨?_,z',d',hz',hd',.inr ⟨rfl,hj1⟩⟩;exact kW.chain hk.ofPush fun l hl h=>by omega
  ·rintro id U h;exact h.elim
theorem qkg(p:Pa)(hp:p.ok):∀S,qt prog 150 [p.v] S (fun v U=>(∃z d:Int,v=.tup [.int .i64 z,.int .i64 d,.bool (decide p.fits)]∧(p.fits→z=p.size∧d=p.depth))∧U=S):=by
 refine Pu.intro (R:=fun v=>∃z d:Int,v=.tup [.int .i64 z,.int .i64 d,.bool (decide p.fits)]∧(p.fits→z=p.size∧d=p.depth)) func150 ok150 (by simp[c150]) (by simp[V.under]) (by rintro v ⟨z,d,rfl,_⟩;rfl) ?_;simp[c150,qG,stS,zR,ldS];refine qi (qmi _ p (qqY _) hp 1 (by omega) (by omega) 1 2 3 (by omega) (by omega) (by omega) 0 0 (by omega) (by omega) (by omega) (by omega) _ rfl rfl rfl) ?_;rintro v U ⟨hk,z,d,ha,hb,h⟩;have hfit:p.fits↔mOk p 0 1:=by unfold Pa.fits mOk;omega
 have key:v=.bool (decide p.fits)∧(p.fits→z=p.size∧d=p.depth):=by
  rcases h with ⟨rfl,h1,h2,h3⟩|⟨rfl,h3⟩
  ·rw[decide_eq_true (hfit.2 h3)];refine ⟨rfl,fun _=>⟨by omega,?_⟩⟩;have:=p.depth_pos;omega
  ·rw[decide_eq_false fun hh=>h3 (hfit.1 hh)];exact ⟨rfl,fun hh=>absurd (hfit.1 hh) h3⟩
 obtain ⟨rfl,hk2⟩:=key;simp[ldS,ha,hb,stS,zR,qhp ha,qhp hb,QZ,zW,yp];refine qa (vs:=[.int .i64 z,.int .i64 d,.bool (decide p.fits)]) (by simp[ldS,ha,hb]) ⟨z,d,rfl,hk2⟩ rfl
end Go.Proofs.YtbifpocccfkhhaaGreatDoor
end
