/- A part of it. -/
import Derived.Test.YtbifpocccfkhhaaGreatDoorKf
set_option linter.all false
noncomputable section
namespace Go.Proofs.YtbifpocccfkhhaaGreatDoor
open Go
theorem Spec.frameR{P:Program}{f:FuncId}{args:List V}{R:V→Prop}(h:Spec P f args [] (fun v U=>R v∧U=[]))(ha:∀v,v∈args→v.under 0=true)(hr:∀v,R v→v.under 0=true)(S:St):Spec P f args S (fun v U=>R v∧U=S):=by
 refine ⟨h.1,fun E w us n hs hv=>?_⟩;obtain ⟨c1,c2⟩:=hs.cut (m:=0) (fun o ho=>by simp at ho) (quj _);have c1:SR (E.cut 0) [] w:=by simpa using c1
 have hv0:VRs (E.cut 0) args us:=⟨hv.1,fun i v u h1 h2=>(hv.2 i v u h1 h2).cut (ha v (qtP h1))⟩;refine (h.2 (E.cut 0) w us n c1 hv0).mono ?_;rintro e w' ⟨u,r0,E1,S1,h1,⟨hR,rfl⟩,h3,h4,h5,h6⟩
 have hno:∀{E:En} {b:Nat},¬ own E [] b:=by
  rintro E b ⟨l,st,x,⟨o,ho,_⟩,_⟩;simp at ho
 let E':En:={ I:=E1.I,ρ:=E.ρ }
 have hle:E.le E':=⟨fun b o c hc=>h5.I b o c hc,fun _ _ _ hx=>hx⟩;have hle1:En.le (E1.cut 0) E':=⟨fun b o c hc=>hc,fun l st x hx=>by simp[En.cut] at hx⟩;have hown:∀b,own E' S b→own E S b:=fun b ⟨l,st,x,hl,hx,he⟩=>⟨l,st,x,hl,hx,he⟩
 have hI:∀b o c,E1.I b o=some c→E.I b o=some c∨w.heap.size≤b:=fun b o c hc=>by
  rcases h5.newI b o c hc with hc|hc|hc
  ·exact .inl hc
  ·exact absurd hc hno
  ·exact .inr hc
 refine ⟨u,r0,E',S,h1,⟨hR,rfl⟩,(h3.cut (hr _ hR)).mono hle1,⟨⟨h4.gl.1,h4.gl.2⟩,h4.I,fun l o hl=>?_,hs.dom,fun b o hb=>?_,fun b hb=>?_,fun l l' st st' x x' hl hl' hx hx' he=>hs.inj l l' st st' x x' hl hl' hx hx' he⟩,
  ⟨h5.size,hle.1,fun _ _ _ _ hx=>hx,fun _ _ hx=>hx,fun b hb=>.inl (hown b hb),fun b o c hc=>(hI b o c hc).imp id .inr,fun b hb _=>h5.frame b hb hno,h5.out⟩,qtH _⟩
 ·by_cases hd:o=.dead
  ·subst hd;trivial
  ·exact (hs.obs l o hl).mono hle (fun _ _ hx=>hx) fun st x hx=>h5.frame _ (hs.lt _ ⟨l,st,x,⟨o,hl,hd⟩,hx,rfl⟩) hno
 ·cases hc:E'.I b o with
  | none=>rfl
  | some c=>
   exfalso;rcases hI b o c hc with h| h
   ·rw[hs.apart b o (hown b hb)] at h;cases h
   ·have:=hs.lt b (hown b hb);omega
 ·exact quk (hs.lt b (hown b hb)) h5.size
abbrev Pu(P:Program)(k:Nat)(args:List V)(R:V→Prop):Prop:=∀S,Spec P k args S (fun v U=>R v∧U=S)
theorem Pu.intro{P:Program}{f:FuncId}{fn:Func}{f':F'}{args:List V}{R:V→Prop}(hf:P.funcs[f]?=some fn)(hc:qeK P fn=some f')(ha:args.length≤f'.N)
  (hu:(args.all fun v=>v.under 0)=true) (hr:∀v,R v→v.under 0=true) (h:WP P f'.body (endp f'.rs 0 (fun v U=>R v∧U=[])) (qbB 0 args) []):Pu P f args R:=fun S=>
 Spec.frameR (Spec.intro hf hc ha h) (fun v hv=>qtY.1 hu v hv) hr S
theorem Pu.ib{P:Program}{f:FuncId}{fn:Func}{f':F'}{args:List V}{r:V}(hf:P.funcs[f]?=some fn)(hc:qeK P fn=some f')(ha:args.length≤f'.N)(hu:(args.all fun v=>v.under 0)=true)(hr:r.under 0=true)(h:WP P f'.body (endp f'.rs 0 (fun v U=>v=r∧U=[])) (qbB 0 args) []):∀S,Fn P f args S r:=Pu.intro (R:=fun v=>v=r) hf hc ha hu (fun v hv=>hv ▸ hr) h
theorem qaa{rs:List RV}{R:V→Prop}{e:Env}{S:St}{vs:List V}(h:rvs e S rs=some vs)(hR:R (retV vs))(hu:(retV vs).under 0=true):endp rs 0 (fun v U=>R v∧U=[]) .ret e S:=
 ⟨vs,h,_,[],qa1.cut (m:=0) hu (by simp) (qtH _) (quj _),hR,rfl⟩
def qoy(P:Program)(k:Nat)(args:List V)(S:St)(Φ:V→St→Prop):Prop:=∃R:V→St→Prop,Spec P k args S R∧(∃v S',R v S')∧∀v S',R v S'→Φ v S'
def qkX(P:Program)(base:Nat)(d:Option Nat)(wr:Bool)(ds:List D)(K:Env→List St→Prop)(e:Env)(H:List St)(v:V)(S:St):Prop:=dwp P base ds K (e.put d v) S (if wr then H++[S] else H)
def dres(r:Option (V×St))(P:Program)(base:Nat)(d:Option Nat)(wr:Bool)(ds:List D)(K:Env→List St→Prop)(e:Env)(H:List St):Prop:=match r with
 | some (v,S')=>qkX P base d wr ds K e H v S'
 | none=>False
def dtgt(f:Option V)(vs:Option (List V))(P:Program)(base:Nat)(d:Option Nat)(wr:Bool)(ds:List D)(K:Env→List St→Prop)(e:Env)(S:St)(H:List St):Prop:=match f,vs with
 | some (.fn (.func k) fs cs),some vs=>qoy P k (fs++vs++cs) S (qkX P base d wr ds K e H)
 | _,_=>False
def dgd(g:Option Bool)(P:Program)(base:Nat)(d:D)(ds:List D)(K:Env→List St→Prop)(e:Env)(S:St)(H:List St):Prop:=match g with
 | none=>False
 | some false=>qkX P base d.o.dst d.w ds K e H (.tup []) S
 | some true=>dwp P base ({ d with o:={ d.o with g:=none } }::ds) K e S H
theorem qob{P:Program}{base:Nat}{d:Option Nat}{wr:Bool}{ds:List D}{K:Env→List St→Prop}{e:Env}{H:List St}{v:V}{S:St}:qkX P base d wr ds K e H v S=dwp P base ds K (e.put d v) S (if wr then H++[S] else H):=(rfl)
theorem ql4{P:Program}{base:Nat}{d:Option Nat}{wr:Bool}{ds:List D}{K:Env→List St→Prop}{e:Env}{H:List St}{v:V}{S:St}:dres (some (v,S)) P base d wr ds K e H=dwp P base ds K (e.put d v) S (if wr then H++[S] else H):=(rfl)
theorem qrX{P:Program}{k:Nat}{fs cs vs:List V}{base:Nat}{d:Option Nat}{wr:Bool}{ds:List D}{K:Env→List St→Prop}{e:Env}{S:St}{H:List St}:dtgt (some (.fn (.func k) fs cs)) (some vs) P base d wr ds K e S H=qoy P k (fs++vs++cs) S (qkX P base d wr ds K e H):=(rfl)
theorem ql2{P:Program}{base:Nat}{d:D}{ds:List D}{K:Env→List St→Prop}{e:Env}{S:St}{H:List St}:dgd (some false) P base d ds K e S H=dwp P base ds K (e.put d.o.dst (.tup [])) S (if d.w then H++[S] else H):=(rfl)
theorem qoS{P:Program}{base:Nat}{d:D}{ds:List D}{K:Env→List St→Prop}{e:Env}{S:St}{H:List St}:dgd (some true) P base d ds K e S H=dwp P base ({ d with o:={ d.o with g:=none } }::ds) K e S H:=(rfl)
theorem qqk{P:Program}{base:Nat}{K:Env→List St→Prop}{e:Env}{S:St}{H:List St}:dwp P base [] K e S H=K e H:=(rfl)
theorem ql0{P:Program}{base:Nat}{dst:Option Nat}{g:Nat×Bool}{k:K}{wr:Bool}{sl:Option Nat}{ck:Bool}{an:List Nat}{lo hi:Nat}{ds:List D}{K:Env→List St→Prop}{e:Env}{S:St}{H:List St}:
  dwp P base (⟨⟨dst,some g,k⟩,wr,sl,ck,an,lo,hi⟩::ds) K e S H=dgd (qaX e (some g)) P base ⟨⟨dst,some g,k⟩,wr,sl,ck,an,lo,hi⟩ ds K e S H:=by
 unfold dgd
 cases h:qaX e (some g) with
 | none=>simp only[dwp,h]
 | some b=>cases b <;> simp only[dwp,h] <;> rfl
theorem qot{P:Program}{base:Nat}{dst:Option Nat}{k:K}{wr:Bool}{sl:Nat}{ck:Bool}{an:List Nat}{lo hi:Nat}{ds:List D}{K:Env→List St→Prop}{e:Env}{S:St}{H:List St}:
 dwp P base (⟨⟨dst,none,k⟩,wr,some sl,ck,an,lo,hi⟩::ds) K e S H=dwp P base ds K (e.put dst (.ptr (base+sl) 0 0 1)) S (if wr then H++[S] else H):=(rfl)
theorem qoM{P:Program}{base:Nat}{dst:Option Nat}{f:Opd}{args:List Opd}{wr:Bool}{ck:Bool}{an:List Nat}{lo hi:Nat}{ds:List D}{K:Env→List St→Prop}{e:Env}{S:St}{H:List St}:
 dwp P base (⟨⟨dst,none,.call f args⟩,wr,none,ck,an,lo,hi⟩::ds) K e S H=dtgt (f.ev e) (evs e args) P base dst wr ds K e S H:=(rfl)
theorem qmK{P:Program}{base:Nat}{dst:Option Nat}{k:K}{wr:Bool}{ck:Bool}{an:List Nat}{lo hi:Nat}{ds:List D}{K:Env→List St→Prop}{e:Env}{S:St}{H:List St}(h:∀f args,k≠.call f args):
  dwp P base (⟨⟨dst,none,k⟩,wr,none,ck,an,lo,hi⟩::ds) K e S H=dres (evK e S k) P base dst wr ds K e H:=by
 cases k <;> first|rfl|exact absurd rfl (h _ _)
theorem qru{P:Program}{ds:List D}{zs:List V}{Q:Post}{e:Env}{S:St}:WP P (.draw ds zs) Q e S=dwp P S.length ds (dend S.length ds (Q .normal)) e (S++phs zs) [S++phs zs]:=(rfl)
theorem qn7{P:Program}{ds:List D}{zs:List V}{o:O'}{Q:Post}{e:Env}{S:St}:WP P (.drawl ds zs o) Q e S=dwp P S.length ds (dend S.length ds (qc2 P o Q .normal)) e (S++phs zs) [S++phs zs]:=(rfl)
theorem qfs{P:Program}{o:O'}{Q:Post}{e:Env}{S:St}:qc2 P o Q .normal e S=wops P [o] (Q .normal) e S:=(rfl)
theorem qa6{P:Program}{k:Nat}{args:List V}{S:St}{r:V}{Φ:V→St→Prop}(h:Fn P k args S r)(g:Φ r S):qoy P k args S Φ:=qd9 h g
theorem qbE{P:Program}{k:Nat}{args:List V}{S:St}{R:V→St→Prop}{Φ:V→St→Prop}(h:Spec P k args S R)(hi:∃v U,R v U)(g:∀v U,R v U→Φ v U):qoy P k args S Φ:=⟨R,h,hi,g⟩
def qqg(ds:List D):Bool:=ds.all fun d=>!(d.chk && !d.w)
theorem qgq{base:Nat}{ef:Env}{H:List St}:∀{ds:List D},qqg ds=true→qbe base ef H ds
 | [],_=>trivial
 | d::ds,h=>by
  simp only[qqg,List.all_cons,qtJ] at h;refine ⟨?_,qgq h.2⟩;have h1:=h.1
  cases hb:(d.chk && !d.w) with
  | true=>rw[hb] at h1;cases h1
  | false=>rw[if_neg (by simp)];trivial
theorem qcI{base:Nat}{ds:List D}{Q:Env→St→Prop}{ef:Env}{H:List St}{S:St}(h:qqg ds=true)(hl:H.getLast?=some S)(hq:Q ef S):dend base ds Q ef H:=by
 refine ⟨qgq h,?_⟩;rw[hl];exact hq
attribute [simp] qru qn7 qfs qob ql4 qrX ql2 qoS qqk ql0 qot qoM qmK
inductive Ex where
 | mk (kind op n man exp:Int) (text:ByteArray) (args:List Ex)
structure El where
 kind:Int
 exps:List Ex
structure Fo where
 name:ByteArray
 value:Bool
 spec:Int
 type:Int
mutual
inductive De where
 | mk (kind:Int) (own:Bool) (type:Int) (names:List ByteArray) (exps:List Ex) (formals:List Fo) (body:List Sm)
inductive Sm where
 | mk (labels:List ByteArray) (kind:Int) (text:ByteArray) (targets exps:List Ex) (elems:List El) (decls:List De) (body:List Sm)
end
namespace Ex
def kind:Ex→Int|mk k _ _ _ _ _ _=>k
def op:Ex→Int|mk _ o _ _ _ _ _=>o
def n:Ex→Int|mk _ _ n _ _ _ _=>n
def man:Ex→Int|mk _ _ _ m _ _ _=>m
def exp:Ex→Int|mk _ _ _ _ e _ _=>e
def text:Ex→ByteArray|mk _ _ _ _ _ t _=>t
def args:Ex→List Ex|mk _ _ _ _ _ _ a=>a
end Ex
namespace De
def kind:De→Int|mk k _ _ _ _ _ _=>k
def own:De→Bool|mk _ o _ _ _ _ _=>o
def type:De→Int|mk _ _ t _ _ _ _=>t
def names:De→List ByteArray|mk _ _ _ n _ _ _=>n
def exps:De→List Ex|mk _ _ _ _ e _ _=>e
def formals:De→List Fo|mk _ _ _ _ _ f _=>f
def body:De→List Sm|mk _ _ _ _ _ _ b=>b
end De
namespace Sm
def labels:Sm→List ByteArray|mk l _ _ _ _ _ _ _=>l
def kind:Sm→Int|mk _ k _ _ _ _ _ _=>k
def text:Sm→ByteArray|mk _ _ t _ _ _ _ _=>t
def targets:Sm→List Ex|mk _ _ _ t _ _ _ _=>t
def exps:Sm→List Ex|mk _ _ _ _ e _ _ _=>e
def elems:Sm→List El|mk _ _ _ _ _ e _ _=>e
def decls:Sm→List De|mk _ _ _ _ _ _ d _=>d
def body:Sm→List Sm|mk _ _ _ _ _ _ _ b=>b
end Sm
mutual
def Ex.v:Ex→V
 | .mk k o n m e t a=>.agg [.int .i64 k,.int .i64 o,.int .i64 n,.int .i64 m,.int .i64 e,.str t,.sl false (Ex.vl a)]
def Ex.vl:List Ex→List V
 | []=>[]
 | x::l=>Ex.v x::Ex.vl l
end
theorem Ex.vl_map:∀l:List Ex,Ex.vl l=l.map Ex.v
 | []=>rfl
 | x::l=>by rw[Ex.vl,Ex.vl_map l];rfl
def El.v(e:El):V:=.agg [.int .i64 e.kind,.sl false (e.exps.map Ex.v)]
def Fo.v(f:Fo):V:=.agg [.str f.name,.bool f.value,.int .i64 f.spec,.int .i64 f.type]
mutual
def De.v:De→V
 | .mk k o t n e f b=>.agg [.int .i64 k,.bool o,.int .i64 t,.sl false (n.map .str),.sl false (e.map Ex.v),.sl false (f.map Fo.v),.sl false (Sm.vl b)]
def Sm.v:Sm→V
 | .mk l k t g e f d b=>.agg [.sl false (l.map .str),.int .i64 k,.str t,.sl false (g.map Ex.v),.sl false (e.map Ex.v),.sl false (f.map El.v),.sl false (De.vl d),.sl false (Sm.vl b)]
def De.vl:List De→List V
 | []=>[]
 | x::l=>De.v x::De.vl l
def Sm.vl:List Sm→List V
 | []=>[]
 | x::l=>Sm.v x::Sm.vl l
end
theorem De.vl_map:∀l:List De,De.vl l=l.map De.v
 | []=>rfl
 | x::l=>by rw[De.vl,De.vl_map l];rfl
theorem Sm.vl_map:∀l:List Sm,Sm.vl l=l.map Sm.v
 | []=>rfl
 | x::l=>by rw[Sm.vl,Sm.vl_map l];rfl
theorem Ex.v_eq(x:Ex):x.v=.agg [.int .i64 x.kind,.int .i64 x.op,.int .i64 x.n,.int .i64 x.man,.int .i64 x.exp,.str x.text,.sl false (x.args.map Ex.v)]:=by
 cases x;simp only[Ex.v,Ex.vl_map];rfl
theorem De.v_eq(d:De):d.v=.agg [.int .i64 d.kind,.bool d.own,.int .i64 d.type,.sl false (d.names.map .str),.sl false (d.exps.map Ex.v),.sl false (d.formals.map Fo.v),.sl false (d.body.map Sm.v)]:=by
 cases d;simp only[De.v,Sm.vl_map];rfl
theorem Sm.v_eq(s:Sm):s.v=.agg [.sl false (s.labels.map .str),.int .i64 s.kind,.str s.text,.sl false (s.targets.map Ex.v),.sl false (s.exps.map Ex.v),.sl false (s.elems.map El.v),.sl false (s.decls.map De.v),.sl false (s.body.map Sm.v)]:=by
 cases s;simp only[Sm.v,Sm.vl_map,De.vl_map];rfl
theorem Ex.v_size(x:Ex):x.v.size=7:=by rw[Ex.v_eq];rfl
theorem El.v_size(x:El):x.v.size=2:=rfl
theorem Fo.v_size(x:Fo):x.v.size=4:=rfl
theorem De.v_size(x:De):x.v.size=7:=by rw[De.v_eq];rfl
theorem Sm.v_size(x:Sm):x.v.size=8:=by rw[Sm.v_eq];rfl
theorem qik{α:Type}{f:α→V}{sz:Nat}(hf:∀x,(f x).size=sz){l:List α}{i:Nat}(h:i<l.length)(b:Bool)(S:St):iaS S sz (.sl b (l.map f)) i=some (.iptr (f l[i]) 0):=by
 simp[iaS,h,hf]
theorem iaEx{l:List Ex}{i:Nat}(h:i<l.length)(b:Bool)(S:St):iaS S 7 (.sl b (l.map Ex.v)) i=some (.iptr (Ex.v l[i]) 0):=qik Ex.v_size h b S
theorem iaEl{l:List El}{i:Nat}(h:i<l.length)(b:Bool)(S:St):iaS S 2 (.sl b (l.map El.v)) i=some (.iptr (El.v l[i]) 0):=qik El.v_size h b S
theorem iaFo{l:List Fo}{i:Nat}(h:i<l.length)(b:Bool)(S:St):iaS S 4 (.sl b (l.map Fo.v)) i=some (.iptr (Fo.v l[i]) 0):=qik Fo.v_size h b S
theorem iaDe{l:List De}{i:Nat}(h:i<l.length)(b:Bool)(S:St):iaS S 7 (.sl b (l.map De.v)) i=some (.iptr (De.v l[i]) 0):=qik De.v_size h b S
theorem iaSm{l:List Sm}{i:Nat}(h:i<l.length)(b:Bool)(S:St):iaS S 8 (.sl b (l.map Sm.v)) i=some (.iptr (Sm.v l[i]) 0):=qik Sm.v_size h b S
theorem ldEx(x:Ex)(S:St):ldS S (.iptr x.v 0) (some 7)=some x.v:=by simp[ldS,V.part,Ex.v_size,V.isAgg,Ex.v_eq]
theorem ldEl(x:El)(S:St):ldS S (.iptr x.v 0) (some 2)=some x.v:=rfl
theorem ldFo(x:Fo)(S:St):ldS S (.iptr x.v 0) (some 4)=some x.v:=rfl
theorem ldDe(x:De)(S:St):ldS S (.iptr x.v 0) (some 7)=some x.v:=by simp[ldS,V.part,De.v_size,V.isAgg,De.v_eq]
theorem ldSm(x:Sm)(S:St):ldS S (.iptr x.v 0) (some 8)=some x.v:=by simp[ldS,V.part,Sm.v_size,V.isAgg,Sm.v_eq]
theorem qaI{α:Type}{f:α→V}{l:List α}(h:∀x,x∈l→(f x).under 0=true):V.underL 0 (l.map f)=true:=qfe fun v hv=>by
 obtain ⟨x,hx,rfl⟩:=qt3.1 hv;exact h x hx
mutual
theorem Ex.v_under:∀x:Ex,x.v.under 0=true
 | .mk k o n m e t a=>by simp[Ex.v,V.under,V.underL,Ex.vl_under a]
theorem Ex.vl_under:∀l:List Ex,V.underL 0 (Ex.vl l)=true
 | []=>rfl
 | x::l=>by simp[Ex.vl,V.underL,Ex.v_under x,Ex.vl_under l]
end
theorem El.v_under(x:El):x.v.under 0=true:=by simp[El.v,V.under,V.underL,qaI (f:=Ex.v) fun x _=>Ex.v_under x]
theorem Fo.v_under(x:Fo):x.v.under 0=true:=rfl
mutual
theorem De.v_under:∀x:De,x.v.under 0=true
 | .mk k o t n e f b=>by simp[De.v,V.under,V.underL,qaI (f:=Ex.v) fun x _=>Ex.v_under x,qaI (f:=Fo.v) fun x _=>Fo.v_under x,qaI (f:=V.str) (l:=n) fun x _=>rfl,Sm.vl_under b]
theorem Sm.v_under:∀x:Sm,x.v.under 0=true
 | .mk l k t g e f d b=>by simp[Sm.v,V.under,V.underL,qaI (f:=Ex.v) fun x _=>Ex.v_under x,qaI (f:=El.v) fun x _=>El.v_under x,qaI (f:=V.str) (l:=l) fun x _=>rfl,De.vl_under d,Sm.vl_under b]
theorem De.vl_under:∀l:List De,V.underL 0 (De.vl l)=true
 | []=>rfl
 | x::l=>by simp[De.vl,V.underL,De.v_under x,De.vl_under l]
theorem Sm.vl_under:∀l:List Sm,V.underL 0 (Sm.vl l)=true
 | []=>rfl
 | x::l=>by simp[Sm.vl,V.underL,Sm.v_under x,Sm.vl_under l]
end
theorem vl_under{α:Type}{f:α→V}(h:∀x,(f x).under 0=true)(b:Bool)(l:List α):(V.sl b (l.map f)).under 0=true:=by
 simp only[V.under];exact qaI fun x _=>h x
theorem qew(b:Bool)(l:List ByteArray):(V.sl b (l.map .str)).under 0=true:=vl_under (fun _=>rfl) b l
attribute [simp] Ex.v_size El.v_size Fo.v_size De.v_size Sm.v_size Ex.v_under El.v_under Fo.v_under De.v_under Sm.v_under vl_under qew ldEx ldEl ldFo ldDe ldSm
def B50:Nat:=1125899906842624
mutual
def Ex.ok:Ex→Prop
 | .mk _ _ _ _ _ t a=>t.size≤B50∧a.length≤B50∧Ex.okL a
def Ex.okL:List Ex→Prop
 | []=>True
 | x::l=>Ex.ok x∧Ex.okL l
end
theorem Ex.okL_mem:∀{l:List Ex},Ex.okL l→∀x,x∈l→x.ok
 | [],_,x,h=>by cases h
 | y::l,⟨h1,h2⟩,x,h=>by
  rcases quc.1 h with rfl| h
  ·exact h1
  ·exact Ex.okL_mem h2 x h
theorem Ex.ok_args{x:Ex}(h:x.ok):x.args.length≤B50∧Ex.okL x.args:=by cases x;exact ⟨h.2.1,h.2.2⟩
theorem Ex.ok_text{x:Ex}(h:x.ok):x.text.size≤B50:=by cases x;exact h.1
def El.ok(e:El):Prop:=e.exps.length≤B50∧Ex.okL e.exps
def okS(l:List ByteArray):Prop:=l.length≤B50∧∀s,s∈l→s.size≤B50
def Fo.ok(f:Fo):Prop:=f.name.size≤B50
mutual
def De.ok:De→Prop
 | .mk _ _ _ n e f b=>okS n∧(e.length≤B50∧Ex.okL e)∧(f.length≤B50∧∀x,x∈f→Fo.ok x)∧b.length≤B50∧Sm.okL b
def Sm.ok:Sm→Prop
 | .mk l _ t g e f d b=>okS l∧t.size≤B50∧(g.length≤B50∧Ex.okL g)∧(e.length≤B50∧Ex.okL e)∧(f.length≤B50∧∀x,x∈f→El.ok x)∧(d.length≤B50∧De.okL d)∧b.length≤B50∧Sm.okL b
def De.okL:List De→Prop
 | []=>True
 | x::l=>De.ok x∧De.okL l
def Sm.okL:List Sm→Prop
 | []=>True
 | x::l=>Sm.ok x∧Sm.okL l
end
theorem De.okL_mem:∀{l:List De},De.okL l→∀x,x∈l→x.ok
 | [],_,x,h=>by cases h
 | y::l,h,x,hx=>by
  simp only[De.okL] at h;rcases quc.1 hx with rfl|hx
  ·exact h.1
  ·exact De.okL_mem h.2 x hx
theorem Sm.okL_mem:∀{l:List Sm},Sm.okL l→∀x,x∈l→x.ok
 | [],_,x,h=>by cases h
 | y::l,h,x,hx=>by
  simp only[Sm.okL] at h;rcases quc.1 hx with rfl|hx
  ·exact h.1
  ·exact Sm.okL_mem h.2 x hx
structure De.Ok(d:De):Prop where
 names:okS d.names
 exps:d.exps.length≤B50∧Ex.okL d.exps
 formals:d.formals.length≤B50∧∀x,x∈d.formals→Fo.ok x
 body:d.body.length≤B50∧Sm.okL d.body
theorem De.ok_iff(d:De):d.ok↔d.Ok:=by
 cases d;simp only[De.ok];exact ⟨fun ⟨a,b,c,e,f⟩=>⟨a,b,c,e,f⟩,fun ⟨a,b,c,e⟩=>⟨a,b,c,e.1,e.2⟩⟩
structure Sm.Ok(s:Sm):Prop where
 labels:okS s.labels
 text:s.text.size≤B50
 targets:s.targets.length≤B50∧Ex.okL s.targets
 exps:s.exps.length≤B50∧Ex.okL s.exps
 elems:s.elems.length≤B50∧∀x,x∈s.elems→El.ok x
 decls:s.decls.length≤B50∧De.okL s.decls
 body:s.body.length≤B50∧Sm.okL s.body
theorem Sm.ok_iff(s:Sm):s.ok↔s.Ok:=by
 cases s;simp only[Sm.ok];exact ⟨fun ⟨a,b,c,e,f,g,h,i⟩=>⟨a,b,c,e,f,g,h,i⟩,fun ⟨a,b,c,e,f,g,h⟩=>⟨a,b,c,e,f,g,h.1,h.2⟩⟩
mutual
def Ex.left:Ex→Int→Int→Int
 | .mk _ _ _ _ _ _ a,deep,n=>if deep+1 > 40 then 0 else Ex.leftG a (deep+1) (n - 1)
def Ex.leftG:List Ex→Int→Int→Int
 | [],_,n=>n
 | x::l,deep,n=>if n > 0 then Ex.leftG l deep (Ex.left x deep n) else n
end
def Ex.leftL(l:List Ex)(deep n:Int):Int:=if deep > 40 then 0 else Ex.leftG l deep n
theorem Ex.left_eq(x:Ex)(deep n:Int):x.left deep n=Ex.leftL x.args (deep+1) (n - 1):=by cases x;rw[Ex.left];rfl
mutual
theorem Ex.left_le:∀(x:Ex) (deep n:Int),0<n→x.left deep n≤n - 1∧0≤x.left deep n
 | .mk _ _ _ _ _ _ a,deep,n,h=>by
  rw[Ex.left];split
  ·omega
  ·exact Ex.leftG_le a _ _ (by omega)
theorem Ex.leftG_le:∀(l:List Ex) (deep n:Int),0≤n→Ex.leftG l deep n≤n∧0≤Ex.leftG l deep n
 | [],_,n,h=>⟨Int.le_refl _,h⟩
 | x::l,deep,n,h=>by
  rw[Ex.leftG];split
  ·rename_i h0;have h1:=Ex.left_le x deep n h0;have h2:=Ex.leftG_le l deep (x.left deep n) h1.2;omega
  ·omega
end
theorem Ex.leftG_neg:∀(l:List Ex) (deep n:Int),n≤0→Ex.leftG l deep n=n
 | [],_,n,_=>rfl
 | x::l,deep,n,h=>by rw[Ex.leftG,if_neg (by omega)]
theorem Ex.leftL_le(l:List Ex)(deep n:Int)(h:0≤n):Ex.leftL l deep n≤n∧0≤Ex.leftL l deep n:=by
 unfold Ex.leftL;split
 ·omega
 ·exact Ex.leftG_le l deep n h
mutual
def De.left:De→Int→Int→Int
 | .mk _ _ _ nm e f b,deep,n=>Sm.leftG b (deep+1) (Ex.leftL e (deep+1) (n - 1 - nm.length - f.length))
def Sm.left:Sm→Int→Int→Int
 | .mk l _ _ g e f d b,deep,n=>if deep > 30 then 0 else
  Sm.leftG b (deep+1) (De.leftG d deep (El.leftG f deep (Ex.leftL g (deep+1) (Ex.leftL e (deep+1) (n - 1 - l.length)))))
def De.leftG:List De→Int→Int→Int
 | [],_,n=>n
 | x::l,deep,n=>if n > 0 then De.leftG l deep (De.left x deep n) else n
def Sm.leftG:List Sm→Int→Int→Int
 | [],_,n=>n
 | x::l,deep,n=>if n > 0 then Sm.leftG l deep (Sm.left x deep n) else n
def El.leftG:List El→Int→Int→Int
 | [],_,n=>n
 | x::l,deep,n=>if n > 0 then El.leftG l deep (Ex.leftL x.exps (deep+1) (n - 1)) else n
end
mutual
def V.weak:V→V
 | .sl _ xs=>.sl false (V.weakL xs)
 | .agg cs=>.agg (V.weakL cs)
 | .tup cs=>.tup (V.weakL cs)
 | v=>v
def V.weakL:List V→List V
 | []=>[]
 | v::vs=>V.weak v::V.weakL vs
end
theorem qaJ:∀vs:List V,V.weakL vs=vs.map V.weak
 | []=>rfl
 | v::vs=>by simp only[V.weakL,qtW,qaJ vs]
theorem qf9(v:V):v.weak.cells=v.cells.map V.weak:=by
 cases v <;> simp[V.weak,V.cells,qaJ]
theorem VR.weak{E:En}{v:V}{u:Value}(r:VR E v u):VR E v.weak u:=by
 induction r with
 | slnil x=>exact .slnil _
 | slz x a=>exact .slz _ a
 | @sl x xs b o cap sz hc hx hs hI hv ih=>
  simp only[V.weak,qaJ];have hl:(xs.map V.weak).length=xs.length:=by simp
  rw[←hl];refine .sl (sz:=sz) (by simpa using hc) (by simp) (fun v hv=>?_) (fun i j hi hj=>hI i j (by simpa using hi) hj) (fun i v j c' c h1 h2 h3=>?_)
  ·obtain ⟨y,hy,rfl⟩:=qt3.1 hv;rw[qf9,qtN];exact hs y hy
  ·rw[qtV] at h1;obtain ⟨y,hy,rfl⟩:=qtK.1 h1;rw[qf9,qtV] at h2;obtain ⟨d,hd,rfl⟩:=qtK.1 h2;exact ih i y j d c hy hd h3
 | agg hl _ ih=>
  simp only[V.weak,qaJ];refine .agg (by simpa using hl) fun i v u h1 h2=>?_
  rw[qtV] at h1;obtain ⟨y,hy,rfl⟩:=qtK.1 h1;exact ih i y u hy h2
 | tup hl _ ih=>
  simp only[V.weak,qaJ];refine .tup (by simpa using hl) fun i v u h1 h2=>?_
  rw[qtV] at h1;obtain ⟨y,hy,rfl⟩:=qtK.1 h1;exact ih i y u hy h2
 | top u=>exact .top u
 | bool b=>exact .bool b
 | int k n=>exact .int k n
 | str s=>exact .str s
 | nilp=>exact .nilp
 | ptr i off hr=>exact .ptr i off hr
 | glob g off=>exact .glob g off
 | iptr off hI hv _=>exact .iptr off hI hv
 | arr hr hN hc=>exact .arr hr hN hc
 | nilmap=>exact .nilmap
 | map hr=>exact .map hr
 | fn h1 h2 g1 g2 _ _=>exact .fn h1 h2 g1 g2
 | nilfn=>exact .nilfn
 | iface t h _=>exact .iface t h
 | niliface=>exact .niliface
 | yld hr=>exact .yld hr
theorem VRs.weak{E:En}{vs:List V}{us:Array Value}(h:VRs E vs us):VRs E (V.weakL vs) us:=by
 rw[qaJ];refine ⟨by simpa using h.1,fun i v u h1 h2=>?_⟩;rw[qtV] at h1;obtain ⟨y,hy,rfl⟩:=qtK.1 h1;exact (h.2 i y u hy h2).weak
theorem Spec.weakA{P:Program}{f:FuncId}{args:List V}{S:St}{R:V→St→Prop}(h:Spec P f (V.weakL args) S R):Spec P f args S R:=
 ⟨h.1,fun E w us n hs hv=>h.2 E w us n hs hv.weak⟩
theorem qa1.weak{n:Nat}{r:V}{S:St}:qa1 n r S r.weak S:=fun E w u hs hr hn=>⟨E,hr.weak,hs,Ext.refl _ _ _ _,hn⟩
inductive Pa where
 | st (s:Sm)
 | de (d:De)
 | el (e:El)
 | ex (x:Ex)
namespace Pa
def kids:Pa→List Pa
 | .st s=>s.targets.map .ex++(s.exps.map .ex++(s.elems.map .el++(s.decls.map .de++s.body.map .st)))
 | .de d=>d.exps.map .ex++d.body.map .st
 | .el e=>e.exps.map .ex
 | .ex x=>x.args.map .ex
def own:Pa→Nat
 | .st s=>1+s.labels.length
 | .de d=>1+d.names.length+d.formals.length
 | _=>1
def wt:Pa→Nat
 | .st s=>SizeOf.sizeOf s
 | .de d=>SizeOf.sizeOf d
 | .el e=>SizeOf.sizeOf e
 | .ex x=>SizeOf.sizeOf x
def ok:Pa→Prop
 | .st s=>s.ok
 | .de d=>d.ok
 | .el e=>e.ok
 | .ex x=>x.ok
end Pa
theorem Pa.kid_lt{p q:Pa}(h:q∈p.kids):q.wt<p.wt:=by
 cases p with
 | st s=>
  cases s;simp only[Pa.kids,quh,qt3,Sm.targets,Sm.exps,Sm.elems,Sm.decls,Sm.body] at h;rcases h with ⟨x,hx,rfl⟩|⟨x,hx,rfl⟩|⟨x,hx,rfl⟩|⟨x,hx,rfl⟩|⟨x,hx,rfl⟩
  all_goals
   have:=qus hx
   simp only[Pa.wt,Sm.mk.sizeOf_spec];omega
 | de d=>
  cases d;simp only[Pa.kids,quh,qt3,De.exps,De.body] at h;rcases h with ⟨x,hx,rfl⟩|⟨x,hx,rfl⟩
  all_goals
   have:=qus hx
   simp only[Pa.wt,De.mk.sizeOf_spec];omega
 | el e=>
  cases e;simp only[Pa.kids,qt3] at h;obtain ⟨x,hx,rfl⟩:=h;have:=qus hx;simp only[Pa.wt,El.mk.sizeOf_spec];omega
 | ex x=>
  cases x;simp only[Pa.kids,qt3,Ex.args] at h;obtain ⟨x,hx,rfl⟩:=h;have:=qus hx;simp only[Pa.wt,Ex.mk.sizeOf_spec];omega
theorem Pa.kid_ok{p q:Pa}(hp:p.ok)(h:q∈p.kids):q.ok:=by
 cases p with
 | st s=>
  have hs:=(Sm.ok_iff s).1 hp;simp only[Pa.kids,quh,qt3] at h;rcases h with ⟨x,hx,rfl⟩|⟨x,hx,rfl⟩|⟨x,hx,rfl⟩|⟨x,hx,rfl⟩|⟨x,hx,rfl⟩
  ·exact Ex.okL_mem hs.targets.2 x hx
  ·exact Ex.okL_mem hs.exps.2 x hx
  ·exact hs.elems.2 x hx
  ·exact De.okL_mem hs.decls.2 x hx
  ·exact Sm.okL_mem hs.body.2 x hx
 | de d=>
  have hs:=(De.ok_iff d).1 hp;simp only[Pa.kids,quh,qt3] at h;rcases h with ⟨x,hx,rfl⟩|⟨x,hx,rfl⟩
  ·exact Ex.okL_mem hs.exps.2 x hx
  ·exact Sm.okL_mem hs.body.2 x hx
 | el e=>
  simp only[Pa.kids,qt3] at h;obtain ⟨x,hx,rfl⟩:=h;exact Ex.okL_mem hp.2 x hx
 | ex x=>
  simp only[Pa.kids,qt3] at h;obtain ⟨y,hy,rfl⟩:=h;exact Ex.okL_mem (Ex.ok_args hp).2 y hy
def Sm.cs(s:Sm):List V:=[.sl false (s.labels.map .str),.int .i64 s.kind,.str s.text,.sl false (s.targets.map Ex.v),.sl false (s.exps.map Ex.v),.sl false (s.elems.map El.v),.sl false (s.decls.map De.v),.sl false (s.body.map Sm.v)]
def De.cs(d:De):List V:=[.int .i64 d.kind,.bool d.own,.int .i64 d.type,.sl false (d.names.map .str),.sl false (d.exps.map Ex.v),.sl false (d.formals.map Fo.v),.sl false (d.body.map Sm.v)]
def El.cs(e:El):List V:=[.int .i64 e.kind,.sl false (e.exps.map Ex.v)]
def Ex.cs(x:Ex):List V:=[.int .i64 x.kind,.int .i64 x.op,.int .i64 x.n,.int .i64 x.man,.int .i64 x.exp,.str x.text,.sl false (x.args.map Ex.v)]
def Sm.z:Sm:=.mk [] 0 ⟨⟨[]⟩⟩ [] [] [] [] []
def De.z:De:=.mk 0 false 0 [] [] [] []
def El.z:El:=⟨0,[]⟩
def Ex.z:Ex:=.mk 0 0 0 0 0 ⟨⟨[]⟩⟩ []
def paV(k:Int)(s:Sm)(d:De)(e:El)(x:Ex):V:=.agg (.int .i64 k::(s.cs++(d.cs++(e.cs++x.cs))))
namespace Pa
def kind:Pa→Int
 | .st _=>1|.de _=>2|.el _=>3|.ex _=>4
def toS:Pa→Sm|.st s=>s|_=>Sm.z
def toD:Pa→De|.de s=>s|_=>De.z
def toE:Pa→El|.el s=>s|_=>El.z
def toX:Pa→Ex|.ex s=>s|_=>Ex.z
def v(p:Pa):V:=paV p.kind p.toS p.toD p.toE p.toX
end Pa
theorem qhz(k:Int)(s:Sm)(d:De)(e:El)(x:Ex):(paV k s d e x).under 0=true:=by
 simp only[paV,Sm.cs,De.cs,El.cs,Ex.cs,V.under,V.underL,qtO,qt4,qtJ,Bool.and_true,qvp];simp only[qaI fun x _=>Ex.v_under x,qaI fun x _=>El.v_under x,qaI fun x _=>De.v_under x,qaI fun x _=>Sm.v_under x,qaI fun x _=>Fo.v_under x,qaI (f:=V.str) fun x _=>rfl,and_self]
theorem Pa.v_under(p:Pa):p.v.under 0=true:=qhz _ _ _ _ _
theorem Pa.v_size(p:Pa):p.v.size=25:=rfl
namespace Pa
def size(p:Pa):Nat:=p.own+((p.kids.attach.map fun q=>q.1.size)).sum
termination_by p.wt
decreasing_by exact Pa.kid_lt q.2
def depth(p:Pa):Nat:=1+((p.kids.attach.map fun q=>q.1.depth)).foldr max 0
termination_by p.wt
decreasing_by exact Pa.kid_lt q.2
end Pa
def qaD(l:List Pa):Nat:=(l.map Pa.size).sum
def qbl(l:List Pa):Nat:=(l.map Pa.depth).foldr max 0
theorem Pa.size_eq(p:Pa):p.size=p.own+qaD p.kids:=by
 rw[Pa.size,qaD];congr 2;exact List.attach_map_val (f:=Pa.size) ..
theorem Pa.depth_eq(p:Pa):p.depth=1+qbl p.kids:=by
 rw[Pa.depth,qbl];congr 2;exact List.attach_map_val (f:=Pa.depth) ..
@[simp] theorem sizes_nil:qaD []=0:=rfl
@[simp] theorem sizes_cons(p:Pa)(l:List Pa):qaD (p::l)=p.size+qaD l:=by simp[qaD]
@[simp] theorem depths_nil:qbl []=0:=rfl
@[simp] theorem depths_cons(p:Pa)(l:List Pa):qbl (p::l)=max p.depth (qbl l):=by simp[qbl]
theorem Pa.own_pos(p:Pa):1≤p.own:=by cases p <;> simp[Pa.own] <;> omega
theorem Pa.size_pos(p:Pa):1≤p.size:=by rw[Pa.size_eq];have:=p.own_pos;omega
theorem Pa.depth_pos(p:Pa):1≤p.depth:=by rw[Pa.depth_eq];omega
theorem qaR:∀l:List Pa,l.length≤qaD l
 | []=>quj _
 | p::l=>by have:=qaR l;have:=p.size_pos;simp only[que,sizes_cons];omega
def Ex.named(k:Int):Bool:=k==6 || k==7 || k==8
def Pa.fits(p:Pa):Prop:=p.size≤2000∧p.depth≤60
instance (p:Pa):Decidable p.fits:=inferInstanceAs (Decidable (_∧_))
theorem Pa.own_le{p:Pa}(h:p.ok):p.own≤1+B50+B50:=by
 cases p with
 | st s=>have:=((Sm.ok_iff s).1 h).labels.1;simp only[Pa.own];omega
 | de d=>have:=((De.ok_iff d).1 h).names.1;have:=((De.ok_iff d).1 h).formals.1;simp only[Pa.own];omega
 | el e=>simp only[Pa.own];omega
 | ex e=>simp only[Pa.own];omega
def mag(m:Int):Int:=if m<0 then IntKind.i64.wrap (-m) else m
def rvOk(man exp:Int):Bool:=decide (man=0∧exp=0) || (decide (1≤mag man∧mag man<16777216) && (decide (exp=-150) || (decide (8388608≤mag man) && decide (-150<exp∧exp≤150))))
def qdb(b:UInt8):Bool:=decide (32≤b.toNat∧b.toNat≤126∧b.toNat≠34)
def qcD(s:ByteArray):Bool:=s.data.toList.all qdb && decide (s.size≤80)
def qbf(t:ByteArray):Bool:=decide (t.size=0)
def Ex.vOwn(nm:ByteArray→Bool):Ex→Bool
 | .mk k o n m e t a=>
  if k=1 then decide (0≤n∧n≤2147483647) && decide (a.length=0) && decide (o=0) && (decide (m=0) && decide (e=0)) && qbf t
  else if k=2 then rvOk m e && decide (0≤m) && decide (a.length=0) && decide (o=0) && decide (n=0) && qbf t
  else if k=3∨k=4 then decide (a.length=0) && decide (o=0) && decide (n=0) && (decide (m=0) && decide (e=0)) && qbf t
  else if k=5 then qcD t && decide (a.length=0) && decide (o=0) && decide (n=0) && (decide (m=0) && decide (e=0))
  else if k=6 then nm t && decide (a.length=0) && decide (o=0) && decide (n=0) && (decide (m=0) && decide (e=0))
  else if k=7 then nm t && decide (1≤a.length∧a.length≤4) && decide (o=0) && decide (n=0) && (decide (m=0) && decide (e=0))
  else if k=8 then nm t && decide (1≤a.length∧a.length≤8) && decide (o=0) && decide (n=0) && (decide (m=0) && decide (e=0))
  else if k=9 then decide (o=1∨o=2) && decide (a.length=1) && decide (n=0) && (decide (m=0) && decide (e=0)) && qbf t
  else if k=10 then decide (3≤o∧o≤18) && decide (a.length=2) && decide (n=0) && (decide (m=0) && decide (e=0)) && qbf t
  else if k=11 then decide (a.length=3) && decide (o=0) && decide (n=0) && (decide (m=0) && decide (e=0)) && qbf t
  else false
def El.vOwn(e:El):Bool:=(decide (e.kind=1) && decide (e.exps.length=1)) || (decide (e.kind=2) && decide (e.exps.length=3)) || (decide (e.kind=3) && decide (e.exps.length=2))
def Fo.vOwn(nm:ByteArray→Bool)(f:Fo):Bool:=nm f.name &&
 (if f.spec=0∨f.spec=3∨f.spec=4∨f.spec=5 then decide (f.type=0) && !f.value
  else if f.spec=1 then decide (1≤f.type∧f.type≤3)
  else if f.spec=2 then decide (0≤f.type∧f.type≤3) && (!f.value || decide (f.type≠0))
  else if f.spec=6 then decide (0≤f.type∧f.type≤3) && !f.value
  else false)
def qbv(nm:ByteArray→Bool):List Fo→List ByteArray→Bool
 | [],_=>true
 | f::l,had=>f.vOwn nm && !(had.any fun x=>decide (x=f.name)) && qbv nm l (had++[f.name])
def De.vOwn(nm:ByteArray→Bool):De→Bool
 | .mk k o t n e f b=>n.all nm &&
  (if k=1 then decide (1≤n.length) && decide (e.length=0) && decide (f.length=0) && decide (b.length=0) && decide (1≤t∧t≤3)
   else if k=2 then decide (1≤n.length) && decide (2≤e.length∧e.length≤8) && decide (e.length % 2=0) && decide (f.length=0) && decide (b.length=0) && decide (1≤t∧t≤3)
   else if k=3 then decide (n.length=1) && decide (1≤e.length) && decide (f.length=0) && decide (b.length=0) && !o && decide (t=0)
   else if k=4 then decide (n.length=1) && decide (e.length=0) && decide (b.length=1) && decide (f.length≤8) && !o && decide (0≤t∧t≤3) && qbv nm f []
   else false)
def Ex.tgt(x:Ex):Bool:=decide (x.kind=6∨x.kind=7)
def Sm.noIf:List Sm→Bool
 | []=>false
 | s::_=>decide (s.kind≠4∧s.kind≠5)
def Sm.vOwn(nm:ByteArray→Bool):Sm→Bool
 | .mk l k t g e h d b=>l.all nm && g.all Ex.tgt &&
  (if k=1 then decide (g.length=0) && decide (e.length=0) && decide (h.length=0) && decide (d.length=0) && decide (b.length=0) && qbf t
   else if k=2 then decide (1≤g.length) && decide (e.length=1) && decide (h.length=0) && decide (d.length=0) && decide (b.length=0) && qbf t
   else if k=3 then decide (g.length=0) && decide (e.length=1) && decide (h.length=0) && decide (d.length=0) && decide (b.length=0) && qbf t
   else if k=4 then decide (g.length=0) && decide (e.length=1) && decide (h.length=0) && decide (d.length=0) && decide (1≤b.length∧b.length≤2) && qbf t && Sm.noIf b
   else if k=5 then decide (g.length=1) && decide (e.length=0) && decide (1≤h.length) && decide (d.length=0) && decide (b.length=1) && qbf t
   else if k=6 then decide (g.length=0) && decide (e.length≤8) && decide (h.length=0) && decide (d.length=0) && decide (b.length=0) && nm t
   else if k=7 then decide (g.length=0) && decide (e.length=0) && decide (h.length=0) && decide (1≤d.length) && decide (1≤b.length) && qbf t
   else if k=8 then decide (g.length=0) && decide (e.length=0) && decide (h.length=0) && decide (d.length=0) && decide (1≤b.length) && qbf t
   else false)
def Pa.vOwn(nm:ByteArray→Bool):Pa→Bool
 | .st s=>s.vOwn nm
 | .de d=>d.vOwn nm
 | .el e=>e.vOwn
 | .ex x=>x.vOwn nm
def Pa.valid(nm:ByteArray→Bool)(p:Pa):Bool:=p.vOwn nm && (p.kids.attach.all fun q=>q.1.valid nm)
termination_by p.wt
decreasing_by exact Pa.kid_lt q.2
theorem Pa.valid_eq(nm:ByteArray→Bool)(p:Pa):p.valid nm=(p.vOwn nm && p.kids.all (Pa.valid nm)):=by
 rw[Pa.valid];congr 1;rw[qui,qtY,qtY];exact ⟨fun h q hq=>h ⟨q,hq⟩ (List.mem_attach _ _),fun h q _=>h q.1 q.2⟩
theorem Pa.valid_iff{nm:ByteArray→Bool}{p:Pa}:p.valid nm=true↔p.vOwn nm=true∧∀q,q∈p.kids→q.valid nm=true:=by
 rw[Pa.valid_eq,qtJ,qtY]
def Pa.err(nm:ByteArray→Bool)(p:Pa):Int:=if p.fits then (if p.valid nm=true then 0 else 1) else 2
theorem Ex.valid_args{nm:ByteArray→Bool}{x:Ex}(h:(Pa.ex x).valid nm=true):∀y,y∈x.args→(Pa.ex y).valid nm=true:=fun y hy=>(Pa.valid_iff.1 h).2 _ (by simp only[Pa.kids,qt3];exact ⟨y,hy,rfl⟩)
theorem Ex.valid_text{nm:ByteArray→Bool}{x:Ex}(h:(Pa.ex x).valid nm=true)(hk:Ex.named x.kind=true):nm x.text=true:=by
 have h1:=(Pa.valid_iff.1 h).1
 cases x with
 | mk k o n m e t a=>
  simp only[Ex.kind,Ex.text] at *;simp only[Pa.vOwn,Ex.vOwn] at h1;have hk:k=6∨k=7∨k=8:=by simpa[Ex.named,or_assoc] using hk
  rcases hk with rfl|rfl|rfl <;> simp at h1 <;> simp[h1]
abbrev Sco:=List (ByteArray×Nat)
abbrev Scs:=List Sco
def Sco.at(s:Sco)(x:ByteArray):Option Nat:=(s.find? fun p=>decide (p.1=x)).map (·.2)
def Scs.at:Scs→ByteArray→Option Nat
 | [],_=>none
 | s::r,x=>match Sco.at s x with
  | some k=>some k
  | none=>Scs.at r x
def binds:List ByteArray→Sco→Nat→Sco
 | [],s,_=>s
 | x::l,s,n=>if (s.at x).isSome then binds l s n else binds l (s++[(x,n)]) (n+1)
def qae(l:List ByteArray)(n:Nat):Sco:=binds l [] n
def qak(l:List Sm):List ByteArray:=l.flatMap Sm.labels
def qai(d:List De)(b:List Sm):List ByteArray:=d.flatMap De.names++qak b
def reto(f:Nat→ByteArray)(sc:Scs)(x:ByteArray):ByteArray:=match sc.at x with
 | some k=>f k
 | none=>x
mutual
def Ex.w(f:Nat→ByteArray)(sc:Scs):Ex→Ex
 | .mk k o n m e t a=>.mk k o n m e (if Ex.named k then reto f sc t else t) (Ex.wl f sc a)
def Ex.wl(f:Nat→ByteArray)(sc:Scs):List Ex→List Ex
 | []=>[]
 | x::l=>Ex.w f sc x::Ex.wl f sc l
end
theorem Ex.wl_map(f:Nat→ByteArray)(sc:Scs):∀l,Ex.wl f sc l=l.map (Ex.w f sc)
 | []=>rfl
 | x::l=>by rw[Ex.wl,Ex.wl_map f sc l];rfl
def El.w(f:Nat→ByteArray)(sc:Scs)(e:El):El:=⟨e.kind,e.exps.map (Ex.w f sc)⟩
def Fo.w(f:Nat→ByteArray)(sc:Scs)(x:Fo):Fo:=⟨reto f sc x.name,x.value,x.spec,x.type⟩
mutual
def Sm.nb:Sm→Nat
 | .mk _ k _ _ _ _ d b=>if k=7 then (qae (qai d b) 0).length+De.nbl d+Sm.nbl b else if k=8 then (qae (qak b) 0).length+Sm.nbl b else Sm.nb1 b
def De.nb:De→Nat
 | .mk k _ _ _ _ f b=>if k=4 then (qae (f.map Fo.name) 0).length+Sm.nb1 b else 0
def De.nbl:List De→Nat
 | []=>0
 | x::l=>De.nb x+De.nbl l
def Sm.nbl:List Sm→Nat
 | []=>0
 | x::l=>Sm.nb x+Sm.nbl l
def Sm.nb1:List Sm→Nat
 | []=>0
 | x::l=>(qae x.labels 0).length+Sm.nb x+Sm.nb1 l
end
mutual
def Sm.w(f:Nat→ByteArray)(sc:Scs)(n:Nat):Sm→Sm
 | .mk l k t g e h d b=>
  if k=7 then
   .mk (l.map (reto f sc)) k t [] [] [] (De.wl f (qae (qai d b) n::sc) sc (n+(qae (qai d b) n).length) d) (Sm.wl f (qae (qai d b) n::sc) (n+(qae (qai d b) n).length+De.nbl d) b)
  else if k=8 then
   .mk (l.map (reto f sc)) k t [] [] [] [] (Sm.wl f (qae (qak b) n::sc) (n+(qae (qak b) n).length) b)
  else .mk (l.map (reto f sc)) k (if k=6 then reto f sc t else t) (Ex.wl f sc g) (Ex.wl f sc e) (h.map (El.w f sc)) [] (Sm.w1 f sc n b)
def De.w(f:Nat→ByteArray)(own sc:Scs)(n:Nat):De→De
 | .mk k o t nm e fo b=>
  if k=4 then .mk k o t (nm.map (reto f own)) [] (fo.map (Fo.w f (qae (fo.map Fo.name) n::own))) (Sm.w1 f (qae (fo.map Fo.name) n::own) (n+(qae (fo.map Fo.name) n).length) b)
  else .mk k o t (nm.map (reto f own)) (Ex.wl f (if k=2 then sc else own) e) [] []
def De.wl(f:Nat→ByteArray)(own sc:Scs)(n:Nat):List De→List De
 | []=>[]
 | x::l=>De.w f own sc n x::De.wl f own sc (n+De.nb x) l
def Sm.wl(f:Nat→ByteArray)(sc:Scs)(n:Nat):List Sm→List Sm
 | []=>[]
 | x::l=>Sm.w f sc n x::Sm.wl f sc (n+Sm.nb x) l
def Sm.w1(f:Nat→ByteArray)(sc:Scs)(n:Nat):List Sm→List Sm
 | []=>[]
 | x::l=>Sm.w f (qae x.labels n::sc) (n+(qae x.labels n).length) x::Sm.w1 f sc (n+(qae x.labels n).length+Sm.nb x) l
end
def Sm.whole(f:Nat→ByteArray)(s:Sm):Sm:=s.w f [qae s.labels 0] (qae s.labels 0).length
theorem qa5:∀(l m:List Pa),qaD (l++m)=qaD l+qaD m
 | [],m=>by simp
 | p::l,m=>by simp only[qtO,sizes_cons,qa5 l m];omega
theorem qbO:∀(l m:List Pa),qbl (l++m)=max (qbl l) (qbl m)
 | [],m=>by simp
 | p::l,m=>by simp only[qtO,depths_cons,qbO l m];omega
def Pa.le(p q:Pa):Prop:=p.size≤q.size∧p.depth≤q.depth
theorem Pa.le_of{p q:Pa}(ho:p.own≤q.own)(hs:qaD p.kids≤qaD q.kids)(hd:qbl p.kids≤qbl q.kids):p.le q:=by
 unfold Pa.le;rw[Pa.size_eq,Pa.size_eq q,Pa.depth_eq,Pa.depth_eq q];omega
def lesL(l m:List Pa):Prop:=qaD l≤qaD m∧qbl l≤qbl m
theorem qbp(m:List Pa):lesL [] m:=⟨quj _,quj _⟩
theorem qbt{a b c d:List Pa}(h:lesL a b)(g:lesL c d):lesL (a++c) (b++d):=by
 unfold lesL at *;rw[qa5,qa5,qbO,qbO];omega
theorem qdq{p q:Pa}{l m:List Pa}(h:p.le q)(g:lesL l m):lesL (p::l) (q::m):=by
 unfold lesL Pa.le at *;rw[sizes_cons,sizes_cons,depths_cons,depths_cons];omega
theorem Pa.le_of'{p q:Pa}(ho:p.own≤q.own)(h:lesL p.kids q.kids):p.le q:=Pa.le_of ho h.1 h.2
mutual
theorem Ex.w_le(f:Nat→ByteArray)(sc:Scs):∀x:Ex,(Pa.ex (x.w f sc)).le (.ex x)
 | .mk k o n m e t a=>Pa.le_of' (qtH _) (by simp only[Ex.w,Pa.kids,Ex.args];exact Ex.wl_le f sc a)
theorem Ex.wl_le(f:Nat→ByteArray)(sc:Scs):∀l:List Ex,lesL ((Ex.wl f sc l).map Pa.ex) (l.map Pa.ex)
 | []=>qbp _
 | x::l=>qdq (Ex.w_le f sc x) (Ex.wl_le f sc l)
end
theorem El.w_le(f:Nat→ByteArray)(sc:Scs)(e:El):(Pa.el (e.w f sc)).le (.el e):=Pa.le_of' (qtH _) (by
 have:=Ex.wl_le f sc e.exps;rw[Ex.wl_map] at this;exact this)
theorem Els.w_le(f:Nat→ByteArray)(sc:Scs):∀l:List El,lesL ((l.map (El.w f sc)).map Pa.el) (l.map Pa.el)
 | []=>qbp _
 | x::l=>qdq (El.w_le f sc x) (Els.w_le f sc l)
mutual
theorem Sm.w_le(f:Nat→ByteArray):∀(s:Sm) (sc:Scs) (n:Nat),(Pa.st (s.w f sc n)).le (.st s)
 | .mk l k t g e h d b,sc,n=>by
  simp only[Sm.w];split
  ·refine Pa.le_of' (by simp[Pa.own,Sm.labels]) ?_;simp only[Pa.kids,Sm.targets,Sm.exps,Sm.elems,Sm.decls,Sm.body,quG];exact qbt (qbp _) (qbt (qbp _) (qbt (qbp _) (qbt (De.wl_le f d _ _ _) (Sm.wl_le f b _ _))))
  ·split
   ·refine Pa.le_of' (by simp[Pa.own,Sm.labels]) ?_;simp only[Pa.kids,Sm.targets,Sm.exps,Sm.elems,Sm.decls,Sm.body,quG];exact qbt (qbp _) (qbt (qbp _) (qbt (qbp _) (qbt (qbp _) (Sm.wl_le f b _ _))))
   ·refine Pa.le_of' (by simp[Pa.own,Sm.labels]) ?_;simp only[Pa.kids,Sm.targets,Sm.exps,Sm.elems,Sm.decls,Sm.body,quG];exact qbt (Ex.wl_le f sc g) (qbt (Ex.wl_le f sc e) (qbt (Els.w_le f sc h) (qbt (qbp _) (Sm.w1_le f b _ _))))
theorem De.w_le(f:Nat→ByteArray):∀(d:De) (own sc:Scs) (n:Nat),(Pa.de (d.w f own sc n)).le (.de d)
 | .mk k o t nm e fo b,own,sc,n=>by
  simp only[De.w];split
  ·refine Pa.le_of' (by simp[Pa.own,De.names,De.formals]) ?_;simp only[Pa.kids,De.exps,De.body,quG];exact qbt (qbp _) (Sm.w1_le f b _ _)
  ·refine Pa.le_of' (by simp[Pa.own,De.names,De.formals]) ?_;simp only[Pa.kids,De.exps,De.body,quG];exact qbt (Ex.wl_le f _ e) (qbp _)
theorem De.wl_le(f:Nat→ByteArray):∀(l:List De) (own sc:Scs) (n:Nat),lesL ((De.wl f own sc n l).map Pa.de) (l.map Pa.de)
 | [],_,_,_=>qbp _
 | x::l,own,sc,n=>qdq (De.w_le f x own sc n) (De.wl_le f l _ _ _)
theorem Sm.wl_le(f:Nat→ByteArray):∀(l:List Sm) (sc:Scs) (n:Nat),lesL ((Sm.wl f sc n l).map Pa.st) (l.map Pa.st)
 | [],_,_=>qbp _
 | x::l,sc,n=>qdq (Sm.w_le f x sc n) (Sm.wl_le f l _ _)
theorem Sm.w1_le(f:Nat→ByteArray):∀(l:List Sm) (sc:Scs) (n:Nat),lesL ((Sm.w1 f sc n l).map Pa.st) (l.map Pa.st)
 | [],_,_=>qbp _
 | x::l,sc,n=>qdq (Sm.w_le f x _ _) (Sm.w1_le f l _ _)
end
theorem Sm.whole_fits(f:Nat→ByteArray)(s:Sm)(h:(Pa.st s).fits):(Pa.st (s.whole f)).fits:=by
 have:=Sm.w_le f s [qae s.labels 0] (qae s.labels 0).length;unfold Pa.fits Pa.le at *;unfold Sm.whole;omega
structure Namer(nm:ByteArray→Bool)(f g:Nat→ByteArray):Prop where
 f1:∀i j,f i=f j→i=j
 g1:∀i j,g i=g j→i=j
 f2:∀i,nm (f i)=false
 g2:∀i,nm (g i)=false
section
variable {nm:ByteArray→Bool} {f g:Nat→ByteArray} (N:Namer nm f g)
include N
theorem qe6{sc sc':Scs}{x y:ByteArray}(hx:nm x=true)(hy:nm y=true):reto f sc x=reto f sc' y↔reto g sc x=reto g sc' y:=by
 unfold reto;cases sc.at x <;> cases sc'.at y <;> simp only
 ·constructor <;> intro h
  ·rw[h] at hx;rw[N.f2] at hx;cases hx
  ·rw[h] at hx;rw[N.g2] at hx;cases hx
 ·constructor <;> intro h
  ·rw[←h] at hy;rw[N.f2] at hy;cases hy
  ·rw[←h] at hy;rw[N.g2] at hy;cases hy
 ·exact ⟨fun h=>by rw[N.f1 _ _ h],fun h=>by rw[N.g1 _ _ h]⟩
theorem qfU{sc sc':Scs}:∀{l l':List ByteArray},(∀x,x∈l→nm x=true)→(∀x,x∈l'→nm x=true)→(l.map (reto f sc)=l'.map (reto f sc')↔l.map (reto g sc)=l'.map (reto g sc'))
 | [],[],_,_=>by simp
 | [],_::_,_,_=>by simp
 | _::_,[],_,_=>by simp
 | x::l,y::l',h,h'=>by
  simp only[qtW,List.cons.injEq];rw[qe6 N (h x (by simp)) (h' y (by simp)),qfU (fun x hx=>h x (by simp[hx])) fun x hx=>h' x (by simp[hx])]
mutual
theorem Ex.w_iff{sc sc':Scs}:∀(a b:Ex),(Pa.ex a).valid nm=true→(Pa.ex b).valid nm=true→(a.w f sc=b.w f sc'↔a.w g sc=b.w g sc')
 | .mk k o n m e t a,.mk k' o' n' m' e' t' a',h,h'=>by
  have h1:=Ex.wl_iff (sc:=sc) (sc':=sc') a a' (Ex.valid_args h) (Ex.valid_args h');simp only[Ex.w,Ex.mk.injEq,h1];by_cases hk:k=k'
  ·subst hk;cases hn:Ex.named k
   ·simp
   ·have h2:=qe6 N (sc:=sc) (sc':=sc') (Ex.valid_text h hn) (Ex.valid_text h' hn);simp only[Ex.text] at h2;simp[h2]
  ·simp[hk]
theorem Ex.wl_iff{sc sc':Scs}:∀(l l':List Ex),(∀x,x∈l→(Pa.ex x).valid nm=true)→(∀x,x∈l'→(Pa.ex x).valid nm=true)→(Ex.wl f sc l=Ex.wl f sc' l'↔Ex.wl g sc l=Ex.wl g sc' l')
 | [],[],_,_=>by simp[Ex.wl]
 | [],_::_,_,_=>by simp[Ex.wl]
 | _::_,[],_,_=>by simp[Ex.wl]
 | x::l,y::l',h,h'=>by
  simp only[Ex.wl,List.cons.injEq];rw[Ex.w_iff x y (h x (by simp)) (h' y (by simp)),Ex.wl_iff l l' (fun x hx=>h x (by simp[hx])) fun x hx=>h' x (by simp[hx])]
end
theorem El.w_iff{sc sc':Scs}(a b:El)(h:(Pa.el a).valid nm=true)(h':(Pa.el b).valid nm=true):a.w f sc=b.w f sc'↔a.w g sc=b.w g sc':=by
 have hk:∀{e:El},(Pa.el e).valid nm=true→∀x,x∈e.exps→(Pa.ex x).valid nm=true:=fun he x hx=>(Pa.valid_iff.1 he).2 _ (by simp only[Pa.kids,qt3];exact ⟨x,hx,rfl⟩)
 have:=Ex.wl_iff N (sc:=sc) (sc':=sc') a.exps b.exps (hk h) (hk h');simp only[Ex.wl_map] at this;simp only[El.w,El.mk.injEq,this]
theorem Els.w_iff{sc sc':Scs}:∀(l l':List El),(∀x,x∈l→(Pa.el x).valid nm=true)→(∀x,x∈l'→(Pa.el x).valid nm=true)→(l.map (El.w f sc)=l'.map (El.w f sc')↔l.map (El.w g sc)=l'.map (El.w g sc'))
 | [],[],_,_=>by simp
 | [],_::_,_,_=>by simp
 | _::_,[],_,_=>by simp
 | x::l,y::l',h,h'=>by
  simp only[qtW,List.cons.injEq];rw[El.w_iff N x y (h x (by simp)) (h' y (by simp)),Els.w_iff l l' (fun x hx=>h x (by simp[hx])) fun x hx=>h' x (by simp[hx])]
theorem Fo.w_iff{sc sc':Scs}(a b:Fo)(h:nm a.name=true)(h':nm b.name=true):a.w f sc=b.w f sc'↔a.w g sc=b.w g sc':=by
 simp only[Fo.w,Fo.mk.injEq,qe6 N (sc:=sc) (sc':=sc') h h']
theorem Fos.w_iff{sc sc':Scs}:∀(l l':List Fo),(∀x,x∈l→nm x.name=true)→(∀x,x∈l'→nm x.name=true)→(l.map (Fo.w f sc)=l'.map (Fo.w f sc')↔l.map (Fo.w g sc)=l'.map (Fo.w g sc'))
 | [],[],_,_=>by simp
 | [],_::_,_,_=>by simp
 | _::_,[],_,_=>by simp
 | x::l,y::l',h,h'=>by
  simp only[qtW,List.cons.injEq];rw[Fo.w_iff N x y (h x (by simp)) (h' y (by simp)),Fos.w_iff l l' (fun x hx=>h x (by simp[hx])) fun x hx=>h' x (by simp[hx])]
end
theorem qfQ{nm:ByteArray→Bool}:∀{l:List Fo} {had:List ByteArray},qbv nm l had=true→∀x,x∈l→nm x.name=true
 | f::l,had,h,x,hx=>by
  simp only[qbv,qtJ] at h;rcases quc.1 hx with rfl|hx
  ·have:=h.1.1;simp only[Fo.vOwn,qtJ] at this;exact this.1
  ·exact qfQ h.2 x hx
theorem De.valid_names{nm:ByteArray→Bool}{d:De}(h:(Pa.de d).valid nm=true):∀x,x∈d.names→nm x=true:=by
 have h1:=(Pa.valid_iff.1 h).1;cases d;simp only[Pa.vOwn,De.vOwn,qtJ,qtY] at h1;exact h1.1
theorem De.valid_formals{nm:ByteArray→Bool}{d:De}(h:(Pa.de d).valid nm=true):∀x,x∈d.formals→nm x.name=true:=by
 have h1:=(Pa.valid_iff.1 h).1
 cases d with
 | mk k o t n e f b=>
  simp only[Pa.vOwn,De.vOwn,qtJ] at h1;have h1:=h1.2;simp only[De.formals];split at h1
  ·simp at h1;have:f=[]:=by simp[h1]
   subst this;simp
  split at h1
  ·simp at h1;have:f=[]:=by simp[h1]
   subst this;simp
  split at h1
  ·simp at h1;have:f=[]:=by simp[h1]
   subst this;simp
  split at h1
  ·simp only[qtJ] at h1;exact qfQ h1.2
  ·cases h1
theorem De.valid_exps{nm:ByteArray→Bool}{d:De}(h:(Pa.de d).valid nm=true):∀x,x∈d.exps→(Pa.ex x).valid nm=true:=fun x hx=>(Pa.valid_iff.1 h).2 _ (by simp only[Pa.kids,quh,qt3];exact .inl ⟨x,hx,rfl⟩)
theorem De.valid_body{nm:ByteArray→Bool}{d:De}(h:(Pa.de d).valid nm=true):∀x,x∈d.body→(Pa.st x).valid nm=true:=fun x hx=>(Pa.valid_iff.1 h).2 _ (by simp only[Pa.kids,quh,qt3];exact .inr ⟨x,hx,rfl⟩)
theorem Sm.valid_labels{nm:ByteArray→Bool}{s:Sm}(h:(Pa.st s).valid nm=true):∀x,x∈s.labels→nm x=true:=by
 have h1:=(Pa.valid_iff.1 h).1;cases s;simp only[Pa.vOwn,Sm.vOwn,qtJ,qtY] at h1;exact h1.1.1
theorem Sm.valid_text{nm:ByteArray→Bool}{s:Sm}(h:(Pa.st s).valid nm=true)(hk:s.kind=6):nm s.text=true:=by
 have h1:=(Pa.valid_iff.1 h).1;cases s;simp only[Sm.kind] at hk;subst hk;simp[Pa.vOwn,Sm.vOwn] at h1;simp[Sm.text,h1]
theorem Sm.valid_targets{nm:ByteArray→Bool}{s:Sm}(h:(Pa.st s).valid nm=true):∀x,x∈s.targets→(Pa.ex x).valid nm=true:=fun x hx=>(Pa.valid_iff.1 h).2 _ (by simp only[Pa.kids,quh,qt3];exact .inl ⟨x,hx,rfl⟩)
theorem Sm.valid_exps{nm:ByteArray→Bool}{s:Sm}(h:(Pa.st s).valid nm=true):∀x,x∈s.exps→(Pa.ex x).valid nm=true:=fun x hx=>(Pa.valid_iff.1 h).2 _ (by simp only[Pa.kids,quh,qt3];exact .inr (.inl ⟨x,hx,rfl⟩))
theorem Sm.valid_elems{nm:ByteArray→Bool}{s:Sm}(h:(Pa.st s).valid nm=true):∀x,x∈s.elems→(Pa.el x).valid nm=true:=fun x hx=>(Pa.valid_iff.1 h).2 _ (by simp only[Pa.kids,quh,qt3];exact .inr (.inr (.inl ⟨x,hx,rfl⟩)))
theorem Sm.valid_decls{nm:ByteArray→Bool}{s:Sm}(h:(Pa.st s).valid nm=true):∀x,x∈s.decls→(Pa.de x).valid nm=true:=fun x hx=>(Pa.valid_iff.1 h).2 _ (by simp only[Pa.kids,quh,qt3];exact .inr (.inr (.inr (.inl ⟨x,hx,rfl⟩))))
theorem Sm.valid_body{nm:ByteArray→Bool}{s:Sm}(h:(Pa.st s).valid nm=true):∀x,x∈s.body→(Pa.st x).valid nm=true:=fun x hx=>(Pa.valid_iff.1 h).2 _ (by simp only[Pa.kids,quh,qt3];exact .inr (.inr (.inr (.inr ⟨x,hx,rfl⟩))))
section
variable {nm:ByteArray→Bool} {f g:Nat→ByteArray} (N:Namer nm f g)
include N
mutual
theorem Sm.w_iff:∀(a b:Sm) (sc sc':Scs) (n n':Nat),(Pa.st a).valid nm=true→(Pa.st b).valid nm=true→(a.w f sc n=b.w f sc' n'↔a.w g sc n=b.w g sc' n')
 | .mk l k t gs e h d b,.mk l' k' t' gs' e' h' d' b',sc,sc',n,n',va,vb=>by
  have hl:=qfU N (sc:=sc) (sc':=sc') (Sm.valid_labels va) (Sm.valid_labels vb);simp only[Sm.labels] at hl;by_cases hk:k=k'
  ·subst hk;by_cases h7:k=7
   ·have hd:=De.wl_iff d d' (qae (qai d b) n::sc) (qae (qai d' b') n'::sc') sc sc' (n+(qae (qai d b) n).length) (n'+(qae (qai d' b') n').length) (Sm.valid_decls va) (Sm.valid_decls vb);have hb:=Sm.wl_iff b b' (qae (qai d b) n::sc) (qae (qai d' b') n'::sc') (n+(qae (qai d b) n).length+De.nbl d) (n'+(qae (qai d' b') n').length+De.nbl d') (Sm.valid_body va) (Sm.valid_body vb);simp only[Sm.w,if_pos h7,Sm.mk.injEq,hl,hd,hb]
   ·by_cases h8:k=8
    ·have hb:=Sm.wl_iff b b' (qae (qak b) n::sc) (qae (qak b') n'::sc') (n+(qae (qak b) n).length) (n'+(qae (qak b') n').length) (Sm.valid_body va) (Sm.valid_body vb);simp only[Sm.w,if_neg h7,if_pos h8,Sm.mk.injEq,hl,hb]
    ·have hg:=Ex.wl_iff N (sc:=sc) (sc':=sc') gs gs' (Sm.valid_targets va) (Sm.valid_targets vb);have he:=Ex.wl_iff N (sc:=sc) (sc':=sc') e e' (Sm.valid_exps va) (Sm.valid_exps vb);have hh:=Els.w_iff N (sc:=sc) (sc':=sc') h h' (Sm.valid_elems va) (Sm.valid_elems vb);have hb:=Sm.w1_iff b b' sc sc' n n' (Sm.valid_body va) (Sm.valid_body vb);by_cases h6:k=6
     ·have ht:=qe6 N (sc:=sc) (sc':=sc') (Sm.valid_text va h6) (Sm.valid_text vb h6);simp only[Sm.text] at ht;simp only[Sm.w,if_neg h7,if_neg h8,if_pos h6,Sm.mk.injEq,hl,hg,he,hh,hb,ht]
     ·simp only[Sm.w,if_neg h7,if_neg h8,if_neg h6,Sm.mk.injEq,hl,hg,he,hh,hb]
  ·have hkind:∀(f:Nat→ByteArray) (s:Sm) (sc:Scs) (n:Nat),(s.w f sc n).kind=s.kind:=fun f s sc n=>by
    cases s;simp only[Sm.w];split
    ·rfl
    ·split <;> rfl
   have no:∀f:Nat→ByteArray,¬ (Sm.mk l k t gs e h d b).w f sc n=(Sm.mk l' k' t' gs' e' h' d' b').w f sc' n':=fun f hh=>hk (by
    have:=congrArg Sm.kind hh;rw[hkind,hkind] at this;exact this)
   exact ⟨fun hh=>absurd hh (no f),fun hh=>absurd hh (no g)⟩
theorem De.w_iff:∀(a b:De) (own own' sc sc':Scs) (n n':Nat),(Pa.de a).valid nm=true→(Pa.de b).valid nm=true→(a.w f own sc n=b.w f own' sc' n'↔a.w g own sc n=b.w g own' sc' n')
 | .mk k o t ns e fo b,.mk k' o' t' ns' e' fo' b',own,own',sc,sc',n,n',va,vb=>by
  have hl:=qfU N (sc:=own) (sc':=own') (De.valid_names va) (De.valid_names vb);simp only[De.names] at hl;by_cases hk:k=k'
  ·subst hk;by_cases h4:k=4
   ·have hf:=Fos.w_iff N (sc:=qae (fo.map Fo.name) n::own) (sc':=qae (fo'.map Fo.name) n'::own') fo fo' (De.valid_formals va) (De.valid_formals vb);have hb:=Sm.w1_iff b b' (qae (fo.map Fo.name) n::own) (qae (fo'.map Fo.name) n'::own') (n+(qae (fo.map Fo.name) n).length) (n'+(qae (fo'.map Fo.name) n').length) (De.valid_body va) (De.valid_body vb);simp only[De.w,if_pos h4,De.mk.injEq,hl,hf,hb]
   ·have he:=Ex.wl_iff N (sc:=if k=2 then sc else own) (sc':=if k=2 then sc' else own') e e' (De.valid_exps va) (De.valid_exps vb);simp only[De.w,if_neg h4,De.mk.injEq,hl,he]
  ·have hkind:∀(f:Nat→ByteArray) (s:De) (own sc:Scs) (n:Nat),(s.w f own sc n).kind=s.kind:=fun f s own sc n=>by
    cases s;simp only[De.w];split <;> rfl
   have no:∀f:Nat→ByteArray,¬ (De.mk k o t ns e fo b).w f own sc n=(De.mk k' o' t' ns' e' fo' b').w f own' sc' n':=fun f hh=>hk (by
    have:=congrArg De.kind hh;rw[hkind,hkind] at this;exact this)
   exact ⟨fun hh=>absurd hh (no f),fun hh=>absurd hh (no g)⟩
theorem De.wl_iff:∀(l l':List De) (own own' sc sc':Scs) (n n':Nat),(∀x,x∈l→(Pa.de x).valid nm=true)→(∀x,x∈l'→(Pa.de x).valid nm=true)→(De.wl f own sc n l=De.wl f own' sc' n' l'↔De.wl g own sc n l=De.wl g own' sc' n' l')
 | [],[],_,_,_,_,_,_,_,_=>by simp[De.wl]
 | [],_::_,_,_,_,_,_,_,_,_=>by simp[De.wl]
 | _::_,[],_,_,_,_,_,_,_,_=>by simp[De.wl]
 | x::l,y::l',own,own',sc,sc',n,n',h,h'=>by
  simp only[De.wl,List.cons.injEq];rw[De.w_iff x y own own' sc sc' n n' (h x (by simp)) (h' y (by simp)),De.wl_iff l l' own own' sc sc' (n+De.nb x) (n'+De.nb y) (fun x hx=>h x (by simp[hx])) fun x hx=>h' x (by simp[hx])]
theorem Sm.wl_iff:∀(l l':List Sm) (sc sc':Scs) (n n':Nat),(∀x,x∈l→(Pa.st x).valid nm=true)→(∀x,x∈l'→(Pa.st x).valid nm=true)→(Sm.wl f sc n l=Sm.wl f sc' n' l'↔Sm.wl g sc n l=Sm.wl g sc' n' l')
 | [],[],_,_,_,_,_,_=>by simp[Sm.wl]
 | [],_::_,_,_,_,_,_,_=>by simp[Sm.wl]
 | _::_,[],_,_,_,_,_,_=>by simp[Sm.wl]
 | x::l,y::l',sc,sc',n,n',h,h'=>by
  simp only[Sm.wl,List.cons.injEq];rw[Sm.w_iff x y sc sc' n n' (h x (by simp)) (h' y (by simp)),Sm.wl_iff l l' sc sc' (n+Sm.nb x) (n'+Sm.nb y) (fun x hx=>h x (by simp[hx])) fun x hx=>h' x (by simp[hx])]
theorem Sm.w1_iff:∀(l l':List Sm) (sc sc':Scs) (n n':Nat),(∀x,x∈l→(Pa.st x).valid nm=true)→(∀x,x∈l'→(Pa.st x).valid nm=true)→(Sm.w1 f sc n l=Sm.w1 f sc' n' l'↔Sm.w1 g sc n l=Sm.w1 g sc' n' l')
 | [],[],_,_,_,_,_,_=>by simp[Sm.w1]
 | [],_::_,_,_,_,_,_,_=>by simp[Sm.w1]
 | _::_,[],_,_,_,_,_,_=>by simp[Sm.w1]
 | x::l,y::l',sc,sc',n,n',h,h'=>by
  simp only[Sm.w1,List.cons.injEq];rw[Sm.w_iff x y (qae x.labels n::sc) (qae y.labels n'::sc') (n+(qae x.labels n).length) (n'+(qae y.labels n').length) (h x (by simp)) (h' y (by simp)),
   Sm.w1_iff l l' sc sc' (n+(qae x.labels n).length+Sm.nb x) (n'+(qae y.labels n').length+Sm.nb y) (fun x hx=>h x (by simp[hx])) fun x hx=>h' x (by simp[hx])]
end
theorem Sm.whole_iff(a b:Sm)(ha:(Pa.st a).valid nm=true)(hb:(Pa.st b).valid nm=true):a.whole f=b.whole f↔a.whole g=b.whole g:=
 Sm.w_iff N a b _ _ _ _ ha hb
end
def Gr(sz n0:Nat)(xs:List V)(v:V)(S:St):Prop:=(xs=[]∧v=.sl true [])∨∃l wr,n0≤l∧v=.arr l 0 xs.length xs.length∧S[l]?=some (.arr xs sz wr)∧wr≤xs.length
theorem qcC(S:St)(b:Bool)(ys:List V):elems S (.sl b ys)=some ys:=rfl
theorem Gr.ghost{sz n0:Nat}{xs:List V}{v:V}{S S0:St}(h:Gr sz n0 xs v S)(h0:S.take n0=S0)(hn:n0≤S.length)(hS:∀o,o∈S0→o.under n0=true)(hx:∀x,x∈xs→x.weak.under n0=true):
  qa1 n0 v S (.sl false (xs.map V.weak)) S0:=by
 have hu:∀b,(V.sl b (xs.map V.weak)).under n0=true:=fun b=>by
  simp only[V.under]
  exact qfe fun y hy=>by
   obtain ⟨x,h1,rfl⟩:=qt3.1 hy;exact hx x h1
 rcases h with ⟨rfl,rfl⟩|⟨l,wr,h1,rfl,h3,h4⟩
 ·have g1:qa1 n0 (.sl true []) S (.sl false []) S:=qa1.weak (r:=.sl true []);have g2:=qa1.cut (n:=n0) (m:=n0) (r:=.sl false []) (S:=S) rfl (by rw[h0];exact hS) (qtH _) hn;rw[h0] at g2;exact g1.trans g2
 ·have g1:=qa1.freeze (n:=n0) (l:=l) (off:=0) (len:=xs.length) (st:=xs.length) h3 h4 (by omega);simp only[List.drop_zero,qt7] at g1;have g2:qa1 n0 (.sl false xs) (S.set l .dead) (V.sl false xs).weak (S.set l .dead):=qa1.weak;simp only[V.weak,qaJ] at g2
  have ht:(S.set l .dead).take n0=S0:=by
   rw[←h0];apply quQ;intro i;rw[qvs,qvs];split
   ·rw[qtG (by omega)]
   ·rfl
  have g3:=qa1.cut (n:=n0) (m:=n0) (r:=.sl false (xs.map V.weak)) (S:=S.set l .dead) (hu _) (by rw[ht];exact hS) (qtH _) (by simp;exact hn);rw[ht] at g3;exact (g1.trans g2).trans g3
theorem qqe{rs:List RV}{R:V→Prop}{e:Env}{S:St}{v:V}{sz:Nat}{xs:List V}(h:rvs e S rs=some [v])(g:Gr sz 0 xs v S)(hu:∀x,x∈xs→x.weak.under 0=true)(hR:R (.sl false (xs.map V.weak))):
  endp rs 0 (fun v U=>R v∧U=[]) .ret e S:=
 ⟨_,h,_,_,g.ghost (by simp) (quj _) (by simp) hu,hR,rfl⟩
theorem qcj{rs:List RV}{R:V→Prop}{e:Env}{S:St}{vs:List V}(h:rvs e S rs=some vs)(hR:R (retV vs).weak)(hu:(retV vs).weak.under 0=true):endp rs 0 (fun v U=>R v∧U=[]) .ret e S:=
 ⟨vs,h,_,[],qa1.weak.trans (qa1.cut (m:=0) hu (by simp) (qtH _) (quj _)),hR,rfl⟩
structure Kp(M:Nat→Prop)(S U:St):Prop where
 len:S.length≤U.length
 get:∀l,l<S.length→¬ M l→U[l]?=S[l]?
theorem Kp.refl(M:Nat→Prop)(S:St):Kp M S S:=⟨qtH _,fun _ _ _=>rfl⟩
theorem Kp.trans{M:Nat→Prop}{S T U:St}(h:Kp M S T)(g:Kp M T U):Kp M S U:=
 ⟨quF h.len g.len,fun l hl hm=>(g.get l (quk hl h.len) hm).trans (h.get l hl hm)⟩
theorem Kp.mono{M N:Nat→Prop}{S T:St}(h:Kp M S T)(hm:∀l,l<S.length→M l→N l):Kp N S T:=⟨h.len,fun l hl hn=>h.get l hl fun hh=>hn (hm l hl hh)⟩
theorem Kp.push{M:Nat→Prop}{S U:St}(h:Kp M S U)(os:List Ob):Kp M S (U++os):=
 ⟨by simp;have:=h.len;omega,fun l hl hm=>by rw[qtD (quk hl h.len)];exact h.get l hl hm⟩
theorem Kp.set{M:Nat→Prop}{S U:St}(h:Kp M S U){l:Nat}(o:Ob)(hl:M l∨S.length≤l):Kp M S (U.set l o):=
  ⟨by simp;exact h.len,fun k hk hm=>by
    rw[qtG ?_]
    · exact h.get k hk hm
    · rintro rfl;rcases hl with hl|hl
      · exact hm hl
      · omega⟩
theorem Kp.at{M:Nat→Prop}{S U:St}(h:Kp M S U){l:Nat}{o:Ob}(ho:S[l]?=some o)(hm:¬ M l):U[l]?=some o:=(h.get l (qtB.1 ho).1 hm).trans ho
theorem Kp.ofPush{M:Nat→Prop}{S U:St}{os:List Ob}(h:Kp M (S++os) U):Kp M S U:=
 ⟨by have:=h.len;simp at this;omega,fun l hl hm=>(h.get l (by simp;omega) hm).trans (qtD hl)⟩
theorem qbS.mono'{P:Program}{l:Nat}{args:List V}{S:St}{R R':V→St→Prop}(h:qbS P l args S R)(hr:∀r S',R r S'→R' r S'):qbS P l args S R':=fun E w us n x h1 h2 h3=>by
 obtain ⟨f,tmps,asg,body,g1,g2⟩:=h E w us n x h1 h2 h3;exact ⟨f,tmps,asg,body,g1,g2.mono fun e w' ⟨u,r,E',S',k1,k2,k3⟩=>⟨u,r,E',S',k1,hr _ _ k2,k3⟩⟩
theorem useY{P:Program}{l:Nat}{args:List V}{S:St}{R:V→St→Prop}{Φ:V→St→Prop}(h:qbS P l args S R)(g:∀v U,R v U→Φ v U):wyld P l args S Φ:=⟨_,h,g⟩
def RR(M:Nat→Prop)(U0:St)(L:Nat)(i0:LI)(J1:St→Prop)(Dr:St→Prop)(De:Nat→St→Prop):V→St→Prop:=fun v U=>Kp M U0 U∧
 ((v=.bool true∧J1 U∧U[L]?=some (.loop i0))∨(v=.bool false∧Dr U∧U[L]?=some (.loop { i0 with st:=.done,pend:=some .ret }))∨
  ∃id,v=.bool false∧De id U∧U[L]?=some (.loop { i0 with st:=.done,pend:=some (.exit id) }))
theorem qcU{P:Program}{L:Nat}{cb:C'}{R:V→St→Prop}{e:Env}{U:St}{i0:LI}(h:U[L]?=some (.loop i0))(hr:i0.st=.ready)(g:WP P cb (qf5 L R) e (U.set L (.loop { i0 with st:=.busy }))):
 qiG P L cb R .normal e U:=⟨i0,h,hr,g⟩
theorem qci{M:Nat→Prop}{U0:St}{L:Nat}{i0:LI}{J1 Dr:St→Prop}{De:Nat→St→Prop}{e:Env}{U:St}(hi:i0.st=.ready∧i0.pend=none)(hM:M L)(h:U[L]?=some (.loop { i0 with st:=.busy }))(k:Kp M U0 U)(g:J1 (U.set L (.loop i0))):qf5 L (RR M U0 L i0 J1 Dr De) .normal e U:=by
 have hlt:=(qtB.1 h).1;have:({ i0 with st:=.ready,pend:=none }:LI)=i0:=by cases i0;simp only at hi;simp[hi.1,hi.2]
 refine ⟨_,h,k.set _ (.inl hM),.inl ⟨rfl,?_,?_⟩⟩
 ·simp only[this];exact g
 ·simp only[this];rw[qtE hlt]
theorem qfc{M:Nat→Prop}{U0:St}{L:Nat}{i0:LI}{J1 Dr:St→Prop}{De:Nat→St→Prop}{e:Env}{U:St}(hM:M L)(h:U[L]?=some (.loop { i0 with st:=.busy }))(k:Kp M U0 U)(g:Dr (U.set L (.loop { i0 with st:=.done,pend:=some .ret }))):qf5 L (RR M U0 L i0 J1 Dr De) .ret e U:=by
 have hlt:=(qtB.1 h).1;exact ⟨_,h,k.set _ (.inl hM),.inr (.inl ⟨rfl,g,by rw[qtE hlt]⟩)⟩
def qge(P:Program)(k:Nat)(fs cs:List V)(aa:List (List V))(cap:St→Prop):Prop:=
 ∀(S:St) (l:Nat) (J:Nat→St→Prop) (D:St→Prop) (M:Nat→Prop),(∀x,M x→x<S.length)→(∀i U,J i U→cap U)→(∀i U o,J i U→J i (U++[o]))→(∀U o,D U→D (U++[o]))→
  (∀i U L o o',S.length≤L→J i U→U[L]?=some (.loop o)→J i (U.set L (.loop o')))→(∀U L o o',S.length≤L→D U→U[L]?=some (.loop o)→D (U.set L (.loop o')))→
  (∀(i:Nat) (a:List V),aa[i]?=some a→∀U,J i U→Kp M S U→qbS P l a U (fun v U'=>Kp M U U'∧((v=.bool true∧J (i+1) U')∨(v=.bool false∧D U'))))→J 0 S→
  Spec P k (fs++[.yld l]++cs) S (fun _ U=>Kp M S U∧(J aa.length U∨D U))
theorem Kp.unloop{M:Nat→Prop}{S U:St}{o o':Ob}(h:Kp (fun x=>M x∨x=S.length) (S++[o]) U):Kp M S (U.set S.length o'):=by
 refine ⟨by have:=h.len;simp at this ⊢;omega,fun l hl hm=>?_⟩;rw[qtG (by omega)];rw[h.get l (by simp;omega) (by rintro (hh|hh);exact hm hh;omega)];exact qtD hl
theorem gl{U:St}{x L:Nat}{o:Ob}{i i':LI}(h:U[x]?=some o)(ho:∀i,o≠.loop i)(hL:U[L]?=some (.loop i)):(U.set L (.loop i'))[x]?=some o:=by
 rw[qtG]
 ·exact h
 ·rintro rfl;rw[hL] at h;cases h;exact ho i rfl
theorem qe5{P:Program}{g:Opd}{ps:List Nat}{asg body:Code}{ca cb:C'}{N:Nat}{ts:List Nat}{Q:Post}{e:Env}{S:St}{k:Nat}{fs cs:List V}{aa:List (List V)}{cap:St→Prop}
  (hg:g.ev e=some (.fn (.func k) fs cs)) (hy:qge P k fs cs aa cap) (na:ca.noRf=true) (nb:cb.noRf=true) (hps:ps.all (fun p=>decide (p<N))=true) (hlen:∀a,a∈aa→a.length=ps.length)
  (M:Nat→Prop) (hM:∀x,M x→x<S.length) (J:Nat→St→Prop) (Dr:St→Prop) (De:Nat→St→Prop) (hcap:∀i U,J i U→cap U)
  (hJ:∀i U,J i U→∀o,J i (U++[o])) (hDr:∀U,Dr U→∀o,Dr (U++[o])) (hDe:∀id U,De id U→∀o,De id (U++[o]))
  (hJl:∀i U L o o',S.length≤L→J i U→U[L]?=some (.loop o)→J i (U.set L (.loop o'))) (hDl:∀U L o o',S.length≤L→Dr U→U[L]?=some (.loop o)→Dr (U.set L (.loop o'))) (hDel:∀id U L o o',S.length≤L→De id U→U[L]?=some (.loop o)→De id (U.set L (.loop o')))
  (h0:J 0 (S++[.loop ⟨.ready,none,ps,asg,body,e.keep ts,N⟩]))
  (hr:∀(i:Nat) (a:List V),aa[i]?=some a→∀U,J i U→Kp (fun x=>M x∨x=S.length) (S++[.loop ⟨.ready,none,ps,asg,body,e.keep ts,N⟩]) U→U[S.length]?=some (.loop ⟨.ready,none,ps,asg,body,e.keep ts,N⟩)→
   WP P ca (qiG P S.length cb (RR (fun x=>M x∨x=S.length) U S.length ⟨.ready,none,ps,asg,body,e.keep ts,N⟩ (J (i+1)) Dr De)) (qc7 ps a (e.keep ts)) U)
  (hn:∀U,J aa.length U→Kp M S U→Q .normal e U) (hret:∀U,Dr U→Kp M S U→Q .ret e U) (hexit:∀id U,De id U→Kp M S U→Q (.exit id) e U):
  WP P (.rf g ps asg body ca cb N ts) Q e S:=by
 intro hca hcb;rw[hg];refine ⟨_,hy (S++[.loop ⟨.ready,none,ps,asg,body,e.keep ts,N⟩]) S.length (fun i U=>J i U∧U[S.length]?=some (.loop ⟨.ready,none,ps,asg,body,e.keep ts,N⟩))
  (fun U=>(Dr U∧U[S.length]?=some (.loop ⟨.done,some .ret,ps,asg,body,e.keep ts,N⟩))∨∃id,De id U∧U[S.length]?=some (.loop ⟨.done,some (.exit id),ps,asg,body,e.keep ts,N⟩))
  (fun x=>M x∨x=S.length) ?_ (fun i U h=>hcap i U h.1) (fun i U o h=>⟨hJ i U h.1 o,?_⟩) ?_ ?_ ?_ ?_ ⟨h0,by simp⟩,?_⟩
 ·rintro x (h|rfl)
  ·have:=hM x h;simp;omega
  ·simp
 ·rw[qtD (qtB.1 h.2).1];exact h.2
 ·rintro U o (⟨h1,h2⟩|⟨id,h1,h2⟩)
  ·exact .inl ⟨hDr U h1 o,by rw[qtD (qtB.1 h2).1];exact h2⟩
  ·exact .inr ⟨id,hDe id U h1 o,by rw[qtD (qtB.1 h2).1];exact h2⟩
 ·rintro i U L o o' hL ⟨h1,h2⟩ h3;simp at hL;exact ⟨hJl i U L o o' (by omega) h1 h3,by rw[qtG (by omega)];exact h2⟩
 ·rintro U L o o' hL (⟨h1,h2⟩|⟨id,h1,h2⟩) h3
  ·simp at hL;exact .inl ⟨hDl U L o o' (by omega) h1 h3,by rw[qtG (by omega)];exact h2⟩
  ·simp at hL;exact .inr ⟨id,hDel id U L o o' (by omega) h1 h3,by rw[qtG (by omega)];exact h2⟩
 ·rintro i a ha U ⟨hj,hl⟩ hk;refine qbS.mono' (qbS.intro hl hca hcb rfl na nb ?_ hps (hr i a ha U hj hk hl)) ?_
  ·exact hlen _ (qtP ha)
  ·rintro v U' ⟨hk',⟨rfl,h1,h2⟩|⟨rfl,h1,h2⟩|⟨id,rfl,h1,h2⟩⟩
   ·exact ⟨hk',.inl ⟨rfl,h1,h2⟩⟩
   ·exact ⟨hk',.inr ⟨rfl,.inl ⟨h1,h2⟩⟩⟩
   ·exact ⟨hk',.inr ⟨rfl,.inr ⟨id,h1,h2⟩⟩⟩
 ·rintro r U ⟨hk,⟨h1,h2⟩|⟨h1,h2⟩|⟨id,h1,h2⟩⟩
  ·exact ⟨_,h2,by simp,hn _ (hJl _ U _ _ _ (qtH _) h1 h2) hk.unloop⟩
  ·exact ⟨_,h2,by simp,hret _ (hDl U _ _ _ (qtH _) h1 h2) hk.unloop⟩
  ·exact ⟨_,h2,by simp,hexit id _ (hDel id U _ _ _ (qtH _) h1 h2) hk.unloop⟩
theorem qj1{N N':Env→St→Prop}{Q Q':Post}(hn:∀e S,N e S→N' e S)(hq:∀x e S,Q x e S→Q' x e S):∀x e S,qdQ N Q x e S→qdQ N' Q' x e S:=by
 intro x e S h;cases x <;> first|exact hn _ _ h|exact hq _ _ _ h
theorem qo3{P:Program}{a:C'}{N:Env→St→Prop}{Q:Post}{e:Env}{S:St}(M:Env→St→Prop)(h1:WP P a (qdQ M Q) e S)(h2:∀e S,M e S→N e S):WP P a (qdQ N Q) e S:=
 qcV (qj1 h2 fun _ _ _ h=>h) h1
theorem qaC{P:Program}{id:Nat}{c:C'}{Q:Post}{e:Env}{S:St}(M:Env→St→Prop)(h1:WP P (.loop c) (qdr id (qdQ M Q)) e S)(h2:∀e S,M e S→Q .normal e S):WP P (.loop c) (qdr id Q) e S:=
 qcV (fun x e S hx=>by
  cases x <;> simp only[qdr,qdQ] at hx ⊢<;> first|exact h2 _ _ hx|exact hx|skip
  split <;> rename_i hh
  ·rw[if_pos hh] at hx;exact h2 _ _ hx
  ·rw[if_neg hh] at hx;exact hx) h1
theorem qnb(v:V)(o:Nat):V.part v o none=v.cells[o]?:=rfl
theorem qlO(cs:List V):(V.agg cs).cells=cs:=rfl
theorem qlg(k:IntKind)(n:Int):(V.int k n).cells=[V.int k n]:=rfl
theorem qkK(b:Bool):(V.bool b).cells=[V.bool b]:=rfl
theorem qkT(b:ByteArray):(V.str b).cells=[V.str b]:=rfl
theorem qn3(b:Bool)(l:List V):(V.sl b l).cells=[V.sl b l]:=rfl
theorem qna(a b c d:Nat):(V.arr a b c d).cells=[V.arr a b c d]:=rfl
theorem qmP(a b c d:Nat):(V.ptr a b c d).cells=[V.ptr a b c d]:=rfl
theorem qkS(a:Nat):(V.map a).cells=[V.map a]:=rfl
theorem qnJ(f:Go.Fn)(a b:List V):(V.fn f a b).cells=[V.fn f a b]:=rfl
theorem qkj:V.nilp.cells=[V.nilp]:=rfl
theorem qh3:V.nilfn.cells=[V.nilfn]:=rfl
theorem qhU:V.nilmap.cells=[V.nilmap]:=rfl
theorem qkp(v:V)(o:Nat):(V.iptr v o).cells=[V.iptr v o]:=rfl
theorem qor(cs:List V):(V.agg cs).size=cs.length:=rfl
theorem qn8(k:IntKind)(n:Int):(V.int k n).size=1:=rfl
theorem qlH(b:Bool):(V.bool b).size=1:=rfl
theorem qnX(b:ByteArray):(V.str b).size=1:=rfl
theorem qp8(b:Bool)(l:List V):(V.sl b l).size=1:=rfl
theorem qnM(a b c d:Nat):(V.arr a b c d).size=1:=rfl
theorem qoB(a b c d:Nat):(V.ptr a b c d).size=1:=rfl
theorem qof(a:Nat):(V.map a).size=1:=rfl
theorem qpu(f:Go.Fn)(a b:List V):(V.fn f a b).size=1:=rfl
theorem qm3:V.nilp.size=1:=rfl
theorem qjW:V.nilfn.size=1:=rfl
theorem qh7:V.nilmap.size=1:=rfl
theorem qmm(cs:List V):(V.agg cs).isAgg=true:=rfl
theorem qoR(k:IntKind)(n:Int):(V.int k n).flat=true:=rfl
theorem qm9(b:Bool):(V.bool b).flat=true:=rfl
theorem qoJ(b:ByteArray):(V.str b).flat=true:=rfl
theorem qro(b:Bool)(l:List V):(V.sl b l).flat=true:=rfl
theorem qoI(a b c d:Nat):(V.arr a b c d).flat=true:=rfl
theorem qnF(a b c d:Nat):(V.ptr a b c d).flat=true:=rfl
theorem qnS(a:Nat):(V.map a).flat=true:=rfl
theorem qqA(f:Go.Fn)(a b:List V):(V.fn f a b).flat=true:=rfl
theorem ql1:V.nilp.flat=true:=rfl
theorem qkv:V.nilfn.flat=true:=rfl
theorem qib:V.nilmap.flat=true:=rfl
theorem Sm.v_cells(s:Sm):s.v.cells=[.sl false (s.labels.map .str),.int .i64 s.kind,.str s.text,.sl false (s.targets.map Ex.v),.sl false (s.exps.map Ex.v),.sl false (s.elems.map El.v),.sl false (s.decls.map De.v),.sl false (s.body.map Sm.v)]:=by rw[Sm.v_eq];rfl
theorem De.v_cells(d:De):d.v.cells=[.int .i64 d.kind,.bool d.own,.int .i64 d.type,.sl false (d.names.map .str),.sl false (d.exps.map Ex.v),.sl false (d.formals.map Fo.v),.sl false (d.body.map Sm.v)]:=by rw[De.v_eq];rfl
theorem Ex.v_cells(x:Ex):x.v.cells=[.int .i64 x.kind,.int .i64 x.op,.int .i64 x.n,.int .i64 x.man,.int .i64 x.exp,.str x.text,.sl false (x.args.map Ex.v)]:=by rw[Ex.v_eq];rfl
theorem El.v_cells(e:El):e.v.cells=[.int .i64 e.kind,.sl false (e.exps.map Ex.v)]:=rfl
theorem Fo.v_cells(f:Fo):f.v.cells=[.str f.name,.bool f.value,.int .i64 f.spec,.int .i64 f.type]:=rfl
theorem qlK(k:Int)(s:Sm)(d:De)(e:El)(x:Ex):(paV k s d e x).cells=
 [.int .i64 k,.sl false (s.labels.map .str),.int .i64 s.kind,.str s.text,.sl false (s.targets.map Ex.v),.sl false (s.exps.map Ex.v),.sl false (s.elems.map El.v),.sl false (s.decls.map De.v),.sl false (s.body.map Sm.v),
  .int .i64 d.kind,.bool d.own,.int .i64 d.type,.sl false (d.names.map .str),.sl false (d.exps.map Ex.v),.sl false (d.formals.map Fo.v),.sl false (d.body.map Sm.v),
  .int .i64 e.kind,.sl false (e.exps.map Ex.v),
  .int .i64 x.kind,.int .i64 x.op,.int .i64 x.n,.int .i64 x.man,.int .i64 x.exp,.str x.text,.sl false (x.args.map Ex.v)]:=rfl
theorem qow(k:Int)(s:Sm)(d:De)(e:El)(x:Ex):(paV k s d e x).size=25:=rfl
theorem Sm.v_isAgg(s:Sm):s.v.isAgg=true:=by rw[Sm.v_eq];rfl
theorem De.v_isAgg(s:De):s.v.isAgg=true:=by rw[De.v_eq];rfl
theorem Ex.v_isAgg(s:Ex):s.v.isAgg=true:=by rw[Ex.v_eq];rfl
theorem El.v_isAgg(s:El):s.v.isAgg=true:=rfl
theorem Fo.v_isAgg(s:Fo):s.v.isAgg=true:=rfl
theorem qkU(k:Int)(s:Sm)(d:De)(e:El)(x:Ex):(paV k s d e x).isAgg=true:=rfl
theorem qqx(s:Sm):V.part s.v 0 (some 8)=some s.v:=by simp[V.part,Sm.v_size,Sm.v_isAgg]
theorem qpr(s:De):V.part s.v 0 (some 7)=some s.v:=by simp[V.part,De.v_size,De.v_isAgg]
theorem qgP(s:Ex):V.part s.v 0 (some 7)=some s.v:=by simp[V.part,Ex.v_size,Ex.v_isAgg]
theorem qpF(s:El):V.part s.v 0 (some 2)=some s.v:=rfl
theorem qrs(s:Fo):V.part s.v 0 (some 4)=some s.v:=rfl
theorem qpw(k:Int)(s:Sm)(d:De)(e:El)(x:Ex):V.part (paV k s d e x) 0 (some 25)=some (paV k s d e x):=rfl
theorem qnL(k:Int)(s:Sm)(d:De)(e:El)(x:Ex):V.part (paV k s d e x) 1 (some 8)=some s.v:=by rw[Sm.v_eq];rfl
theorem qok(k:Int)(s:Sm)(d:De)(e:El)(x:Ex):V.part (paV k s d e x) 9 (some 7)=some d.v:=by rw[De.v_eq];rfl
theorem qoH(k:Int)(s:Sm)(d:De)(e:El)(x:Ex):V.part (paV k s d e x) 16 (some 2)=some e.v:=rfl
theorem qnC(k:Int)(s:Sm)(d:De)(e:El)(x:Ex):V.part (paV k s d e x) 18 (some 7)=some x.v:=by rw[Ex.v_eq];rfl
theorem qrc(b:Bool)(l:List V):lenV (.sl b l)=some (.int .i64 l.length):=rfl
theorem qn6(a b c d:Nat):lenV (.arr a b c d)=some (.int .i64 c):=rfl
theorem qoi(s:ByteArray):lenV (.str s)=some (.int .i64 s.size):=rfl
theorem qqJ(l i o st off:Nat):faV (.ptr l i o st) off=some (.ptr l i (o+off) st):=rfl
theorem qoK(v:V)(o off:Nat):faV (.iptr v o) off=some (.iptr v (o+off)):=rfl
theorem qnR(S:St)(v:V)(o:Nat)(k:Option Nat):ldS S (.iptr v o) k=V.part v o k:=rfl
theorem qrN{S:St}{x:V}(h:x.cells.all V.flat=true)(h0:0<x.size):boxS S x=some (.ptr S.length 0 0 1,S++[.arr [x] x.size 1]):=by simp[boxS,h,h0]
theorem qbs{v x:V}{off n:Nat}:V.upd v off n x=if x.size=n∧x.cells.all V.flat=true then (if off=0∧n=v.size then some x else match v with
 | .agg cs=>if off+n≤cs.length then some (.agg (cs.take off++x.cells++cs.drop (off+n))) else none
 | _=>none) else none:=rfl
theorem qpN:phs []=[]:=rfl
attribute [simp] qnb qlO qlg qkK qkT qn3 qna qmP qkS qnJ qkj qh3 qhU qkp
 qor qn8 qlH qnX qp8 qnM qoB qof qpu qm3 qjW qh7 qmm
 qoR qm9 qoJ qro qoI qnF qnS qqA ql1 qkv qib
 Sm.v_cells De.v_cells Ex.v_cells El.v_cells Fo.v_cells qlK qow Sm.v_isAgg De.v_isAgg Ex.v_isAgg El.v_isAgg Fo.v_isAgg qkU
 qqx qpr qgP qpF qrs qpw qnL qok qoH qnC qrc qn6 qoi qqJ qoK qnR qpN
set_option maxRecDepth 20000
def c17:F':=⟨6,[.t 2],
 .seq (.reg [.o 1 (.box (.t 0)),
 .o 2 (.mv (.c (.bool false)))])
 (.seq (.reg [.j 3 8 1,
 .o 4 (.call (.f 52) [(.t 3),(.c (.int .i64 0)),(.c (.int .i64 150))]),
 .u 5 .gtr 4 0,
 .m 2 5])
 (.ret))⟩
theorem ok17:oF Tryz.f17 c17:=oI (by kernel_rfl)
def c52:F':=⟨125,[.t 6],
 .seq (.reg [.o 3 (.box (.t 0)),
 .o 6 (.mv (.c (.int .i64 0)))])
 (.seq (.reg [.m 12 2,
 .u 13 .sub 12 1,
 .f 14 0 3,
 .l 15 14,
 .o 16 (.len false (.t 15)),
 .b 17 .sub 13 16,
 .m 2 17])
 (.seq (.seq (.reg [.m 18 1,
 .u 19 .gtr 18 30])
 (.cond (.t 19)
 (.seq (.reg [.o 6 (.mv (.c (.int .i64 0)))])
 (.ret))
 (.skip)))
 (.seq (.draw [⟨.f 20 3 3,false,none,false,[],0,1⟩,
 ⟨.l 21 20,false,none,true,[0],0,1⟩,
 ⟨.m 22 1,false,none,false,[],0,1⟩,
 ⟨.u 23 .add 22 1,false,none,false,[2],0,1⟩,
 ⟨.f 24 4 3,false,none,false,[],0,0⟩,
 ⟨.l 25 24,false,none,false,[4],0,0⟩,
 ⟨.m 26 1,false,none,false,[],0,0⟩,
 ⟨.u 27 .add 26 1,false,none,false,[6],0,0⟩,
 ⟨.m 28 2,false,none,false,[],0,0⟩,
 ⟨.o 29 (.call (.f 72) [(.t 25),(.t 27),(.t 28)]),true,none,false,[5,7,8,4,6],0,0⟩,
 ⟨.o 30 (.call (.f 72) [(.t 21),(.t 23),(.t 29)]),true,none,false,[1,3,9,0,2,5,7,8,4,6],1,1⟩,
 ⟨.m 2 30,false,none,false,[10,1,3,9,0,2,5,7,8,4,6],2,2⟩] [])
 (.seq (.seq (.reg [.o 7 (.mv (.c (.int .i64 0)))])
 (.block 0 (.loop (.seq (.seq (.reg [.m 31 7,
 .f 32 5 3,
 .l 33 32,
 .o 34 (.len false (.t 33)),
 .b 35 .lss 31 34,
 .m 36 35,
 .v 37 36 true (.mv (.t 2)),
 .v 38 36 true (.bin .gtr (.t 37) (.c (.int .i64 0))),
 .y 39 36 38])
 (.cond (.t 39)
 (.skip)
 (.exit 0)))
 (.seq (.block 1 (.reg [.f 42 5 3,
 .l 43 42,
 .m 44 7,
 .i 45 2 43 44,
 .f 46 1 45,
 .l 47 46,
 .m 48 1,
 .u 49 .add 48 1,
 .m 50 2,
 .u 51 .sub 50 1,
 .o 52 (.call (.f 72) [(.t 47),(.t 49),(.t 51)]),
 .m 2 52]))
 (.reg [.m 40 7,
 .u 41 .add 40 1,
 .m 7 41]))))))
 (.seq (.seq (.reg [.o 8 (.mv (.c (.int .i64 0)))])
 (.block 2 (.loop (.seq (.seq (.reg [.m 53 8,
 .f 54 6 3,
 .l 55 54,
 .o 56 (.len false (.t 55)),
 .b 57 .lss 53 56,
 .m 58 57,
 .v 59 58 true (.mv (.t 2)),
 .v 60 58 true (.bin .gtr (.t 59) (.c (.int .i64 0))),
 .y 61 58 60])
 (.cond (.t 61)
 (.skip)
 (.exit 2)))
 (.seq (.block 3 (.seq (.reg [.f 64 6 3,
 .l 65 64,
 .m 66 8,
 .i 67 7 65 66,
 .j 68 7 67,
 .o 9 (.new zD),
 .s 7 9 68])
 (.seq (.reg [.f 69 4 9,
 .l 70 69,
 .m 71 1,
 .u 72 .add 71 1,
 .m 73 2,
 .u 74 .sub 73 1,
 .f 75 3 9,
 .l 76 75,
 .o 77 (.len false (.t 76)),
 .b 78 .sub 74 77,
 .f 79 5 9,
 .l 80 79,
 .o 81 (.len false (.t 80)),
 .b 82 .sub 78 81,
 .o 83 (.call (.f 72) [(.t 70),(.t 72),(.t 82)]),
 .m 2 83])
 (.seq (.reg [.o 10 (.mv (.c (.int .i64 0)))])
 (.block 4 (.loop (.seq (.seq (.reg [.m 84 10,
 .f 85 6 9,
 .l 86 85,
 .o 87 (.len false (.t 86)),
 .b 88 .lss 84 87,
 .m 89 88,
 .v 90 89 true (.mv (.t 2)),
 .v 91 89 true (.bin .gtr (.t 90) (.c (.int .i64 0))),
 .y 92 89 91])
 (.cond (.t 92)
 (.skip)
 (.exit 4)))
 (.seq (.block 5 (.reg [.f 95 6 9,
 .l 96 95,
 .m 97 10,
 .i 98 8 96 97,
 .j 99 8 98,
 .m 100 1,
 .u 101 .add 100 1,
 .m 102 2,
 .o 103 (.call (.f 52) [(.t 99),(.t 101),(.t 102)]),
 .m 2 103]))
 (.reg [.m 93 10,
 .u 94 .add 93 1,
 .m 10 94])))))))))
 (.reg [.m 62 8,
 .u 63 .add 62 1,
 .m 8 63]))))))
 (.seq (.seq (.reg [.o 11 (.mv (.c (.int .i64 0)))])
 (.block 6 (.loop (.seq (.seq (.reg [.m 104 11,
 .f 105 7 3,
 .l 106 105,
 .o 107 (.len false (.t 106)),
 .b 108 .lss 104 107,
 .m 109 108,
 .v 110 109 true (.mv (.t 2)),
 .v 111 109 true (.bin .gtr (.t 110) (.c (.int .i64 0))),
 .y 112 109 111])
 (.cond (.t 112)
 (.skip)
 (.exit 6)))
 (.seq (.block 7 (.reg [.f 115 7 3,
 .l 116 115,
 .m 117 11,
 .i 118 8 116 117,
 .j 119 8 118,
 .m 120 1,
 .u 121 .add 120 1,
 .m 122 2,
 .o 123 (.call (.f 52) [(.t 119),(.t 121),(.t 122)]),
 .m 2 123]))
 (.reg [.m 113 11,
 .u 114 .add 113 1,
 .m 11 114]))))))
 (.seq (.reg [.m 124 2,
 .m 6 124])
 (.ret))))))))⟩
theorem ok52:oF Tryz.f52 c52:=oI (by kernel_rfl)
def c72:F':=⟨31,[.t 6],
 .seq (.reg [.o 6 (.mv (.c (.int .i64 0)))])
 (.seq (.seq (.reg [.m 8 1,
 .u 9 .gtr 8 40])
 (.cond (.t 9)
 (.seq (.reg [.o 6 (.mv (.c (.int .i64 0)))])
 (.ret))
 (.skip)))
 (.seq (.seq (.reg [.o 7 (.mv (.c (.int .i64 0)))])
 (.block 0 (.loop (.seq (.seq (.reg [.m 10 7,
 .m 11 0,
 .o 12 (.len false (.t 11)),
 .b 13 .lss 10 12,
 .m 14 13,
 .v 15 14 true (.mv (.t 2)),
 .v 16 14 true (.bin .gtr (.t 15) (.c (.int .i64 0))),
 .y 17 14 16])
 (.cond (.t 17)
 (.skip)
 (.exit 0)))
 (.seq (.block 1 (.reg [.m 20 0,
 .m 21 7,
 .i 22 7 20 21,
 .f 23 6 22,
 .l 24 23,
 .m 25 1,
 .u 26 .add 25 1,
 .m 27 2,
 .u 28 .sub 27 1,
 .o 29 (.call (.f 72) [(.t 24),(.t 26),(.t 28)]),
 .m 2 29]))
 (.reg [.m 18 7,
 .u 19 .add 18 1,
 .m 7 19]))))))
 (.seq (.reg [.m 30 2,
 .m 6 30])
 (.ret))))⟩
theorem ok72:oF Tryz.f72 c72:=oI (by kernel_rfl)
def c20:F':=⟨5,[.t 2],
 .seq (.reg [.o 1 (.box (.t 0)),
 .o 2 (.mv (.c (.int .i64 0)))])
 (.seq (.reg [.j 3 8 1,
 .o 4 (.call (.f 63) [(.t 3)]),
 .m 2 4])
 (.ret))⟩
theorem ok20:oF Tryz.f20 c20:=oI (by kernel_rfl)
def c63:F':=⟨6,[.t 2],
 .seq (.reg [.o 1 (.box (.t 0)),
 .o 2 (.mv (.c (.int .i64 0)))])
 (.seq (.reg [.j 3 8 1,
 .o 4 (.call (.f 113) [(.t 3)]),
 .o 5 (.call (.f 112) [(.t 4)]),
 .m 2 5])
 (.ret))⟩
theorem ok63:oF Tryz.f63 c63:=oI (by kernel_rfl)
def c112:F':=⟨9,[.t 2],
 .seq (.reg [.o 1 (.box (.t 0)),
 .o 2 (.mv (.c (.int .i64 0)))])
 (.seq (.seq (.reg [.j 3 25 1,
 .o 4 (.call (.f 159) [(.t 3)]),
 .o 5 (.un .not (.t 4))])
 (.cond (.t 5)
 (.seq (.reg [.o 2 (.mv (.c (.int .i64 2)))])
 (.ret))
 (.skip)))
 (.seq (.seq (.reg [.j 6 25 1,
 .o 7 (.call (.f 160) [(.t 6)]),
 .o 8 (.un .not (.t 7))])
 (.cond (.t 8)
 (.seq (.reg [.o 2 (.mv (.c (.int .i64 1)))])
 (.ret))
 (.skip)))
 (.seq (.reg [.o 2 (.mv (.c (.int .i64 0)))])
 (.ret))))⟩
theorem ok112:oF Tryz.f112 c112:=oI (by kernel_rfl)
def c135:F':=⟨5,[.cell 2 (some 25)],
 .seq (.reg [.o 1 (.box (.t 0)),
 .o 2 (.new zP)])
 (.seq (.reg [.j 3 7 1,
 .o 4 (.build zP [(0,0,1,(.c (.int .i64 2))),(2,9,7,(.t 3))]),
 .s 25 2 4])
 (.ret))⟩
theorem ok135:oF Tryz.f135 c135:=oI (by kernel_rfl)
def c141:F':=⟨5,[.cell 2 (some 25)],
 .seq (.reg [.o 1 (.box (.t 0)),
 .o 2 (.new zP)])
 (.seq (.reg [.j 3 7 1,
 .o 4 (.build zP [(0,0,1,(.c (.int .i64 4))),(4,18,7,(.t 3))]),
 .s 25 2 4])
 (.ret))⟩
theorem ok141:oF Tryz.f141 c141:=oI (by kernel_rfl)
def c160:F':=⟨45,[.t 2],
 .seq (.reg [.o 1 (.box (.t 0)),
 .o 2 (.mv (.c (.bool false)))])
 (.seq (.reg [.o 3 (.mv (.c (.bool false)))])
 (.seq (.seq (.reg [.f 6 0 1,
 .l 7 6])
 (.block 0 (.seq (.reg [.u 9 .eql 7 1,
 .m 8 9])
 (.cond (.t 8)
 (.reg [.f 10 1 1,
 .j 11 8 10,
 .o 12 (.call (.f 189) [(.t 11)]),
 .m 3 12])
 (.seq (.reg [.u 14 .eql 7 2,
 .m 13 14])
 (.cond (.t 13)
 (.reg [.f 15 9 1,
 .j 16 7 15,
 .o 17 (.call (.f 190) [(.t 16)]),
 .m 3 17])
 (.seq (.reg [.u 19 .eql 7 3,
 .m 18 19])
 (.cond (.t 18)
 (.reg [.f 20 16 1,
 .j 21 2 20,
 .o 22 (.call (.f 191) [(.t 21)]),
 .m 3 22])
 (.seq (.reg [.u 24 .eql 7 4,
 .m 23 24])
 (.cond (.t 23)
 (.reg [.f 25 18 1,
 .j 26 7 25,
 .o 27 (.call (.f 192) [(.t 26)]),
 .m 3 27])
 (.skip)))))))))))
 (.seq (.reg [.j 28 25 1,
 .o 29 (.call (.f 193) [(.t 28)]),
 .m 4 29])
 (.seq (.seq (.reg [.o 5 (.mv (.c (.int .i64 0)))])
 (.block 1 (.loop (.seq (.seq (.reg [.m 30 5,
 .m 31 4,
 .o 32 (.len false (.t 31)),
 .b 33 .lss 30 32,
 .m 34 33,
 .v 35 34 true (.mv (.t 3)),
 .y 36 34 35])
 (.cond (.t 36)
 (.skip)
 (.exit 1)))
 (.seq (.block 2 (.reg [.m 39 4,
 .m 40 5,
 .i 41 25 39 40,
 .j 42 25 41,
 .o 43 (.call (.f 160) [(.t 42)]),
 .m 3 43]))
 (.reg [.m 37 5,
 .u 38 .add 37 1,
 .m 5 38]))))))
 (.seq (.reg [.m 44 3,
 .m 2 44])
 (.ret))))))⟩
theorem ok160:oF Tryz.f160 c160:=oI (by kernel_rfl)
def c181:F':=⟨23,[.t 2],
 .seq (.reg [.o 1 (.box (.t 0)),
 .o 2 (.mv (.c (.bool false)))])
 (.seq (.seq (.reg [.f 3 0 1,
 .l 4 3])
 (.block 0 (.seq (.reg [.u 6 .eql 4 1,
 .m 5 6])
 (.cond (.t 5)
 (.seq (.reg [.f 7 1 1,
 .l 8 7,
 .o 9 (.len false (.t 8)),
 .u 10 .eql 9 1,
 .m 2 10])
 (.ret))
 (.seq (.reg [.u 12 .eql 4 2,
 .m 11 12])
 (.cond (.t 11)
 (.seq (.reg [.f 13 1 1,
 .l 14 13,
 .o 15 (.len false (.t 14)),
 .u 16 .eql 15 3,
 .m 2 16])
 (.ret))
 (.seq (.reg [.u 18 .eql 4 3,
 .m 17 18])
 (.cond (.t 17)
 (.seq (.reg [.f 19 1 1,
 .l 20 19,
 .o 21 (.len false (.t 20)),
 .u 22 .eql 21 2,
 .m 2 22])
 (.ret))
 (.skip)))))))))
 (.seq (.reg [.o 2 (.mv (.c (.bool false)))])
 (.ret)))⟩
theorem ok181:oF Tryz.f181 c181:=oI (by kernel_rfl)
def c189:F':=⟨159,[.t 2],
 .seq (.reg [.o 1 (.box (.t 0)),
 .o 2 (.mv (.c (.bool false)))])
 (.seq (.reg [.f 7 1 1,
 .l 8 7,
 .f 9 0 1,
 .l 10 9,
 .o 11 (.build zS [(1,1,1,(.t 8)),(0,0,1,(.t 10))]),
 .o 3 (.new zS),
 .s 8 3 11])
 (.seq (.reg [.f 12 4 1,
 .l 13 12,
 .o 14 (.len false (.t 13)),
 .m 4 14])
 (.seq (.reg [.f 15 7 1,
 .l 16 15,
 .o 17 (.len false (.t 16)),
 .m 5 17])
 (.seq (.reg [.o 6 (.mv (.c (.bool false)))])
 (.seq (.seq (.reg [.f 18 1 1,
 .l 19 18])
 (.block 0 (.seq (.reg [.u 21 .eql 19 1,
 .m 20 21])
 (.cond (.t 20)
 (.reg [.o 6 (.mv (.c (.bool true)))])
 (.seq (.reg [.u 23 .eql 19 2,
 .m 22 23])
 (.cond (.t 22)
 (.seq (.reg [.f 24 3 1,
 .l 25 24,
 .f 26 3 3,
 .s 1 26 25])
 (.seq (.reg [.f 27 4 1,
 .l 28 27,
 .f 29 4 3,
 .s 1 29 28])
 (.reg [.f 30 3 1,
 .l 31 30,
 .o 32 (.call (.f 222) [(.t 31)]),
 .m 33 32,
 .v 34 33 true (.mv (.t 4)),
 .v 35 33 true (.bin .eql (.t 34) (.c (.int .i64 1))),
 .y 36 33 35,
 .m 6 36])))
 (.seq (.reg [.u 38 .eql 19 3,
 .m 37 38])
 (.cond (.t 37)
 (.seq (.reg [.f 39 4 1,
 .l 40 39,
 .f 41 4 3,
 .s 1 41 40])
 (.reg [.m 42 4,
 .u 43 .eql 42 1,
 .m 6 43]))
 (.seq (.reg [.u 45 .eql 19 4,
 .m 44 45])
 (.cond (.t 44)
 (.seq (.reg [.f 46 4 1,
 .l 47 46,
 .f 48 4 3,
 .s 1 48 47])
 (.seq (.reg [.f 49 7 1,
 .l 50 49,
 .f 51 7 3,
 .s 1 51 50])
 (.reg [.m 52 4,
 .u 53 .eql 52 1,
 .m 54 53,
 .v 55 54 true (.mv (.t 5)),
 .v 56 54 true (.bin .geq (.t 55) (.c (.int .i64 1))),
 .y 57 54 56,
 .m 58 57,
 .v 59 58 true (.mv (.t 5)),
 .v 60 58 true (.bin .leq (.t 59) (.c (.int .i64 2))),
 .y 61 58 60,
 .m 62 61,
 .v 63 62 true (.fa 7 (.t 1)),
 .v 64 62 true (.ld none (.t 63)),
 .v 65 62 true (.ia 8 (.t 64) (.c (.int .i64 0))),
 .v 66 62 true (.fa 1 (.t 65)),
 .v 67 62 true (.ld none (.t 66)),
 .v 68 62 true (.bin .neq (.t 67) (.c (.int .i64 4))),
 .y 69 62 68,
 .m 70 69,
 .v 71 70 true (.fa 7 (.t 1)),
 .v 72 70 true (.ld none (.t 71)),
 .v 73 70 true (.ia 8 (.t 72) (.c (.int .i64 0))),
 .v 74 70 true (.fa 1 (.t 73)),
 .v 75 70 true (.ld none (.t 74)),
 .v 76 70 true (.bin .neq (.t 75) (.c (.int .i64 5))),
 .y 77 70 76,
 .m 6 77])))
 (.seq (.reg [.u 79 .eql 19 5,
 .m 78 79])
 (.cond (.t 78)
 (.seq (.reg [.f 80 3 1,
 .l 81 80,
 .f 82 3 3,
 .s 1 82 81])
 (.seq (.reg [.f 83 5 1,
 .l 84 83,
 .f 85 5 3,
 .s 1 85 84])
 (.seq (.reg [.f 86 7 1,
 .l 87 86,
 .f 88 7 3,
 .s 1 88 87])
 (.reg [.f 89 3 1,
 .l 90 89,
 .o 91 (.call (.f 222) [(.t 90)]),
 .m 92 91,
 .v 93 92 true (.fa 3 (.t 1)),
 .v 94 92 true (.ld none (.t 93)),
 .v 95 92 true (.len false (.t 94)),
 .v 96 92 true (.bin .eql (.t 95) (.c (.int .i64 1))),
 .y 97 92 96,
 .m 98 97,
 .v 99 98 true (.fa 5 (.t 1)),
 .v 100 98 true (.ld none (.t 99)),
 .v 101 98 true (.len false (.t 100)),
 .v 102 98 true (.bin .geq (.t 101) (.c (.int .i64 1))),
 .y 103 98 102,
 .m 104 103,
 .v 105 104 true (.mv (.t 5)),
 .v 106 104 true (.bin .eql (.t 105) (.c (.int .i64 1))),
 .y 107 104 106,
 .m 6 107]))))
 (.seq (.reg [.u 109 .eql 19 6,
 .m 108 109])
 (.cond (.t 108)
 (.seq (.reg [.f 110 2 1,
 .l 111 110,
 .f 112 2 3,
 .s 1 112 111])
 (.seq (.reg [.f 113 4 1,
 .l 114 113,
 .f 115 4 3,
 .s 1 115 114])
 (.reg [.f 116 2 1,
 .l 117 116,
 .o 118 (.call (.f 21) [(.t 117)]),
 .m 119 118,
 .v 120 119 true (.mv (.t 4)),
 .v 121 119 true (.bin .leq (.t 120) (.c (.int .i64 8))),
 .y 122 119 121,
 .m 6 122])))
 (.seq (.reg [.u 124 .eql 19 7,
 .m 123 124])
 (.cond (.t 123)
 (.seq (.reg [.f 125 6 1,
 .l 126 125,
 .f 127 6 3,
 .s 1 127 126])
 (.seq (.reg [.f 128 7 1,
 .l 129 128,
 .f 130 7 3,
 .s 1 130 129])
 (.reg [.f 131 6 1,
 .l 132 131,
 .o 133 (.len false (.t 132)),
 .u 134 .geq 133 1,
 .m 135 134,
 .v 136 135 true (.mv (.t 5)),
 .v 137 135 true (.bin .geq (.t 136) (.c (.int .i64 1))),
 .y 138 135 137,
 .m 6 138])))
 (.seq (.reg [.u 140 .eql 19 8,
 .m 139 140])
 (.cond (.t 139)
 (.seq (.reg [.f 141 7 1,
 .l 142 141,
 .f 143 7 3,
 .s 1 143 142])
 (.reg [.m 144 5,
 .u 145 .geq 144 1,
 .m 6 145]))
 (.skip)))))))))))))))))))
 (.seq (.draw [⟨.m 146 6,false,none,false,[],0,0⟩,
 ⟨.m 147 146,false,none,false,[0],0,0⟩,
 ⟨.v 148 147 true (.fa 0 (.t 1)),false,none,false,[1,0],0,0⟩,
 ⟨.v 149 147 true (.ld none (.t 148)),false,none,false,[2,1,0],0,0⟩,
 ⟨.v 150 147 true (.call (.f 223) [(.t 149)]),true,none,false,[3,2,1,0],0,0⟩,
 ⟨.y 151 147 150,false,none,false,[4,3,2,1,0],1,1⟩,
 ⟨.m 152 151,false,none,false,[5,4,3,2,1,0],1,1⟩,
 ⟨.v 153 152 true (.ld (some 8) (.t 1)),false,none,false,[6,5,4,3,2,1,0],1,1⟩,
 ⟨.v 154 152 true (.call (.f 113) [(.t 153)]),true,none,false,[7,6,5,4,3,2,1,0],1,1⟩,
 ⟨.v 155 152 true (.ld (some 8) (.t 3)),false,none,true,[6,5,4,3,2,1,0],1,2⟩,
 ⟨.v 156 152 true (.call (.f 113) [(.t 155)]),true,none,false,[9,8,7,6,5,4,3,2,1,0],2,2⟩,
 ⟨.v 157 152 true (.call (.f 195) [(.t 154),(.t 156)]),true,none,false,[10,9,8,7,6,5,4,3,2,1,0],3,3⟩,
 ⟨.y 158 152 157,false,none,false,[11,10,9,8,7,6,5,4,3,2,1,0],4,4⟩,
 ⟨.m 2 158,false,none,false,[12,11,10,9,8,7,6,5,4,3,2,1,0],4,4⟩] [])
 (.ret)))))))⟩
theorem ok189:oF Tryz.f189 c189:=oI (by kernel_rfl)
def c190:F':=⟨123,[.t 2],
 .seq (.reg [.o 1 (.box (.t 0)),
 .o 2 (.mv (.c (.bool false)))])
 (.seq (.reg [.f 6 0 1,
 .l 7 6,
 .f 8 3 1,
 .l 9 8,
 .o 10 (.build zD [(0,0,1,(.t 7)),(3,3,1,(.t 9))]),
 .o 3 (.new zD),
 .s 7 3 10])
 (.seq (.reg [.f 11 4 1,
 .l 12 11,
 .o 13 (.len false (.t 12)),
 .m 4 13])
 (.seq (.reg [.o 5 (.mv (.c (.bool false)))])
 (.seq (.seq (.reg [.f 14 0 1,
 .l 15 14])
 (.block 0 (.seq (.reg [.u 17 .eql 15 1,
 .m 16 17])
 (.cond (.t 16)
 (.seq (.reg [.f 18 1 1,
 .l 19 18,
 .f 20 1 3,
 .s 1 20 19])
 (.seq (.reg [.f 21 2 1,
 .l 22 21,
 .f 23 2 3,
 .s 1 23 22])
 (.reg [.f 24 2 1,
 .l 25 24,
 .o 26 (.call (.f 224) [(.t 25),(.c (.int .i64 1)),(.c (.int .i64 3))]),
 .m 27 26,
 .v 28 27 true (.fa 3 (.t 1)),
 .v 29 27 true (.ld none (.t 28)),
 .v 30 27 true (.len false (.t 29)),
 .v 31 27 true (.bin .geq (.t 30) (.c (.int .i64 1))),
 .y 32 27 31,
 .m 5 32])))
 (.seq (.reg [.u 34 .eql 15 2,
 .m 33 34])
 (.cond (.t 33)
 (.seq (.reg [.f 35 1 1,
 .l 36 35,
 .f 37 1 3,
 .s 1 37 36])
 (.seq (.reg [.f 38 2 1,
 .l 39 38,
 .f 40 2 3,
 .s 1 40 39])
 (.seq (.reg [.f 41 4 1,
 .l 42 41,
 .f 43 4 3,
 .s 1 43 42])
 (.reg [.f 44 2 1,
 .l 45 44,
 .o 46 (.call (.f 224) [(.t 45),(.c (.int .i64 1)),(.c (.int .i64 3))]),
 .m 47 46,
 .v 48 47 true (.fa 3 (.t 1)),
 .v 49 47 true (.ld none (.t 48)),
 .v 50 47 true (.len false (.t 49)),
 .v 51 47 true (.bin .geq (.t 50) (.c (.int .i64 1))),
 .y 52 47 51,
 .m 53 52,
 .v 54 53 true (.mv (.t 4)),
 .v 55 53 true (.bin .geq (.t 54) (.c (.int .i64 2))),
 .y 56 53 55,
 .m 57 56,
 .v 58 57 true (.mv (.t 4)),
 .v 59 57 true (.bin .rem (.t 58) (.c (.int .i64 2))),
 .v 60 57 true (.bin .eql (.t 59) (.c (.int .i64 0))),
 .y 61 57 60,
 .m 62 61,
 .v 63 62 true (.mv (.t 4)),
 .v 64 62 true (.bin .leq (.t 63) (.c (.int .i64 8))),
 .y 65 62 64,
 .m 5 65]))))
 (.seq (.reg [.u 67 .eql 15 3,
 .m 66 67])
 (.cond (.t 66)
 (.seq (.reg [.f 68 4 1,
 .l 69 68,
 .f 70 4 3,
 .s 1 70 69])
 (.reg [.f 71 3 1,
 .l 72 71,
 .o 73 (.len false (.t 72)),
 .u 74 .eql 73 1,
 .m 75 74,
 .v 76 75 true (.mv (.t 4)),
 .v 77 75 true (.bin .geq (.t 76) (.c (.int .i64 1))),
 .y 78 75 77,
 .m 5 78]))
 (.seq (.reg [.u 80 .eql 15 4,
 .m 79 80])
 (.cond (.t 79)
 (.seq (.reg [.f 81 2 1,
 .l 82 81,
 .f 83 2 3,
 .s 1 83 82])
 (.seq (.reg [.f 84 5 1,
 .l 85 84,
 .f 86 5 3,
 .s 1 86 85])
 (.seq (.reg [.f 87 6 1,
 .l 88 87,
 .f 89 6 3,
 .s 1 89 88])
 (.reg [.f 90 2 1,
 .l 91 90,
 .o 92 (.call (.f 224) [(.t 91),(.c (.int .i64 0)),(.c (.int .i64 3))]),
 .m 93 92,
 .v 94 93 true (.fa 3 (.t 1)),
 .v 95 93 true (.ld none (.t 94)),
 .v 96 93 true (.len false (.t 95)),
 .v 97 93 true (.bin .eql (.t 96) (.c (.int .i64 1))),
 .y 98 93 97,
 .m 99 98,
 .v 100 99 true (.fa 5 (.t 1)),
 .v 101 99 true (.ld none (.t 100)),
 .v 102 99 true (.call (.f 225) [(.t 101)]),
 .y 103 99 102,
 .m 104 103,
 .v 105 104 true (.fa 6 (.t 1)),
 .v 106 104 true (.ld none (.t 105)),
 .v 107 104 true (.len false (.t 106)),
 .v 108 104 true (.bin .eql (.t 107) (.c (.int .i64 1))),
 .y 109 104 108,
 .m 5 109]))))
 (.skip)))))))))))
 (.seq (.draw [⟨.m 110 5,false,none,false,[],0,0⟩,
 ⟨.m 111 110,false,none,false,[0],0,0⟩,
 ⟨.v 112 111 true (.fa 3 (.t 1)),false,none,false,[1,0],0,0⟩,
 ⟨.v 113 111 true (.ld none (.t 112)),false,none,false,[2,1,0],0,0⟩,
 ⟨.v 114 111 true (.call (.f 223) [(.t 113)]),true,none,false,[3,2,1,0],0,0⟩,
 ⟨.y 115 111 114,false,none,false,[4,3,2,1,0],1,1⟩,
 ⟨.m 116 115,false,none,false,[5,4,3,2,1,0],1,1⟩,
 ⟨.v 117 116 true (.ld (some 7) (.t 1)),false,none,false,[6,5,4,3,2,1,0],1,1⟩,
 ⟨.v 118 116 true (.call (.f 135) [(.t 117)]),true,none,false,[7,6,5,4,3,2,1,0],1,1⟩,
 ⟨.v 119 116 true (.ld (some 7) (.t 3)),false,none,true,[6,5,4,3,2,1,0],1,2⟩,
 ⟨.v 120 116 true (.call (.f 135) [(.t 119)]),true,none,false,[9,8,7,6,5,4,3,2,1,0],2,2⟩,
 ⟨.v 121 116 true (.call (.f 195) [(.t 118),(.t 120)]),true,none,false,[10,9,8,7,6,5,4,3,2,1,0],3,3⟩,
 ⟨.y 122 116 121,false,none,false,[11,10,9,8,7,6,5,4,3,2,1,0],4,4⟩,
 ⟨.m 2 122,false,none,false,[12,11,10,9,8,7,6,5,4,3,2,1,0],4,4⟩] [])
 (.ret))))))⟩
theorem ok190:oF Tryz.f190 c190:=oI (by kernel_rfl)
def c191:F':=⟨34,[.t 2],
 .seq (.reg [.o 1 (.box (.t 0)),
 .o 2 (.mv (.c (.bool false)))])
 (.seq (.reg [.f 3 0 1,
 .l 4 3,
 .u 5 .eql 4 1,
 .m 6 5,
 .v 7 6 true (.fa 1 (.t 1)),
 .v 8 6 true (.ld none (.t 7)),
 .v 9 6 true (.len false (.t 8)),
 .v 10 6 true (.bin .eql (.t 9) (.c (.int .i64 1))),
 .y 11 6 10,
 .m 12 11,
 .v 13 12 false (.fa 0 (.t 1)),
 .v 14 12 false (.ld none (.t 13)),
 .v 15 12 false (.bin .eql (.t 14) (.c (.int .i64 2))),
 .v 16 12 false (.mv (.t 15)),
 .v 17 16 true (.fa 1 (.t 1)),
 .v 18 16 true (.ld none (.t 17)),
 .v 19 16 true (.len false (.t 18)),
 .v 20 16 true (.bin .eql (.t 19) (.c (.int .i64 3))),
 .v 21 12 false (.pick (.t 16) (.t 20) (.c (.bool false))),
 .z 22 12 21,
 .m 23 22,
 .v 24 23 false (.fa 0 (.t 1)),
 .v 25 23 false (.ld none (.t 24)),
 .v 26 23 false (.bin .eql (.t 25) (.c (.int .i64 3))),
 .v 27 23 false (.mv (.t 26)),
 .v 28 27 true (.fa 1 (.t 1)),
 .v 29 27 true (.ld none (.t 28)),
 .v 30 27 true (.len false (.t 29)),
 .v 31 27 true (.bin .eql (.t 30) (.c (.int .i64 2))),
 .v 32 23 false (.pick (.t 27) (.t 31) (.c (.bool false))),
 .z 33 23 32,
 .m 2 33])
 (.ret))⟩
theorem ok191:oF Tryz.f191 c191:=oI (by kernel_rfl)
def c192:F':=⟨159,[.t 2],
 .seq (.reg [.o 1 (.box (.t 0)),
 .o 2 (.mv (.c (.bool false)))])
 (.seq (.reg [.f 6 0 1,
 .l 7 6,
 .o 8 (.build zX [(0,0,1,(.t 7))]),
 .o 3 (.new zX),
 .s 7 3 8])
 (.seq (.reg [.f 9 6 1,
 .l 10 9,
 .o 11 (.len false (.t 10)),
 .m 4 11])
 (.seq (.reg [.o 5 (.mv (.c (.bool false)))])
 (.seq (.seq (.reg [.f 12 0 1,
 .l 13 12])
 (.block 0 (.seq (.reg [.u 15 .eql 13 1,
 .m 14 15])
 (.cond (.t 14)
 (.seq (.reg [.f 16 2 1,
 .l 17 16,
 .f 18 2 3,
 .s 1 18 17])
 (.reg [.f 19 2 1,
 .l 20 19,
 .u 21 .geq 20 0,
 .m 22 21,
 .v 23 22 true (.fa 2 (.t 1)),
 .v 24 22 true (.ld none (.t 23)),
 .v 25 22 true (.bin .leq (.t 24) (.c (.int .i64 2147483647))),
 .y 26 22 25,
 .m 27 26,
 .v 28 27 true (.mv (.t 4)),
 .v 29 27 true (.bin .eql (.t 28) (.c (.int .i64 0))),
 .y 30 27 29,
 .m 5 30]))
 (.seq (.reg [.u 32 .eql 13 2,
 .m 31 32])
 (.cond (.t 31)
 (.seq (.reg [.f 33 3 1,
 .j 34 2 33,
 .f 35 3 3,
 .s 2 35 34])
 (.reg [.f 36 3 1,
 .j 37 2 36,
 .o 38 (.call (.f 226) [(.t 37)]),
 .m 39 38,
 .v 40 39 true (.fa 3 (.t 1)),
 .v 41 39 true (.fa 0 (.t 40)),
 .v 42 39 true (.ld none (.t 41)),
 .v 43 39 true (.bin .geq (.t 42) (.c (.int .i64 0))),
 .y 44 39 43,
 .m 45 44,
 .v 46 45 true (.mv (.t 4)),
 .v 47 45 true (.bin .eql (.t 46) (.c (.int .i64 0))),
 .y 48 45 47,
 .m 5 48]))
 (.seq (.seq (.reg [.u 50 .eql 13 3,
 .m 49 50])
 (.cond (.t 49)
 (.skip)
 (.reg [.u 51 .eql 13 4,
 .m 49 51])))
 (.cond (.t 49)
 (.reg [.m 52 4,
 .u 53 .eql 52 0,
 .m 5 53])
 (.seq (.reg [.u 55 .eql 13 5,
 .m 54 55])
 (.cond (.t 54)
 (.seq (.reg [.f 56 5 1,
 .l 57 56,
 .f 58 5 3,
 .s 1 58 57])
 (.reg [.f 59 5 1,
 .l 60 59,
 .o 61 (.call (.f 227) [(.t 60)]),
 .m 62 61,
 .v 63 62 true (.mv (.t 4)),
 .v 64 62 true (.bin .eql (.t 63) (.c (.int .i64 0))),
 .y 65 62 64,
 .m 5 65]))
 (.seq (.reg [.u 67 .eql 13 6,
 .m 66 67])
 (.cond (.t 66)
 (.seq (.reg [.f 68 5 1,
 .l 69 68,
 .f 70 5 3,
 .s 1 70 69])
 (.reg [.f 71 5 1,
 .l 72 71,
 .o 73 (.call (.f 21) [(.t 72)]),
 .m 74 73,
 .v 75 74 true (.mv (.t 4)),
 .v 76 74 true (.bin .eql (.t 75) (.c (.int .i64 0))),
 .y 77 74 76,
 .m 5 77]))
 (.seq (.reg [.u 79 .eql 13 7,
 .m 78 79])
 (.cond (.t 78)
 (.seq (.reg [.f 80 5 1,
 .l 81 80,
 .f 82 5 3,
 .s 1 82 81])
 (.reg [.f 83 5 1,
 .l 84 83,
 .o 85 (.call (.f 21) [(.t 84)]),
 .m 86 85,
 .v 87 86 true (.mv (.t 4)),
 .v 88 86 true (.bin .geq (.t 87) (.c (.int .i64 1))),
 .y 89 86 88,
 .m 90 89,
 .v 91 90 true (.mv (.t 4)),
 .v 92 90 true (.bin .leq (.t 91) (.c (.int .i64 4))),
 .y 93 90 92,
 .m 5 93]))
 (.seq (.reg [.u 95 .eql 13 8,
 .m 94 95])
 (.cond (.t 94)
 (.seq (.reg [.f 96 5 1,
 .l 97 96,
 .f 98 5 3,
 .s 1 98 97])
 (.reg [.f 99 5 1,
 .l 100 99,
 .o 101 (.call (.f 21) [(.t 100)]),
 .m 102 101,
 .v 103 102 true (.mv (.t 4)),
 .v 104 102 true (.bin .geq (.t 103) (.c (.int .i64 1))),
 .y 105 102 104,
 .m 106 105,
 .v 107 106 true (.mv (.t 4)),
 .v 108 106 true (.bin .leq (.t 107) (.c (.int .i64 8))),
 .y 109 106 108,
 .m 5 109]))
 (.seq (.reg [.u 111 .eql 13 9,
 .m 110 111])
 (.cond (.t 110)
 (.seq (.reg [.f 112 1 1,
 .l 113 112,
 .f 114 1 3,
 .s 1 114 113])
 (.reg [.f 115 1 1,
 .l 116 115,
 .u 117 .eql 116 1,
 .m 118 117,
 .v 119 118 false (.fa 1 (.t 1)),
 .v 120 118 false (.ld none (.t 119)),
 .v 121 118 false (.bin .eql (.t 120) (.c (.int .i64 2))),
 .z 122 118 121,
 .m 123 122,
 .v 124 123 true (.mv (.t 4)),
 .v 125 123 true (.bin .eql (.t 124) (.c (.int .i64 1))),
 .y 126 123 125,
 .m 5 126]))
 (.seq (.reg [.u 128 .eql 13 10,
 .m 127 128])
 (.cond (.t 127)
 (.seq (.reg [.f 129 1 1,
 .l 130 129,
 .f 131 1 3,
 .s 1 131 130])
 (.reg [.f 132 1 1,
 .l 133 132,
 .u 134 .geq 133 3,
 .m 135 134,
 .v 136 135 true (.fa 1 (.t 1)),
 .v 137 135 true (.ld none (.t 136)),
 .v 138 135 true (.bin .leq (.t 137) (.c (.int .i64 18))),
 .y 139 135 138,
 .m 140 139,
 .v 141 140 true (.mv (.t 4)),
 .v 142 140 true (.bin .eql (.t 141) (.c (.int .i64 2))),
 .y 143 140 142,
 .m 5 143]))
 (.seq (.reg [.u 145 .eql 13 11,
 .m 144 145])
 (.cond (.t 144)
 (.reg [.m 146 4,
 .u 147 .eql 146 3,
 .m 5 147])
 (.skip)))))))))))))))))))))))
 (.seq (.reg [.f 148 6 1,
 .l 149 148,
 .f 150 6 3,
 .s 1 150 149])
 (.seq (.draw [⟨.m 151 5,false,none,false,[],0,0⟩,
 ⟨.m 152 151,false,none,false,[0],0,0⟩,
 ⟨.v 153 152 true (.ld (some 7) (.t 1)),false,none,false,[1,0],0,0⟩,
 ⟨.v 154 152 true (.call (.f 141) [(.t 153)]),true,none,false,[2,1,0],0,0⟩,
 ⟨.v 155 152 true (.ld (some 7) (.t 3)),false,none,true,[1,0],0,1⟩,
 ⟨.v 156 152 true (.call (.f 141) [(.t 155)]),true,none,false,[4,3,2,1,0],1,1⟩,
 ⟨.v 157 152 true (.call (.f 195) [(.t 154),(.t 156)]),true,none,false,[5,4,3,2,1,0],2,2⟩,
 ⟨.y 158 152 157,false,none,false,[6,5,4,3,2,1,0],3,3⟩,
 ⟨.m 2 158,false,none,false,[7,6,5,4,3,2,1,0],3,3⟩] [])
 (.ret)))))))⟩
theorem ok192:oF Tryz.f192 c192:=oI (by kernel_rfl)
def c205:F':=⟨5,[.cell 2 (some 25)],
 .seq (.reg [.o 1 (.box (.t 0)),
 .o 2 (.new zP)])
 (.seq (.reg [.j 3 2 1,
 .o 4 (.build zP [(0,0,1,(.c (.int .i64 3))),(3,16,2,(.t 3))]),
 .s 25 2 4])
 (.ret))⟩
theorem ok205:oF Tryz.f205 c205:=oI (by kernel_rfl)
def c210:F':=⟨36,[.t 2],
 .seq (.reg [.o 1 (.box (.t 0)),
 .o 2 (.mv (.c (.bool false)))])
 (.seq (.seq (.reg [.j 4 2 1,
 .o 5 (.build (.agg [(.int .i64 0),(.int .i64 0)]) []),
 .o 6 (.ex (.eqs false 2 [(0,.i),(1,.i)] (.t 4) (.t 5)))])
 (.cond (.t 6)
 (.seq (.reg [.o 2 (.mv (.c (.bool true)))])
 (.ret))
 (.skip)))
 (.seq (.reg [.f 7 0 1,
 .l 8 7,
 .f 9 0 1,
 .l 10 9,
 .o 11 (.un .neg (.t 10)),
 .o 12 (.ex (.mm true (.t 8) (.t 11))),
 .m 3 12])
 (.seq (.seq (.reg [.m 13 3,
 .u 14 .lss 13 1,
 .m 15 14,
 .v 16 15 false (.mv (.t 3)),
 .v 17 15 false (.bin .geq (.t 16) (.c (.int .i64 16777216))),
 .z 18 15 17])
 (.cond (.t 18)
 (.seq (.reg [.o 2 (.mv (.c (.bool false)))])
 (.ret))
 (.skip)))
 (.seq (.reg [.f 19 1 1,
 .l 20 19,
 .u 21 .eql 20 (-150),
 .m 22 21,
 .v 23 22 false (.mv (.t 3)),
 .v 24 22 false (.bin .geq (.t 23) (.c (.int .i64 8388608))),
 .v 25 22 false (.mv (.t 24)),
 .v 26 25 true (.fa 1 (.t 1)),
 .v 27 25 true (.ld none (.t 26)),
 .v 28 25 true (.bin .gtr (.t 27) (.c (.int .i64 (-150)))),
 .v 29 22 false (.pick (.t 25) (.t 28) (.c (.bool false))),
 .v 30 22 false (.mv (.t 29)),
 .v 31 30 true (.fa 1 (.t 1)),
 .v 32 30 true (.ld none (.t 31)),
 .v 33 30 true (.bin .leq (.t 32) (.c (.int .i64 150))),
 .v 34 22 false (.pick (.t 30) (.t 33) (.c (.bool false))),
 .z 35 22 34,
 .m 2 35])
 (.ret)))))⟩
theorem ok210:oF Tryz.f210 c210:=oI (by kernel_rfl)
def c211:F':=⟨25,[.t 2],
 .seq (.reg [.o 2 (.mv (.c (.bool false)))])
 (.seq (.seq (.reg [.o 3 (.mv (.c (.int .i64 0)))])
 (.block 0 (.loop (.seq (.seq (.reg [.m 4 3,
 .m 5 0,
 .o 6 (.len true (.t 5)),
 .b 7 .lss 4 6])
 (.cond (.t 7)
 (.skip)
 (.exit 0)))
 (.seq (.block 1 (.seq (.reg [.m 10 0,
 .m 11 3,
 .o 12 (.idx (.t 10) (.t 11)),
 .o 13 (.conv .i64 (.t 12)),
 .o 14 (.call (.f 209) [(.t 13),(.c (.int .i64 32)),(.c (.int .i64 126))]),
 .o 15 (.un .not (.t 14)),
 .m 16 15,
 .v 17 16 false (.mv (.t 0)),
 .v 18 16 false (.mv (.t 3)),
 .v 19 16 false (.idx (.t 17) (.t 18)),
 .v 20 16 false (.bin .eql (.t 19) (.c (.int .u8 34))),
 .z 21 16 20])
 (.cond (.t 21)
 (.seq (.reg [.o 2 (.mv (.c (.bool false)))])
 (.ret))
 (.skip))))
 (.reg [.m 8 3,
 .u 9 .add 8 1,
 .m 3 9]))))))
 (.seq (.reg [.m 22 0,
 .o 23 (.len true (.t 22)),
 .u 24 .leq 23 80,
 .m 2 24])
 (.ret)))⟩
theorem ok211:oF Tryz.f211 c211:=oI (by kernel_rfl)
def c222:F':=⟨19,[.t 2],
 .seq (.reg [.o 2 (.mv (.c (.bool false)))])
 (.seq (.seq (.reg [.o 3 (.mv (.c (.int .i64 0)))])
 (.block 0 (.loop (.seq (.seq (.reg [.m 4 3,
 .m 5 0,
 .o 6 (.len false (.t 5)),
 .b 7 .lss 4 6])
 (.cond (.t 7)
 (.skip)
 (.exit 0)))
 (.seq (.block 1 (.seq (.reg [.m 10 0,
 .m 11 3,
 .i 12 7 10 11,
 .j 13 7 12,
 .o 14 (.call (.f 257) [(.t 13)]),
 .o 15 (.un .not (.t 14))])
 (.cond (.t 15)
 (.seq (.reg [.o 2 (.mv (.c (.bool false)))])
 (.ret))
 (.skip))))
 (.reg [.m 8 3,
 .u 9 .add 8 1,
 .m 3 9]))))))
 (.seq (.reg [.m 16 0,
 .o 17 (.len false (.t 16)),
 .u 18 .gtr 17 0,
 .m 2 18])
 (.ret)))⟩
theorem ok222:oF Tryz.f222 c222:=oI (by kernel_rfl)
def c223:F':=⟨16,[.t 2],
 .seq (.reg [.o 2 (.mv (.c (.bool false)))])
 (.seq (.seq (.reg [.o 3 (.mv (.c (.int .i64 0)))])
 (.block 0 (.loop (.seq (.seq (.reg [.m 4 3,
 .m 5 0,
 .o 6 (.len false (.t 5)),
 .b 7 .lss 4 6])
 (.cond (.t 7)
 (.skip)
 (.exit 0)))
 (.seq (.block 1 (.seq (.reg [.m 10 0,
 .m 11 3,
 .i 12 1 10 11,
 .l 13 12,
 .o 14 (.call (.f 21) [(.t 13)]),
 .o 15 (.un .not (.t 14))])
 (.cond (.t 15)
 (.seq (.reg [.o 2 (.mv (.c (.bool false)))])
 (.ret))
 (.skip))))
 (.reg [.m 8 3,
 .u 9 .add 8 1,
 .m 3 9]))))))
 (.seq (.reg [.o 2 (.mv (.c (.bool true)))])
 (.ret)))⟩
theorem ok223:oF Tryz.f223 c223:=oI (by kernel_rfl)
def c224:F':=⟨15,[.t 6],
 .seq (.reg [.o 6 (.mv (.c (.bool false)))])
 (.seq (.reg [.m 7 0,
 .m 8 1,
 .b 9 .geq 7 8,
 .m 10 9,
 .v 11 10 true (.mv (.t 0)),
 .v 12 10 true (.mv (.t 2)),
 .v 13 10 true (.bin .leq (.t 11) (.t 12)),
 .y 14 10 13,
 .m 6 14])
 (.ret))⟩
theorem ok224:oF Tryz.f224 c224:=oI (by kernel_rfl)
def c225:F':=⟨36,[.t 2],
 .seq (.reg [.o 2 (.mv (.c (.bool false)))])
 (.seq (.seq (.reg [.o 3 (.mv (.c (.int .i64 0)))])
 (.block 0 (.loop (.seq (.seq (.reg [.m 5 3,
 .m 6 0,
 .o 7 (.len false (.t 6)),
 .b 8 .lss 5 7])
 (.cond (.t 8)
 (.skip)
 (.exit 0)))
 (.seq (.block 1 (.seq (.seq (.reg [.o 4 (.mv (.c (.int .i64 0)))])
 (.block 2 (.loop (.seq (.seq (.reg [.m 11 4,
 .m 12 3,
 .b 13 .lss 11 12])
 (.cond (.t 13)
 (.skip)
 (.exit 2)))
 (.seq (.block 3 (.seq (.draw [⟨.m 16 0,false,none,false,[],0,0⟩,
 ⟨.m 17 4,false,none,false,[],0,0⟩,
 ⟨.i 18 4 16 17,false,none,false,[0,1],0,0⟩,
 ⟨.f 19 0 18,false,none,false,[2,0,1],0,0⟩,
 ⟨.l 20 19,false,none,false,[3,2,0,1],0,0⟩,
 ⟨.m 21 0,false,none,false,[],0,0⟩,
 ⟨.m 22 3,false,none,false,[],0,0⟩,
 ⟨.i 23 4 21 22,false,none,false,[5,6],0,0⟩,
 ⟨.f 24 0 23,false,none,false,[7,5,6],0,0⟩,
 ⟨.l 25 24,false,none,false,[8,7,5,6],0,0⟩,
 ⟨.b 26 .eql 20 25,false,none,false,[4,9,3,2,0,1,8,7,5,6],0,0⟩] [])
 (.cond (.t 26)
 (.seq (.reg [.o 2 (.mv (.c (.bool false)))])
 (.ret))
 (.skip))))
 (.reg [.m 14 4,
 .u 15 .add 14 1,
 .m 4 15]))))))
 (.seq (.reg [.m 27 0,
 .m 28 3,
 .i 29 4 27 28,
 .j 30 4 29,
 .o 31 (.call (.f 258) [(.t 30)]),
 .o 32 (.un .not (.t 31))])
 (.cond (.t 32)
 (.seq (.reg [.o 2 (.mv (.c (.bool false)))])
 (.ret))
 (.skip)))))
 (.reg [.m 9 3,
 .u 10 .add 9 1,
 .m 3 10]))))))
 (.seq (.reg [.m 33 0,
 .o 34 (.len false (.t 33)),
 .u 35 .leq 34 8,
 .m 2 35])
 (.ret)))⟩
theorem ok225:oF Tryz.f225 c225:=oI (by kernel_rfl)
def c226:F':=⟨43,[.t 2],
 .seq (.reg [.o 1 (.box (.t 0)),
 .o 2 (.mv (.c (.bool false)))])
 (.seq (.reg [.f 4 0 1,
 .l 5 4,
 .m 3 5])
 (.seq (.seq (.reg [.m 6 3,
 .u 7 .lss 6 0])
 (.cond (.t 7)
 (.reg [.m 8 3,
 .o 9 (.bin .sub (.c (.int .i64 0)) (.t 8)),
 .m 3 9])
 (.skip)))
 (.seq (.seq (.reg [.m 10 3,
 .u 11 .eql 10 0])
 (.cond (.t 11)
 (.seq (.reg [.f 12 0 1,
 .l 13 12,
 .u 14 .eql 13 0,
 .m 15 14,
 .v 16 15 true (.fa 1 (.t 1)),
 .v 17 15 true (.ld none (.t 16)),
 .v 18 15 true (.bin .eql (.t 17) (.c (.int .i64 0))),
 .y 19 15 18,
 .m 2 19])
 (.ret))
 (.skip)))
 (.seq (.seq (.reg [.m 20 3,
 .u 21 .lss 20 0,
 .m 22 21,
 .v 23 22 false (.mv (.t 3)),
 .v 24 22 false (.bin .geq (.t 23) (.c (.int .i64 16777216))),
 .z 25 22 24,
 .m 26 25,
 .v 27 26 false (.fa 1 (.t 1)),
 .v 28 26 false (.ld none (.t 27)),
 .v 29 26 false (.bin .lss (.t 28) (.c (.int .i64 (-150)))),
 .z 30 26 29,
 .m 31 30,
 .v 32 31 false (.fa 1 (.t 1)),
 .v 33 31 false (.ld none (.t 32)),
 .v 34 31 false (.bin .gtr (.t 33) (.c (.int .i64 150))),
 .z 35 31 34])
 (.cond (.t 35)
 (.seq (.reg [.o 2 (.mv (.c (.bool false)))])
 (.ret))
 (.skip)))
 (.seq (.reg [.m 36 3,
 .u 37 .geq 36 8388608,
 .m 38 37,
 .v 39 38 false (.fa 1 (.t 1)),
 .v 40 38 false (.ld none (.t 39)),
 .v 41 38 false (.bin .eql (.t 40) (.c (.int .i64 (-150)))),
 .z 42 38 41,
 .m 2 42])
 (.ret))))))⟩
theorem ok226:oF Tryz.f226 c226:=oI (by kernel_rfl)
def c227:F':=⟨29,[.t 2],
 .seq (.reg [.o 2 (.mv (.c (.bool false)))])
 (.seq (.seq (.reg [.o 3 (.mv (.c (.int .i64 0)))])
 (.block 0 (.loop (.seq (.seq (.reg [.m 4 3,
 .m 5 0,
 .o 6 (.len true (.t 5)),
 .b 7 .lss 4 6])
 (.cond (.t 7)
 (.skip)
 (.exit 0)))
 (.seq (.block 1 (.seq (.reg [.m 10 0,
 .m 11 3,
 .o 12 (.idx (.t 10) (.t 11)),
 .o 13 (.bin .lss (.t 12) (.c (.int .u8 32))),
 .m 14 13,
 .v 15 14 false (.mv (.t 0)),
 .v 16 14 false (.mv (.t 3)),
 .v 17 14 false (.idx (.t 15) (.t 16)),
 .v 18 14 false (.bin .gtr (.t 17) (.c (.int .u8 126))),
 .z 19 14 18,
 .m 20 19,
 .v 21 20 false (.mv (.t 0)),
 .v 22 20 false (.mv (.t 3)),
 .v 23 20 false (.idx (.t 21) (.t 22)),
 .v 24 20 false (.bin .eql (.t 23) (.c (.int .u8 34))),
 .z 25 20 24])
 (.cond (.t 25)
 (.seq (.reg [.o 2 (.mv (.c (.bool false)))])
 (.ret))
 (.skip))))
 (.reg [.m 8 3,
 .u 9 .add 8 1,
 .m 3 9]))))))
 (.seq (.reg [.m 26 0,
 .o 27 (.len true (.t 26)),
 .u 28 .leq 27 80,
 .m 2 28])
 (.ret)))⟩
theorem ok227:oF Tryz.f227 c227:=oI (by kernel_rfl)
def c257:F':=⟨11,[.t 2],
 .seq (.reg [.o 1 (.box (.t 0)),
 .o 2 (.mv (.c (.bool false)))])
 (.seq (.reg [.f 3 0 1,
 .l 4 3,
 .u 5 .eql 4 6,
 .m 6 5,
 .v 7 6 false (.fa 0 (.t 1)),
 .v 8 6 false (.ld none (.t 7)),
 .v 9 6 false (.bin .eql (.t 8) (.c (.int .i64 7))),
 .z 10 6 9,
 .m 2 10])
 (.ret))⟩
theorem ok257:oF Tryz.f257 c257:=oI (by kernel_rfl)
def c258:F':=⟨49,[.t 2],
 .seq (.reg [.o 1 (.box (.t 0)),
 .o 2 (.mv (.c (.bool false)))])
 (.seq (.reg [.o 3 (.mv (.c (.bool false)))])
 (.seq (.seq (.reg [.f 4 2 1,
 .l 5 4])
 (.block 0 (.seq (.seq (.reg [.u 7 .eql 5 0,
 .m 6 7])
 (.cond (.t 6)
 (.skip)
 (.seq (.reg [.u 8 .eql 5 3,
 .m 6 8])
 (.cond (.t 6)
 (.skip)
 (.seq (.reg [.u 9 .eql 5 4,
 .m 6 9])
 (.cond (.t 6)
 (.skip)
 (.reg [.u 10 .eql 5 5,
 .m 6 10])))))))
 (.cond (.t 6)
 (.reg [.f 11 3 1,
 .l 12 11,
 .u 13 .eql 12 0,
 .m 3 13])
 (.seq (.reg [.u 15 .eql 5 1,
 .m 14 15])
 (.cond (.t 14)
 (.reg [.f 16 3 1,
 .l 17 16,
 .o 18 (.call (.f 224) [(.t 17),(.c (.int .i64 1)),(.c (.int .i64 3))]),
 .m 3 18])
 (.seq (.seq (.reg [.u 20 .eql 5 2,
 .m 19 20])
 (.cond (.t 19)
 (.skip)
 (.reg [.u 21 .eql 5 6,
 .m 19 21])))
 (.cond (.t 19)
 (.reg [.f 22 3 1,
 .l 23 22,
 .o 24 (.call (.f 224) [(.t 23),(.c (.int .i64 0)),(.c (.int .i64 3))]),
 .m 3 24])
 (.skip)))))))))
 (.seq (.seq (.reg [.f 25 1 1,
 .l 26 25])
 (.cond (.t 26)
 (.reg [.m 27 3,
 .m 28 27,
 .v 29 28 true (.fa 2 (.t 1)),
 .v 30 28 true (.ld none (.t 29)),
 .v 31 28 true (.bin .eql (.t 30) (.c (.int .i64 1))),
 .v 32 28 true (.mv (.t 31)),
 .v 33 32 false (.fa 2 (.t 1)),
 .v 34 32 false (.ld none (.t 33)),
 .v 35 32 false (.bin .eql (.t 34) (.c (.int .i64 2))),
 .v 36 28 true (.pick (.t 32) (.c (.bool true)) (.t 35)),
 .y 37 28 36,
 .m 38 37,
 .v 39 38 true (.fa 3 (.t 1)),
 .v 40 38 true (.ld none (.t 39)),
 .v 41 38 true (.bin .neq (.t 40) (.c (.int .i64 0))),
 .y 42 38 41,
 .m 3 42])
 (.skip)))
 (.seq (.reg [.m 43 3,
 .m 44 43,
 .v 45 44 true (.fa 0 (.t 1)),
 .v 46 44 true (.ld none (.t 45)),
 .v 47 44 true (.call (.f 21) [(.t 46)]),
 .y 48 44 47,
 .m 2 48])
 (.ret)))))⟩
theorem ok258:oF Tryz.f258 c258:=oI (by kernel_rfl)
open Go.Proofs.Tryz
@[simp] theorem uEx(l:List Ex):V.underL 0 (l.map Ex.v)=true:=qaI fun x _=>Ex.v_under x
@[simp] theorem uEl(l:List El):V.underL 0 (l.map El.v)=true:=qaI fun x _=>El.v_under x
@[simp] theorem uFo(l:List Fo):V.underL 0 (l.map Fo.v)=true:=qaI fun x _=>Fo.v_under x
@[simp] theorem uDe(l:List De):V.underL 0 (l.map De.v)=true:=qaI fun x _=>De.v_under x
@[simp] theorem uSm(l:List Sm):V.underL 0 (l.map Sm.v)=true:=qaI fun x _=>Sm.v_under x
@[simp] theorem uStr(l:List ByteArray):V.underL 0 (l.map .str)=true:=qaI fun x _=>rfl
theorem qjP{l:List Ex}{i:Nat}(h:i<l.length):SizeOf.sizeOf l[i].args<SizeOf.sizeOf l:=by
 have h1:=qus (qtM h)
 have h2:SizeOf.sizeOf l[i].args<SizeOf.sizeOf l[i]:=by
  cases l[i] with
  | mk k o n m e t a=>simp[Ex.args];omega
 omega
theorem qds{α:Type}{l:List α}{i:Nat}(h:i<l.length):l.drop i=l[i]::l.drop (i+1):=qu0 h
theorem qjk:∀(k:Nat) (l:List Ex),SizeOf.sizeOf l≤k→l.length≤B50→Ex.okL l→∀deep n:Int,0≤deep→deep≤1000→-4503599627370496≤n→n≤1000→∀S,Fn prog 72 [.sl false (l.map Ex.v),.int .i64 deep,.int .i64 n] S (.int .i64 (Ex.leftL l deep n)):=by
 intro k
 induction k with
 | zero=>intro l h;cases l <;> simp at h
 | succ k ih=>
  intro l hsz hlen hok deep n hd0 hd1 hn0 hn1;refine Pu.intro (R:=fun v=>v=.int .i64 (Ex.leftL l deep n)) func72 ok72 (by simp[c72]) (by simp[V.under,V.underL]) (by rintro v rfl;rfl) ?_;unfold Ex.leftL;by_cases hd:deep > 40
  ·simp[c72,show (40:Int)<deep from hd];exact qaa rfl rfl rfl
  simp[c72,show ¬ (40:Int)<deep from hd];refine qap (fun j e S'=>∃(i:Nat) (m:Int),j=l.length - i∧i≤l.length∧Ex.leftG (l.drop i) deep m=Ex.leftG l deep n∧m≤n∧-4503599627370496≤m∧S'=[]∧
   e=[(7,.int .i64 i),(2,.int .i64 m),(0,.sl false (l.map Ex.v)),(1,.int .i64 deep),(6,.int .i64 0)]) l.length _ ?_ ⟨0,n,by simp,by omega,rfl,by omega,by omega,rfl,rfl⟩ ?_
  ·exact Env.so (by simp)
  rintro j e S' ⟨i,m,rfl,hi,hm,hmn,hm0,rfl,rfl⟩;by_cases h:i<l.length
  ·by_cases h0:0<m
   ·have hx:=ih l[i].args (by have:=qjP h;omega) (Ex.ok_args (Ex.okL_mem hok _ (qtM h))).1 (Ex.ok_args (Ex.okL_mem hok _ (qtM h))).2 (deep+1) (m - 1) (by omega) (by omega) (by omega) (by omega);have hle:=Ex.left_le l[i] deep m h0;simp[h,h0,iaEx,qaz (n:=deep+1) (by omega) (by omega),qaz (n:=m - 1) (by omega) (by omega)];refine qag (hx []) ?_;rw[←Ex.left_eq];simp[qaz (n:=(i:Int)+1) (by unfold B50 at hlen;omega) (by unfold B50 at hlen;omega)];refine ⟨_,?_,_,?_,i+1,rfl,by omega,l[i].left deep m,?_,?_,?_,rfl⟩
    ·omega
    ·repeat' first|exact Env.sub_nil _|refine Env.sub_cons (by simp;rfl) ?_|refine Env.sub_cons (by simp) ?_
    ·rw[←hm,qds h,Ex.leftG,if_pos h0]
    ·omega
    ·omega
   ·simp[h,h0];refine qaa rfl ?_ rfl;simp only[retV];rw[←hm,Ex.leftG_neg _ _ _ (by omega)]
  ·simp[h];refine qaa rfl ?_ rfl;simp only[retV];rw[←hm,quZ (by omega),Ex.leftG]
theorem qbo(l:List Ex)(deep n:Int):Ex.leftL l deep n≤max n 0∧min n 0≤Ex.leftL l deep n:=by
 by_cases h:0≤n
 ·have:=Ex.leftL_le l deep n h;omega
 ·unfold Ex.leftL;split
  ·omega
  ·rw[Ex.leftG_neg _ _ _ (by omega)];omega
theorem qpk{s:Sm}{i:Nat}(h:i<s.body.length):SizeOf.sizeOf s.body[i]<SizeOf.sizeOf s:=by
 have h1:=qus (qtM h);cases s;simp only[Sm.body] at *;simp;omega
theorem qtn{s:Sm}{i:Nat}(h:i<s.decls.length):SizeOf.sizeOf s.decls[i]<SizeOf.sizeOf s:=by
 have h1:=qus (qtM h);cases s;simp only[Sm.decls] at *;simp;omega
theorem qqG{s:De}{i:Nat}(h:i<s.body.length):SizeOf.sizeOf s.body[i]<SizeOf.sizeOf s:=by
 have h1:=qus (qtM h);cases s;simp only[De.body] at *;simp;omega
open Go.Proofs.Tryz
def Bd(m:Int):Prop:=-4503599627370496≤m∧m≤1000
theorem El.leftG_bd:∀(l:List El) (deep n:Int),Bd n→Bd (El.leftG l deep n)
 | [],_,n,h=>h
 | x::l,deep,n,h=>by
  rw[El.leftG];split
  ·have:=qbo x.exps (deep+1) (n - 1);refine El.leftG_bd l deep _ ?_;unfold Bd at *;omega
  ·exact h
mutual
theorem Sm.left_bd:∀(s:Sm) (deep n:Int),s.ok→0<n→n≤1000→Bd (s.left deep n)
 | .mk l k t g e f d b,deep,n,h,h0,h1=>by
  simp only[Sm.ok] at h;obtain ⟨hl,ht,hg,he,hf,hd,hb,hbl⟩:=h;rw[Sm.left];split
  ·unfold Bd;omega
  ·have h2:=hl.1;have h3:=qbo e (deep+1) (n - 1 - l.length);have h4:=qbo g (deep+1) (Ex.leftL e (deep+1) (n - 1 - l.length));refine Sm.leftG_bd b _ _ hbl (De.leftG_bd d _ _ hd.2 (El.leftG_bd f _ _ ?_));unfold Bd B50 at *;omega
theorem De.left_bd:∀(s:De) (deep n:Int),s.ok→0<n→n≤1000→Bd (s.left deep n)
 | .mk k o t nm e f b,deep,n,h,h0,h1=>by
  simp only[De.ok] at h;obtain ⟨hn,he,hf,hb,hbl⟩:=h;rw[De.left];have h2:=hn.1;have h3:=hf.1;have h4:=qbo e (deep+1) (n - 1 - nm.length - f.length);refine Sm.leftG_bd b _ _ hbl ?_;unfold Bd B50 at *;omega
theorem De.leftG_bd:∀(l:List De) (deep n:Int),De.okL l→Bd n→Bd (De.leftG l deep n)
 | [],_,n,_,h=>h
 | x::l,deep,n,hk,h=>by
  simp only[De.okL] at hk;rw[De.leftG];split
  ·rename_i h0;exact De.leftG_bd l deep _ hk.2 (De.left_bd x deep n hk.1 h0 h.2)
  ·exact h
theorem Sm.leftG_bd:∀(l:List Sm) (deep n:Int),Sm.okL l→Bd n→Bd (Sm.leftG l deep n)
 | [],_,n,_,h=>h
 | x::l,deep,n,hk,h=>by
  simp only[Sm.okL] at hk;rw[Sm.leftG];split
  ·rename_i h0;exact Sm.leftG_bd l deep _ hk.2 (Sm.left_bd x deep n hk.1 h0 h.2)
  ·exact h
end
theorem El.leftG_neg{l:List El}{deep n:Int}(h:¬ 0<n):El.leftG l deep n=n:=by cases l <;> simp[El.leftG,h]
theorem De.leftG_neg{l:List De}{deep n:Int}(h:¬ 0<n):De.leftG l deep n=n:=by cases l <;> simp[De.leftG,h]
theorem Sm.leftG_neg{l:List Sm}{deep n:Int}(h:¬ 0<n):Sm.leftG l deep n=n:=by cases l <;> simp[Sm.leftG,h]
theorem De.left_eq(d:De)(deep n:Int):d.left deep n=Sm.leftG d.body (deep+1) (Ex.leftL d.exps (deep+1) (n - 1 - d.names.length - d.formals.length)):=by cases d;rw[De.left];rfl
theorem Sm.left_eq(s:Sm)(deep n:Int):s.left deep n=if deep > 30 then 0 else
 Sm.leftG s.body (deep+1) (De.leftG s.decls deep (El.leftG s.elems deep (Ex.leftL s.targets (deep+1) (Ex.leftL s.exps (deep+1) (n - 1 - s.labels.length))))):=by cases s;rw[Sm.left];rfl
theorem qs0:∀(k:Nat) (s:Sm),SizeOf.sizeOf s≤k→s.ok→∀deep n:Int,0≤deep→deep≤1000→0<n→n≤1000→∀S,Fn prog 52 [s.v,.int .i64 deep,.int .i64 n] S (.int .i64 (s.left deep n)):=by
 intro k
 induction k with
 | zero=>intro s h;cases s;simp at h
 | succ k ih=>
  intro s hsz hok deep n hd0 hd1 hn0 hn1;have O:=(Sm.ok_iff s).1 hok;refine Pu.ib func52 ok52 (by simp[c52]) (by simp[V.under]) rfl ?_;have hl:=O.labels.1;rw[Sm.left_eq];by_cases hd:deep > 30
  ·simp[c52,boxS,ldS,show (30:Int)<deep from hd];exact qaa rfl rfl rfl
  have e1:IntKind.i64.wrap (n - 1)=n - 1:=qaz (by omega) (by omega);have e2:IntKind.i64.wrap (n - 1 - s.labels.length)=n - 1 - s.labels.length:=qaz (by unfold B50 at hl;omega) (by omega);have e3:IntKind.i64.wrap (deep+1)=deep+1:=qaz (by omega) (by omega);have b1:=qbo s.exps (deep+1) (n - 1 - s.labels.length);have b2:=qbo s.targets (deep+1) (Ex.leftL s.exps (deep+1) (n - 1 - s.labels.length));simp[c52,boxS,ldS,show ¬ (30:Int)<deep from hd,e1,e2,e3];refine qa6 (qjk _ s.exps (qtH _) O.exps.1 O.exps.2 (deep+1) (n - 1 - s.labels.length) (by omega) (by omega) (by unfold B50 at hl;omega) (by omega) _) ?_;simp;refine qa6 (qjk _ s.targets (qtH _) O.targets.1 O.targets.2 (deep+1) _ (by omega) (by omega) (by unfold B50 at hl;omega) (by omega) _) ?_;simp[dend,qbe,qbj,ldS];generalize hm0:Ex.leftL s.targets (deep+1) (Ex.leftL s.exps (deep+1) (n - 1 - s.labels.length))=m0 at b2 ⊢;have B0:Bd m0:=by unfold Bd;unfold B50 at hl;omega
  have B1:=El.leftG_bd s.elems deep m0 B0;have B2:=De.leftG_bd s.decls deep _ O.decls.2 B1;have l1:=O.elems.1;have l2:=O.decls.1;have l3:=O.body.1;unfold B50 at l1 l2 l3;refine qaC (fun e S=>e.get 2=some (.int .i64 (El.leftG s.elems deep m0))∧e.get 3=some (.ptr 0 0 0 1)∧e.get 1=some (.int .i64 deep)∧e.get 6=some (.int .i64 0)∧S=[.arr [s.v] 8 1]) ?_ ?_
  ·refine qap (fun j e S'=>∃(i:Nat) (m:Int),j=s.elems.length - i∧i≤s.elems.length∧El.leftG (s.elems.drop i) deep m=El.leftG s.elems deep m0∧Bd m∧S'=[.arr [s.v] 8 1]∧
    e=[(7,.int .i64 i),(2,.int .i64 m),(3,.ptr 0 0 0 1),(1,.int .i64 deep),(6,.int .i64 0)]) s.elems.length _ ?_ ⟨0,m0,by simp,by omega,rfl,B0,rfl,rfl⟩ ?_
   ·exact Env.so (by simp)
   rintro j e S' ⟨i,m,rfl,hi,hm,hB,rfl,rfl⟩;by_cases h:i<s.elems.length
   ·by_cases h0:0<m
    ·have hB':=hB;unfold Bd at hB';have b3:=qbo s.elems[i].exps (deep+1) (m - 1);have o3:=O.elems.2 _ (qtM h);have hx:=qjk _ s.elems[i].exps (qtH _) o3.1 o3.2 (deep+1) (m - 1) (by omega) (by omega) (by omega) (by omega);simp[h,h0,ldS,iaEl,e3,qaz (n:=m - 1) (by omega) (by omega)];refine qag (hx _) ?_;simp[qaK (n:=(i:Int)+1)];refine ⟨_,?_,_,?_,i+1,rfl,by omega,Ex.leftL s.elems[i].exps (deep+1) (m - 1),?_,?_,rfl⟩
     ·omega
     ·repeat' first|exact Env.sub_nil _|refine Env.sub_cons (by simp;rfl) ?_|refine Env.sub_cons (by simp) ?_
     ·rw[←hm,qds h,El.leftG,if_pos h0]
     ·unfold Bd;omega
    ·simp[h,h0,ldS];rw[←hm,El.leftG_neg h0]
   ·simp[h,ldS];rw[←hm,quZ (by omega)];rfl
  rintro e S ⟨g2,g3,g1,g6,rfl⟩;generalize hm1:El.leftG s.elems deep m0=m1 at *;simp[g1,g2,g3];refine qaC (fun e S=>e.get 2=some (.int .i64 (De.leftG s.decls deep m1))∧e.get 3=some (.ptr 0 0 0 1)∧e.get 1=some (.int .i64 deep)∧e.get 6=some (.int .i64 0)∧S[0]?=some (.arr [s.v] 8 1)) ?_ ?_
  ·refine qap (fun j e S'=>∃(i:Nat) (m:Int),j=s.decls.length - i∧i≤s.decls.length∧De.leftG (s.decls.drop i) deep m=De.leftG s.decls deep m1∧Bd m∧S'[0]?=some (.arr [s.v] 8 1)∧
    e=[(8,.int .i64 i),(2,.int .i64 m),(3,.ptr 0 0 0 1),(1,.int .i64 deep),(6,.int .i64 0)]) s.decls.length _ ?_ ⟨0,m1,by simp,by omega,rfl,B1,rfl,rfl⟩ ?_
   ·repeat' first|exact Env.sub_nil _|refine Env.sub_cons (by simp[g1,g2,g3,g6]) ?_
   rintro j e S' ⟨i,m,rfl,hi,hm,hB,hz,rfl⟩;by_cases h:i<s.decls.length
   ·by_cases h0:0<m
    ·have hB':=hB;unfold Bd at hB';have o3:=(De.ok_iff _).1 (De.okL_mem O.decls.2 _ (qtM h));have lt3:=qtn h;generalize hdd:s.decls[i]=d at *;have q1:=o3.names.1;have q2:=o3.formals.1;have q3:=o3.body.1;unfold B50 at q1 q2 q3;have b3:=qbo d.exps (deep+1) (m - 1 - d.names.length - d.formals.length);have hx:=qjk _ d.exps (qtH _) o3.exps.1 o3.exps.2 (deep+1) (m - 1 - d.names.length - d.formals.length) (by omega) (by omega) (by omega) (by omega);have w1:IntKind.i64.wrap (m - 1)=m - 1:=qaz (by omega) (by omega);have w2:IntKind.i64.wrap (m - 1 - d.names.length)=m - 1 - d.names.length:=qaz (by omega) (by omega);have w3:IntKind.i64.wrap (m - 1 - d.names.length - d.formals.length)=m - 1 - d.names.length - d.formals.length:=qaz (by omega) (by omega);have B3:Bd (Ex.leftL d.exps (deep+1) (m - 1 - d.names.length - d.formals.length)):=by unfold Bd;omega
     have hnext:De.leftG (s.decls.drop (i+1)) deep (d.left deep m)=De.leftG s.decls deep m1:=by rw[←hm,qds h,De.leftG,if_pos h0,hdd]
     rw[De.left_eq] at hnext;have B4:=Sm.leftG_bd d.body (deep+1) _ o3.body.2 B3;simp[h,h0,hz,ldS,iaDe,hdd,boxS,stS,qbs,e3,w1,w2,w3];refine qag (hx _) ?_;generalize Ex.leftL d.exps (deep+1) (m - 1 - d.names.length - d.formals.length)=m2 at *;simp;refine qaC (fun e U=>e.get 2=some (.int .i64 (Sm.leftG d.body (deep+1) m2))∧e.get 3=some (.ptr 0 0 0 1)∧e.get 1=some (.int .i64 deep)∧e.get 6=some (.int .i64 0)∧e.get 8=some (.int .i64 i)∧U[0]?=some (.arr [s.v] 8 1)) ?_ ?_
     ·have hz':(S'++[Ob.arr [d.v] 7 1])[0]?=some (.arr [s.v] 8 1):=by rw[qtD (qtB.1 hz).1];exact hz
      have hd':(S'++[Ob.arr [d.v] 7 1])[S'.length]?=some (.arr [d.v] 7 1):=by simp
      generalize S'++[Ob.arr [d.v] 7 1]=U at *;generalize S'.length=L at *;refine qap (fun j e S'=>∃(r:Nat) (q:Int),j=d.body.length - r∧r≤d.body.length∧Sm.leftG (d.body.drop r) (deep+1) q=Sm.leftG d.body (deep+1) m2∧Bd q∧S'=U∧
       e=[(10,.int .i64 r),(9,.ptr L 0 0 1),(8,.int .i64 i),(2,.int .i64 q),(3,.ptr 0 0 0 1),(1,.int .i64 deep),(6,.int .i64 0)]) d.body.length _ ?_ ⟨0,m2,by simp,by omega,rfl,B3,rfl,rfl⟩ ?_
      ·exact Env.so (by simp)
      rintro j e S' ⟨r,q,rfl,hr,hq,hBq,rfl,rfl⟩;by_cases g:r<d.body.length
      ·by_cases g0:0<q
       ·have hBq':=hBq;unfold Bd at hBq';have lt4:SizeOf.sizeOf d.body[r]<SizeOf.sizeOf d:=qqG g;have ok4:=Sm.okL_mem o3.body.2 _ (qtM g);have hy:=ih d.body[r] (by omega) ok4 (deep+1) q (by omega) (by omega) g0 (by omega) S';have B5:=Sm.left_bd d.body[r] (deep+1) q ok4 g0 hBq'.2;simp[g,g0,hz',hd',ldS,iaSm,e3];refine qag hy ?_;simp[qaK (n:=(r:Int)+1)];refine ⟨_,?_,_,?_,r+1,rfl,by omega,d.body[r].left (deep+1) q,?_,B5,rfl⟩
        ·omega
        ·repeat' first|exact Env.sub_nil _|refine Env.sub_cons (by simp;rfl) ?_|refine Env.sub_cons (by simp) ?_
        ·rw[←hq,qds g,Sm.leftG,if_pos g0]
       ·simp[g,g0,hz',hd',ldS];rw[←hq,Sm.leftG_neg g0]
      ·simp[g,hz',hd',ldS];rw[←hq,quZ (by omega)];rfl
     ·rintro e U ⟨f2,f3,f1,f6,f8,fz⟩;simp[f8,qaK (n:=(i:Int)+1)];refine ⟨_,?_,_,?_,i+1,rfl,by omega,Sm.leftG d.body (deep+1) m2,hnext,B4,fz,rfl⟩
      ·omega
      ·repeat' first|exact Env.sub_nil _|refine Env.sub_cons (by simp[f1,f2,f3,f6];try rfl) ?_
    ·simp[h,h0,hz,ldS];rw[←hm,De.leftG_neg h0]
   ·simp[h,hz,ldS];rw[←hm,quZ (by omega)];rfl
  clear g1 g2 g3 g6;rintro e S ⟨g2,g3,g1,g6,hz⟩;generalize hm2:De.leftG s.decls deep m1=m2 at *;simp[g1,g2,g3];refine qaC (fun e S=>e.get 2=some (.int .i64 (Sm.leftG s.body (deep+1) m2))) ?_ ?_
  ·refine qap (fun j e S'=>∃(r:Nat) (q:Int),j=s.body.length - r∧r≤s.body.length∧Sm.leftG (s.body.drop r) (deep+1) q=Sm.leftG s.body (deep+1) m2∧Bd q∧S'=S∧
    e=[(11,.int .i64 r),(2,.int .i64 q),(3,.ptr 0 0 0 1),(1,.int .i64 deep),(6,.int .i64 0)]) s.body.length _ ?_ ⟨0,m2,by simp,by omega,rfl,B2,rfl,rfl⟩ ?_
   ·repeat' first|exact Env.sub_nil _|refine Env.sub_cons (by simp[g1,g2,g3,g6]) ?_
   rintro j e S' ⟨r,q,rfl,hr,hq,hBq,rfl,rfl⟩;by_cases g:r<s.body.length
   ·by_cases g0:0<q
    ·have hBq':=hBq;unfold Bd at hBq';have lt4:SizeOf.sizeOf s.body[r]<SizeOf.sizeOf s:=qpk g;have ok4:=Sm.okL_mem O.body.2 _ (qtM g);have hy:=ih s.body[r] (by omega) ok4 (deep+1) q (by omega) (by omega) g0 (by omega) S';have B5:=Sm.left_bd s.body[r] (deep+1) q ok4 g0 hBq'.2;simp[g,g0,hz,ldS,iaSm,e3];refine qag hy ?_;simp[qaK (n:=(r:Int)+1)];refine ⟨_,?_,_,?_,r+1,rfl,by omega,s.body[r].left (deep+1) q,?_,B5,rfl⟩
     ·omega
     ·repeat' first|exact Env.sub_nil _|refine Env.sub_cons (by simp;rfl) ?_|refine Env.sub_cons (by simp) ?_
     ·rw[←hq,qds g,Sm.leftG,if_pos g0]
    ·simp[g,g0,hz,ldS];rw[←hq,Sm.leftG_neg g0]
   ·simp[g,hz,ldS];rw[←hq,quZ (by omega)];rfl
  ·rintro e S g;simp[g];exact qaa (vs:=[.int .i64 (Sm.leftG s.body (deep+1) m2)]) (by simp) rfl rfl
def Sm.light(s:Sm):Bool:=decide (0<s.left 0 150)
theorem qoZ(s:Sm)(hok:s.ok):∀S,Fn prog 17 [s.v] S (.bool s.light):=by
 refine Pu.ib func17 ok17 (by simp[c17]) (by simp[V.under]) rfl ?_;simp[c17,boxS,ldS];refine qag (qs0 _ s (qtH _) hok 0 150 (by omega) (by omega) (by omega) (by omega) _) ?_;simp;exact qaa rfl rfl rfl
mutual
theorem Ex.v_weak:∀x:Ex,x.v.weak=x.v
 | .mk k o n m e t a=>by simp only[Ex.v,V.weak,V.weakL,Ex.vl_weak a]
theorem Ex.vl_weak:∀l:List Ex,V.weakL (Ex.vl l)=Ex.vl l
 | []=>rfl
 | x::l=>by simp only[Ex.vl,V.weakL,Ex.v_weak x,Ex.vl_weak l]
end
theorem qcY{α:Type}{f:α→V}(h:∀x,(f x).weak=f x)(l:List α):V.weakL (l.map f)=l.map f:=by
 rw[qaJ,qvm];exact quC fun x _=>h x
theorem wEx(l:List Ex):V.weakL (l.map Ex.v)=l.map Ex.v:=qcY Ex.v_weak l
theorem El.v_weak(e:El):e.v.weak=e.v:=by simp only[El.v,V.weak,V.weakL,wEx]
theorem Fo.v_weak(e:Fo):e.v.weak=e.v:=rfl
theorem wEl(l:List El):V.weakL (l.map El.v)=l.map El.v:=qcY El.v_weak l
theorem wFo(l:List Fo):V.weakL (l.map Fo.v)=l.map Fo.v:=qcY Fo.v_weak l
theorem wStr(l:List ByteArray):V.weakL (l.map .str)=l.map .str:=qcY (fun _=>rfl) l
mutual
theorem De.v_weak:∀x:De,x.v.weak=x.v
 | .mk k o t n e f b=>by simp only[De.v,V.weak,V.weakL,wEx,wFo,wStr,Sm.vl_weak b]
theorem Sm.v_weak:∀x:Sm,x.v.weak=x.v
 | .mk l k t g e f d b=>by simp only[Sm.v,V.weak,V.weakL,wEx,wEl,wStr,De.vl_weak d,Sm.vl_weak b]
theorem De.vl_weak:∀l:List De,V.weakL (De.vl l)=De.vl l
 | []=>rfl
 | x::l=>by simp only[De.vl,V.weakL,De.v_weak x,De.vl_weak l]
theorem Sm.vl_weak:∀l:List Sm,V.weakL (Sm.vl l)=Sm.vl l
 | []=>rfl
 | x::l=>by simp only[Sm.vl,V.weakL,Sm.v_weak x,Sm.vl_weak l]
end
theorem wDe(l:List De):V.weakL (l.map De.v)=l.map De.v:=qcY De.v_weak l
theorem wSm(l:List Sm):V.weakL (l.map Sm.v)=l.map Sm.v:=qcY Sm.v_weak l
theorem qiX(k:Int)(s:Sm)(d:De)(e:El)(x:Ex):(paV k s d e x).weak=paV k s d e x:=by
 simp only[paV,Sm.cs,De.cs,El.cs,Ex.cs,qtO,qt4,V.weak,V.weakL,wEx,wEl,wFo,wStr,wDe,wSm]
theorem Pa.v_weak(p:Pa):p.v.weak=p.v:=qiX _ _ _ _ _
attribute [simp] Ex.v_weak El.v_weak Fo.v_weak De.v_weak Sm.v_weak wEx wEl wFo wStr wDe wSm qiX Pa.v_weak qhz Pa.v_under
theorem qlc(s:Sm):∀S,Fn prog 101 [s.v] S (Pa.st s).v:=by
 refine Pu.intro (R:=fun v=>v=(Pa.st s).v) func101 ok101 (by simp[c101]) (by simp[V.under]) (by rintro v rfl;simp) ?_;simp[c101,boxS,ldS,stS,qbs,qah,qal];refine qcj rfl ?_ ?_
 ·simp only[retV,V.weak,V.weakL,wEx,wEl,wFo,wStr,wDe,wSm];rfl
 ·simp[retV,V.weak,V.weakL,V.under,V.underL]
theorem qrB(s:Ex):∀S,Fn prog 142 [s.v] S (Pa.ex s).v:=by
 refine Pu.intro (R:=fun v=>v=(Pa.ex s).v) func142 ok142 (by simp[c142]) (by simp[V.under]) (by rintro v rfl;simp) ?_;simp[c142,boxS,ldS,stS,qbs,qah,qal];refine qcj rfl ?_ ?_
 ·simp only[retV,V.weak,V.weakL,wEx,wEl,wFo,wStr,wDe,wSm];rfl
 ·simp[retV,V.weak,V.weakL,V.under,V.underL]
theorem qqV(s:De):∀S,Fn prog 168 [s.v] S (Pa.de s).v:=by
 refine Pu.intro (R:=fun v=>v=(Pa.de s).v) func168 ok168 (by simp[c168]) (by simp[V.under]) (by rintro v rfl;simp) ?_;simp[c168,boxS,ldS,stS,qbs,qah,qal];refine qcj rfl ?_ ?_
 ·simp only[retV,V.weak,V.weakL,wEx,wEl,wFo,wStr,wDe,wSm];rfl
 ·simp[retV,V.weak,V.weakL,V.under,V.underL]
theorem qpc(s:El):∀S,Fn prog 205 [s.v] S (Pa.el s).v:=by
 refine Pu.intro (R:=fun v=>v=(Pa.el s).v) func205 ok205 (by simp[c205]) (by simp[V.under]) (by rintro v rfl;simp) ?_;simp[c205,boxS,ldS,stS,qbs,qah,qal];refine qcj rfl ?_ ?_
 ·simp only[retV,V.weak,V.weakL,wEx,wEl,wFo,wStr,wDe,wSm];rfl
 ·simp[retV,V.weak,V.weakL,V.under,V.underL]
theorem qrZ(p:Pa)(hp:p.ok):∀S,Fn prog 178 [p.v] S (.int .i64 p.own):=by
 refine Pu.ib func178 ok178 (by simp[c178]) (by simp[V.under]) rfl ?_;have h1:=Pa.own_le hp;unfold B50 at h1
 cases p with
 | st s=>
  simp only[Pa.own] at h1;simp[c178,boxS,ldS,Pa.v,Pa.kind,Pa.toS,Pa.own,qaz (n:=1+(s.labels.length:Int)) (by omega) (by omega)];exact qaa rfl rfl rfl
 | de d=>
  simp only[Pa.own] at h1;simp[c178,boxS,ldS,Pa.v,Pa.kind,Pa.toD,Pa.own,qaz (n:=1+(d.names.length:Int)) (by omega) (by omega),qaz (n:=1+(d.names.length:Int)+d.formals.length) (by omega) (by omega)];exact qaa rfl rfl rfl
 | el e=>
  simp[c178,boxS,ldS,Pa.v,Pa.kind,Pa.own];exact qaa rfl rfl rfl
 | ex x=>
  simp[c178,boxS,ldS,Pa.v,Pa.kind,Pa.own];exact qaa rfl rfl rfl
theorem Pa.v_flat(p:Pa):p.v.cells.all V.flat=true:=rfl
theorem qlE(p:Pa)(S:St):Spec prog 179 [p.v] S (fun v U=>v=.fn (.func 202) [] [.ptr S.length 0 0 1]∧U=S++[.arr [p.v] 25 1]):=by
 refine Spec.intro func179 ok179 (by simp[c179]) ?_;simp[c179,qrN (Pa.v_flat p) (by rw[Pa.v_size];omega),Pa.v_size];exact qaj rfl ⟨rfl,rfl⟩
theorem qfN(l:List Ex)(hl:l.length≤B50)(y:Nat)(S:St)(J:Nat→St→Prop)(D:St→Prop)(M:Nat→Prop)(hM:∀x,M x→x<S.length)(hJ:∀i U o,J i U→J i (U++[o]))(hD:∀U o,D U→D (U++[o]))
  (hy:∀i x,l[i]?=some x→∀U,J i U→Kp M S U→qbS prog y [(Pa.ex x).v] U (fun v U'=>Kp M U U'∧((v=.bool true∧J (i+1) U')∨(v=.bool false∧D U')))) (h0:J 0 S):
  Spec prog 203 [.sl false (l.map Ex.v),.fn (.func 142) [] [],.yld y] S (fun v U=>Kp M S U∧((v=.bool true∧J l.length U)∨(v=.bool false∧D U))):=by
 unfold B50 at hl;refine Spec.intro func203 ok203 (by simp[c203]) ?_;simp[c203];refine qap (fun j e S'=>∃i:Nat,j=l.length - i∧i≤l.length∧J i S'∧Kp M S S'∧
  e=[(11,.int .i64 i),(10,.int .i64 l.length),(9,.sl false (l.map Ex.v)),(1,.fn (.func 142) [] []),(2,.yld y)]) l.length _ ?_ ⟨0,by simp,by omega,h0,Kp.refl _ _,rfl⟩ ?_
 ·exact Env.so (by simp)
 rintro j e S' ⟨i,rfl,hi,hj,hk,rfl⟩;by_cases h:i<l.length
 ·simp[h,iaEx,boxS,stS,qbs,ldS];refine qag (qrB l[i] _) ?_;simp;refine useY (hy i l[i] (by simp[h]) _ (hJ _ _ _ hj) (hk.push _)) ?_;rintro v U' ⟨hk',⟨rfl,hj'⟩|⟨rfl,hd'⟩⟩
  ·simp[qaK (n:=(i:Int)+1)];refine ⟨_,?_,_,?_,i+1,rfl,by omega,hj',(hk.push _).trans hk',rfl⟩
   ·omega
   ·exact Env.so (by simp)
  ·simp;exact qaj rfl ⟨(hk.push _).trans hk',.inr ⟨rfl,hd'⟩⟩
 ·simp[h];have:i=l.length:=by omega
  subst this;exact qaj rfl ⟨hk,.inl ⟨rfl,hj⟩⟩
theorem qpn(l:List El)(hl:l.length≤B50)(y:Nat)(S:St)(J:Nat→St→Prop)(D:St→Prop)(M:Nat→Prop)(hM:∀x,M x→x<S.length)(hJ:∀i U o,J i U→J i (U++[o]))(hD:∀U o,D U→D (U++[o]))
  (hy:∀i x,l[i]?=some x→∀U,J i U→Kp M S U→qbS prog y [(Pa.el x).v] U (fun v U'=>Kp M U U'∧((v=.bool true∧J (i+1) U')∨(v=.bool false∧D U')))) (h0:J 0 S):
  Spec prog 204 [.sl false (l.map El.v),.fn (.func 205) [] [],.yld y] S (fun v U=>Kp M S U∧((v=.bool true∧J l.length U)∨(v=.bool false∧D U))):=by
 unfold B50 at hl;refine Spec.intro func204 ok204 (by simp[c204]) ?_;simp[c204];refine qap (fun j e S'=>∃i:Nat,j=l.length - i∧i≤l.length∧J i S'∧Kp M S S'∧
  e=[(11,.int .i64 i),(10,.int .i64 l.length),(9,.sl false (l.map El.v)),(1,.fn (.func 205) [] []),(2,.yld y)]) l.length _ ?_ ⟨0,by simp,by omega,h0,Kp.refl _ _,rfl⟩ ?_
 ·exact Env.so (by simp)
 rintro j e S' ⟨i,rfl,hi,hj,hk,rfl⟩;by_cases h:i<l.length
 ·simp[h,iaEl,boxS,stS,qbs,ldS];refine qag (qpc l[i] _) ?_;simp;refine useY (hy i l[i] (by simp[h]) _ (hJ _ _ _ hj) (hk.push _)) ?_;rintro v U' ⟨hk',⟨rfl,hj'⟩|⟨rfl,hd'⟩⟩
  ·simp[qaK (n:=(i:Int)+1)];refine ⟨_,?_,_,?_,i+1,rfl,by omega,hj',(hk.push _).trans hk',rfl⟩
   ·omega
   ·exact Env.so (by simp)
  ·simp;exact qaj rfl ⟨(hk.push _).trans hk',.inr ⟨rfl,hd'⟩⟩
 ·simp[h];have:i=l.length:=by omega
  subst this;exact qaj rfl ⟨hk,.inl ⟨rfl,hj⟩⟩
theorem qpO(l:List De)(hl:l.length≤B50)(y:Nat)(S:St)(J:Nat→St→Prop)(D:St→Prop)(M:Nat→Prop)(hM:∀x,M x→x<S.length)(hJ:∀i U o,J i U→J i (U++[o]))(hD:∀U o,D U→D (U++[o]))
  (hy:∀i x,l[i]?=some x→∀U,J i U→Kp M S U→qbS prog y [(Pa.de x).v] U (fun v U'=>Kp M U U'∧((v=.bool true∧J (i+1) U')∨(v=.bool false∧D U')))) (h0:J 0 S):
  Spec prog 206 [.sl false (l.map De.v),.fn (.func 168) [] [],.yld y] S (fun v U=>Kp M S U∧((v=.bool true∧J l.length U)∨(v=.bool false∧D U))):=by
 unfold B50 at hl;refine Spec.intro func206 ok206 (by simp[c206]) ?_;simp[c206];refine qap (fun j e S'=>∃i:Nat,j=l.length - i∧i≤l.length∧J i S'∧Kp M S S'∧
  e=[(11,.int .i64 i),(10,.int .i64 l.length),(9,.sl false (l.map De.v)),(1,.fn (.func 168) [] []),(2,.yld y)]) l.length _ ?_ ⟨0,by simp,by omega,h0,Kp.refl _ _,rfl⟩ ?_
 ·exact Env.so (by simp)
 rintro j e S' ⟨i,rfl,hi,hj,hk,rfl⟩;by_cases h:i<l.length
 ·simp[h,iaDe,boxS,stS,qbs,ldS];refine qag (qqV l[i] _) ?_;simp;refine useY (hy i l[i] (by simp[h]) _ (hJ _ _ _ hj) (hk.push _)) ?_;rintro v U' ⟨hk',⟨rfl,hj'⟩|⟨rfl,hd'⟩⟩
  ·simp[qaK (n:=(i:Int)+1)];refine ⟨_,?_,_,?_,i+1,rfl,by omega,hj',(hk.push _).trans hk',rfl⟩
   ·omega
   ·exact Env.so (by simp)
  ·simp;exact qaj rfl ⟨(hk.push _).trans hk',.inr ⟨rfl,hd'⟩⟩
 ·simp[h];have:i=l.length:=by omega
  subst this;exact qaj rfl ⟨hk,.inl ⟨rfl,hj⟩⟩
theorem qmD(l:List Sm)(hl:l.length≤B50)(y:Nat)(S:St)(J:Nat→St→Prop)(D:St→Prop)(M:Nat→Prop)(hM:∀x,M x→x<S.length)(hJ:∀i U o,J i U→J i (U++[o]))(hD:∀U o,D U→D (U++[o]))
  (hy:∀i x,l[i]?=some x→∀U,J i U→Kp M S U→qbS prog y [(Pa.st x).v] U (fun v U'=>Kp M U U'∧((v=.bool true∧J (i+1) U')∨(v=.bool false∧D U')))) (h0:J 0 S):
  Spec prog 207 [.sl false (l.map Sm.v),.fn (.func 101) [] [],.yld y] S (fun v U=>Kp M S U∧((v=.bool true∧J l.length U)∨(v=.bool false∧D U))):=by
 unfold B50 at hl;refine Spec.intro func207 ok207 (by simp[c207]) ?_;simp[c207];refine qap (fun j e S'=>∃i:Nat,j=l.length - i∧i≤l.length∧J i S'∧Kp M S S'∧
  e=[(11,.int .i64 i),(10,.int .i64 l.length),(9,.sl false (l.map Sm.v)),(1,.fn (.func 101) [] []),(2,.yld y)]) l.length _ ?_ ⟨0,by simp,by omega,h0,Kp.refl _ _,rfl⟩ ?_
 ·exact Env.so (by simp)
 rintro j e S' ⟨i,rfl,hi,hj,hk,rfl⟩;by_cases h:i<l.length
 ·simp[h,iaSm,boxS,stS,qbs,ldS];refine qag (qlc l[i] _) ?_;simp;refine useY (hy i l[i] (by simp[h]) _ (hJ _ _ _ hj) (hk.push _)) ?_;rintro v U' ⟨hk',⟨rfl,hj'⟩|⟨rfl,hd'⟩⟩
  ·simp[qaK (n:=(i:Int)+1)];refine ⟨_,?_,_,?_,i+1,rfl,by omega,hj',(hk.push _).trans hk',rfl⟩
   ·omega
   ·exact Env.so (by simp)
  ·simp;exact qaj rfl ⟨(hk.push _).trans hk',.inr ⟨rfl,hd'⟩⟩
 ·simp[h];have:i=l.length:=by omega
  subst this;exact qaj rfl ⟨hk,.inl ⟨rfl,hj⟩⟩
theorem qdv(p:Pa):p.kids.length=match p with
 | .st s=>s.targets.length+(s.exps.length+(s.elems.length+(s.decls.length+s.body.length)))
 | .de d=>d.exps.length+d.body.length
 | .el e=>e.exps.length
 | .ex x=>x.args.length:=by cases p <;> simp[Pa.kids]
theorem qhQ(p:Pa)(hp:p.ok)(c:Nat):qge prog 202 [] [.ptr c 0 0 1] (p.kids.map fun q=>[q.v]) (fun U=>U[c]?=some (.arr [p.v] 25 1)):=by
 intro S l J D M hM hcap hJ hD _ _ hy h0;have hc:=hcap _ _ h0;have hyk:∀i q,p.kids[i]?=some q→∀U,J i U→Kp M S U→qbS prog l [q.v] U (fun v U'=>Kp M U U'∧((v=.bool true∧J (i+1) U')∨(v=.bool false∧D U'))):=fun i q hq=>hy i [q.v] (by simp[hq])
 clear hy;simp only[qtN,qt4,qtO];have hlt:c<S.length:=(qtB.1 hc).1;refine Spec.intro func202 ok202 (by simp[c202]) ?_
 cases p with
 | el e=>
  have o:=hp;have hA:=qfN e.exps o.1 l S J D M hM hJ hD (fun i x hx=>hyk i (.ex x) (by simp[Pa.kids,hx])) h0;simp[c202,ldS,hc,Pa.v,Pa.kind,Pa.toE];refine qan hA ?_;rintro v U ⟨hk,⟨rfl,hj⟩|⟨rfl,hd⟩⟩
  ·simp;exact qaN rfl ⟨hk,.inl (by simpa[Pa.kids] using hj)⟩
  ·simp;exact qaN rfl ⟨hk,.inr hd⟩
 | ex e=>
  have o:=Ex.ok_args hp;have hA:=qfN e.args o.1 l S J D M hM hJ hD (fun i x hx=>hyk i (.ex x) (by simp[Pa.kids,hx])) h0;simp[c202,ldS,hc,Pa.v,Pa.kind,Pa.toX];refine qan hA ?_;rintro v U ⟨hk,⟨rfl,hj⟩|⟨rfl,hd⟩⟩
  ·simp;exact qaN rfl ⟨hk,.inl (by simpa[Pa.kids] using hj)⟩
  ·simp;exact qaN rfl ⟨hk,.inr hd⟩
 | de d=>
  have o:=(De.ok_iff d).1 hp;have hA:=qfN d.exps o.exps.1 l S J D M hM hJ hD (fun i x hx=>hyk i (.ex x) (by simp only[Pa.kids];rw[qtD (by simpa using (qtB.1 hx).1)];simp[hx])) h0;simp[c202,ldS,hc,Pa.v,Pa.kind,Pa.toD];refine qan hA ?_;rintro v U ⟨hk,⟨rfl,hj⟩|⟨rfl,hd⟩⟩
  ·have hc':=hcap _ _ hj;have hB:=qmD d.body o.body.1 l U (fun i=>J (d.exps.length+i)) D M (fun x hx=>quk (hM x hx) hk.len) (fun i U o=>hJ _ U o) hD
    (fun i x hx U' hj' hk'=>hyk (d.exps.length+i) (.st x) (by simp only[Pa.kids];rw[qtC (by simp)];simp[hx]) U' hj' (hk.trans hk')) hj
   simp[ldS,hc',Pa.v,Pa.kind,Pa.toD];refine qan hB ?_;rintro v U' ⟨hk',⟨rfl,hj'⟩|⟨rfl,hd'⟩⟩
   ·simp;exact qaN rfl ⟨hk.trans hk',.inl (by simpa[Pa.kids] using hj')⟩
   ·simp;exact qaN rfl ⟨hk.trans hk',.inr hd'⟩
  ·simp;exact qaN rfl ⟨hk,.inr hd⟩
 | st s=>
  have o:=(Sm.ok_iff s).1 hp
  have g1:∀(i:Nat) x,s.targets[i]?=some x→(Pa.st s).kids[i]?=some (.ex x):=fun i x hx=>by
   simp only[Pa.kids];rw[qtD (by simpa using (qtB.1 hx).1)];simp[hx]
  have g2:∀(i:Nat) x,s.exps[i]?=some x→(Pa.st s).kids[s.targets.length+i]?=some (.ex x):=fun i x hx=>by
   simp only[Pa.kids];rw[qtC (by simp),qtD (by simpa using (qtB.1 hx).1)];simp[hx]
  have g3:∀(i:Nat) x,s.elems[i]?=some x→(Pa.st s).kids[s.targets.length+s.exps.length+i]?=some (.el x):=fun i x hx=>by
   simp only[Pa.kids];rw[qtC (by simp;omega),qtC (by simp;omega),qtD (by have:=(qtB.1 hx).1;simp;omega)];simp[show s.targets.length+s.exps.length+i - s.targets.length - s.exps.length=i by omega,hx]
  have g4:∀(i:Nat) x,s.decls[i]?=some x→(Pa.st s).kids[s.targets.length+s.exps.length+s.elems.length+i]?=some (.de x):=fun i x hx=>by
   simp only[Pa.kids];rw[qtC (by simp;omega),qtC (by simp;omega),qtC (by simp;omega),qtD (by have:=(qtB.1 hx).1;simp;omega)];simp[show s.targets.length+s.exps.length+s.elems.length+i - s.targets.length - s.exps.length - s.elems.length=i by omega,hx]
  have g5:∀(i:Nat) x,s.body[i]?=some x→(Pa.st s).kids[s.targets.length+s.exps.length+s.elems.length+s.decls.length+i]?=some (.st x):=fun i x hx=>by
   simp only[Pa.kids];rw[qtC (by simp;omega),qtC (by simp;omega),qtC (by simp;omega),qtC (by simp;omega)];simp[show s.targets.length+s.exps.length+s.elems.length+s.decls.length+i - s.targets.length - s.exps.length - s.elems.length - s.decls.length=i by omega,hx]
  have S1k:Kp M S (S++[.arr [s.v] 8 1]):=(Kp.refl _ _).push _;have hA:=qfN s.targets o.targets.1 l (S++[.arr [s.v] 8 1]) J D M (fun x hx=>by have:=hM x hx;simp;omega) hJ hD (fun i x hx U hj hk=>hyk i (.ex x) (g1 i x hx) U hj (S1k.trans hk)) (hJ _ _ _ h0);have hs:(S++[Ob.arr [s.v] 8 1])[S.length]?=some (.arr [s.v] 8 1):=by simp
  have nM:¬ M S.length:=fun h=>by have:=hM _ h;omega
  simp[c202,ldS,hc,Pa.v,Pa.kind,Pa.toS,boxS,stS,qbs];refine qan hA ?_;rintro v U1 ⟨k1,⟨rfl,j1⟩|⟨rfl,hd⟩⟩
  ·have hs1:=k1.at hs nM;have k1':=S1k.trans k1;have hB:=qfN s.exps o.exps.1 l U1 (fun i=>J (s.targets.length+i)) D M (fun x hx=>quk (hM x hx) k1'.len) (fun i U o=>hJ _ U o) hD (fun i x hx U' hj' hk'=>hyk _ (.ex x) (g2 i x hx) U' hj' (k1'.trans hk')) j1;simp[ldS,hs1];refine qan hB ?_;rintro v U2 ⟨k2,⟨rfl,j2⟩|⟨rfl,hd⟩⟩
   ·have hs2:=k2.at hs1 nM;have k2':=k1'.trans k2;have hC:=qpn s.elems o.elems.1 l U2 (fun i=>J (s.targets.length+s.exps.length+i)) D M (fun x hx=>quk (hM x hx) k2'.len) (fun i U o=>hJ _ U o) hD (fun i x hx U' hj' hk'=>hyk _ (.el x) (g3 i x hx) U' hj' (k2'.trans hk')) j2;simp[ldS,hs2];refine qan hC ?_;rintro v U3 ⟨k3,⟨rfl,j3⟩|⟨rfl,hd⟩⟩
    ·have hs3:=k3.at hs2 nM;have k3':=k2'.trans k3;have hE:=qpO s.decls o.decls.1 l U3 (fun i=>J (s.targets.length+s.exps.length+s.elems.length+i)) D M (fun x hx=>quk (hM x hx) k3'.len) (fun i U o=>hJ _ U o) hD (fun i x hx U' hj' hk'=>hyk _ (.de x) (g4 i x hx) U' hj' (k3'.trans hk')) j3;simp[ldS,hs3];refine qan hE ?_;rintro v U4 ⟨k4,⟨rfl,j4⟩|⟨rfl,hd⟩⟩
     ·have hs4:=k4.at hs3 nM;have k4':=k3'.trans k4;have hF:=qmD s.body o.body.1 l U4 (fun i=>J (s.targets.length+s.exps.length+s.elems.length+s.decls.length+i)) D M (fun x hx=>quk (hM x hx) k4'.len) (fun i U o=>hJ _ U o) hD (fun i x hx U' hj' hk'=>hyk _ (.st x) (g5 i x hx) U' hj' (k4'.trans hk')) j4;simp[ldS,hs4];refine qan hF ?_;rintro v U5 ⟨k5,⟨rfl,j5⟩|⟨rfl,hd⟩⟩
      ·simp;refine qaN rfl ⟨k4'.trans k5,.inl ?_⟩;rw[qdv];simpa[quu] using j5
      ·simp;exact qaN rfl ⟨k4'.trans k5,.inr hd⟩
     ·simp;exact qaN rfl ⟨k3'.trans k4,.inr hd⟩
    ·simp;exact qaN rfl ⟨k2'.trans k3,.inr hd⟩
   ·simp;exact qaN rfl ⟨k1'.trans k2,.inr hd⟩
  ·simp;exact qaN rfl ⟨S1k.trans k1,.inr hd⟩
theorem gp{U:St}{x:Nat}{o o':Ob}(h:U[x]?=some o):(U++[o'])[x]?=some o:=by rw[qtD (qtB.1 h).1];exact h
theorem gs{U:St}{x L:Nat}{o o':Ob}(h:U[x]?=some o)(hx:x≠L):(U.set L o')[x]?=some o:=by rw[qtG (Ne.symm hx)];exact h
theorem glt{U:St}{x:Nat}{o:Ob}(h:U[x]?=some o):x<U.length:=(qtB.1 h).1
@[simp] theorem Pa.v_flatA(p:Pa):(∀x,x∈p.v.cells→x.flat=true)=True:=by
 have:=Pa.v_flat p;rw[qtY] at this;exact eq_true this
@[simp] theorem Pa.v_flatB(p:Pa):(p.v.cells.all V.flat)=true:=Pa.v_flat p
@[simp] theorem Pa.v_sz(p:Pa):p.v.size=25:=rfl
@[simp] theorem Pa.v_part(p:Pa):V.part p.v 0 (some 25)=some p.v:=rfl
theorem qld{α:Type}{l:List α}{i:Nat}{x:α}(h:l[i]?=some x):l.set i x=l:=by
 apply quQ;intro j;rw[List.getElem?_set];split
 ·rename_i hij;subst hij;rw[h];have:=(qtB.1 h).1;simp[this]
 ·rfl
theorem Kp.chain{M N:Nat→Prop}{S T U:St}(h:Kp M S T)(g:Kp N T U)(hn:∀l,l<S.length→N l→M l):Kp M S U:=
 ⟨quF h.len g.len,fun l hl hm=>(g.get l (quk hl h.len) fun hh=>hm (hn l hl hh)).trans (h.get l hl hm)⟩
def qjZ(a b c:Nat):V:=.fn (.func 177) [] [.ptr a 0 0 1,.ptr b 0 0 1,.ptr c 0 0 1]
structure MJ(a b c n:Nat)(p:Pa)(at' z d:Int)(U:St):Prop where
 ta:U[a]?=some (.arr [.int .i64 z] 1 1)
 tb:U[b]?=some (.arr [.int .i64 d] 1 1)
 tc:U[c]?=some (.arr [qjZ a b c] 1 1)
 t6:U[n+1]?=some (.arr [.int .i64 at'] 1 1)
 t7:U[n+2]?=some (.arr [.bool false] 1 1)
 k:U[n+3]?=some (.arr [p.v] 25 1)
theorem MJ.push{a b c n:Nat}{p:Pa}{at' z d:Int}{U:St}(h:MJ a b c n p at' z d U)(o:Ob):MJ a b c n p at' z d (U++[o]):=⟨gp h.ta,gp h.tb,gp h.tc,gp h.t6,gp h.t7,gp h.k⟩
theorem MJ.set{a b c n:Nat}{p:Pa}{at' z d:Int}{U:St}(h:MJ a b c n p at' z d U){L:Nat}(o:Ob)(ha:a<n)(hb:b<n)(hc:c<n)(hL:n+4≤L):MJ a b c n p at' z d (U.set L o):=
 ⟨gs h.ta (by omega),gs h.tb (by omega),gs h.tc (by omega),gs h.t6 (by omega),gs h.t7 (by omega),gs h.k (by omega)⟩
structure MD(a b c n:Nat)(U:St):Prop where
 z:∃z:Int,U[a]?=some (.arr [.int .i64 z] 1 1)
 d:∃d:Int,U[b]?=some (.arr [.int .i64 d] 1 1)
 t7:U[n+2]?=some (.arr [.bool false] 1 1)
theorem MD.push{a b c n:Nat}{U:St}(h:MD a b c n U)(o:Ob):MD a b c n (U++[o]):=⟨let ⟨z,hz⟩:=h.z;⟨z,gp hz⟩,let ⟨z,hz⟩:=h.d;⟨z,gp hz⟩,gp h.t7⟩
def mOk(p:Pa)(z at':Int):Prop:=z+p.size≤2000∧at'+p.depth - 1≤60
theorem qb8{l:List Pa}{i:Nat}{q:Pa}(h:l[i]?=some q):qbl (l.take (i+1))=max (qbl (l.take i)) q.depth:=by
 rw[qtQ,h,qbO];simp
theorem qco{l:List Pa}{i:Nat}{q:Pa}(h:l[i]?=some q):qaD (l.take (i+1))=qaD (l.take i)+q.size:=by
 rw[qtQ,h,qa5];simp
theorem qkI{l:List Pa}{i:Nat}{q:Pa}(h:l[i]?=some q):q.depth≤qbl l:=by
 have:=qb8 h;have h2:qbl l=max (qbl (l.take (i+1))) (qbl (l.drop (i+1))):=by rw[←qbO,qul]
 omega
theorem qaV{l:List Pa}{i:Nat}{q:Pa}(h:l[i]?=some q):qaD (l.take i)+q.size≤qaD l:=by
 have:=qco h;have h2:qaD l=qaD (l.take (i+1))+qaD (l.drop (i+1)):=by rw[←qa5,qul]
 omega
def mR(a b:Nat)(p:Pa)(z d at':Int)(S:St)(v:V)(U:St):Prop:=Kp (fun x=>x=a∨x=b) S U∧∃z' d':Int,U[a]?=some (.arr [.int .i64 z'] 1 1)∧U[b]?=some (.arr [.int .i64 d'] 1 1)∧
 ((v=.bool true∧z'=z+p.size∧d'=max d (at'+p.depth - 1)∧mOk p z at')∨(v=.bool false∧¬ mOk p z at'))
theorem qrR:∀(k:Nat) (p:Pa),p.wt≤k→p.ok→∀(at':Int),1≤at'→at'≤61→∀(a b c:Nat),a≠b→a≠c→b≠c→∀(z d:Int),0≤z→z≤2000→0≤d→d≤60→∀S:St,
  S[a]?=some (.arr [.int .i64 z] 1 1)→S[b]?=some (.arr [.int .i64 d] 1 1)→S[c]?=some (.arr [qjZ a b c] 1 1)→
  Spec prog 177 [p.v,.int .i64 at',.ptr a 0 0 1,.ptr b 0 0 1,.ptr c 0 0 1] S (mR a b p z d at' S):=by
 intro k
 induction k with
 | zero=>intro p h;exfalso;cases p with
  | st s=>cases s;simp[Pa.wt] at h
  | de s=>cases s;simp[Pa.wt] at h
  | el s=>cases s;simp[Pa.wt] at h
  | ex s=>cases s;simp[Pa.wt] at h
 | succ k ih=>
  intro p hw hp at' ha0 ha1 a b c hab hac hbc z d hz0 hz1 hd0 hd1 S hA hB hC;have la:=glt hA;have lb:=glt hB;have lc:=glt hC;have ho:=Pa.own_le hp;have ho1:=p.own_pos;unfold B50 at ho;refine Spec.intro func177 ok177 (by simp[c177]) ?_;have e1:IntKind.i64.wrap (z+p.own)=z+p.own:=qaz (by omega) (by omega);simp[c177,boxS];obtain ⟨T,hT⟩:∃T,S++[.arr [p.v] 25 1,.arr [.int .i64 at'] 1 1,.arr [.bool false] 1 1]=T:=⟨_,rfl⟩;have kT:Kp (fun x=>x=a∨x=b) S T:=by rw[←hT];exact (Kp.refl _ _).push _
  have lT:T.length=S.length+3:=by rw[←hT];simp
  have tA:T[a]?=some (.arr [.int .i64 z] 1 1):=by rw[←hT,qtD la];exact hA
  have tB:T[b]?=some (.arr [.int .i64 d] 1 1):=by rw[←hT,qtD lb];exact hB
  have tC:T[c]?=some (.arr [qjZ a b c] 1 1):=by rw[←hT,qtD lc];exact hC
  have t5:T[S.length]?=some (.arr [p.v] 25 1):=by rw[←hT,qtC (by omega)];simp
  have t6:T[S.length+1]?=some (.arr [.int .i64 at'] 1 1):=by rw[←hT,qtC (by omega)];simp
  have t7:T[S.length+2]?=some (.arr [.bool false] 1 1):=by rw[←hT,qtC (by omega)];simp
  rw[hT];clear hT;simp[ldS,tA,t5];refine qa6 (qrZ p hp _) ?_;simp[dend,qbe,qbj,ldS,stS,qbs,e1,tA];obtain ⟨T1,hT1⟩:∃T1,List.set T a (.arr [.int .i64 (z+p.own)] 1 1)=T1:=⟨_,rfl⟩;have uA:T1[a]?=some (.arr [.int .i64 (z+p.own)] 1 1):=by rw[←hT1,qtE (by omega)]
  have uB:T1[b]?=some (.arr [.int .i64 d] 1 1):=by rw[←hT1];exact gs tB hab.symm
  have uC:T1[c]?=some (.arr [qjZ a b c] 1 1):=by rw[←hT1];exact gs tC hac.symm
  have u5:T1[S.length]?=some (.arr [p.v] 25 1):=by rw[←hT1];exact gs t5 (by omega)
  have u6:T1[S.length+1]?=some (.arr [.int .i64 at'] 1 1):=by rw[←hT1];exact gs t6 (by omega)
  have u7:T1[S.length+2]?=some (.arr [.bool false] 1 1):=by rw[←hT1];exact gs t7 (by omega)
  have kU:Kp (fun x=>x=a∨x=b) S T1:=by rw[←hT1];exact kT.set _ (.inl (.inl rfl))
  have lU:T1.length=S.length+3:=by rw[←hT1];simp[lT]
  rw[hT1];clear hT1 tA tB tC t5 t6 t7 kT lT T;have hmx:(if d<at' then at' else d)=max d at':=by omega
  simp[evX,mmV,uB,u6,stS,qbs,ldS,hmx];obtain ⟨T2,hT2⟩:∃T2,List.set T1 b (.arr [.int .i64 (max d at')] 1 1)=T2:=⟨_,rfl⟩;have wA:T2[a]?=some (.arr [.int .i64 (z+p.own)] 1 1):=by rw[←hT2];exact gs uA hab
  have wB:T2[b]?=some (.arr [.int .i64 (max d at')] 1 1):=by rw[←hT2,qtE (by omega)]
  have wC:T2[c]?=some (.arr [qjZ a b c] 1 1):=by rw[←hT2];exact gs uC hbc.symm
  have w5:T2[S.length]?=some (.arr [p.v] 25 1):=by rw[←hT2];exact gs u5 (by omega)
  have w6:T2[S.length+1]?=some (.arr [.int .i64 at'] 1 1):=by rw[←hT2];exact gs u6 (by omega)
  have w7:T2[S.length+2]?=some (.arr [.bool false] 1 1):=by rw[←hT2];exact gs u7 (by omega)
  have kW:Kp (fun x=>x=a∨x=b) S T2:=by rw[←hT2];exact kU.set _ (.inl (.inr rfl))
  have lW:T2.length=S.length+3:=by rw[←hT2];simp[lU]
  rw[hT2];clear hT2 uA uB uC u5 u6 u7 kU lU T1;have hsz:=p.size_eq;have hdp:=p.depth_eq;by_cases g1:2000<z+p.own
  ·simp[g1,wA,stS,qbs,w7];refine qaj (by simp[ldS,lW];rfl) ⟨kW.set _ (.inr (by omega)),z+p.own,max d at',gs wA (by omega),gs wB (by omega),.inr ⟨rfl,?_⟩⟩;unfold mOk;have:=Pa.own_pos p;omega
  by_cases g2:60<max d at'
  ·simp[g1,g2,wA,wB,stS,qbs,w7,ldS];refine qaj (by simp[ldS,lW];rfl) ⟨kW.set _ (.inr (by omega)),z+p.own,max d at',gs wA (by omega),gs wB (by omega),.inr ⟨rfl,?_⟩⟩;unfold mOk;have:=Pa.depth_pos p;omega
  simp[g1,g2,wA,wB,stS,qbs,w5,ldS];refine qan (qlE p T2) ?_;rintro v U ⟨rfl,rfl⟩;simp;have hkl:(p.kids.map fun q=>[q.v]).length=p.kids.length:=by simp
  refine qe5 (k:=202) (fs:=[]) (cs:=[.ptr T2.length 0 0 1]) (by simp) (qhQ p hp T2.length) rfl rfl rfl (by simp) (fun x=>x=a∨x=b∨x=S.length+2) ?_
   (fun i U=>MJ a b c S.length p at' (z+p.own+qaD (p.kids.take i)) (max (max d at') (at'+qbl (p.kids.take i))) U∧z+p.own+qaD (p.kids.take i)≤2000∧max (max d at') (at'+qbl (p.kids.take i))≤60)
   (fun U=>MD a b c S.length U∧¬ mOk p z at') (fun _ _=>False) ?_ ?_ ?_ ?_ (fun i U L o o' _ h hl=>⟨⟨gl h.1.ta (by simp) hl,gl h.1.tb (by simp) hl,gl h.1.tc (by simp) hl,gl h.1.t6 (by simp) hl,gl h.1.t7 (by simp) hl,gl h.1.k (by simp) hl⟩,h.2⟩)
   (fun U L o o' _ h hl=>⟨⟨let ⟨z,hz⟩:=h.1.z;⟨z,gl hz (by simp) hl⟩,let ⟨z,hz⟩:=h.1.d;⟨z,gl hz (by simp) hl⟩,gl h.1.t7 (by simp) hl⟩,h.2⟩) (fun id U L o o' _ h hl=>h.elim) ?_ ?_ ?_ ?_ ?_
  ·rintro x (rfl|rfl|rfl) <;> simp <;> omega
  ·rintro i U ⟨h,_⟩;rw[lW];exact h.k
  ·rintro i U ⟨h,h1⟩;exact fun o=>⟨h.push o,h1⟩
  ·rintro U ⟨h,h1⟩;exact fun o=>⟨h.push o,h1⟩
  ·rintro id U h;exact h.elim
  ·refine ⟨⟨gp (gp wA) |> fun h=>by simpa using h,gp (gp wB) |> fun h=>by simpa using h,gp (gp wC),gp (gp w6),gp (gp w7),?_⟩,by simp;omega,by simp;omega⟩;refine gp ?_;rw[←lW,qtC (qtH _)];simp
  ·rintro i av hav U ⟨hj,hj1,hj2⟩ hk hl;rw[qtV] at hav;obtain ⟨q,hq,rfl⟩:=qtK.1 hav;have q1:=qco hq;have q2:=qb8 hq;have q3:=qaV hq;have q4:=qkI hq;have hqk:q∈p.kids:=qtP hq;have hqw:=Pa.kid_lt hqk;have hL:(T2++[Ob.arr [p.v] 25 1]).length=S.length+4:=by simp[lW]
   simp[Env.keep] at hl;simp[qc7,Env.keep,boxS,stS,qbs];refine qcU (gp hl) rfl ?_;have lU:=glt hl;have nU:U.length≠T2.length+1:=by omega
   have vq:((U++[Ob.arr [q.v] 25 1]).set (T2.length+1) (.loop { st:=.busy,pend:=none,ps:=[24],asg:=(rfAt Tryz.f177 0).1,body:=(rfAt Tryz.f177 0).2,e:=[(4,V.ptr c 0 0 1),(6,V.ptr (S.length+1) 0 0 1),(7,V.ptr (S.length+2) 0 0 1)],N:=31 }))[U.length]?=some (.arr [q.v] 25 1):=gs (by simp) nU;have vL:((U++[Ob.arr [q.v] 25 1]).set (T2.length+1) (.loop { st:=.busy,pend:=none,ps:=[24],asg:=(rfAt Tryz.f177 0).1,body:=(rfAt Tryz.f177 0).2,e:=[(4,V.ptr c 0 0 1),(6,V.ptr (S.length+1) 0 0 1),(7,V.ptr (S.length+2) 0 0 1)],N:=31 }))[T2.length+1]?=some (.loop _):=qtE (by simp;omega);have vj:=(hj.push (Ob.arr [q.v] 25 1)).set (L:=T2.length+1) (.loop { st:=.busy,pend:=none,ps:=[24],asg:=(rfAt Tryz.f177 0).1,body:=(rfAt Tryz.f177 0).2,e:=[(4,V.ptr c 0 0 1),(6,V.ptr (S.length+1) 0 0 1),(7,V.ptr (S.length+2) 0 0 1)],N:=31 }) la lb lc (by omega);have vk:Kp (fun x=>(x=a∨x=b∨x=S.length+2)∨x=T2.length+1) U ((U++[Ob.arr [q.v] 25 1]).set (T2.length+1) (.loop { st:=.busy,pend:=none,ps:=[24],asg:=(rfAt Tryz.f177 0).1,body:=(rfAt Tryz.f177 0).2,e:=[(4,V.ptr c 0 0 1),(6,V.ptr (S.length+1) 0 0 1),(7,V.ptr (S.length+2) 0 0 1)],N:=31 })):=((Kp.refl _ _).push _).set _ (.inl (.inr rfl));generalize (U++[Ob.arr [q.v] 25 1]).set (T2.length+1) _=W at vq vL vj vk ⊢;have lWl:=glt vL;simp[ldS,vj.tc,vq,vj.t6,qjZ,qaz (n:=at'+1) (by omega) (by omega)];refine qan (ih q (by omega) (Pa.kid_ok hp hqk) (at'+1) (by omega) (by omega) a b c hab hac hbc _ _ (by omega) hj1 (by omega) hj2 W vj.ta vj.tb vj.tc) ?_;rintro v X ⟨xk,z',d',xa,xb,⟨rfl,rfl,rfl,xo⟩|⟨rfl,xo⟩⟩
   ·simp;have xo':=xo;unfold mOk at xo';refine qci ⟨rfl,rfl⟩ (.inr rfl) (xk.at vL (by omega)) (vk.trans (xk.mono fun l _ h=>.inl (h.elim .inl fun h=>.inr (.inl h)))) ⟨⟨gs xa (by omega) |>.trans ?_,gs xb (by omega) |>.trans ?_,gs (xk.at vj.tc (by omega)) (by omega),gs (xk.at vj.t6 (by omega)) (by omega),gs (xk.at vj.t7 (by omega)) (by omega),gs (xk.at vj.k (by omega)) (by omega)⟩,?_,?_⟩
    ·rw[q1];congr 4;omega
    ·rw[q2];congr 4;omega
    ·omega
    ·omega
   ·have x7:=xk.at vj.t7 (by omega);simp[stS,qbs,x7];refine qfc (.inr rfl) (gs (xk.at vL (by omega)) (by omega)) ((vk.trans (xk.mono fun l _ h=>.inl (h.elim .inl fun h=>.inr (.inl h)))).set _ (.inl (.inl (.inr (.inr rfl))))) ⟨⟨⟨_,gs (gs xa (by omega)) (by omega)⟩,⟨_,gs (gs xb (by omega)) (by omega)⟩,gs (qtE (glt x7)) (by omega)⟩,?_⟩;unfold mOk at xo ⊢;omega
  ·rintro U ⟨hj,hj1,hj2⟩ hk;rw[hkl,qt7] at hj hj1 hj2;simp[stS,qbs,hj.t7];refine qaj (by simp[ldS,glt hj.t7];rfl) ⟨?_,_,_,gs hj.ta (by omega),gs hj.tb (by omega),.inl ⟨rfl,by omega,by omega,?_⟩⟩
   ·exact (kW.chain hk.ofPush fun l hl h=>by omega).set _ (.inr (by omega))
   ·unfold mOk;omega
  ·rintro U ⟨hj,hj1⟩ hk;obtain ⟨⟨z',hz'⟩,⟨d',hd'⟩,h7⟩:=hj;simp;refine qaj (by simp[ldS,h7];rfl) ⟨?_,z',d',hz',hd',.inr ⟨rfl,hj1⟩⟩;exact kW.chain hk.ofPush fun l hl h=>by omega
  ·rintro id U h;exact h.elim
theorem qqD(p:Pa)(hp:p.ok):∀S,Spec prog 150 [p.v] S (fun v U=>(∃z d:Int,v=.tup [.int .i64 z,.int .i64 d,.bool (decide p.fits)]∧(p.fits→z=p.size∧d=p.depth))∧U=S):=by
 refine Pu.intro (R:=fun v=>∃z d:Int,v=.tup [.int .i64 z,.int .i64 d,.bool (decide p.fits)]∧(p.fits→z=p.size∧d=p.depth)) func150 ok150 (by simp[c150]) (by simp[V.under]) (by rintro v ⟨z,d,rfl,_⟩;rfl) ?_;simp[c150,boxS,stS,qbs,ldS];refine qan (qrR _ p (qtH _) hp 1 (by omega) (by omega) 1 2 3 (by omega) (by omega) (by omega) 0 0 (by omega) (by omega) (by omega) (by omega) _ rfl rfl rfl) ?_;rintro v U ⟨hk,z,d,ha,hb,h⟩;have hfit:p.fits↔mOk p 0 1:=by unfold Pa.fits mOk;omega
 have key:v=.bool (decide p.fits)∧(p.fits→z=p.size∧d=p.depth):=by
  rcases h with ⟨rfl,h1,h2,h3⟩|⟨rfl,h3⟩
  ·rw[decide_eq_true (hfit.2 h3)];refine ⟨rfl,fun _=>⟨by omega,?_⟩⟩;have:=p.depth_pos;omega
  ·rw[decide_eq_false fun hh=>h3 (hfit.1 hh)];exact ⟨rfl,fun hh=>absurd (hfit.1 hh) h3⟩
 obtain ⟨rfl,hk2⟩:=key;simp[ldS,ha,hb,stS,qbs,qld ha,qld hb,dend,qbe,qbj];refine qaa (vs:=[.int .i64 z,.int .i64 d,.bool (decide p.fits)]) (by simp[ldS,ha,hb]) ⟨z,d,rfl,hk2⟩ rfl
theorem qaf(cs:List V)(off n:Nat):V.part (.agg cs) off (some n)=if off=0∧n=cs.length then some (.agg cs) else if off+n≤cs.length then some (.agg ((cs.drop off).take n)) else none:=by
 by_cases h:off=0∧n=cs.length
 ·simp[V.part,h]
 ·have:¬ (off=0∧n=(V.agg cs).size∧(V.agg cs).isAgg=true):=fun hh=>h ⟨hh.1,by simpa using hh.2.1⟩
  simp only[V.part,if_neg this,if_neg h]
@[simp] theorem part_Ex2(x:Ex):V.part x.v 3 (some 2)=some (.agg [.int .i64 x.man,.int .i64 x.exp]):=by rw[Ex.v_eq];rfl
theorem qac(cs:List V)(off n:Nat)(y:V):V.upd (.agg cs) off n y=if y.size=n∧y.cells.all V.flat=true then (if off=0∧n=cs.length then some y else if off+n≤cs.length then some (.agg (cs.take off++y.cells++cs.drop (off+n))) else none) else none:=rfl
theorem qhD(x:Ex)(off n:Nat)(y:V):V.upd x.v off n y=V.upd (.agg [.int .i64 x.kind,.int .i64 x.op,.int .i64 x.n,.int .i64 x.man,.int .i64 x.exp,.str x.text,.sl false (x.args.map Ex.v)]) off n y:=by rw[Ex.v_eq]
theorem qf4(d:De)(off n:Nat)(y:V):V.upd d.v off n y=V.upd (.agg [.int .i64 d.kind,.bool d.own,.int .i64 d.type,.sl false (d.names.map .str),.sl false (d.exps.map Ex.v),.sl false (d.formals.map Fo.v),.sl false (d.body.map Sm.v)]) off n y:=by rw[De.v_eq]
theorem qc8(s:Sm)(off n:Nat)(y:V):V.upd s.v off n y=V.upd (.agg [.sl false (s.labels.map .str),.int .i64 s.kind,.str s.text,.sl false (s.targets.map Ex.v),.sl false (s.exps.map Ex.v),.sl false (s.elems.map El.v),.sl false (s.decls.map De.v),.sl false (s.body.map Sm.v)]) off n y:=by rw[Sm.v_eq]
theorem qo4(f:Fo)(off n:Nat)(y:V):V.upd f.v off n y=V.upd (.agg [.str f.name,.bool f.value,.int .i64 f.spec,.int .i64 f.type]) off n y:=rfl
theorem qlz(k:IntKind)(m:Int)(y:V):V.upd (.int k m) 0 1 y=if y.size=1∧y.cells.all V.flat=true then some y else none:=rfl
theorem qcx(b:Bool)(y:V):V.upd (.bool b) 0 1 y=if y.size=1∧y.cells.all V.flat=true then some y else none:=rfl
theorem qaH{a lo hi:Int}(h:¬ (lo≤a∧a≤hi)):(decide (lo≤a) && decide (a≤hi))=false:=by
 by_cases h1:lo≤a
 ·have h2:¬ a≤hi:=fun hh=>h ⟨h1,hh⟩
  simp[h1,h2]
 ·simp[h1]
theorem qaM{a lo hi:Int}(h:lo≤a∧a≤hi):(decide (lo≤a) && decide (a≤hi))=true:=by simp[h.1,h.2]
theorem qaG(n lo hi:Int):∀S,Fn prog 209 [.int .i64 n,.int .i64 lo,.int .i64 hi] S (.bool (decide (lo≤n) && decide (n≤hi))):=by
 refine Pu.ib func209 ok209 (by simp[c209]) (by simp[V.under]) rfl ?_;by_cases h:lo≤n
 ·simp[c209,h];exact qaa rfl rfl rfl
 ·simp[c209,h];exact qaa rfl rfl rfl
def arL(k:Int):Int:=if k=7 then 1 else if k=8 then 1 else if k=9 then 1 else if k=10 then 2 else if k=11 then 3 else 0
def arH(k:Int):Int:=if k=7 then 4 else if k=8 then 8 else if k=9 then 1 else if k=10 then 2 else if k=11 then 3 else 0
theorem qb9(k:Int):∀S,Fn prog 208 [.int .i64 k] S (.tup [.int .i64 (arL k),.int .i64 (arH k)]):=by
 refine Pu.ib func208 ok208 (by simp[c208]) (by simp[V.under]) rfl ?_;by_cases h7:k=7
 ·simp[c208,h7];exact qaa rfl rfl rfl
 by_cases h8:k=8
 ·simp[c208,h8];exact qaa rfl rfl rfl
 by_cases h9:k=9
 ·simp[c208,h9];exact qaa rfl rfl rfl
 by_cases h10:k=10
 ·simp[c208,h10];exact qaa rfl rfl rfl
 by_cases h11:k=11
 ·simp[c208,h11];exact qaa rfl rfl rfl
 simp[c208,h7,h8,h9,h10,h11];exact qaa rfl (by simp[retV,arL,arH,h7,h8,h9,h10,h11]) rfl
def fitB(lo hi n:Int):Bool:=decide (lo≤n) && (decide (hi<0) || decide (n≤hi))
theorem qay(lo hi n:Int):∀S,Fn prog 212 [.agg [.int .i64 lo,.int .i64 hi],.int .i64 n] S (.bool (fitB lo hi n)):=by
 refine Pu.intro (R:=fun v=>v=.bool (fitB lo hi n)) func212 ok212 (by simp[c212]) (by simp[V.under,V.underL]) (by rintro v rfl;rfl) ?_;by_cases h:lo≤n
 ·by_cases h2:hi<0
  ·simp[c212,boxS,ldS,h,h2];exact qaa rfl (by simp[retV,fitB,h,h2]) rfl
  ·simp[c212,boxS,ldS,h,h2];exact qaa rfl (by simp[retV,fitB,h,h2]) rfl
 ·simp[c212,boxS,ldS,h];exact qaa rfl (by simp[retV,fitB,h]) rfl
theorem qpy(m:Int)(h:0≤m):IntKind.i64.wrap (-m)≤m∨9223372036854775808≤m:=by
 rw[IntKind.wrap_i64];omega
theorem qs5(m:Int):IntKind.i64.wrap m≤9223372036854775807∧-9223372036854775808≤IntKind.i64.wrap m:=by
 rw[IntKind.wrap_i64];omega
theorem qrf(m:Int):(if m<IntKind.i64.wrap (-m) then IntKind.i64.wrap (-m) else m)=mag m:=by
 unfold mag;have h1:=qs5 (-m);by_cases h:m<0
 ·rw[if_pos h];split
  ·rfl
  ·rename_i h2;rw[IntKind.wrap_i64] at *;omega
 ·rw[if_neg h];rcases qpy m (by omega) with h2|h2
  ·rw[if_neg (by omega)]
  ·rw[if_neg (by omega)]
theorem qa3(m e m' e':Int):qbh [.int .i64 m,.int .i64 e] [.int .i64 m',.int .i64 e'] [(0,.i),(1,.i)]=some (decide (m=m'∧e=e')):=by
 by_cases h1:m=m'
 ·by_cases h2:e=e'
  ·have h3:(m==m')=true:=by simpa using h1
   have h4:(e==e')=true:=by simpa using h2
   simp[qbh,qcK,h1,h2]
  ·have h4:(e==e')=false:=by simpa using h2
   simp[qbh,qcK,h1,h4,h2]
 ·have h3:(m==m')=false:=by simpa using h1
  simp[qbh,qcK,h3,h1]
theorem qpp(m e:Int):∀S,Fn prog 210 [.agg [.int .i64 m,.int .i64 e]] S (.bool (rvOk m e)):=by
 refine Pu.intro (R:=fun v=>v=.bool (rvOk m e)) func210 ok210 (by simp[c210]) (by simp[V.under,V.underL]) (by rintro v rfl;rfl) ?_;have hm:=qrf m;by_cases h0:m=0∧e=0
 ·obtain ⟨rfl,rfl⟩:=h0;simp[c210,boxS,ldS,V.part,qal,qah,evX,qa3];exact qaa rfl rfl rfl
 have hr:rvOk m e=(decide (1≤mag m∧mag m<16777216) && (decide (e=-150) || (decide (8388608≤mag m) && decide (-150<e∧e≤150)))):=by
  unfold rvOk;rw[decide_eq_false h0];rfl
 rw[hr];simp[c210,boxS,ldS,V.part,qal,qah,evX,qa3,h0,mmV,hm];clear hr hm;generalize mag m=a at *;by_cases g1:a<1
 ·simp[g1,show ¬ 1≤a by omega];exact qaa rfl rfl rfl
 by_cases g2:16777216≤a
 ·simp[g1,g2,show ¬ a<16777216 by omega];exact qaa rfl rfl rfl
 by_cases g3:e=-150
 ·simp[ldS,g1,g2,g3,show 1≤a by omega,show a<16777216 by omega];exact qaa rfl rfl rfl
 by_cases g4:8388608≤a
 ·by_cases g5:-150<e
  ·simp[ldS,g1,g2,g3,g4,g5,show 1≤a by omega,show a<16777216 by omega];exact qaa rfl rfl rfl
  ·simp[ldS,g1,g2,g3,g4,g5,show 1≤a by omega,show a<16777216 by omega];exact qaa rfl rfl rfl
 ·simp[ldS,g1,g2,g3,g4,show 1≤a by omega,show a<16777216 by omega];exact qaa rfl rfl rfl
def no(_:Nat):Prop:=False
def anyQ{α:Type}(l:List α)(q:α→Bool):Bool:=l.any q
theorem qrS(s:ByteArray):∀S,Fn prog 249 [.str s] S (.bool (!qab s)):=by
 refine Pu.ib func249 ok249 (by simp[c249]) (by simp[V.under]) rfl ?_;simp[c249];refine qag (qf2 s _) ?_;simp;exact qaa rfl rfl rfl
theorem qrw(x:Ex):∀S,Fn prog 253 [x.v] S (.bool (!x.tgt)):=by
 refine Pu.ib func253 ok253 (by simp[c253]) (by simp[V.under]) rfl ?_;by_cases h6:x.kind=6
 ·simp[c253,boxS,ldS,h6];exact qaa rfl (by simp[retV,Ex.tgt,h6]) rfl
 ·simp[c253,boxS,ldS,h6];exact qaa rfl (by simp[retV,Ex.tgt,h6]) rfl
theorem qrk(b:Bool)(l:List ByteArray)(hl:l.length≤B50)(g:Nat)(cs:List V)(q:ByteArray→Bool)(S:St)(h:∀x,x∈l→∀U,Kp no S U→Spec prog g (.str x::cs) U (fun v U'=>v=.bool (q x)∧Kp no U U')):
  Spec prog 173 [.sl b (l.map V.str),.fn (.func g) [] cs] S (fun v U=>(∃n:Int,v=.int .i64 n∧(0≤n↔anyQ l q=true))∧Kp no S U):=by
 unfold B50 at hl;refine Spec.intro func173 ok173 (by simp[c173]) ?_;simp only[c173];simp;refine qap (fun j e S'=>∃i:Nat,j=l.length - i∧i≤l.length∧anyQ (l.take i) q=false∧Kp no S S'∧
  e=[(8,.int .i64 i),(7,.int .i64 l.length),(6,.sl b (l.map V.str)),(0,.sl b (l.map V.str)),(1,.fn (.func g) [] cs)]) l.length _ ?_ ⟨0,by simp,by omega,rfl,Kp.refl _ _,rfl⟩ ?_
 ·exact Env.so (by simp)
 rintro j e S' ⟨i,rfl,hi,hq,hk,rfl⟩;by_cases h1:i<l.length
 ·have h2:=h l[i] (qtM h1) S' hk;simp[h1,qdp];refine qan h2 ?_;rintro v U' ⟨rfl,hk'⟩
  cases h3:q l[i] with
  | true=>
   simp;refine qaj rfl ⟨⟨i,rfl,?_⟩,hk.trans hk'⟩;exact ⟨fun _=>qvb.2 ⟨l[i],qtM h1,h3⟩,fun _=>by omega⟩
  | false=>
   simp[qaK (n:=(i:Int)+1)];refine ⟨_,?_,_,?_,i+1,rfl,by omega,?_,hk.trans hk',rfl⟩
   ·omega
   ·exact Env.so (by simp)
   ·unfold anyQ at *;rw[qtQ,qtF h1,List.any_append,hq];simp[h3]
 ·simp[h1];refine qaj rfl ⟨⟨-1,rfl,?_⟩,hk⟩;rw[qud (by omega)] at hq;rw[hq];exact ⟨fun h=>absurd h (by decide),fun h=>by cases h⟩
theorem qqH(b:Bool)(l:List ByteArray)(hl:l.length≤B50)(g:Nat)(cs:List V)(q:ByteArray→Bool)(S:St)(h:∀x,x∈l→∀U,Kp no S U→Spec prog g (.str x::cs) U (fun v U'=>v=.bool (q x)∧Kp no U U')):
  Spec prog 138 [.sl b (l.map V.str),.fn (.func g) [] cs] S (fun v U=>v=.bool (anyQ l q)∧Kp no S U):=by
 refine Spec.intro func138 ok138 (by simp[c138]) ?_;simp only[c138];simp;refine qan (qrk b l hl g cs q S h) ?_;rintro v U ⟨⟨n,rfl,hn⟩,hk⟩;simp;refine qaj rfl ⟨?_,hk⟩
 cases ha:anyQ l q with
 | true=>simp[retV,hn.2 ha]
 | false=>
  have:¬ 0≤n:=fun hh=>by rw[hn.1 hh] at ha;cases ha
  simp[retV,this]
theorem qqn(b:Bool)(l:List Fo)(hl:l.length≤B50)(g:Nat)(cs:List V)(q:Fo→Bool)(S:St)(h:∀x,x∈l→∀U,Kp no S U→Spec prog g (Fo.v x::cs) U (fun v U'=>v=.bool (q x)∧Kp no U U')):
  Spec prog 169 [.sl b (l.map Fo.v),.fn (.func g) [] cs] S (fun v U=>(∃n:Int,v=.int .i64 n∧(0≤n↔anyQ l q=true))∧Kp no S U):=by
 unfold B50 at hl;refine Spec.intro func169 ok169 (by simp[c169]) ?_;simp only[c169];simp;refine qap (fun j e S'=>∃i:Nat,j=l.length - i∧i≤l.length∧anyQ (l.take i) q=false∧Kp no S S'∧
  e=[(8,.int .i64 i),(7,.int .i64 l.length),(6,.sl b (l.map Fo.v)),(0,.sl b (l.map Fo.v)),(1,.fn (.func g) [] cs)]) l.length _ ?_ ⟨0,by simp,by omega,rfl,Kp.refl _ _,rfl⟩ ?_
 ·exact Env.so (by simp)
 rintro j e S' ⟨i,rfl,hi,hq,hk,rfl⟩;by_cases h1:i<l.length
 ·have h2:=h l[i] (qtM h1) S' hk;simp[h1,iaFo];refine qan h2 ?_;rintro v U' ⟨rfl,hk'⟩
  cases h3:q l[i] with
  | true=>
   simp;refine qaj rfl ⟨⟨i,rfl,?_⟩,hk.trans hk'⟩;exact ⟨fun _=>qvb.2 ⟨l[i],qtM h1,h3⟩,fun _=>by omega⟩
  | false=>
   simp[qaK (n:=(i:Int)+1)];refine ⟨_,?_,_,?_,i+1,rfl,by omega,?_,hk.trans hk',rfl⟩
   ·omega
   ·exact Env.so (by simp)
   ·unfold anyQ at *;rw[qtQ,qtF h1,List.any_append,hq];simp[h3]
 ·simp[h1];refine qaj rfl ⟨⟨-1,rfl,?_⟩,hk⟩;rw[qud (by omega)] at hq;rw[hq];exact ⟨fun h=>absurd h (by decide),fun h=>by cases h⟩
theorem qpV(b:Bool)(l:List Fo)(hl:l.length≤B50)(g:Nat)(cs:List V)(q:Fo→Bool)(S:St)(h:∀x,x∈l→∀U,Kp no S U→Spec prog g (Fo.v x::cs) U (fun v U'=>v=.bool (q x)∧Kp no U U')):
  Spec prog 131 [.sl b (l.map Fo.v),.fn (.func g) [] cs] S (fun v U=>v=.bool (anyQ l q)∧Kp no S U):=by
 refine Spec.intro func131 ok131 (by simp[c131]) ?_;simp only[c131];simp;refine qan (qqn b l hl g cs q S h) ?_;rintro v U ⟨⟨n,rfl,hn⟩,hk⟩;simp;refine qaj rfl ⟨?_,hk⟩
 cases ha:anyQ l q with
 | true=>simp[retV,hn.2 ha]
 | false=>
  have:¬ 0≤n:=fun hh=>by rw[hn.1 hh] at ha;cases ha
  simp[retV,this]
theorem qr1(b:Bool)(l:List Ex)(hl:l.length≤B50)(g:Nat)(cs:List V)(q:Ex→Bool)(S:St)(h:∀x,x∈l→∀U,Kp no S U→Spec prog g (Ex.v x::cs) U (fun v U'=>v=.bool (q x)∧Kp no U U')):
  Spec prog 269 [.sl b (l.map Ex.v),.fn (.func g) [] cs] S (fun v U=>(∃n:Int,v=.int .i64 n∧(0≤n↔anyQ l q=true))∧Kp no S U):=by
 unfold B50 at hl;refine Spec.intro func269 ok269 (by simp[c269]) ?_;simp only[c269];simp;refine qap (fun j e S'=>∃i:Nat,j=l.length - i∧i≤l.length∧anyQ (l.take i) q=false∧Kp no S S'∧
  e=[(8,.int .i64 i),(7,.int .i64 l.length),(6,.sl b (l.map Ex.v)),(0,.sl b (l.map Ex.v)),(1,.fn (.func g) [] cs)]) l.length _ ?_ ⟨0,by simp,by omega,rfl,Kp.refl _ _,rfl⟩ ?_
 ·exact Env.so (by simp)
 rintro j e S' ⟨i,rfl,hi,hq,hk,rfl⟩;by_cases h1:i<l.length
 ·have h2:=h l[i] (qtM h1) S' hk;simp[h1,iaEx];refine qan h2 ?_;rintro v U' ⟨rfl,hk'⟩
  cases h3:q l[i] with
  | true=>
   simp;refine qaj rfl ⟨⟨i,rfl,?_⟩,hk.trans hk'⟩;exact ⟨fun _=>qvb.2 ⟨l[i],qtM h1,h3⟩,fun _=>by omega⟩
  | false=>
   simp[qaK (n:=(i:Int)+1)];refine ⟨_,?_,_,?_,i+1,rfl,by omega,?_,hk.trans hk',rfl⟩
   ·omega
   ·exact Env.so (by simp)
   ·unfold anyQ at *;rw[qtQ,qtF h1,List.any_append,hq];simp[h3]
 ·simp[h1];refine qaj rfl ⟨⟨-1,rfl,?_⟩,hk⟩;rw[qud (by omega)] at hq;rw[hq];exact ⟨fun h=>absurd h (by decide),fun h=>by cases h⟩
theorem qqF(b:Bool)(l:List Ex)(hl:l.length≤B50)(g:Nat)(cs:List V)(q:Ex→Bool)(S:St)(h:∀x,x∈l→∀U,Kp no S U→Spec prog g (Ex.v x::cs) U (fun v U'=>v=.bool (q x)∧Kp no U U')):
  Spec prog 252 [.sl b (l.map Ex.v),.fn (.func g) [] cs] S (fun v U=>v=.bool (anyQ l q)∧Kp no S U):=by
 refine Spec.intro func252 ok252 (by simp[c252]) ?_;simp only[c252];simp;refine qan (qr1 b l hl g cs q S h) ?_;rintro v U ⟨⟨n,rfl,hn⟩,hk⟩;simp;refine qaj rfl ⟨?_,hk⟩
 cases ha:anyQ l q with
 | true=>simp[retV,hn.2 ha]
 | false=>
  have:¬ 0≤n:=fun hh=>by rw[hn.1 hh] at ha;cases ha
  simp[retV,this]
theorem qmo{α:Type}(l:List α)(q:α→Bool):(!anyQ l fun x=>!q x)=l.all q:=by
 unfold anyQ
 induction l with
 | nil=>rfl
 | cons x l ih=>simp only[List.any_cons,List.all_cons,Bool.not_or,Bool.not_not,ih]
theorem qcc(l:List ByteArray)(hl:l.length≤B50):∀S,Fn prog 213 [.sl false (l.map .str)] S (.bool (l.all qab)):=by
 refine Pu.ib func213 ok213 (by simp[c213]) (by simp[V.under]) rfl ?_;simp only[c213];simp;refine qan (qqH false l hl 249 [] (fun x=>!qab x) _ fun x _ U _=>(qrS x U).mono fun v U' h=>⟨h.1,by rw[h.2];exact Kp.refl _ _⟩) ?_;rintro v U ⟨rfl,_⟩;simp;refine qaa rfl ?_ rfl;simp only[retV,qmo]
theorem qdl(l:List Ex)(hl:l.length≤B50):∀S,Fn prog 215 [.sl false (l.map Ex.v)] S (.bool (l.all Ex.tgt)):=by
 refine Pu.ib func215 ok215 (by simp[c215]) (by simp[V.under]) rfl ?_;simp only[c215];simp;refine qan (qqF false l hl 253 [] (fun x=>!x.tgt) _ fun x _ U _=>(qrw x U).mono fun v U' h=>⟨h.1,by rw[h.2];exact Kp.refl _ _⟩) ?_;rintro v U ⟨rfl,_⟩;simp;refine qaa rfl ?_ rfl;simp only[retV,qmo]
theorem qqi(f:Fo):∀S,Fn prog 250 [f.v] S (.bool (f.vOwn qab)):=by
 refine Pu.ib func250 ok250 (by simp[c250]) (by simp[V.under]) rfl ?_;simp[c250,boxS,ldS];refine qag (qf2 f.name _) ?_
 cases hn:qab f.name with
 | false=>
  simp;exact qaa rfl (by simp[retV,Fo.vOwn,hn]) rfl
 | true=>
  have hv:f.vOwn qab=(if f.spec=0∨f.spec=3∨f.spec=4∨f.spec=5 then decide (f.type=0) && !f.value
   else if f.spec=1 then decide (1≤f.type∧f.type≤3)
   else if f.spec=2 then decide (0≤f.type∧f.type≤3) && (!f.value || decide (f.type≠0))
   else if f.spec=6 then decide (0≤f.type∧f.type≤3) && !f.value
   else false):=by unfold Fo.vOwn;rw[hn];rfl
  rw[hv];by_cases h0:f.spec=0
  ·by_cases ht:f.type=0
   ·simp[ldS,h0,ht];exact qaa rfl rfl rfl
   ·simp[ldS,h0,ht];exact qaa rfl rfl rfl
  by_cases h3:f.spec=3
  ·by_cases ht:f.type=0
   ·simp[ldS,h3,ht];exact qaa rfl rfl rfl
   ·simp[ldS,h3,ht];exact qaa rfl rfl rfl
  by_cases h4:f.spec=4
  ·by_cases ht:f.type=0
   ·simp[ldS,h4,ht];exact qaa rfl rfl rfl
   ·simp[ldS,h4,ht];exact qaa rfl rfl rfl
  by_cases h5:f.spec=5
  ·by_cases ht:f.type=0
   ·simp[ldS,h5,ht];exact qaa rfl rfl rfl
   ·simp[ldS,h5,ht];exact qaa rfl rfl rfl
  by_cases h1:f.spec=1
  ·simp[ldS,h1];refine qag (qaG _ _ _ _) ?_;simp;exact qaa rfl rfl rfl
  by_cases h2:f.spec=2
  ·simp[ldS,h2];refine qag (qaG _ _ _ _) ?_
   cases hr:decide (0≤f.type) && decide (f.type≤3) with
   | false=>
    simp;exact qaa rfl rfl rfl
   | true=>
    cases hval:f.value with
    | false=>
     simp[ldS,hval];exact qaa rfl rfl rfl
    | true=>
     simp[ldS,hval];exact qaa rfl rfl rfl
  by_cases h6:f.spec=6
  ·simp[ldS,h6];refine qag (qaG _ _ _ _) ?_
   cases hr:decide (0≤f.type) && decide (f.type≤3) with
   | false=>
    simp;exact qaa rfl rfl rfl
   | true=>
    simp[ldS];exact qaa rfl rfl rfl
  simp[ldS,h0,h1,h2,h3,h4,h5,h6];exact qaa rfl rfl rfl
theorem qqr(f g:Fo)(L:Nat)(S:St)(h:S[L]?=some (.arr [f.v] 4 1)):Spec prog 251 [g.v,.ptr L 0 0 1] S (fun v U=>v=.bool (decide (g.name=f.name))∧Kp no S U):=by
 refine Spec.intro func251 ok251 (by simp[c251]) ?_;simp[c251,boxS,ldS,gp h];exact qaj rfl ⟨rfl,(Kp.refl _ _).push _⟩
theorem qb3(nm:ByteArray→Bool):∀(l m:List Fo) (had:List ByteArray),qbv nm (l++m) had=(qbv nm l had && qbv nm m (had++l.map Fo.name))
 | [],m,had=>by simp[qbv]
 | f::l,m,had=>by
  simp only[qtO,qbv,qb3 nm l m,qtW,qt1,List.singleton_append,qt4,qtO,qt0]
theorem qtk{l:List V}{k:Nat}(hk:k≤l.length){sz:Nat}(hs:∀x,x∈l→x.size=sz)(S:St):qbJ S sz (.sl false l) none (some (k:Int))=some (.sl false (l.take k)):=by
 simp[qbJ,hk];exact hs
def prB(l:List UInt8):Bool:=l.all qdb
theorem qeG(l:List Fo)(hl:l.length≤B50):∀S,Fn prog 214 [.sl false (l.map Fo.v)] S (.bool (qbv qab l [])):=by
 refine Pu.ib func214 ok214 (by simp[c214]) (by simp[V.under]) rfl ?_;unfold B50 at hl;simp only[c214];simp;refine qap (fun j e S'=>∃i:Nat,j=l.length - i∧i≤l.length∧qbv qab (l.take i) []=true∧
  e=[(7,.int .i64 i),(6,.int .i64 l.length),(5,.sl false (l.map Fo.v)),(0,.sl false (l.map Fo.v))]) l.length _ ?_ ⟨0,by simp,by omega,rfl,rfl⟩ ?_
 ·exact Env.so (by simp)
 rintro j e S' ⟨i,rfl,hi,hq,rfl⟩;by_cases h:i<l.length
 ·have hnext:qbv qab (l.take (i+1)) []=(l[i].vOwn qab && !((l.take i).map Fo.name).any fun x=>decide (x=l[i].name)):=by
   rw[qtQ,qtF h,qug,qb3,hq];simp[qbv]
  have hall:qbv qab l []=true→qbv qab (l.take (i+1)) []=true:=fun hh=>by
   rw[←qul (i+1) l,qb3,qtJ] at hh;exact hh.1
  simp[h,iaFo,boxS,stS,qbs,ldS];refine qag (qqi l[i] _) ?_
  cases hv:l[i].vOwn qab with
  | false=>
   simp;refine qaa rfl ?_ rfl;simp only[retV,V.bool.injEq]
   cases hh:qbv qab l [] with
   | false=>rfl
   | true=>rw[hall hh,hv] at hnext;simp at hnext
  | true=>
   rw[hv] at hnext;have hs:=qtk (l:=l.map Fo.v) (k:=i) (by simp;omega) (sz:=4) (fun x hx=>by obtain ⟨y,_,rfl⟩:=qt3.1 hx;rfl) (S'++[Ob.arr [l[i].v] 4 1]);simp[qfJ,hs];rw[←List.map_take];refine qan (qpV false (l.take i) (by rw[quE];unfold B50;omega) 251 [.ptr S'.length 0 0 1] (fun g=>decide (g.name=l[i].name)) _ fun x _ U hk=>qqr l[i] x S'.length U (hk.at (by simp) (fun h=>h))) ?_;rintro v U ⟨rfl,hk⟩
   have he:anyQ (l.take i) (fun g=>decide (g.name=l[i].name))=((l.take i).map Fo.name).any fun x=>decide (x=l[i].name):=by
    unfold anyQ;rw[List.any_map];rfl
   rw[he]
   cases hc:((l.take i).map Fo.name).any fun x=>decide (x=l[i].name) with
   | true=>
    rw[hc] at hnext;simp;refine qaa rfl ?_ rfl;simp only[retV,V.bool.injEq]
    cases hh:qbv qab l [] with
    | false=>rfl
    | true=>rw[hall hh] at hnext;simp at hnext
   | false=>
    rw[hc] at hnext;simp[qaK (n:=(i:Int)+1)];refine ⟨_,?_,_,?_,i+1,rfl,by omega,by rw[hnext];rfl,rfl⟩
    ·omega
    ·exact Env.so (by simp)
 ·simp[h];refine qaa rfl ?_ rfl;rw[qud (by omega)] at hq;simp only[retV,hq]
theorem qp9(s:ByteArray)(hs:s.size≤B50):∀S,Fn prog 211 [.str s] S (.bool (qcD s)):=by
 refine Pu.ib func211 ok211 (by simp[c211]) (by simp[V.under]) rfl ?_;unfold B50 at hs;have hp:qcD s=(prB s.data.toList && decide (s.size≤80)):=rfl;generalize hpr:qcD s=pr at hp ⊢;simp only[c211];simp;refine qap (fun j e S'=>∃i:Nat,j=s.size - i∧i≤s.size∧prB (s.data.toList.take i)=true∧
  e=[(3,.int .i64 i),(0,.str s)]) s.size _ ?_ ⟨0,by simp,by omega,rfl,rfl⟩ ?_
 ·exact Env.so (by simp)
 rintro j e S' ⟨i,rfl,hi,hq,rfl⟩;by_cases h:i<s.size
 ·have hb:s.data.toList[i]?=some (s.data[i]'h):=by simp[h]
  generalize hx:s.data[i]'h=x at hb;have hi':idxV s i=some (.int .u8 x.toNat):=by rw[←hx];exact idxS h
  have hlt:=x.toNat_lt
  have hno:qdb x=false→pr=false:=fun hh=>by
   rw[hp,qu4];left
   cases ha:prB s.data.toList with
   | false=>rfl
   | true=>
    unfold prB at ha;rw[qtY] at ha;rw[ha x (qtP hb)] at hh;cases hh
  simp[h,hi',qaz (n:=(x.toNat:Int)) (by omega) (by omega)];refine qag (qaG _ _ _ _) ?_;by_cases h1:(32:Int)≤x.toNat∧(x.toNat:Int)≤126
  ·rw[show (decide ((32:Int)≤x.toNat) && decide ((x.toNat:Int)≤126))=true by simp[h1]];by_cases h2:(x.toNat:Int)=34
   ·simp[hi',h2];refine qaa rfl ?_ rfl;rw[hno (by unfold qdb;simp;omega)];rfl
   ·simp[hi',h2,qaK (n:=(i:Int)+1)];refine ⟨_,?_,_,?_,i+1,rfl,by omega,?_,rfl⟩
    ·omega
    ·exact Env.so (by simp)
    ·unfold prB at *;rw[qtQ,List.all_append,hq,hb];simp[qdb];omega
  ·rw[show (decide ((32:Int)≤x.toNat) && decide ((x.toNat:Int)≤126))=false by simp;omega];simp;refine qaa rfl ?_ rfl;rw[hno (by unfold qdb;simp;omega)];rfl
 ·simp[h];have hsz:s.data.toList.length=s.size:=rfl;rw[qud (by omega)] at hq;refine qaa rfl ?_ rfl;rw[hp,hq];simp only[retV,V.bool.injEq,qvp,decide_eq_decide];omega
theorem qpS(e:El):∀S,Fn prog 181 [e.v] S (.bool e.vOwn):=by
 refine Pu.ib func181 ok181 (by simp[c181]) (by simp[V.under]) rfl ?_;unfold El.vOwn;by_cases h1:e.kind=1
 ·simp[c181,boxS,ldS,h1];exact qaa rfl (by simp[retV];omega) rfl
 by_cases h2:e.kind=2
 ·simp[c181,boxS,ldS,h2];exact qaa rfl (by simp[retV];omega) rfl
 by_cases h3:e.kind=3
 ·simp[c181,boxS,ldS,h3];exact qaa rfl (by simp[retV];omega) rfl
 simp[c181,boxS,ldS,h1,h2,h3];exact qaa rfl rfl rfl
section
attribute [local simp] boxS ldS stS qac qhD qlz qcx qaf qal qah evX qa3
theorem Ex.vOwn_eq(nm:ByteArray→Bool)(x:Ex):x.vOwn nm=(
 if x.kind=1 then decide (0≤x.n∧x.n≤2147483647) && decide (x.args.length=0) && decide (x.op=0) && (decide (x.man=0) && decide (x.exp=0)) && qbf x.text
 else if x.kind=2 then rvOk x.man x.exp && decide (0≤x.man) && decide (x.args.length=0) && decide (x.op=0) && decide (x.n=0) && qbf x.text
 else if x.kind=3∨x.kind=4 then decide (x.args.length=0) && decide (x.op=0) && decide (x.n=0) && (decide (x.man=0) && decide (x.exp=0)) && qbf x.text
 else if x.kind=5 then qcD x.text && decide (x.args.length=0) && decide (x.op=0) && decide (x.n=0) && (decide (x.man=0) && decide (x.exp=0))
 else if x.kind=6 then nm x.text && decide (x.args.length=0) && decide (x.op=0) && decide (x.n=0) && (decide (x.man=0) && decide (x.exp=0))
 else if x.kind=7 then nm x.text && decide (1≤x.args.length∧x.args.length≤4) && decide (x.op=0) && decide (x.n=0) && (decide (x.man=0) && decide (x.exp=0))
 else if x.kind=8 then nm x.text && decide (1≤x.args.length∧x.args.length≤8) && decide (x.op=0) && decide (x.n=0) && (decide (x.man=0) && decide (x.exp=0))
 else if x.kind=9 then decide (x.op=1∨x.op=2) && decide (x.args.length=1) && decide (x.n=0) && (decide (x.man=0) && decide (x.exp=0)) && qbf x.text
 else if x.kind=10 then decide (3≤x.op∧x.op≤18) && decide (x.args.length=2) && decide (x.n=0) && (decide (x.man=0) && decide (x.exp=0)) && qbf x.text
 else if x.kind=11 then decide (x.args.length=3) && decide (x.op=0) && decide (x.n=0) && (decide (x.man=0) && decide (x.exp=0)) && qbf x.text
 else false):=by cases x;rfl
theorem qaT{t:ByteArray}(h:t=⟨⟨[]⟩⟩):qbf t=true:=by subst h;rfl
theorem qaO{t:ByteArray}(h:¬ t=⟨⟨[]⟩⟩):qbf t=false:=decide_eq_false fun hh=>h (qed.2 hh)
theorem qmn(x:Ex)(hx:x.ok)(h1:x.kind=1):∀S,Fn prog 180 [x.v] S (.bool (x.vOwn qab)):=by
 refine Pu.ib func180 ok180 (by simp[c180]) (by simp[V.under]) rfl ?_;have hv:=Ex.vOwn_eq qab x;generalize x.vOwn qab=r at hv ⊢
 ·simp only[h1] at hv;simp at hv;simp[c180,boxS,ldS,h1];refine qag (qb9 _ _) ?_;simp[arL,arH,ldS,h1];refine qag (qaG _ _ _ _) ?_;simp[ldS];refine qag (qaG _ _ _ _) ?_;by_cases hl:0≤x.args.length∧x.args.length≤0
  case neg=>
   rw[qaH (a:=(x.args.length:Int)) (lo:=0) (hi:=0) (by omega)];simp;refine qaa rfl ?_ rfl;rw[hv];simp only[retV,V.bool.injEq,qu1];have:¬ x.args=[]:=fun hh=>hl (by rw[hh];simp)
   simp[this]
  rw[qaM (a:=(x.args.length:Int)) (lo:=0) (hi:=0) (by omega)];have hl':x.args=[]:=qt6 (by omega);simp[h1];refine qag (qaG _ _ _ _) ?_;by_cases hb:0≤x.n∧x.n≤2147483647
  case neg=>
   rw[qaH (by omega)];simp;exact qaa rfl (by rw[hv];simp[retV,hl',hb]) rfl
  rw[qaM (by omega)];simp;by_cases ho:x.op=0
  case neg=>
   simp[ho];exact qaa rfl (by rw[hv];simp[retV,hl',hb,ho]) rfl
  simp[ho];by_cases hr:x.man=0∧x.exp=0
  case neg=>
   rcases quf.1 hr with hr1|hr1
   ·simp[hr1];exact qaa rfl (by rw[hv];simp[retV,hl',hr1,hb,ho,true_and]) rfl
   ·simp[hr1];exact qaa rfl (by rw[hv];simp[retV,hl',hr1,hb,ho,true_and]) rfl
  simp[hr];by_cases ht:x.text=⟨⟨[]⟩⟩
  case neg=>
   simp[ht];exact qaa rfl (by rw[hv];simp[retV,hl',hb,ho,hr,qaO ht]) rfl
  simp[ht];rw[ht] at hv;exact qaa rfl (by rw[hv];simp[retV,hl',hb,ho,hr,qaT rfl]) rfl
theorem qmO(x:Ex)(hx:x.ok)(h2:x.kind=2):∀S,Fn prog 180 [x.v] S (.bool (x.vOwn qab)):=by
 refine Pu.ib func180 ok180 (by simp[c180]) (by simp[V.under]) rfl ?_;have hv:=Ex.vOwn_eq qab x;generalize x.vOwn qab=r at hv ⊢
 ·simp only[h2] at hv;simp at hv;simp[c180,boxS,ldS,h2];refine qag (qb9 _ _) ?_;simp[arL,arH,ldS,h2];refine qag (qaG _ _ _ _) ?_;simp[ldS];refine qag (qaG _ _ _ _) ?_;by_cases hl:0≤x.args.length∧x.args.length≤0
  case neg=>
   rw[qaH (a:=(x.args.length:Int)) (lo:=0) (hi:=0) (by omega)];simp;refine qaa rfl ?_ rfl;rw[hv];simp only[retV,V.bool.injEq,qu1];have:¬ x.args=[]:=fun hh=>hl (by rw[hh];simp)
   simp[this]
  rw[qaM (a:=(x.args.length:Int)) (lo:=0) (hi:=0) (by omega)];have hl':x.args=[]:=qt6 (by omega);simp[h2];refine qag (qpp _ _ _) ?_;cases hb:rvOk x.man x.exp
  case false=>
   simp;exact qaa rfl (by rw[hv];simp[retV,hl',hb]) rfl
  simp;by_cases hm:0≤x.man
  case neg=>
   simp[hm];exact qaa rfl (by rw[hv];simp[retV,hl',hb,hm]) rfl
  simp[hm];by_cases ho:x.op=0
  case neg=>
   simp[ho];exact qaa rfl (by rw[hv];simp[retV,hl',hb,hm,ho]) rfl
  simp[ho];by_cases hn:x.n=0
  case neg=>
   simp[hn];exact qaa rfl (by rw[hv];simp[retV,hl',hb,hm,ho,hn]) rfl
  simp[hn];by_cases ht:x.text=⟨⟨[]⟩⟩
  case neg=>
   simp[ht];exact qaa rfl (by rw[hv];simp[retV,hl',hb,hm,ho,hn,qaO ht]) rfl
  simp[ht];rw[ht] at hv;exact qaa rfl (by rw[hv];simp[retV,hl',hb,hm,ho,hn,qaT rfl]) rfl
theorem qng(x:Ex)(hx:x.ok)(h3:x.kind=3):∀S,Fn prog 180 [x.v] S (.bool (x.vOwn qab)):=by
 refine Pu.ib func180 ok180 (by simp[c180]) (by simp[V.under]) rfl ?_;have hv:=Ex.vOwn_eq qab x;generalize x.vOwn qab=r at hv ⊢
 ·simp only[h3] at hv;simp at hv;simp[c180,boxS,ldS,h3];refine qag (qb9 _ _) ?_;simp[arL,arH,ldS,h3];refine qag (qaG _ _ _ _) ?_;simp[ldS];refine qag (qaG _ _ _ _) ?_;by_cases hl:0≤x.args.length∧x.args.length≤0
  case neg=>
   rw[qaH (a:=(x.args.length:Int)) (lo:=0) (hi:=0) (by omega)];simp;refine qaa rfl ?_ rfl;rw[hv];simp only[retV,V.bool.injEq,qu1];have:¬ x.args=[]:=fun hh=>hl (by rw[hh];simp)
   simp[this]
  rw[qaM (a:=(x.args.length:Int)) (lo:=0) (hi:=0) (by omega)];have hl':x.args=[]:=qt6 (by omega);simp[h3];by_cases ho:x.op=0
  case neg=>
   simp[ho];exact qaa rfl (by rw[hv];simp[retV,hl',ho]) rfl
  simp[ho];by_cases hn:x.n=0
  case neg=>
   simp[hn];exact qaa rfl (by rw[hv];simp[retV,hl',ho,hn]) rfl
  simp[hn];by_cases hr:x.man=0∧x.exp=0
  case neg=>
   rcases quf.1 hr with hr1|hr1
   ·simp[hr1];exact qaa rfl (by rw[hv];simp[retV,hl',hr1,ho,hn,true_and]) rfl
   ·simp[hr1];exact qaa rfl (by rw[hv];simp[retV,hl',hr1,ho,hn,true_and]) rfl
  simp[hr];by_cases ht:x.text=⟨⟨[]⟩⟩
  case neg=>
   simp[ht];exact qaa rfl (by rw[hv];simp[retV,hl',ho,hn,hr,qaO ht]) rfl
  simp[ht];rw[ht] at hv;exact qaa rfl (by rw[hv];simp[retV,hl',ho,hn,hr,qaT rfl]) rfl
theorem ql3(x:Ex)(hx:x.ok)(h4:x.kind=4):∀S,Fn prog 180 [x.v] S (.bool (x.vOwn qab)):=by
 refine Pu.ib func180 ok180 (by simp[c180]) (by simp[V.under]) rfl ?_;have hv:=Ex.vOwn_eq qab x;generalize x.vOwn qab=r at hv ⊢
 ·simp only[h4] at hv;simp at hv;simp[c180,boxS,ldS,h4];refine qag (qb9 _ _) ?_;simp[arL,arH,ldS,h4];refine qag (qaG _ _ _ _) ?_;simp[ldS];refine qag (qaG _ _ _ _) ?_;by_cases hl:0≤x.args.length∧x.args.length≤0
  case neg=>
   rw[qaH (a:=(x.args.length:Int)) (lo:=0) (hi:=0) (by omega)];simp;refine qaa rfl ?_ rfl;rw[hv];simp only[retV,V.bool.injEq,qu1];have:¬ x.args=[]:=fun hh=>hl (by rw[hh];simp)
   simp[this]
  rw[qaM (a:=(x.args.length:Int)) (lo:=0) (hi:=0) (by omega)];have hl':x.args=[]:=qt6 (by omega);simp[h4];by_cases ho:x.op=0
  case neg=>
   simp[ho];exact qaa rfl (by rw[hv];simp[retV,hl',ho]) rfl
  simp[ho];by_cases hn:x.n=0
  case neg=>
   simp[hn];exact qaa rfl (by rw[hv];simp[retV,hl',ho,hn]) rfl
  simp[hn];by_cases hr:x.man=0∧x.exp=0
  case neg=>
   rcases quf.1 hr with hr1|hr1
   ·simp[hr1];exact qaa rfl (by rw[hv];simp[retV,hl',hr1,ho,hn,true_and]) rfl
   ·simp[hr1];exact qaa rfl (by rw[hv];simp[retV,hl',hr1,ho,hn,true_and]) rfl
  simp[hr];by_cases ht:x.text=⟨⟨[]⟩⟩
  case neg=>
   simp[ht];exact qaa rfl (by rw[hv];simp[retV,hl',ho,hn,hr,qaO ht]) rfl
  simp[ht];rw[ht] at hv;exact qaa rfl (by rw[hv];simp[retV,hl',ho,hn,hr,qaT rfl]) rfl
theorem qns(x:Ex)(hx:x.ok)(h5:x.kind=5):∀S,Fn prog 180 [x.v] S (.bool (x.vOwn qab)):=by
 refine Pu.ib func180 ok180 (by simp[c180]) (by simp[V.under]) rfl ?_;have hv:=Ex.vOwn_eq qab x;generalize x.vOwn qab=r at hv ⊢
 ·simp only[h5] at hv;simp at hv;simp[c180,boxS,ldS,h5];refine qag (qb9 _ _) ?_;simp[arL,arH,ldS,h5];refine qag (qaG _ _ _ _) ?_;simp[ldS];refine qag (qaG _ _ _ _) ?_;by_cases hl:0≤x.args.length∧x.args.length≤0
  case neg=>
   rw[qaH (a:=(x.args.length:Int)) (lo:=0) (hi:=0) (by omega)];simp;refine qaa rfl ?_ rfl;rw[hv];simp only[retV,V.bool.injEq,qu1];have:¬ x.args=[]:=fun hh=>hl (by rw[hh];simp)
   simp[this]
  rw[qaM (a:=(x.args.length:Int)) (lo:=0) (hi:=0) (by omega)];have hl':x.args=[]:=qt6 (by omega);simp[h5];refine qag (qp9 _ (Ex.ok_text hx) _) ?_;cases hb:qcD x.text
  case false=>
   simp;exact qaa rfl (by rw[hv];simp[retV,hl',hb]) rfl
  simp;by_cases ho:x.op=0
  case neg=>
   simp[ho];exact qaa rfl (by rw[hv];simp[retV,hl',hb,ho]) rfl
  simp[ho];by_cases hn:x.n=0
  case neg=>
   simp[hn];exact qaa rfl (by rw[hv];simp[retV,hl',hb,ho,hn]) rfl
  simp[hn];by_cases hr:x.man=0∧x.exp=0
  case neg=>
   rcases quf.1 hr with hr1|hr1
   ·simp[hr1];exact qaa rfl (by rw[hv];simp[retV,hl',hr1,hb,ho,hn,true_and]) rfl
   ·simp[hr1];exact qaa rfl (by rw[hv];simp[retV,hl',hr1,hb,ho,hn,true_and]) rfl
  simp[hr];exact qaa rfl (by rw[hv];simp[retV,hl',hb,ho,hn,hr]) rfl
theorem qlm(x:Ex)(hx:x.ok)(h6:x.kind=6):∀S,Fn prog 180 [x.v] S (.bool (x.vOwn qab)):=by
 refine Pu.ib func180 ok180 (by simp[c180]) (by simp[V.under]) rfl ?_;have hv:=Ex.vOwn_eq qab x;generalize x.vOwn qab=r at hv ⊢
 ·simp only[h6] at hv;simp at hv;simp[c180,boxS,ldS,h6];refine qag (qb9 _ _) ?_;simp[arL,arH,ldS,h6];refine qag (qaG _ _ _ _) ?_;simp[ldS];refine qag (qaG _ _ _ _) ?_;by_cases hl:0≤x.args.length∧x.args.length≤0
  case neg=>
   rw[qaH (a:=(x.args.length:Int)) (lo:=0) (hi:=0) (by omega)];simp;refine qaa rfl ?_ rfl;rw[hv];simp only[retV,V.bool.injEq,qu1];have:¬ x.args=[]:=fun hh=>hl (by rw[hh];simp)
   simp[this]
  rw[qaM (a:=(x.args.length:Int)) (lo:=0) (hi:=0) (by omega)];have hl':x.args=[]:=qt6 (by omega);simp[h6];refine qag (qf2 _ _) ?_;cases hb:qab x.text
  case false=>
   simp;exact qaa rfl (by rw[hv];simp[retV,hl',hb]) rfl
  simp;by_cases ho:x.op=0
  case neg=>
   simp[ho];exact qaa rfl (by rw[hv];simp[retV,hl',hb,ho]) rfl
  simp[ho];by_cases hn:x.n=0
  case neg=>
   simp[hn];exact qaa rfl (by rw[hv];simp[retV,hl',hb,ho,hn]) rfl
  simp[hn];by_cases hr:x.man=0∧x.exp=0
  case neg=>
   rcases quf.1 hr with hr1|hr1
   ·simp[hr1];exact qaa rfl (by rw[hv];simp[retV,hl',hr1,hb,ho,hn,true_and]) rfl
   ·simp[hr1];exact qaa rfl (by rw[hv];simp[retV,hl',hr1,hb,ho,hn,true_and]) rfl
  simp[hr];exact qaa rfl (by rw[hv];simp[retV,hl',hb,ho,hn,hr]) rfl
theorem qlD(x:Ex)(hx:x.ok)(h7:x.kind=7):∀S,Fn prog 180 [x.v] S (.bool (x.vOwn qab)):=by
 refine Pu.ib func180 ok180 (by simp[c180]) (by simp[V.under]) rfl ?_;have hv:=Ex.vOwn_eq qab x;generalize x.vOwn qab=r at hv ⊢
 ·simp only[h7] at hv;simp at hv;simp[c180,boxS,ldS,h7];refine qag (qb9 _ _) ?_;simp[arL,arH,ldS,h7];refine qag (qaG _ _ _ _) ?_;simp[ldS];refine qag (qaG _ _ _ _) ?_;by_cases hl:1≤x.args.length∧x.args.length≤4
  case neg=>
   rw[qaH (a:=(x.args.length:Int)) (lo:=1) (hi:=4) (by omega)];simp;refine qaa rfl ?_ rfl;rw[hv];simp only[retV,V.bool.injEq,qu1];have:¬ (1≤x.args.length∧x.args.length≤4):=by omega
   simp[this]
  rw[qaM (a:=(x.args.length:Int)) (lo:=1) (hi:=4) (by omega)];have hl':1≤x.args.length∧x.args.length≤4:=by omega
  simp[h7];refine qag (qf2 _ _) ?_;cases hb:qab x.text
  case false=>
   simp;exact qaa rfl (by rw[hv];simp[retV,hl',hb]) rfl
  simp;by_cases ho:x.op=0
  case neg=>
   simp[ho];exact qaa rfl (by rw[hv];simp[retV,hl',hb,ho]) rfl
  simp[ho];by_cases hn:x.n=0
  case neg=>
   simp[hn];exact qaa rfl (by rw[hv];simp[retV,hl',hb,ho,hn]) rfl
  simp[hn];by_cases hr:x.man=0∧x.exp=0
  case neg=>
   rcases quf.1 hr with hr1|hr1
   ·simp[hr1];exact qaa rfl (by rw[hv];simp[retV,hl',hr1,hb,ho,hn,true_and]) rfl
   ·simp[hr1];exact qaa rfl (by rw[hv];simp[retV,hl',hr1,hb,ho,hn,true_and]) rfl
  simp[hr];exact qaa rfl (by rw[hv];simp[retV,hl',hb,ho,hn,hr]) rfl
theorem qk8(x:Ex)(hx:x.ok)(h8:x.kind=8):∀S,Fn prog 180 [x.v] S (.bool (x.vOwn qab)):=by
 refine Pu.ib func180 ok180 (by simp[c180]) (by simp[V.under]) rfl ?_;have hv:=Ex.vOwn_eq qab x;generalize x.vOwn qab=r at hv ⊢
 ·simp only[h8] at hv;simp at hv;simp[c180,boxS,ldS,h8];refine qag (qb9 _ _) ?_;simp[arL,arH,ldS,h8];refine qag (qaG _ _ _ _) ?_;simp[ldS];refine qag (qaG _ _ _ _) ?_;by_cases hl:1≤x.args.length∧x.args.length≤8
  case neg=>
   rw[qaH (a:=(x.args.length:Int)) (lo:=1) (hi:=8) (by omega)];simp;refine qaa rfl ?_ rfl;rw[hv];simp only[retV,V.bool.injEq,qu1];have:¬ (1≤x.args.length∧x.args.length≤8):=by omega
   simp[this]
  rw[qaM (a:=(x.args.length:Int)) (lo:=1) (hi:=8) (by omega)];have hl':1≤x.args.length∧x.args.length≤8:=by omega
  simp[h8];refine qag (qf2 _ _) ?_;cases hb:qab x.text
  case false=>
   simp;exact qaa rfl (by rw[hv];simp[retV,hl',hb]) rfl
  simp;by_cases ho:x.op=0
  case neg=>
   simp[ho];exact qaa rfl (by rw[hv];simp[retV,hl',hb,ho]) rfl
  simp[ho];by_cases hn:x.n=0
  case neg=>
   simp[hn];exact qaa rfl (by rw[hv];simp[retV,hl',hb,ho,hn]) rfl
  simp[hn];by_cases hr:x.man=0∧x.exp=0
  case neg=>
   rcases quf.1 hr with hr1|hr1
   ·simp[hr1];exact qaa rfl (by rw[hv];simp[retV,hl',hr1,hb,ho,hn,true_and]) rfl
   ·simp[hr1];exact qaa rfl (by rw[hv];simp[retV,hl',hr1,hb,ho,hn,true_and]) rfl
  simp[hr];exact qaa rfl (by rw[hv];simp[retV,hl',hb,ho,hn,hr]) rfl
theorem qk0(x:Ex)(hx:x.ok)(h9:x.kind=9):∀S,Fn prog 180 [x.v] S (.bool (x.vOwn qab)):=by
 refine Pu.ib func180 ok180 (by simp[c180]) (by simp[V.under]) rfl ?_;have hv:=Ex.vOwn_eq qab x;generalize x.vOwn qab=r at hv ⊢
 ·simp only[h9] at hv;simp at hv;simp[c180,boxS,ldS,h9];refine qag (qb9 _ _) ?_;simp[arL,arH,ldS,h9];refine qag (qaG _ _ _ _) ?_;simp[ldS];refine qag (qaG _ _ _ _) ?_;by_cases hl:1≤x.args.length∧x.args.length≤1
  case neg=>
   rw[qaH (a:=(x.args.length:Int)) (lo:=1) (hi:=1) (by omega)];simp;refine qaa rfl ?_ rfl;rw[hv];simp only[retV,V.bool.injEq,qu1];have:¬ x.args.length=1:=by omega
   simp[this]
  rw[qaM (a:=(x.args.length:Int)) (lo:=1) (hi:=1) (by omega)];have hl':x.args.length=1:=by omega
  simp[h9];by_cases hb1:x.op=1
  case neg=>
   by_cases hb2:x.op=2
   case neg=>
    simp[hb1,hb2];exact qaa rfl (by rw[hv];simp[retV,hl',hb1,hb2]) rfl
   simp[hb2];by_cases hn:x.n=0
   case neg=>
    simp[hn];exact qaa rfl (by rw[hv];simp[retV,hl',hb2,hn]) rfl
   simp[hn];by_cases hr:x.man=0∧x.exp=0
   case neg=>
    rcases quf.1 hr with hr1|hr1
    ·simp[hr1];exact qaa rfl (by rw[hv];simp[retV,hl',hr1,hb2,hn,true_and]) rfl
    ·simp[hr1];exact qaa rfl (by rw[hv];simp[retV,hl',hr1,hb2,hn,true_and]) rfl
   simp[hr];by_cases ht:x.text=⟨⟨[]⟩⟩
   case neg=>
    simp[ht];exact qaa rfl (by rw[hv];simp[retV,hl',hb2,hn,hr,qaO ht]) rfl
   simp[ht];rw[ht] at hv;exact qaa rfl (by rw[hv];simp[retV,hl',hb2,hn,hr,qaT rfl]) rfl
  simp[hb1];by_cases hn:x.n=0
  case neg=>
   simp[hn];exact qaa rfl (by rw[hv];simp[retV,hl',hb1,hn]) rfl
  simp[hn];by_cases hr:x.man=0∧x.exp=0
  case neg=>
   rcases quf.1 hr with hr1|hr1
   ·simp[hr1];exact qaa rfl (by rw[hv];simp[retV,hl',hr1,hb1,hn,true_and]) rfl
   ·simp[hr1];exact qaa rfl (by rw[hv];simp[retV,hl',hr1,hb1,hn,true_and]) rfl
  simp[hr];by_cases ht:x.text=⟨⟨[]⟩⟩
  case neg=>
   simp[ht];exact qaa rfl (by rw[hv];simp[retV,hl',hb1,hn,hr,qaO ht]) rfl
  simp[ht];rw[ht] at hv;exact qaa rfl (by rw[hv];simp[retV,hl',hb1,hn,hr,qaT rfl]) rfl
theorem qkE(x:Ex)(hx:x.ok)(h10:x.kind=10):∀S,Fn prog 180 [x.v] S (.bool (x.vOwn qab)):=by
 refine Pu.ib func180 ok180 (by simp[c180]) (by simp[V.under]) rfl ?_;have hv:=Ex.vOwn_eq qab x;generalize x.vOwn qab=r at hv ⊢
 ·simp only[h10] at hv;simp at hv;simp[c180,boxS,ldS,h10];refine qag (qb9 _ _) ?_;simp[arL,arH,ldS,h10];refine qag (qaG _ _ _ _) ?_;simp[ldS];refine qag (qaG _ _ _ _) ?_;by_cases hl:2≤x.args.length∧x.args.length≤2
  case neg=>
   rw[qaH (a:=(x.args.length:Int)) (lo:=2) (hi:=2) (by omega)];simp;refine qaa rfl ?_ rfl;rw[hv];simp only[retV,V.bool.injEq,qu1];have:¬ x.args.length=2:=by omega
   simp[this]
  rw[qaM (a:=(x.args.length:Int)) (lo:=2) (hi:=2) (by omega)];have hl':x.args.length=2:=by omega
  simp[h10];refine qag (qaG _ _ _ _) ?_;by_cases hb:3≤x.op∧x.op≤18
  case neg=>
   rw[qaH (by omega)];simp;exact qaa rfl (by rw[hv];simp[retV,hl',hb]) rfl
  rw[qaM (by omega)];simp;by_cases hn:x.n=0
  case neg=>
   simp[hn];exact qaa rfl (by rw[hv];simp[retV,hl',hb,hn]) rfl
  simp[hn];by_cases hr:x.man=0∧x.exp=0
  case neg=>
   rcases quf.1 hr with hr1|hr1
   ·simp[hr1];exact qaa rfl (by rw[hv];simp[retV,hl',hr1,hb,hn,true_and]) rfl
   ·simp[hr1];exact qaa rfl (by rw[hv];simp[retV,hl',hr1,hb,hn,true_and]) rfl
  simp[hr];by_cases ht:x.text=⟨⟨[]⟩⟩
  case neg=>
   simp[ht];exact qaa rfl (by rw[hv];simp[retV,hl',hb,hn,hr,qaO ht]) rfl
  simp[ht];rw[ht] at hv;exact qaa rfl (by rw[hv];simp[retV,hl',hb,hn,hr,qaT rfl]) rfl
theorem qj4(x:Ex)(hx:x.ok)(h11:x.kind=11):∀S,Fn prog 180 [x.v] S (.bool (x.vOwn qab)):=by
 refine Pu.ib func180 ok180 (by simp[c180]) (by simp[V.under]) rfl ?_;have hv:=Ex.vOwn_eq qab x;generalize x.vOwn qab=r at hv ⊢
 ·simp only[h11] at hv;simp at hv;simp[c180,boxS,ldS,h11];refine qag (qb9 _ _) ?_;simp[arL,arH,ldS,h11];refine qag (qaG _ _ _ _) ?_;simp[ldS];refine qag (qaG _ _ _ _) ?_;by_cases hl:3≤x.args.length∧x.args.length≤3
  case neg=>
   rw[qaH (a:=(x.args.length:Int)) (lo:=3) (hi:=3) (by omega)];simp;refine qaa rfl ?_ rfl;rw[hv];simp only[retV,V.bool.injEq,qu1];have:¬ x.args.length=3:=by omega
   simp[this]
  rw[qaM (a:=(x.args.length:Int)) (lo:=3) (hi:=3) (by omega)];have hl':x.args.length=3:=by omega
  simp[h11];by_cases ho:x.op=0
  case neg=>
   simp[ho];exact qaa rfl (by rw[hv];simp[retV,hl',ho]) rfl
  simp[ho];by_cases hn:x.n=0
  case neg=>
   simp[hn];exact qaa rfl (by rw[hv];simp[retV,hl',ho,hn]) rfl
  simp[hn];by_cases hr:x.man=0∧x.exp=0
  case neg=>
   rcases quf.1 hr with hr1|hr1
   ·simp[hr1];exact qaa rfl (by rw[hv];simp[retV,hl',hr1,ho,hn,true_and]) rfl
   ·simp[hr1];exact qaa rfl (by rw[hv];simp[retV,hl',hr1,ho,hn,true_and]) rfl
  simp[hr];by_cases ht:x.text=⟨⟨[]⟩⟩
  case neg=>
   simp[ht];exact qaa rfl (by rw[hv];simp[retV,hl',ho,hn,hr,qaO ht]) rfl
  simp[ht];rw[ht] at hv;exact qaa rfl (by rw[hv];simp[retV,hl',ho,hn,hr,qaT rfl]) rfl
theorem qjM(x:Ex)(hx:x.ok)(h1:¬ x.kind=1)(h2:¬ x.kind=2)(h3:¬ x.kind=3)(h4:¬ x.kind=4)(h5:¬ x.kind=5)(h6:¬ x.kind=6)(h7:¬ x.kind=7)(h8:¬ x.kind=8)(h9:¬ x.kind=9)(h10:¬ x.kind=10)(h11:¬ x.kind=11):∀S,Fn prog 180 [x.v] S (.bool (x.vOwn qab)):=by
 refine Pu.ib func180 ok180 (by simp[c180]) (by simp[V.under]) rfl ?_;have hv:=Ex.vOwn_eq qab x;generalize x.vOwn qab=r at hv ⊢;have hv':r=false:=by rw[hv];simp[h1,h2,h3,h4,h5,h6,h7,h8,h9,h10,h11]
 simp[c180,boxS,ldS];refine qag (qb9 _ _) ?_;simp[ldS];refine qag (qaG _ _ _ _) ?_;rw[qaH (by omega)];simp;exact qaa rfl (by rw[hv'];rfl) rfl
theorem qrj(x:Ex)(hx:x.ok):∀S,Fn prog 180 [x.v] S (.bool (x.vOwn qab)):=by
 by_cases h1:x.kind=1
 ·exact qmn x hx h1
 by_cases h2:x.kind=2
 ·exact qmO x hx h2
 by_cases h3:x.kind=3
 ·exact qng x hx h3
 by_cases h4:x.kind=4
 ·exact ql3 x hx h4
 by_cases h5:x.kind=5
 ·exact qns x hx h5
 by_cases h6:x.kind=6
 ·exact qlm x hx h6
 by_cases h7:x.kind=7
 ·exact qlD x hx h7
 by_cases h8:x.kind=8
 ·exact qk8 x hx h8
 by_cases h9:x.kind=9
 ·exact qk0 x hx h9
 by_cases h10:x.kind=10
 ·exact qkE x hx h10
 by_cases h11:x.kind=11
 ·exact qj4 x hx h11
 exact qjM x hx h1 h2 h3 h4 h5 h6 h7 h8 h9 h10 h11
end
section
attribute [local simp] eqOk eqV boxS ldS stS qac qc8 qf4 qlz qcx qaf qal qah evX
theorem qaY(n:Nat):fitB 0 0 n=decide (n=0):=by unfold fitB;rw[qui];simp
theorem qba(n:Nat):fitB 1 1 n=decide (n=1):=by unfold fitB;rw[qui];simp;omega
theorem qbb(n:Nat):fitB 1 (-1) n=decide (1≤n):=by unfold fitB;rw[qui];simp;omega
theorem qa7(n:Nat):fitB 1 2 n=decide (1≤n∧n≤2):=by unfold fitB;rw[qui];simp;omega
theorem qa9(n:Nat):fitB 0 8 n=decide (n≤8):=by unfold fitB;rw[qui];simp;omega
theorem qby(n:Nat):fitB 2 8 n=decide (2≤n∧n≤8):=by unfold fitB;rw[qui];simp;omega
theorem qlq{l:List Sm}(h:0<l.length):Sm.noIf l=decide (l[0].kind≠4∧l[0].kind≠5):=by
 cases l with
 | nil=>simp at h
 | cons x l=>rfl
theorem qkr:qab ⟨⟨[]⟩⟩=false:=rfl
theorem qkJ{l:List Sm}(h:0<l.length)(b:Bool)(S:St):iaS S 8 (.sl b (l.map Sm.v)) 0=some (.iptr (Sm.v l[0]) 0):=iaSm (i:=0) h b S
theorem Sm.vOwn_1(nm:ByteArray→Bool)(s:Sm)(h:s.kind=1):s.vOwn nm=(fitB 0 0 s.targets.length && fitB 0 0 s.exps.length && fitB 0 0 s.elems.length && fitB 0 0 s.decls.length && fitB 0 0 s.body.length && qbf s.text && s.labels.all nm && s.targets.all Ex.tgt):=by
 cases s;simp only[Sm.kind] at h;subst h;simp only[Sm.vOwn,Sm.targets,Sm.exps,Sm.elems,Sm.decls,Sm.body,Sm.text,Sm.labels,qaY,qba,qbb,qa7,qa9,qby];simp only[reduceIte,Int.reduceEq];ac_rfl
theorem Sm.vOwn_2(nm:ByteArray→Bool)(s:Sm)(h:s.kind=2):s.vOwn nm=(fitB 1 (-1) s.targets.length && fitB 1 1 s.exps.length && fitB 0 0 s.elems.length && fitB 0 0 s.decls.length && fitB 0 0 s.body.length && qbf s.text && s.labels.all nm && s.targets.all Ex.tgt):=by
 cases s;simp only[Sm.kind] at h;subst h;simp only[Sm.vOwn,Sm.targets,Sm.exps,Sm.elems,Sm.decls,Sm.body,Sm.text,Sm.labels,qaY,qba,qbb,qa7,qa9,qby];simp only[reduceIte,Int.reduceEq];ac_rfl
theorem Sm.vOwn_3(nm:ByteArray→Bool)(s:Sm)(h:s.kind=3):s.vOwn nm=(fitB 0 0 s.targets.length && fitB 1 1 s.exps.length && fitB 0 0 s.elems.length && fitB 0 0 s.decls.length && fitB 0 0 s.body.length && qbf s.text && s.labels.all nm && s.targets.all Ex.tgt):=by
 cases s;simp only[Sm.kind] at h;subst h;simp only[Sm.vOwn,Sm.targets,Sm.exps,Sm.elems,Sm.decls,Sm.body,Sm.text,Sm.labels,qaY,qba,qbb,qa7,qa9,qby];simp only[reduceIte,Int.reduceEq];ac_rfl
theorem Sm.vOwn_4(nm:ByteArray→Bool)(s:Sm)(h:s.kind=4):s.vOwn nm=(fitB 0 0 s.targets.length && fitB 1 1 s.exps.length && fitB 0 0 s.elems.length && fitB 0 0 s.decls.length && fitB 1 2 s.body.length && qbf s.text && s.labels.all nm && s.targets.all Ex.tgt && Sm.noIf s.body):=by
 cases s;simp only[Sm.kind] at h;subst h;simp only[Sm.vOwn,Sm.targets,Sm.exps,Sm.elems,Sm.decls,Sm.body,Sm.text,Sm.labels,qaY,qba,qbb,qa7,qa9,qby];simp only[reduceIte,Int.reduceEq];ac_rfl
theorem Sm.vOwn_5(nm:ByteArray→Bool)(s:Sm)(h:s.kind=5):s.vOwn nm=(fitB 1 1 s.targets.length && fitB 0 0 s.exps.length && fitB 1 (-1) s.elems.length && fitB 0 0 s.decls.length && fitB 1 1 s.body.length && qbf s.text && s.labels.all nm && s.targets.all Ex.tgt):=by
 cases s;simp only[Sm.kind] at h;subst h;simp only[Sm.vOwn,Sm.targets,Sm.exps,Sm.elems,Sm.decls,Sm.body,Sm.text,Sm.labels,qaY,qba,qbb,qa7,qa9,qby];simp only[reduceIte,Int.reduceEq];ac_rfl
theorem Sm.vOwn_6(nm:ByteArray→Bool)(s:Sm)(h:s.kind=6):s.vOwn nm=(fitB 0 0 s.targets.length && fitB 0 8 s.exps.length && fitB 0 0 s.elems.length && fitB 0 0 s.decls.length && fitB 0 0 s.body.length && nm s.text && s.labels.all nm && s.targets.all Ex.tgt):=by
 cases s;simp only[Sm.kind] at h;subst h;simp only[Sm.vOwn,Sm.targets,Sm.exps,Sm.elems,Sm.decls,Sm.body,Sm.text,Sm.labels,qaY,qba,qbb,qa7,qa9,qby];simp only[reduceIte,Int.reduceEq];ac_rfl
theorem Sm.vOwn_7(nm:ByteArray→Bool)(s:Sm)(h:s.kind=7):s.vOwn nm=(fitB 0 0 s.targets.length && fitB 0 0 s.exps.length && fitB 0 0 s.elems.length && fitB 1 (-1) s.decls.length && fitB 1 (-1) s.body.length && qbf s.text && s.labels.all nm && s.targets.all Ex.tgt):=by
 cases s;simp only[Sm.kind] at h;subst h;simp only[Sm.vOwn,Sm.targets,Sm.exps,Sm.elems,Sm.decls,Sm.body,Sm.text,Sm.labels,qaY,qba,qbb,qa7,qa9,qby];simp only[reduceIte,Int.reduceEq];ac_rfl
theorem Sm.vOwn_8(nm:ByteArray→Bool)(s:Sm)(h:s.kind=8):s.vOwn nm=(fitB 0 0 s.targets.length && fitB 0 0 s.exps.length && fitB 0 0 s.elems.length && fitB 0 0 s.decls.length && fitB 1 (-1) s.body.length && qbf s.text && s.labels.all nm && s.targets.all Ex.tgt):=by
 cases s;simp only[Sm.kind] at h;subst h;simp only[Sm.vOwn,Sm.targets,Sm.exps,Sm.elems,Sm.decls,Sm.body,Sm.text,Sm.labels,qaY,qba,qbb,qa7,qa9,qby];simp only[reduceIte,Int.reduceEq];ac_rfl
theorem Sm.vOwn_no(nm:ByteArray→Bool)(s:Sm)(h:¬ (1≤s.kind∧s.kind≤8)):s.vOwn nm=false:=by
 cases s with
 | mk l k t g e f d b=>
  simp only[Sm.kind] at h;simp only[Sm.vOwn,if_neg (show ¬ k=1 by omega),if_neg (show ¬ k=2 by omega),if_neg (show ¬ k=3 by omega),if_neg (show ¬ k=4 by omega),if_neg (show ¬ k=5 by omega),if_neg (show ¬ k=6 by omega),if_neg (show ¬ k=7 by omega),if_neg (show ¬ k=8 by omega),Bool.and_false]
theorem qnm(s:Sm)(hs:s.ok)(hk:s.kind=1):∀S,Fn prog 183 [s.v] S (.bool (s.vOwn qab)):=by
 refine Pu.ib func183 ok183 (by simp[c183]) (by simp[V.under]) rfl ?_;have hO:=(Sm.ok_iff s).1 hs;rw[Sm.vOwn_1 qab s hk];simp[c183,hk];refine qag (qay _ _ _ _) ?_;cases f0:fitB 0 0 s.targets.length
 case false=>
  simp;exact qaa rfl (by simp[retV,f0]) rfl
 simp;refine qag (qay _ _ _ _) ?_;cases f1:fitB 0 0 s.exps.length
 case false=>
  simp;exact qaa rfl (by simp[retV,f0,f1]) rfl
 simp;refine qag (qay _ _ _ _) ?_;cases f2:fitB 0 0 s.elems.length
 case false=>
  simp;exact qaa rfl (by simp[retV,f0,f1,f2]) rfl
 simp;refine qag (qay _ _ _ _) ?_;cases f3:fitB 0 0 s.decls.length
 case false=>
  simp;exact qaa rfl (by simp[retV,f0,f1,f2,f3]) rfl
 simp;refine qag (qay _ _ _ _) ?_;cases f4:fitB 0 0 s.body.length
 case false=>
  simp;exact qaa rfl (by simp[retV,f0,f1,f2,f3,f4]) rfl
 simp;by_cases ht:s.text=⟨⟨[]⟩⟩
 case neg=>
  simp[ht];exact qaa rfl (by simp[retV,f0,f1,f2,f3,f4,qaO ht]) rfl
 simp[ht];refine qag (qcc _ hO.labels.1 _) ?_;cases hl:s.labels.all qab
 case false=>
  simp;exact qaa rfl (by simp[retV]) rfl
 simp;refine qag (qdl _ hO.targets.1 _) ?_;cases hg:s.targets.all Ex.tgt
 case false=>
  simp;exact qaa rfl (by simp[retV]) rfl
 simp[hk];exact qaa rfl (by simp[retV,f0,f1,f2,f3,f4,qaT rfl]) rfl
theorem qnw(s:Sm)(hs:s.ok)(hk:s.kind=2):∀S,Fn prog 183 [s.v] S (.bool (s.vOwn qab)):=by
 refine Pu.ib func183 ok183 (by simp[c183]) (by simp[V.under]) rfl ?_;have hO:=(Sm.ok_iff s).1 hs;rw[Sm.vOwn_2 qab s hk];simp[c183,hk];refine qag (qay _ _ _ _) ?_;cases f0:fitB 1 (-1) s.targets.length
 case false=>
  simp;exact qaa rfl (by simp[retV,f0]) rfl
 simp;refine qag (qay _ _ _ _) ?_;cases f1:fitB 1 1 s.exps.length
 case false=>
  simp;exact qaa rfl (by simp[retV,f0,f1]) rfl
 simp;refine qag (qay _ _ _ _) ?_;cases f2:fitB 0 0 s.elems.length
 case false=>
  simp;exact qaa rfl (by simp[retV,f0,f1,f2]) rfl
 simp;refine qag (qay _ _ _ _) ?_;cases f3:fitB 0 0 s.decls.length
 case false=>
  simp;exact qaa rfl (by simp[retV,f0,f1,f2,f3]) rfl
 simp;refine qag (qay _ _ _ _) ?_;cases f4:fitB 0 0 s.body.length
 case false=>
  simp;exact qaa rfl (by simp[retV,f0,f1,f2,f3,f4]) rfl
 simp;by_cases ht:s.text=⟨⟨[]⟩⟩
 case neg=>
  simp[ht];exact qaa rfl (by simp[retV,f0,f1,f2,f3,f4,qaO ht]) rfl
 simp[ht];refine qag (qcc _ hO.labels.1 _) ?_;cases hl:s.labels.all qab
 case false=>
  simp;exact qaa rfl (by simp[retV]) rfl
 simp;refine qag (qdl _ hO.targets.1 _) ?_;cases hg:s.targets.all Ex.tgt
 case false=>
  simp;exact qaa rfl (by simp[retV]) rfl
 simp[hk];exact qaa rfl (by simp[retV,f0,f1,f2,f3,f4,qaT rfl]) rfl
theorem qlM(s:Sm)(hs:s.ok)(hk:s.kind=3):∀S,Fn prog 183 [s.v] S (.bool (s.vOwn qab)):=by
 refine Pu.ib func183 ok183 (by simp[c183]) (by simp[V.under]) rfl ?_;have hO:=(Sm.ok_iff s).1 hs;rw[Sm.vOwn_3 qab s hk];simp[c183,hk];refine qag (qay _ _ _ _) ?_;cases f0:fitB 0 0 s.targets.length
 case false=>
  simp;exact qaa rfl (by simp[retV,f0]) rfl
 simp;refine qag (qay _ _ _ _) ?_;cases f1:fitB 1 1 s.exps.length
 case false=>
  simp;exact qaa rfl (by simp[retV,f0,f1]) rfl
 simp;refine qag (qay _ _ _ _) ?_;cases f2:fitB 0 0 s.elems.length
 case false=>
  simp;exact qaa rfl (by simp[retV,f0,f1,f2]) rfl
 simp;refine qag (qay _ _ _ _) ?_;cases f3:fitB 0 0 s.decls.length
 case false=>
  simp;exact qaa rfl (by simp[retV,f0,f1,f2,f3]) rfl
 simp;refine qag (qay _ _ _ _) ?_;cases f4:fitB 0 0 s.body.length
 case false=>
  simp;exact qaa rfl (by simp[retV,f0,f1,f2,f3,f4]) rfl
 simp;by_cases ht:s.text=⟨⟨[]⟩⟩
 case neg=>
  simp[ht];exact qaa rfl (by simp[retV,f0,f1,f2,f3,f4,qaO ht]) rfl
 simp[ht];refine qag (qcc _ hO.labels.1 _) ?_;cases hl:s.labels.all qab
 case false=>
  simp;exact qaa rfl (by simp[retV]) rfl
 simp;refine qag (qdl _ hO.targets.1 _) ?_;cases hg:s.targets.all Ex.tgt
 case false=>
  simp;exact qaa rfl (by simp[retV]) rfl
 simp[hk];exact qaa rfl (by simp[retV,f0,f1,f2,f3,f4,qaT rfl]) rfl
theorem qnk(s:Sm)(hs:s.ok)(hk:s.kind=4):∀S,Fn prog 183 [s.v] S (.bool (s.vOwn qab)):=by
 refine Pu.ib func183 ok183 (by simp[c183]) (by simp[V.under]) rfl ?_;have hO:=(Sm.ok_iff s).1 hs;rw[Sm.vOwn_4 qab s hk];simp[c183,hk];refine qag (qay _ _ _ _) ?_;cases f0:fitB 0 0 s.targets.length
 case false=>
  simp;exact qaa rfl (by simp[retV,f0]) rfl
 simp;refine qag (qay _ _ _ _) ?_;cases f1:fitB 1 1 s.exps.length
 case false=>
  simp;exact qaa rfl (by simp[retV,f0,f1]) rfl
 simp;refine qag (qay _ _ _ _) ?_;cases f2:fitB 0 0 s.elems.length
 case false=>
  simp;exact qaa rfl (by simp[retV,f0,f1,f2]) rfl
 simp;refine qag (qay _ _ _ _) ?_;cases f3:fitB 0 0 s.decls.length
 case false=>
  simp;exact qaa rfl (by simp[retV,f0,f1,f2,f3]) rfl
 simp;refine qag (qay _ _ _ _) ?_;cases f4:fitB 1 2 s.body.length
 case false=>
  simp;exact qaa rfl (by simp[retV,f0,f1,f2,f3,f4]) rfl
 simp;by_cases ht:s.text=⟨⟨[]⟩⟩
 case neg=>
  simp[ht];exact qaa rfl (by simp[retV,f0,f1,f2,f3,f4,qaO ht]) rfl
 simp[ht];refine qag (qcc _ hO.labels.1 _) ?_;cases hl:s.labels.all qab
 case false=>
  simp;exact qaa rfl (by simp[retV]) rfl
 simp;refine qag (qdl _ hO.targets.1 _) ?_;cases hg:s.targets.all Ex.tgt
 case false=>
  simp;exact qaa rfl (by simp[retV]) rfl
 have hb:0<s.body.length:=by rw[qa7] at f4;simp at f4;omega
 have hno:=qlq hb;rw[hno];by_cases g4:s.body[0].kind=4
 case pos=>
  simp[qkJ hb,hk,g4];exact qaa rfl (by simp[retV]) rfl
 by_cases g5:s.body[0].kind=5
 case pos=>
  simp[qkJ hb,hk,g4,g5];exact qaa rfl (by simp[retV]) rfl
 simp[qkJ hb,hk,g4,g5];exact qaa rfl (by simp[retV,f0,f1,f2,f3,f4,qaT rfl]) rfl
theorem qm4(s:Sm)(hs:s.ok)(hk:s.kind=5):∀S,Fn prog 183 [s.v] S (.bool (s.vOwn qab)):=by
 refine Pu.ib func183 ok183 (by simp[c183]) (by simp[V.under]) rfl ?_;have hO:=(Sm.ok_iff s).1 hs;rw[Sm.vOwn_5 qab s hk];simp[c183,hk];refine qag (qay _ _ _ _) ?_;cases f0:fitB 1 1 s.targets.length
 case false=>
  simp;exact qaa rfl (by simp[retV,f0]) rfl
 simp;refine qag (qay _ _ _ _) ?_;cases f1:fitB 0 0 s.exps.length
 case false=>
  simp;exact qaa rfl (by simp[retV,f0,f1]) rfl
 simp;refine qag (qay _ _ _ _) ?_;cases f2:fitB 1 (-1) s.elems.length
 case false=>
  simp;exact qaa rfl (by simp[retV,f0,f1,f2]) rfl
 simp;refine qag (qay _ _ _ _) ?_;cases f3:fitB 0 0 s.decls.length
 case false=>
  simp;exact qaa rfl (by simp[retV,f0,f1,f2,f3]) rfl
 simp;refine qag (qay _ _ _ _) ?_;cases f4:fitB 1 1 s.body.length
 case false=>
  simp;exact qaa rfl (by simp[retV,f0,f1,f2,f3,f4]) rfl
 simp;by_cases ht:s.text=⟨⟨[]⟩⟩
 case neg=>
  simp[ht];exact qaa rfl (by simp[retV,f0,f1,f2,f3,f4,qaO ht]) rfl
 simp[ht];refine qag (qcc _ hO.labels.1 _) ?_;cases hl:s.labels.all qab
 case false=>
  simp;exact qaa rfl (by simp[retV]) rfl
 simp;refine qag (qdl _ hO.targets.1 _) ?_;cases hg:s.targets.all Ex.tgt
 case false=>
  simp;exact qaa rfl (by simp[retV]) rfl
 simp[hk];exact qaa rfl (by simp[retV,f0,f1,f2,f3,f4,qaT rfl]) rfl
theorem qkV(s:Sm)(hs:s.ok)(hk:s.kind=6):∀S,Fn prog 183 [s.v] S (.bool (s.vOwn qab)):=by
 refine Pu.ib func183 ok183 (by simp[c183]) (by simp[V.under]) rfl ?_;have hO:=(Sm.ok_iff s).1 hs;rw[Sm.vOwn_6 qab s hk];simp[c183,hk];refine qag (qay _ _ _ _) ?_;cases f0:fitB 0 0 s.targets.length
 case false=>
  simp;exact qaa rfl (by simp[retV,f0]) rfl
 simp;refine qag (qay _ _ _ _) ?_;cases f1:fitB 0 8 s.exps.length
 case false=>
  simp;exact qaa rfl (by simp[retV,f0,f1]) rfl
 simp;refine qag (qay _ _ _ _) ?_;cases f2:fitB 0 0 s.elems.length
 case false=>
  simp;exact qaa rfl (by simp[retV,f0,f1,f2]) rfl
 simp;refine qag (qay _ _ _ _) ?_;cases f3:fitB 0 0 s.decls.length
 case false=>
  simp;exact qaa rfl (by simp[retV,f0,f1,f2,f3]) rfl
 simp;refine qag (qay _ _ _ _) ?_;cases f4:fitB 0 0 s.body.length
 case false=>
  simp;exact qaa rfl (by simp[retV,f0,f1,f2,f3,f4]) rfl
 simp;by_cases ht:s.text=⟨⟨[]⟩⟩
 case pos=>
  simp[ht];exact qaa rfl (by simp[retV,f0,f1,f2,f3,f4,qkr]) rfl
 simp[ht];refine qag (qf2 _ _) ?_;cases hn:qab s.text
 case false=>
  simp;exact qaa rfl (by simp[retV,f0,f1,f2,f3,f4,hn]) rfl
 simp;refine qag (qcc _ hO.labels.1 _) ?_;cases hl:s.labels.all qab
 case false=>
  simp;exact qaa rfl (by simp[retV]) rfl
 simp;refine qag (qdl _ hO.targets.1 _) ?_;cases hg:s.targets.all Ex.tgt
 case false=>
  simp;exact qaa rfl (by simp[retV]) rfl
 simp[hk];exact qaa rfl (by simp[retV,f0,f1,f2,f3,f4,hn]) rfl
theorem qmg(s:Sm)(hs:s.ok)(hk:s.kind=7):∀S,Fn prog 183 [s.v] S (.bool (s.vOwn qab)):=by
 refine Pu.ib func183 ok183 (by simp[c183]) (by simp[V.under]) rfl ?_;have hO:=(Sm.ok_iff s).1 hs;rw[Sm.vOwn_7 qab s hk];simp[c183,hk];refine qag (qay _ _ _ _) ?_;cases f0:fitB 0 0 s.targets.length
 case false=>
  simp;exact qaa rfl (by simp[retV,f0]) rfl
 simp;refine qag (qay _ _ _ _) ?_;cases f1:fitB 0 0 s.exps.length
 case false=>
  simp;exact qaa rfl (by simp[retV,f0,f1]) rfl
 simp;refine qag (qay _ _ _ _) ?_;cases f2:fitB 0 0 s.elems.length
 case false=>
  simp;exact qaa rfl (by simp[retV,f0,f1,f2]) rfl
 simp;refine qag (qay _ _ _ _) ?_;cases f3:fitB 1 (-1) s.decls.length
 case false=>
  simp;exact qaa rfl (by simp[retV,f0,f1,f2,f3]) rfl
 simp;refine qag (qay _ _ _ _) ?_;cases f4:fitB 1 (-1) s.body.length
 case false=>
  simp;exact qaa rfl (by simp[retV,f0,f1,f2,f3,f4]) rfl
 simp;by_cases ht:s.text=⟨⟨[]⟩⟩
 case neg=>
  simp[ht];exact qaa rfl (by simp[retV,f0,f1,f2,f3,f4,qaO ht]) rfl
 simp[ht];refine qag (qcc _ hO.labels.1 _) ?_;cases hl:s.labels.all qab
 case false=>
  simp;exact qaa rfl (by simp[retV]) rfl
 simp;refine qag (qdl _ hO.targets.1 _) ?_;cases hg:s.targets.all Ex.tgt
 case false=>
  simp;exact qaa rfl (by simp[retV]) rfl
 simp[hk];exact qaa rfl (by simp[retV,f0,f1,f2,f3,f4,qaT rfl]) rfl
theorem ql9(s:Sm)(hs:s.ok)(hk:s.kind=8):∀S,Fn prog 183 [s.v] S (.bool (s.vOwn qab)):=by
 refine Pu.ib func183 ok183 (by simp[c183]) (by simp[V.under]) rfl ?_;have hO:=(Sm.ok_iff s).1 hs;rw[Sm.vOwn_8 qab s hk];simp[c183,hk];refine qag (qay _ _ _ _) ?_;cases f0:fitB 0 0 s.targets.length
 case false=>
  simp;exact qaa rfl (by simp[retV,f0]) rfl
 simp;refine qag (qay _ _ _ _) ?_;cases f1:fitB 0 0 s.exps.length
 case false=>
  simp;exact qaa rfl (by simp[retV,f0,f1]) rfl
 simp;refine qag (qay _ _ _ _) ?_;cases f2:fitB 0 0 s.elems.length
 case false=>
  simp;exact qaa rfl (by simp[retV,f0,f1,f2]) rfl
 simp;refine qag (qay _ _ _ _) ?_;cases f3:fitB 0 0 s.decls.length
 case false=>
  simp;exact qaa rfl (by simp[retV,f0,f1,f2,f3]) rfl
 simp;refine qag (qay _ _ _ _) ?_;cases f4:fitB 1 (-1) s.body.length
 case false=>
  simp;exact qaa rfl (by simp[retV,f0,f1,f2,f3,f4]) rfl
 simp;by_cases ht:s.text=⟨⟨[]⟩⟩
 case neg=>
  simp[ht];exact qaa rfl (by simp[retV,f0,f1,f2,f3,f4,qaO ht]) rfl
 simp[ht];refine qag (qcc _ hO.labels.1 _) ?_;cases hl:s.labels.all qab
 case false=>
  simp;exact qaa rfl (by simp[retV]) rfl
 simp;refine qag (qdl _ hO.targets.1 _) ?_;cases hg:s.targets.all Ex.tgt
 case false=>
  simp;exact qaa rfl (by simp[retV]) rfl
 simp[hk];exact qaa rfl (by simp[retV,f0,f1,f2,f3,f4,qaT rfl]) rfl
theorem qkg(s:Sm)(hs:s.ok)(h:¬ (1≤s.kind∧s.kind≤8)):∀S,Fn prog 183 [s.v] S (.bool (s.vOwn qab)):=by
 refine Pu.ib func183 ok183 (by simp[c183]) (by simp[V.under]) rfl ?_;have hO:=(Sm.ok_iff s).1 hs;rw[Sm.vOwn_no qab s h];simp[c183,show ¬ s.kind=1 by omega,show ¬ s.kind=2 by omega,show ¬ s.kind=3 by omega,show ¬ s.kind=4 by omega,show ¬ s.kind=5 by omega,show ¬ s.kind=6 by omega,show ¬ s.kind=7 by omega,show ¬ s.kind=8 by omega];exact qaa rfl rfl rfl
theorem qp3(s:Sm)(hs:s.ok):∀S,Fn prog 183 [s.v] S (.bool (s.vOwn qab)):=by
 by_cases h1:s.kind=1
 ·exact qnm s hs h1
 by_cases h2:s.kind=2
 ·exact qnw s hs h2
 by_cases h3:s.kind=3
 ·exact qlM s hs h3
 by_cases h4:s.kind=4
 ·exact qnk s hs h4
 by_cases h5:s.kind=5
 ·exact qm4 s hs h5
 by_cases h6:s.kind=6
 ·exact qkV s hs h6
 by_cases h7:s.kind=7
 ·exact qmg s hs h7
 by_cases h8:s.kind=8
 ·exact ql9 s hs h8
 exact qkg s hs (by omega)
theorem De.vOwn_1(nm:ByteArray→Bool)(d:De)(h:d.kind=1):d.vOwn nm=(fitB 1 (-1) d.names.length && fitB 0 0 d.exps.length && fitB 0 0 d.body.length && fitB 0 0 d.formals.length && d.names.all nm && (decide (1≤d.type∧d.type≤3))):=by
 cases d;simp only[De.kind] at h;subst h;simp only[De.vOwn,De.names,De.exps,De.formals,De.body,De.own,De.type,qaY,qba,qbb,qa7,qa9,qby];simp only[reduceIte,Int.reduceEq];ac_rfl
theorem De.vOwn_2(nm:ByteArray→Bool)(d:De)(h:d.kind=2):d.vOwn nm=(fitB 1 (-1) d.names.length && fitB 2 8 d.exps.length && fitB 0 0 d.body.length && fitB 0 0 d.formals.length && d.names.all nm && (decide (1≤d.type∧d.type≤3) && decide (d.exps.length % 2=0))):=by
 cases d;simp only[De.kind] at h;subst h;simp only[De.vOwn,De.names,De.exps,De.formals,De.body,De.own,De.type,qaY,qba,qbb,qa7,qa9,qby];simp only[reduceIte,Int.reduceEq];ac_rfl
theorem De.vOwn_3(nm:ByteArray→Bool)(d:De)(h:d.kind=3):d.vOwn nm=(fitB 1 1 d.names.length && fitB 1 (-1) d.exps.length && fitB 0 0 d.body.length && fitB 0 0 d.formals.length && d.names.all nm && (!d.own && decide (d.type=0))):=by
 cases d;simp only[De.kind] at h;subst h;simp only[De.vOwn,De.names,De.exps,De.formals,De.body,De.own,De.type,qaY,qba,qbb,qa7,qa9,qby];simp only[reduceIte,Int.reduceEq];ac_rfl
theorem De.vOwn_4(nm:ByteArray→Bool)(d:De)(h:d.kind=4):d.vOwn nm=(fitB 1 1 d.names.length && fitB 0 0 d.exps.length && fitB 1 1 d.body.length && fitB 0 8 d.formals.length && d.names.all nm && (!d.own && decide (0≤d.type∧d.type≤3) && qbv nm d.formals [])):=by
 cases d;simp only[De.kind] at h;subst h;simp only[De.vOwn,De.names,De.exps,De.formals,De.body,De.own,De.type,qaY,qba,qbb,qa7,qa9,qby];simp only[reduceIte,Int.reduceEq];ac_rfl
theorem De.vOwn_no(nm:ByteArray→Bool)(s:De)(h:¬ (1≤s.kind∧s.kind≤4)):s.vOwn nm=false:=by
 cases s with
 | mk k o t n e f b=>
  simp only[De.kind] at h;simp only[De.vOwn,if_neg (show ¬ k=1 by omega),if_neg (show ¬ k=2 by omega),if_neg (show ¬ k=3 by omega),if_neg (show ¬ k=4 by omega),Bool.and_false]
theorem modI(n:Nat):Int.tmod (n:Int) 2=((n % 2:Nat):Int):=rfl
theorem qm7(d:De)(hs:d.ok)(hk:d.kind=1):∀S,Fn prog 182 [d.v] S (.bool (d.vOwn qab)):=by
 refine Pu.ib func182 ok182 (by simp[c182]) (by simp[V.under]) rfl ?_;have hO:=(De.ok_iff d).1 hs;rw[De.vOwn_1 qab d hk];simp[c182,hk];refine qag (qay _ _ _ _) ?_;cases f0:fitB 1 (-1) d.names.length
 case false=>
  simp;exact qaa rfl (by simp[retV,f0]) rfl
 simp;refine qag (qay _ _ _ _) ?_;cases f1:fitB 0 0 d.exps.length
 case false=>
  simp;exact qaa rfl (by simp[retV,f0,f1]) rfl
 simp;refine qag (qay _ _ _ _) ?_;cases f2:fitB 0 0 d.body.length
 case false=>
  simp;exact qaa rfl (by simp[retV,f0,f1,f2]) rfl
 simp;refine qag (qay _ _ _ _) ?_;cases f3:fitB 0 0 d.formals.length
 case false=>
  simp;exact qaa rfl (by simp[retV,f0,f1,f2,f3]) rfl
 simp;refine qag (qcc _ hO.names.1 _) ?_;cases hl:d.names.all qab
 case false=>
  simp;exact qaa rfl (by simp[retV,f0]) rfl
 simp;have hgo:∀o:Bool,o=d.own→True:=fun _ _=>trivial
 cases ho:d.own
 case false=>
  simp[ho];refine qag (qaG _ _ _ _) ?_;by_cases ht:1≤d.type∧d.type≤3
  case neg=>
   rw[qaH ht];simp;exact qaa rfl (by simp[retV,f0,f1,f2,f3,ht]) rfl
  rw[qaM ht];simp[hk];refine qag (qaG _ _ _ _) ?_;rw[qaM (show 0≤d.type∧d.type≤3 by omega)];simp[hk];refine qag (qeG _ hO.formals.1 _) ?_;have hf:d.formals=[]:=qt6 (by rw[qaY] at f3;simpa using f3);simp[hf,qbv];exact qaa rfl (by simp[retV,f0,f1,f2,f3,hf,ht]) rfl
 case true=>
  simp[ho];refine qag (qaG _ _ _ _) ?_;by_cases ht:1≤d.type∧d.type≤3
  case neg=>
   rw[qaH ht];simp;exact qaa rfl (by simp[retV,f0,f1,f2,f3,ht]) rfl
  rw[qaM ht];simp[hk];refine qag (qaG _ _ _ _) ?_;rw[qaM (show 0≤d.type∧d.type≤3 by omega)];simp[hk];refine qag (qeG _ hO.formals.1 _) ?_;have hf:d.formals=[]:=qt6 (by rw[qaY] at f3;simpa using f3);simp[hf,qbv];exact qaa rfl (by simp[retV,f0,f1,f2,f3,hf,ht]) rfl
theorem qmH(d:De)(hs:d.ok)(hk:d.kind=2):∀S,Fn prog 182 [d.v] S (.bool (d.vOwn qab)):=by
 refine Pu.ib func182 ok182 (by simp[c182]) (by simp[V.under]) rfl ?_;have hO:=(De.ok_iff d).1 hs;rw[De.vOwn_2 qab d hk];simp[c182,hk];refine qag (qay _ _ _ _) ?_;cases f0:fitB 1 (-1) d.names.length
 case false=>
  simp;exact qaa rfl (by simp[retV,f0]) rfl
 simp;refine qag (qay _ _ _ _) ?_;cases f1:fitB 2 8 d.exps.length
 case false=>
  simp;exact qaa rfl (by simp[retV,f0,f1]) rfl
 simp;refine qag (qay _ _ _ _) ?_;cases f2:fitB 0 0 d.body.length
 case false=>
  simp;exact qaa rfl (by simp[retV,f0,f1,f2]) rfl
 simp;refine qag (qay _ _ _ _) ?_;cases f3:fitB 0 0 d.formals.length
 case false=>
  simp;exact qaa rfl (by simp[retV,f0,f1,f2,f3]) rfl
 simp;refine qag (qcc _ hO.names.1 _) ?_;cases hl:d.names.all qab
 case false=>
  simp;exact qaa rfl (by simp[retV,f0]) rfl
 simp;have hgo:∀o:Bool,o=d.own→True:=fun _ _=>trivial
 cases ho:d.own
 case false=>
  simp[ho];refine qag (qaG _ _ _ _) ?_;by_cases ht:1≤d.type∧d.type≤3
  case neg=>
   rw[qaH ht];simp;exact qaa rfl (by simp[retV,f0,f1,f2,f3,ht]) rfl
  rw[qaM ht];simp[hk];refine qag (qaG _ _ _ _) ?_;rw[qaM (show 0≤d.type∧d.type≤3 by omega)];simp[hk];have hmod:=modI d.exps.length;by_cases hm:d.exps.length % 2=0
  case neg=>
   simp[hmod,hm,show ¬ ((d.exps.length:Int) % 2=0) by omega];exact qaa rfl (by simp[retV,f0,f1,f2,f3,ht,hm]) rfl
  simp[hmod,hm,show ((d.exps.length:Int) % 2=0) by omega];refine qag (qeG _ hO.formals.1 _) ?_;have hf:d.formals=[]:=qt6 (by rw[qaY] at f3;simpa using f3);simp[hf,qbv];exact qaa rfl (by simp[retV,f0,f1,f2,f3,hf,ht,hm]) rfl
 case true=>
  simp[ho];refine qag (qaG _ _ _ _) ?_;by_cases ht:1≤d.type∧d.type≤3
  case neg=>
   rw[qaH ht];simp;exact qaa rfl (by simp[retV,f0,f1,f2,f3,ht]) rfl
  rw[qaM ht];simp[hk];refine qag (qaG _ _ _ _) ?_;rw[qaM (show 0≤d.type∧d.type≤3 by omega)];simp[hk];have hmod:=modI d.exps.length;by_cases hm:d.exps.length % 2=0
  case neg=>
   simp[hmod,hm,show ¬ ((d.exps.length:Int) % 2=0) by omega];exact qaa rfl (by simp[retV,f0,f1,f2,f3,ht,hm]) rfl
  simp[hmod,hm,show ((d.exps.length:Int) % 2=0) by omega];refine qag (qeG _ hO.formals.1 _) ?_;have hf:d.formals=[]:=qt6 (by rw[qaY] at f3;simpa using f3);simp[hf,qbv];exact qaa rfl (by simp[retV,f0,f1,f2,f3,hf,ht,hm]) rfl
theorem qmI(d:De)(hs:d.ok)(hk:d.kind=3):∀S,Fn prog 182 [d.v] S (.bool (d.vOwn qab)):=by
 refine Pu.ib func182 ok182 (by simp[c182]) (by simp[V.under]) rfl ?_;have hO:=(De.ok_iff d).1 hs;rw[De.vOwn_3 qab d hk];simp[c182,hk];refine qag (qay _ _ _ _) ?_;cases f0:fitB 1 1 d.names.length
 case false=>
  simp;exact qaa rfl (by simp[retV,f0]) rfl
 simp;refine qag (qay _ _ _ _) ?_;cases f1:fitB 1 (-1) d.exps.length
 case false=>
  simp;exact qaa rfl (by simp[retV,f0,f1]) rfl
 simp;refine qag (qay _ _ _ _) ?_;cases f2:fitB 0 0 d.body.length
 case false=>
  simp;exact qaa rfl (by simp[retV,f0,f1,f2]) rfl
 simp;refine qag (qay _ _ _ _) ?_;cases f3:fitB 0 0 d.formals.length
 case false=>
  simp;exact qaa rfl (by simp[retV,f0,f1,f2,f3]) rfl
 simp;refine qag (qcc _ hO.names.1 _) ?_;cases hl:d.names.all qab
 case false=>
  simp;exact qaa rfl (by simp[retV,f0]) rfl
 simp;cases ho:d.own
 case true=>
  simp[ho];exact qaa rfl (by simp[retV,f0,f1,f2,f3,ho]) rfl
 by_cases ht:d.type=0
 case neg=>
  simp[ho,hk,ht];exact qaa rfl (by simp[retV,f0,f1,f2,f3,ho,ht]) rfl
 simp[ho,hk,ht];refine qag (qaG _ _ _ _) ?_;simp[ho,hk,ht];refine qag (qeG _ hO.formals.1 _) ?_;have hf:d.formals=[]:=qt6 (by rw[qaY] at f3;simpa using f3);simp[hf,qbv];exact qaa rfl (by simp[retV,f0,f1,f2,f3,hf,ho,ht]) rfl
theorem qm2(d:De)(hs:d.ok)(hk:d.kind=4):∀S,Fn prog 182 [d.v] S (.bool (d.vOwn qab)):=by
 refine Pu.ib func182 ok182 (by simp[c182]) (by simp[V.under]) rfl ?_;have hO:=(De.ok_iff d).1 hs;rw[De.vOwn_4 qab d hk];simp[c182,hk];refine qag (qay _ _ _ _) ?_;cases f0:fitB 1 1 d.names.length
 case false=>
  simp;exact qaa rfl (by simp[retV,f0]) rfl
 simp;refine qag (qay _ _ _ _) ?_;cases f1:fitB 0 0 d.exps.length
 case false=>
  simp;exact qaa rfl (by simp[retV,f0,f1]) rfl
 simp;refine qag (qay _ _ _ _) ?_;cases f2:fitB 1 1 d.body.length
 case false=>
  simp;exact qaa rfl (by simp[retV,f0,f1,f2]) rfl
 simp;refine qag (qay _ _ _ _) ?_;cases f3:fitB 0 8 d.formals.length
 case false=>
  simp;exact qaa rfl (by simp[retV,f0,f1,f2,f3]) rfl
 simp;refine qag (qcc _ hO.names.1 _) ?_;cases hl:d.names.all qab
 case false=>
  simp;exact qaa rfl (by simp[retV,f0]) rfl
 simp;cases ho:d.own
 case true=>
  simp[ho];exact qaa rfl (by simp[retV,f0,f1,f2,f3,ho]) rfl
 simp[ho,hk];refine qag (qaG _ _ _ _) ?_;by_cases ht:0≤d.type∧d.type≤3
 case neg=>
  rw[qaH ht];simp;exact qaa rfl (by simp[retV,f0,f1,f2,f3,ho,ht]) rfl
 rw[qaM ht];simp[hk];refine qag (qeG _ hO.formals.1 _) ?_;simp;exact qaa rfl (by simp[retV,f0,f1,f2,f3,ho,ht]) rfl
theorem qjL(d:De)(hs:d.ok)(h:¬ (1≤d.kind∧d.kind≤4)):∀S,Fn prog 182 [d.v] S (.bool (d.vOwn qab)):=by
 refine Pu.ib func182 ok182 (by simp[c182]) (by simp[V.under]) rfl ?_;have hO:=(De.ok_iff d).1 hs;rw[De.vOwn_no qab d h];simp[c182,show ¬ d.kind=1 by omega,show ¬ d.kind=2 by omega,show ¬ d.kind=3 by omega,show ¬ d.kind=4 by omega];exact qaa rfl rfl rfl
theorem qpB(d:De)(hs:d.ok):∀S,Fn prog 182 [d.v] S (.bool (d.vOwn qab)):=by
 by_cases h1:d.kind=1
 ·exact qm7 d hs h1
 by_cases h2:d.kind=2
 ·exact qmH d hs h2
 by_cases h3:d.kind=3
 ·exact qmI d hs h3
 by_cases h4:d.kind=4
 ·exact qm2 d hs h4
 exact qjL d hs (by omega)
end
