/- A part. -/
import Derived.Test.YtbifpocccfkhhaaGreatDoorRf
set_option linter.all false
noncomputable section
namespace Go.Proofs.YtbifpocccfkhhaaGreatDoor
open Go
theorem qB.frameR{P:Program}{f:FuncId}{args:List V}{R:V→Prop}(h:qB P f args [] (fun v U=>R v∧U=[]))(ha:∀v,v∈args→v.under 0=true)(hr:∀v,R v→v.under 0=true)(S:St):qB P f args S (fun v U=>R v∧U=S):=by
 refine ⟨h.1,fun E w us n hs hv=>?_⟩;obtain ⟨c1,c2⟩:=hs.cut (m:=0) (fun o ho=>by simp at ho) (qqB _);have c1:SR (E.cut 0) [] w:=by simpa using c1
 have hv0:VRs (E.cut 0) args us:=⟨hv.1,fun i v u h1 h2=>(hv.2 i v u h1 h2).cut (ha v (qp6 h1))⟩;refine (h.2 (E.cut 0) w us n c1 hv0).mono ?_;rintro e w' ⟨u,r0,E1,S1,h1,⟨hR,rfl⟩,h3,h4,h5,h6⟩
 have hno:∀{E:En} {b:Nat},¬ own E [] b:=by
  rintro E b ⟨l,st,x,⟨o,ho,_⟩,_⟩;simp at ho
 let E':En:={ I:=E1.I,ρ:=E.ρ }
 have hle:E.le E':=⟨fun b o c hc=>h5.I b o c hc,fun _ _ _ hx=>hx⟩;have hle1:En.le (E1.cut 0) E':=⟨fun b o c hc=>hc,fun l st x hx=>by simp[En.cut] at hx⟩;have hown:∀b,own E' S b→own E S b:=fun b ⟨l,st,x,hl,hx,he⟩=>⟨l,st,x,hl,hx,he⟩
 have hI:∀b o c,E1.I b o=some c→E.I b o=some c∨w.heap.size≤b:=fun b o c hc=>by
  rcases h5.newI b o c hc with hc|hc|hc
  ·exact .inl hc
  ·exact absurd hc hno
  ·exact .inr hc
 refine ⟨u,r0,E',S,h1,⟨hR,rfl⟩,(h3.cut (hr _ hR)).mono hle1,⟨⟨h4.gl.1,h4.gl.2⟩,h4.I,fun l o hl=>?_,hs.dom,fun b o hb=>?_,fun b hb=>?_,fun l l' st st' x x' hl hl' hx hx' he=>hs.inj l l' st st' x x' hl hl' hx hx' he⟩,
  ⟨h5.size,hle.1,fun _ _ _ _ hx=>hx,fun _ _ hx=>hx,fun b hb=>.inl (hown b hb),fun b o c hc=>(hI b o c hc).imp id .inr,fun b hb _=>h5.frame b hb hno,h5.out⟩,qp0 _⟩
 ·by_cases hd:o=.dead
  ·subst hd;trivial
  ·exact (hs.obs l o hl).mono hle (fun _ _ hx=>hx) fun st x hx=>h5.frame _ (hs.lt _ ⟨l,st,x,⟨o,hl,hd⟩,hx,rfl⟩) hno
 ·cases hc:E'.I b o with
  | none=>rfl
  | some c=>
   exfalso;rcases hI b o c hc with h| h
   ·rw[hs.apart b o (hown b hb)] at h;cases h
   ·have:=hs.lt b (hown b hb);omega
 ·exact qqC (hs.lt b (hown b hb)) h5.size
abbrev Pu(P:Program)(k:Nat)(args:List V)(R:V→Prop):Prop:=∀S,qB P k args S (fun v U=>R v∧U=S)
theorem Pu.intro{P:Program}{f:FuncId}{fn:Func}{f':F'}{args:List V}{R:V→Prop}(hf:P.funcs[f]?=some fn)(hc:ZL P fn=some f')(ha:args.length≤f'.N)
  (hu:(args.all fun v=>v.under 0)=true) (hr:∀v,R v→v.under 0=true) (h:WP P f'.body (Z4 f'.rs 0 (fun v U=>R v∧U=[])) (z6 0 args) []):Pu P f args R:=fun S=>
 qB.frameR (qB.intro hf hc ha h) (fun v hv=>qqi.1 hu v hv) hr S
theorem Pu.ib{P:Program}{f:FuncId}{fn:Func}{f':F'}{args:List V}{r:V}(hf:P.funcs[f]?=some fn)(hc:ZL P fn=some f')(ha:args.length≤f'.N)(hu:(args.all fun v=>v.under 0)=true)(hr:r.under 0=true)(h:WP P f'.body (Z4 f'.rs 0 (fun v U=>v=r∧U=[])) (z6 0 args) []):∀S,Fn P f args S r:=Pu.intro (R:=fun v=>v=r) hf hc ha hu (fun v hv=>hv ▸ hr) h
theorem qa{rs:List RV}{R:V→Prop}{e:Env}{S:St}{vs:List V}(h:rvs e S rs=some vs)(hR:R (qo vs))(hu:(qo vs).under 0=true):Z4 rs 0 (fun v U=>R v∧U=[]) .ret e S:=
 ⟨vs,h,_,[],zg.cut (m:=0) hu (by simp) (qp0 _) (qqB _),hR,rfl⟩
def qh5(P:Program)(k:Nat)(args:List V)(S:St)(Φ:V→St→Prop):Prop:=∃R:V→St→Prop,qB P k args S R∧(∃v S',R v S')∧∀v S',R v S'→Φ v S'
def qfi(P:Program)(base:Nat)(d:Option Nat)(wr:Bool)(ds:List D)(K:Env→List St→Prop)(e:Env)(H:List St)(v:V)(S:St):Prop:=dwp P base ds K (e.put d v) S (if wr then H++[S] else H)
def qpp(r:Option (V×St))(P:Program)(base:Nat)(d:Option Nat)(wr:Bool)(ds:List D)(K:Env→List St→Prop)(e:Env)(H:List St):Prop:=match r with
 | some (v,S')=>qfi P base d wr ds K e H v S'
 | none=>False
def qps(f:Option V)(vs:Option (List V))(P:Program)(base:Nat)(d:Option Nat)(wr:Bool)(ds:List D)(K:Env→List St→Prop)(e:Env)(S:St)(H:List St):Prop:=match f,vs with
 | some (.fn (.func k) fs cs),some vs=>qh5 P k (fs++vs++cs) S (qfi P base d wr ds K e H)
 | _,_=>False
def dgd(g:Option Bool)(P:Program)(base:Nat)(d:D)(ds:List D)(K:Env→List St→Prop)(e:Env)(S:St)(H:List St):Prop:=match g with
 | none=>False
 | some false=>qfi P base d.o.dst d.w ds K e H (.tup []) S
 | some true=>dwp P base ({ d with o:={ d.o with g:=none } }::ds) K e S H
theorem qhL{P:Program}{base:Nat}{d:Option Nat}{wr:Bool}{ds:List D}{K:Env→List St→Prop}{e:Env}{H:List St}{v:V}{S:St}:qfi P base d wr ds K e H v S=dwp P base ds K (e.put d v) S (if wr then H++[S] else H):=(rfl)
theorem qgc{P:Program}{base:Nat}{d:Option Nat}{wr:Bool}{ds:List D}{K:Env→List St→Prop}{e:Env}{H:List St}{v:V}{S:St}:qpp (some (v,S)) P base d wr ds K e H=dwp P base ds K (e.put d v) S (if wr then H++[S] else H):=(rfl)
theorem qkJ{P:Program}{k:Nat}{fs cs vs:List V}{base:Nat}{d:Option Nat}{wr:Bool}{ds:List D}{K:Env→List St→Prop}{e:Env}{S:St}{H:List St}:qps (some (.fn (.func k) fs cs)) (some vs) P base d wr ds K e S H=qh5 P k (fs++vs++cs) S (qfi P base d wr ds K e H):=(rfl)
theorem qeB{P:Program}{base:Nat}{d:D}{ds:List D}{K:Env→List St→Prop}{e:Env}{S:St}{H:List St}:dgd (some false) P base d ds K e S H=dwp P base ds K (e.put d.o.dst (.tup [])) S (if d.w then H++[S] else H):=(rfl)
theorem qib{P:Program}{base:Nat}{d:D}{ds:List D}{K:Env→List St→Prop}{e:Env}{S:St}{H:List St}:dgd (some true) P base d ds K e S H=dwp P base ({ d with o:={ d.o with g:=none } }::ds) K e S H:=(rfl)
theorem ql3{P:Program}{base:Nat}{K:Env→List St→Prop}{e:Env}{S:St}{H:List St}:dwp P base [] K e S H=K e H:=(rfl)
theorem qe9{P:Program}{base:Nat}{dst:Option Nat}{g:Nat×Bool}{k:K}{wr:Bool}{sl:Option Nat}{ck:Bool}{an:List Nat}{lo hi:Nat}{ds:List D}{K:Env→List St→Prop}{e:Env}{S:St}{H:List St}:
  dwp P base (⟨⟨dst,some g,k⟩,wr,sl,ck,an,lo,hi⟩::ds) K e S H=dgd (za e (some g)) P base ⟨⟨dst,some g,k⟩,wr,sl,ck,an,lo,hi⟩ ds K e S H:=by
 unfold dgd
 cases h:za e (some g) with
 | none=>simp only[dwp,h]
 | some b=>cases b <;> simp only[dwp,h] <;> rfl
theorem qhV{P:Program}{base:Nat}{dst:Option Nat}{k:K}{wr:Bool}{sl:Nat}{ck:Bool}{an:List Nat}{lo hi:Nat}{ds:List D}{K:Env→List St→Prop}{e:Env}{S:St}{H:List St}:
 dwp P base (⟨⟨dst,none,k⟩,wr,some sl,ck,an,lo,hi⟩::ds) K e S H=dwp P base ds K (e.put dst (.ptr (base+sl) 0 0 1)) S (if wr then H++[S] else H):=(rfl)
theorem qhX{P:Program}{base:Nat}{dst:Option Nat}{f:Opd}{args:List Opd}{wr:Bool}{ck:Bool}{an:List Nat}{lo hi:Nat}{ds:List D}{K:Env→List St→Prop}{e:Env}{S:St}{H:List St}:
 dwp P base (⟨⟨dst,none,.call f args⟩,wr,none,ck,an,lo,hi⟩::ds) K e S H=qps (f.ev e) (evs e args) P base dst wr ds K e S H:=(rfl)
theorem qgZ{P:Program}{base:Nat}{dst:Option Nat}{k:K}{wr:Bool}{ck:Bool}{an:List Nat}{lo hi:Nat}{ds:List D}{K:Env→List St→Prop}{e:Env}{S:St}{H:List St}(h:∀f args,k≠.call f args):
  dwp P base (⟨⟨dst,none,k⟩,wr,none,ck,an,lo,hi⟩::ds) K e S H=qpp (evK e S k) P base dst wr ds K e H:=by
 cases k <;> first|rfl|exact absurd rfl (h _ _)
theorem qjB{P:Program}{ds:List D}{zs:List V}{Q:yG}{e:Env}{S:St}:WP P (.draw ds zs) Q e S=dwp P S.length ds (Qd S.length ds (Q .normal)) e (S++phs zs) [S++phs zs]:=(rfl)
theorem qis{P:Program}{ds:List D}{zs:List V}{o:O'}{Q:yG}{e:Env}{S:St}:WP P (.drawl ds zs o) Q e S=dwp P S.length ds (Qd S.length ds (QR P o Q .normal)) e (S++phs zs) [S++phs zs]:=(rfl)
theorem jc{P:Program}{o:O'}{Q:yG}{e:Env}{S:St}:QR P o Q .normal e S=yW P [o] (Q .normal) e S:=(rfl)
theorem zt{P:Program}{k:Nat}{args:List V}{S:St}{r:V}{Φ:V→St→Prop}(h:Fn P k args S r)(g:Φ r S):qh5 P k args S Φ:=Ym h g
theorem Qa{P:Program}{k:Nat}{args:List V}{S:St}{R:V→St→Prop}{Φ:V→St→Prop}(h:qB P k args S R)(hi:∃v U,R v U)(g:∀v U,R v U→Φ v U):qh5 P k args S Φ:=⟨R,h,hi,g⟩
def qjZ(ds:List D):Bool:=ds.all fun d=>!(d.chk && !d.w)
theorem jE{base:Nat}{ef:Env}{H:List St}:∀{ds:List D},qjZ ds=true→zA base ef H ds
 | [],_=>trivial
 | d::ds,h=>by
  simp only[qjZ,List.all_cons,qp1] at h;refine ⟨?_,jE h.2⟩;have h1:=h.1
  cases hb:(d.chk && !d.w) with
  | true=>rw[hb] at h1;cases h1
  | false=>rw[if_neg (by simp)];trivial
theorem yq{base:Nat}{ds:List D}{Q:Env→St→Prop}{ef:Env}{H:List St}{S:St}(h:qjZ ds=true)(hl:H.getLast?=some S)(hq:Q ef S):Qd base ds Q ef H:=by
 refine ⟨jE h,?_⟩;rw[hl];exact hq
attribute [simp] qjB qis jc qhL qgc qkJ qeB qib ql3 qe9 qhV qhX qgZ
inductive Ex where
 | mk (kind op n man exp:Int) (text:Bz) (args:List Ex)
structure El where
 kind:Int
 exps:List Ex
structure Fo where
 name:Bz
 value:Bool
 spec:Int
 type:Int
mutual
inductive De where
 | mk (kind:Int) (own:Bool) (type:Int) (names:List Bz) (exps:List Ex) (formals:List Fo) (body:List Sm)
inductive Sm where
 | mk (labels:List Bz) (kind:Int) (text:Bz) (targets exps:List Ex) (elems:List El) (decls:List De) (body:List Sm)
end
namespace Ex
def kind:Ex→Int|mk k _ _ _ _ _ _=>k
def op:Ex→Int|mk _ o _ _ _ _ _=>o
def n:Ex→Int|mk _ _ n _ _ _ _=>n
def man:Ex→Int|mk _ _ _ m _ _ _=>m
def exp:Ex→Int|mk _ _ _ _ e _ _=>e
def text:Ex→Bz|mk _ _ _ _ _ t _=>t
def args:Ex→List Ex|mk _ _ _ _ _ _ a=>a
end Ex
namespace De
def kind:De→Int|mk k _ _ _ _ _ _=>k
def own:De→Bool|mk _ o _ _ _ _ _=>o
def type:De→Int|mk _ _ t _ _ _ _=>t
def names:De→List Bz|mk _ _ _ n _ _ _=>n
def exps:De→List Ex|mk _ _ _ _ e _ _=>e
def formals:De→List Fo|mk _ _ _ _ _ f _=>f
def body:De→List Sm|mk _ _ _ _ _ _ b=>b
end De
namespace Sm
def labels:Sm→List Bz|mk l _ _ _ _ _ _ _=>l
def kind:Sm→Int|mk _ k _ _ _ _ _ _=>k
def text:Sm→Bz|mk _ _ t _ _ _ _ _=>t
def targets:Sm→List Ex|mk _ _ _ t _ _ _ _=>t
def exps:Sm→List Ex|mk _ _ _ _ e _ _ _=>e
def elems:Sm→List El|mk _ _ _ _ _ e _ _=>e
def decls:Sm→List De|mk _ _ _ _ _ _ d _=>d
def body:Sm→List Sm|mk _ _ _ _ _ _ _ b=>b
end Sm
mutual
def Ex.v:Ex→V
 | .mk k o n m e t a=>.agg [.int .i64 k,.int .i64 o,.int .i64 n,.int .i64 m,.int .i64 e,.str t,.sl false (Ex.vl a)]
def Ex.vl:List Ex→List V
 | []=>[]
 | x::l=>Ex.v x::Ex.vl l
end
theorem Ex.vl_map:∀l:List Ex,Ex.vl l=l.map Ex.v
 | []=>rfl
 | x::l=>by rw[Ex.vl,Ex.vl_map l];rfl
def El.v(e:El):V:=.agg [.int .i64 e.kind,.sl false (e.exps.map Ex.v)]
def Fo.v(f:Fo):V:=.agg [.str f.name,.bool f.value,.int .i64 f.spec,.int .i64 f.type]
mutual
def De.v:De→V
 | .mk k o t n e f b=>.agg [.int .i64 k,.bool o,.int .i64 t,.sl false (n.map .str),.sl false (e.map Ex.v),.sl false (f.map Fo.v),.sl false (Sm.vl b)]
def Sm.v:Sm→V
 | .mk l k t g e f d b=>.agg [.sl false (l.map .str),.int .i64 k,.str t,.sl false (g.map Ex.v),.sl false (e.map Ex.v),.sl false (f.map El.v),.sl false (De.vl d),.sl false (Sm.vl b)]
def De.vl:List De→List V
 | []=>[]
 | x::l=>De.v x::De.vl l
def Sm.vl:List Sm→List V
 | []=>[]
 | x::l=>Sm.v x::Sm.vl l
end
theorem De.vl_map:∀l:List De,De.vl l=l.map De.v
 | []=>rfl
 | x::l=>by rw[De.vl,De.vl_map l];rfl
theorem Sm.vl_map:∀l:List Sm,Sm.vl l=l.map Sm.v
 | []=>rfl
 | x::l=>by rw[Sm.vl,Sm.vl_map l];rfl
theorem Ex.v_eq(x:Ex):x.v=.agg [.int .i64 x.kind,.int .i64 x.op,.int .i64 x.n,.int .i64 x.man,.int .i64 x.exp,.str x.text,.sl false (x.args.map Ex.v)]:=by
 cases x;simp only[Ex.v,Ex.vl_map];rfl
theorem De.v_eq(d:De):d.v=.agg [.int .i64 d.kind,.bool d.own,.int .i64 d.type,.sl false (d.names.map .str),.sl false (d.exps.map Ex.v),.sl false (d.formals.map Fo.v),.sl false (d.body.map Sm.v)]:=by
 cases d;simp only[De.v,Sm.vl_map];rfl
theorem Sm.v_eq(s:Sm):s.v=.agg [.sl false (s.labels.map .str),.int .i64 s.kind,.str s.text,.sl false (s.targets.map Ex.v),.sl false (s.exps.map Ex.v),.sl false (s.elems.map El.v),.sl false (s.decls.map De.v),.sl false (s.body.map Sm.v)]:=by
 cases s;simp only[Sm.v,Sm.vl_map,De.vl_map];rfl
theorem Ex.v_size(x:Ex):x.v.size=7:=by rw[Ex.v_eq];rfl
theorem El.v_size(x:El):x.v.size=2:=rfl
theorem Fo.v_size(x:Fo):x.v.size=4:=rfl
theorem De.v_size(x:De):x.v.size=7:=by rw[De.v_eq];rfl
theorem Sm.v_size(x:Sm):x.v.size=8:=by rw[Sm.v_eq];rfl
theorem qbV{α:Type}{f:α→V}{sz:Nat}(hf:∀x,(f x).size=sz){l:List α}{i:Nat}(h:i<l.length)(b:Bool)(S:St):iaS S sz (.sl b (l.map f)) i=some (.iptr (f l[i]) 0):=by
 simp[iaS,h,hf]
theorem qht{l:List Ex}{i:Nat}(h:i<l.length)(b:Bool)(S:St):iaS S 7 (.sl b (l.map Ex.v)) i=some (.iptr (Ex.v l[i]) 0):=qbV Ex.v_size h b S
theorem qnk{l:List El}{i:Nat}(h:i<l.length)(b:Bool)(S:St):iaS S 2 (.sl b (l.map El.v)) i=some (.iptr (El.v l[i]) 0):=qbV El.v_size h b S
theorem qhs{l:List Fo}{i:Nat}(h:i<l.length)(b:Bool)(S:St):iaS S 4 (.sl b (l.map Fo.v)) i=some (.iptr (Fo.v l[i]) 0):=qbV Fo.v_size h b S
theorem qjS{l:List De}{i:Nat}(h:i<l.length)(b:Bool)(S:St):iaS S 7 (.sl b (l.map De.v)) i=some (.iptr (De.v l[i]) 0):=qbV De.v_size h b S
theorem qhg{l:List Sm}{i:Nat}(h:i<l.length)(b:Bool)(S:St):iaS S 8 (.sl b (l.map Sm.v)) i=some (.iptr (Sm.v l[i]) 0):=qbV Sm.v_size h b S
theorem qpO(x:Ex)(S:St):ldS S (.iptr x.v 0) (some 7)=some x.v:=by simp[ldS,V.part,Ex.v_size,V.isAgg,Ex.v_eq]
theorem qpF(x:El)(S:St):ldS S (.iptr x.v 0) (some 2)=some x.v:=rfl
theorem qpS(x:Fo)(S:St):ldS S (.iptr x.v 0) (some 4)=some x.v:=rfl
theorem qpG(x:De)(S:St):ldS S (.iptr x.v 0) (some 7)=some x.v:=by simp[ldS,V.part,De.v_size,V.isAgg,De.v_eq]
theorem qpI(x:Sm)(S:St):ldS S (.iptr x.v 0) (some 8)=some x.v:=by simp[ldS,V.part,Sm.v_size,V.isAgg,Sm.v_eq]
theorem qL{α:Type}{f:α→V}{l:List α}(h:∀x,x∈l→(f x).under 0=true):V.underL 0 (l.map f)=true:=JF fun v hv=>by
 obtain ⟨x,hx,rfl⟩:=qql.1 hv;exact h x hx
mutual
theorem Ex.v_under:∀x:Ex,x.v.under 0=true
 | .mk k o n m e t a=>by simp[Ex.v,V.under,V.underL,Ex.vl_under a]
theorem Ex.vl_under:∀l:List Ex,V.underL 0 (Ex.vl l)=true
 | []=>rfl
 | x::l=>by simp[Ex.vl,V.underL,Ex.v_under x,Ex.vl_under l]
end
theorem El.v_under(x:El):x.v.under 0=true:=by simp[El.v,V.under,V.underL,qL (f:=Ex.v) fun x _=>Ex.v_under x]
theorem Fo.v_under(x:Fo):x.v.under 0=true:=rfl
mutual
theorem De.v_under:∀x:De,x.v.under 0=true
 | .mk k o t n e f b=>by simp[De.v,V.under,V.underL,qL (f:=Ex.v) fun x _=>Ex.v_under x,qL (f:=Fo.v) fun x _=>Fo.v_under x,qL (f:=V.str) (l:=n) fun x _=>rfl,Sm.vl_under b]
theorem Sm.v_under:∀x:Sm,x.v.under 0=true
 | .mk l k t g e f d b=>by simp[Sm.v,V.under,V.underL,qL (f:=Ex.v) fun x _=>Ex.v_under x,qL (f:=El.v) fun x _=>El.v_under x,qL (f:=V.str) (l:=l) fun x _=>rfl,De.vl_under d,Sm.vl_under b]
theorem De.vl_under:∀l:List De,V.underL 0 (De.vl l)=true
 | []=>rfl
 | x::l=>by simp[De.vl,V.underL,De.v_under x,De.vl_under l]
theorem Sm.vl_under:∀l:List Sm,V.underL 0 (Sm.vl l)=true
 | []=>rfl
 | x::l=>by simp[Sm.vl,V.underL,Sm.v_under x,Sm.vl_under l]
end
theorem vl_under{α:Type}{f:α→V}(h:∀x,(f x).under 0=true)(b:Bool)(l:List α):(V.sl b (l.map f)).under 0=true:=by
 simp only[V.under];exact qL fun x _=>h x
theorem YH(b:Bool)(l:List Bz):(V.sl b (l.map .str)).under 0=true:=vl_under (fun _=>rfl) b l
attribute [simp] Ex.v_size El.v_size Fo.v_size De.v_size Sm.v_size Ex.v_under El.v_under Fo.v_under De.v_under Sm.v_under vl_under YH qpO qpF qpS qpG qpI
def B50:Nat:=1125899906842624
mutual
def Ex.ok:Ex→Prop
 | .mk _ _ _ _ _ t a=>t.size≤B50∧a.length≤B50∧Ex.okL a
def Ex.okL:List Ex→Prop
 | []=>True
 | x::l=>Ex.ok x∧Ex.okL l
end
theorem Ex.okL_mem:∀{l:List Ex},Ex.okL l→∀x,x∈l→x.ok
 | [],_,x,h=>by cases h
 | y::l,⟨h1,h2⟩,x,h=>by
  rcases qqk.1 h with rfl| h
  ·exact h1
  ·exact Ex.okL_mem h2 x h
theorem Ex.ok_args{x:Ex}(h:x.ok):x.args.length≤B50∧Ex.okL x.args:=by cases x;exact ⟨h.2.1,h.2.2⟩
theorem Ex.ok_text{x:Ex}(h:x.ok):x.text.size≤B50:=by cases x;exact h.1
def El.ok(e:El):Prop:=e.exps.length≤B50∧Ex.okL e.exps
def okS(l:List Bz):Prop:=l.length≤B50∧∀s,s∈l→s.size≤B50
def Fo.ok(f:Fo):Prop:=f.name.size≤B50
mutual
def De.ok:De→Prop
 | .mk _ _ _ n e f b=>okS n∧(e.length≤B50∧Ex.okL e)∧(f.length≤B50∧∀x,x∈f→Fo.ok x)∧b.length≤B50∧Sm.okL b
def Sm.ok:Sm→Prop
 | .mk l _ t g e f d b=>okS l∧t.size≤B50∧(g.length≤B50∧Ex.okL g)∧(e.length≤B50∧Ex.okL e)∧(f.length≤B50∧∀x,x∈f→El.ok x)∧(d.length≤B50∧De.okL d)∧b.length≤B50∧Sm.okL b
def De.okL:List De→Prop
 | []=>True
 | x::l=>De.ok x∧De.okL l
def Sm.okL:List Sm→Prop
 | []=>True
 | x::l=>Sm.ok x∧Sm.okL l
end
theorem De.okL_mem:∀{l:List De},De.okL l→∀x,x∈l→x.ok
 | [],_,x,h=>by cases h
 | y::l,h,x,hx=>by
  simp only[De.okL] at h;rcases qqk.1 hx with rfl|hx
  ·exact h.1
  ·exact De.okL_mem h.2 x hx
theorem Sm.okL_mem:∀{l:List Sm},Sm.okL l→∀x,x∈l→x.ok
 | [],_,x,h=>by cases h
 | y::l,h,x,hx=>by
  simp only[Sm.okL] at h;rcases qqk.1 hx with rfl|hx
  ·exact h.1
  ·exact Sm.okL_mem h.2 x hx
structure De.Ok(d:De):Prop where
 names:okS d.names
 exps:d.exps.length≤B50∧Ex.okL d.exps
 formals:d.formals.length≤B50∧∀x,x∈d.formals→Fo.ok x
 body:d.body.length≤B50∧Sm.okL d.body
theorem De.ok_iff(d:De):d.ok↔d.Ok:=by
 cases d;simp only[De.ok];exact ⟨fun ⟨a,b,c,e,f⟩=>⟨a,b,c,e,f⟩,fun ⟨a,b,c,e⟩=>⟨a,b,c,e.1,e.2⟩⟩
structure Sm.Ok(s:Sm):Prop where
 labels:okS s.labels
 text:s.text.size≤B50
 targets:s.targets.length≤B50∧Ex.okL s.targets
 exps:s.exps.length≤B50∧Ex.okL s.exps
 elems:s.elems.length≤B50∧∀x,x∈s.elems→El.ok x
 decls:s.decls.length≤B50∧De.okL s.decls
 body:s.body.length≤B50∧Sm.okL s.body
theorem Sm.ok_iff(s:Sm):s.ok↔s.Ok:=by
 cases s;simp only[Sm.ok];exact ⟨fun ⟨a,b,c,e,f,g,h,i⟩=>⟨a,b,c,e,f,g,h,i⟩,fun ⟨a,b,c,e,f,g,h⟩=>⟨a,b,c,e,f,g,h.1,h.2⟩⟩
mutual
def Ex.left:Ex→Int→Int→Int
 | .mk _ _ _ _ _ _ a,deep,n=>if deep+1 > 40 then 0 else Ex.leftG a (deep+1) (n - 1)
def Ex.leftG:List Ex→Int→Int→Int
 | [],_,n=>n
 | x::l,deep,n=>if n > 0 then Ex.leftG l deep (Ex.left x deep n) else n
end
def Ex.leftL(l:List Ex)(deep n:Int):Int:=if deep > 40 then 0 else Ex.leftG l deep n
theorem Ex.left_eq(x:Ex)(deep n:Int):x.left deep n=Ex.leftL x.args (deep+1) (n - 1):=by cases x;rw[Ex.left];rfl
mutual
theorem Ex.left_le:∀(x:Ex) (deep n:Int),0<n→x.left deep n≤n - 1∧0≤x.left deep n
 | .mk _ _ _ _ _ _ a,deep,n,h=>by
  rw[Ex.left];split
  ·omega
  ·exact Ex.leftG_le a _ _ (by omega)
theorem Ex.leftG_le:∀(l:List Ex) (deep n:Int),0≤n→Ex.leftG l deep n≤n∧0≤Ex.leftG l deep n
 | [],_,n,h=>⟨Int.le_refl _,h⟩
 | x::l,deep,n,h=>by
  rw[Ex.leftG];split
  ·rename_i h0;have h1:=Ex.left_le x deep n h0;have h2:=Ex.leftG_le l deep (x.left deep n) h1.2;omega
  ·omega
end
theorem Ex.leftG_neg:∀(l:List Ex) (deep n:Int),n≤0→Ex.leftG l deep n=n
 | [],_,n,_=>rfl
 | x::l,deep,n,h=>by rw[Ex.leftG,if_neg (by omega)]
theorem Ex.leftL_le(l:List Ex)(deep n:Int)(h:0≤n):Ex.leftL l deep n≤n∧0≤Ex.leftL l deep n:=by
 unfold Ex.leftL;split
 ·omega
 ·exact Ex.leftG_le l deep n h
mutual
def De.left:De→Int→Int→Int
 | .mk _ _ _ nm e f b,deep,n=>Sm.leftG b (deep+1) (Ex.leftL e (deep+1) (n - 1 - nm.length - f.length))
def Sm.left:Sm→Int→Int→Int
 | .mk l _ _ g e f d b,deep,n=>if deep > 30 then 0 else
  Sm.leftG b (deep+1) (De.leftG d deep (El.leftG f deep (Ex.leftL g (deep+1) (Ex.leftL e (deep+1) (n - 1 - l.length)))))
def De.leftG:List De→Int→Int→Int
 | [],_,n=>n
 | x::l,deep,n=>if n > 0 then De.leftG l deep (De.left x deep n) else n
def Sm.leftG:List Sm→Int→Int→Int
 | [],_,n=>n
 | x::l,deep,n=>if n > 0 then Sm.leftG l deep (Sm.left x deep n) else n
def El.leftG:List El→Int→Int→Int
 | [],_,n=>n
 | x::l,deep,n=>if n > 0 then El.leftG l deep (Ex.leftL x.exps (deep+1) (n - 1)) else n
end
mutual
def V.weak:V→V
 | .sl _ xs=>.sl false (V.weakL xs)
 | .agg cs=>.agg (V.weakL cs)
 | .tup cs=>.tup (V.weakL cs)
 | v=>v
def V.weakL:List V→List V
 | []=>[]
 | v::vs=>V.weak v::V.weakL vs
end
theorem qM:∀vs:List V,V.weakL vs=vs.map V.weak
 | []=>rfl
 | v::vs=>by simp only[V.weakL,qqd,qM vs]
theorem jY(v:V):v.weak.cells=v.cells.map V.weak:=by
 cases v <;> simp[V.weak,V.cells,qM]
theorem VR.weak{E:En}{v:V}{u:Value}(r:VR E v u):VR E v.weak u:=by
 induction r with
 | slnil x=>exact .slnil _
 | slz x a=>exact .slz _ a
 | @sl x xs b o cap sz hc hx hs hI hv ih=>
  simp only[V.weak,qM];have hl:(xs.map V.weak).length=xs.length:=by simp
  rw[←hl];refine .sl (sz:=sz) (by simpa using hc) (by simp) (fun v hv=>?_) (fun i j hi hj=>hI i j (by simpa using hi) hj) (fun i v j c' c h1 h2 h3=>?_)
  ·obtain ⟨y,hy,rfl⟩:=qql.1 hv;rw[jY,qp2];exact hs y hy
  ·rw[qqh] at h1;obtain ⟨y,hy,rfl⟩:=qp3.1 h1;rw[jY,qqh] at h2;obtain ⟨d,hd,rfl⟩:=qp3.1 h2;exact ih i y j d c hy hd h3
 | agg hl _ ih=>
  simp only[V.weak,qM];refine .agg (by simpa using hl) fun i v u h1 h2=>?_
  rw[qqh] at h1;obtain ⟨y,hy,rfl⟩:=qp3.1 h1;exact ih i y u hy h2
 | tup hl _ ih=>
  simp only[V.weak,qM];refine .tup (by simpa using hl) fun i v u h1 h2=>?_
  rw[qqh] at h1;obtain ⟨y,hy,rfl⟩:=qp3.1 h1;exact ih i y u hy h2
 | top u=>exact .top u
 | bool b=>exact .bool b
 | int k n=>exact .int k n
 | str s=>exact .str s
 | nilp=>exact .nilp
 | ptr i off hr=>exact .ptr i off hr
 | glob g off=>exact .glob g off
 | iptr off hI hv _=>exact .iptr off hI hv
 | arr hr hN hc=>exact .arr hr hN hc
 | nilmap=>exact .nilmap
 | map hr=>exact .map hr
 | fn h1 h2 g1 g2 _ _=>exact .fn h1 h2 g1 g2
 | nilfn=>exact .nilfn
 | iface t h _=>exact .iface t h
 | niliface=>exact .niliface
 | yld hr=>exact .yld hr
theorem VRs.weak{E:En}{vs:List V}{us:Array Value}(h:VRs E vs us):VRs E (V.weakL vs) us:=by
 rw[qM];refine ⟨by simpa using h.1,fun i v u h1 h2=>?_⟩;rw[qqh] at h1;obtain ⟨y,hy,rfl⟩:=qp3.1 h1;exact (h.2 i y u hy h2).weak
theorem qB.weakA{P:Program}{f:FuncId}{args:List V}{S:St}{R:V→St→Prop}(h:qB P f (V.weakL args) S R):qB P f args S R:=
 ⟨h.1,fun E w us n hs hv=>h.2 E w us n hs hv.weak⟩
theorem zg.weak{n:Nat}{r:V}{S:St}:zg n r S r.weak S:=fun E w u hs hr hn=>⟨E,hr.weak,hs,Ext.refl _ _ _ _,hn⟩
inductive Pa where
 | st (s:Sm)
 | de (d:De)
 | el (e:El)
 | ex (x:Ex)
namespace Pa
def kids:Pa→List Pa
 | .st s=>s.targets.map .ex++(s.exps.map .ex++(s.elems.map .el++(s.decls.map .de++s.body.map .st)))
 | .de d=>d.exps.map .ex++d.body.map .st
 | .el e=>e.exps.map .ex
 | .ex x=>x.args.map .ex
def own:Pa→Nat
 | .st s=>1+s.labels.length
 | .de d=>1+d.names.length+d.formals.length
 | _=>1
def wt:Pa→Nat
 | .st s=>SizeOf.sizeOf s
 | .de d=>SizeOf.sizeOf d
 | .el e=>SizeOf.sizeOf e
 | .ex x=>SizeOf.sizeOf x
def ok:Pa→Prop
 | .st s=>s.ok
 | .de d=>d.ok
 | .el e=>e.ok
 | .ex x=>x.ok
end Pa
theorem Pa.kid_lt{p q:Pa}(h:q∈p.kids):q.wt<p.wt:=by
 cases p with
 | st s=>
  cases s;simp only[Pa.kids,qqc,qql,Sm.targets,Sm.exps,Sm.elems,Sm.decls,Sm.body] at h;rcases h with ⟨x,hx,rfl⟩|⟨x,hx,rfl⟩|⟨x,hx,rfl⟩|⟨x,hx,rfl⟩|⟨x,hx,rfl⟩
  all_goals
   have:=qq6 hx
   simp only[Pa.wt,Sm.mk.sizeOf_spec];omega
 | de d=>
  cases d;simp only[Pa.kids,qqc,qql,De.exps,De.body] at h;rcases h with ⟨x,hx,rfl⟩|⟨x,hx,rfl⟩
  all_goals
   have:=qq6 hx
   simp only[Pa.wt,De.mk.sizeOf_spec];omega
 | el e=>
  cases e;simp only[Pa.kids,qql] at h;obtain ⟨x,hx,rfl⟩:=h;have:=qq6 hx;simp only[Pa.wt,El.mk.sizeOf_spec];omega
 | ex x=>
  cases x;simp only[Pa.kids,qql,Ex.args] at h;obtain ⟨x,hx,rfl⟩:=h;have:=qq6 hx;simp only[Pa.wt,Ex.mk.sizeOf_spec];omega
theorem Pa.kid_ok{p q:Pa}(hp:p.ok)(h:q∈p.kids):q.ok:=by
 cases p with
 | st s=>
  have hs:=(Sm.ok_iff s).1 hp;simp only[Pa.kids,qqc,qql] at h;rcases h with ⟨x,hx,rfl⟩|⟨x,hx,rfl⟩|⟨x,hx,rfl⟩|⟨x,hx,rfl⟩|⟨x,hx,rfl⟩
  ·exact Ex.okL_mem hs.targets.2 x hx
  ·exact Ex.okL_mem hs.exps.2 x hx
  ·exact hs.elems.2 x hx
  ·exact De.okL_mem hs.decls.2 x hx
  ·exact Sm.okL_mem hs.body.2 x hx
 | de d=>
  have hs:=(De.ok_iff d).1 hp;simp only[Pa.kids,qqc,qql] at h;rcases h with ⟨x,hx,rfl⟩|⟨x,hx,rfl⟩
  ·exact Ex.okL_mem hs.exps.2 x hx
  ·exact Sm.okL_mem hs.body.2 x hx
 | el e=>
  simp only[Pa.kids,qql] at h;obtain ⟨x,hx,rfl⟩:=h;exact Ex.okL_mem hp.2 x hx
 | ex x=>
  simp only[Pa.kids,qql] at h;obtain ⟨y,hy,rfl⟩:=h;exact Ex.okL_mem (Ex.ok_args hp).2 y hy
def Sm.cs(s:Sm):List V:=[.sl false (s.labels.map .str),.int .i64 s.kind,.str s.text,.sl false (s.targets.map Ex.v),.sl false (s.exps.map Ex.v),.sl false (s.elems.map El.v),.sl false (s.decls.map De.v),.sl false (s.body.map Sm.v)]
def De.cs(d:De):List V:=[.int .i64 d.kind,.bool d.own,.int .i64 d.type,.sl false (d.names.map .str),.sl false (d.exps.map Ex.v),.sl false (d.formals.map Fo.v),.sl false (d.body.map Sm.v)]
def El.cs(e:El):List V:=[.int .i64 e.kind,.sl false (e.exps.map Ex.v)]
def Ex.cs(x:Ex):List V:=[.int .i64 x.kind,.int .i64 x.op,.int .i64 x.n,.int .i64 x.man,.int .i64 x.exp,.str x.text,.sl false (x.args.map Ex.v)]
def Sm.z:Sm:=.mk [] 0 ⟨⟨[]⟩⟩ [] [] [] [] []
def De.z:De:=.mk 0 false 0 [] [] [] []
def El.z:El:=⟨0,[]⟩
def Ex.z:Ex:=.mk 0 0 0 0 0 ⟨⟨[]⟩⟩ []
def paV(k:Int)(s:Sm)(d:De)(e:El)(x:Ex):V:=.agg (.int .i64 k::(s.cs++(d.cs++(e.cs++x.cs))))
namespace Pa
def kind:Pa→Int
 | .st _=>1|.de _=>2|.el _=>3|.ex _=>4
def toS:Pa→Sm|.st s=>s|_=>Sm.z
def toD:Pa→De|.de s=>s|_=>De.z
def toE:Pa→El|.el s=>s|_=>El.z
def toX:Pa→Ex|.ex s=>s|_=>Ex.z
def v(p:Pa):V:=paV p.kind p.toS p.toD p.toE p.toX
end Pa
theorem qbi(k:Int)(s:Sm)(d:De)(e:El)(x:Ex):(paV k s d e x).under 0=true:=by
 simp only[paV,Sm.cs,De.cs,El.cs,Ex.cs,V.under,V.underL,qp7,qqn,qp1,Bool.and_true,qrM];simp only[qL fun x _=>Ex.v_under x,qL fun x _=>El.v_under x,qL fun x _=>De.v_under x,qL fun x _=>Sm.v_under x,qL fun x _=>Fo.v_under x,qL (f:=V.str) fun x _=>rfl,and_self]
theorem Pa.v_under(p:Pa):p.v.under 0=true:=qbi _ _ _ _ _
theorem Pa.v_size(p:Pa):p.v.size=25:=rfl
namespace Pa
def size(p:Pa):Nat:=p.own+((p.kids.attach.map fun q=>q.1.size)).sum
termination_by p.wt
decreasing_by exact Pa.kid_lt q.2
def depth(p:Pa):Nat:=1+((p.kids.attach.map fun q=>q.1.depth)).foldr max 0
termination_by p.wt
decreasing_by exact Pa.kid_lt q.2
end Pa
def qF(l:List Pa):Nat:=(l.map Pa.size).sum
def zG(l:List Pa):Nat:=(l.map Pa.depth).foldr max 0
theorem Pa.size_eq(p:Pa):p.size=p.own+qF p.kids:=by
 rw[Pa.size,qF];congr 2;exact List.attach_map_val (f:=Pa.size) ..
theorem Pa.depth_eq(p:Pa):p.depth=1+zG p.kids:=by
 rw[Pa.depth,zG];congr 2;exact List.attach_map_val (f:=Pa.depth) ..
@[simp] theorem sizes_nil:qF []=0:=rfl
@[simp] theorem sizes_cons(p:Pa)(l:List Pa):qF (p::l)=p.size+qF l:=by simp[qF]
@[simp] theorem depths_nil:zG []=0:=rfl
@[simp] theorem depths_cons(p:Pa)(l:List Pa):zG (p::l)=max p.depth (zG l):=by simp[zG]
theorem Pa.own_pos(p:Pa):1≤p.own:=by cases p <;> simp[Pa.own] <;> omega
theorem Pa.size_pos(p:Pa):1≤p.size:=by rw[Pa.size_eq];have:=p.own_pos;omega
theorem Pa.depth_pos(p:Pa):1≤p.depth:=by rw[Pa.depth_eq];omega
theorem qT:∀l:List Pa,l.length≤qF l
 | []=>qqB _
 | p::l=>by have:=qT l;have:=p.size_pos;simp only[qqs,sizes_cons];omega
def Ex.named(k:Int):Bool:=k==6 || k==7 || k==8
def Pa.fits(p:Pa):Prop:=p.size≤2000∧p.depth≤60
instance (p:Pa):Decidable p.fits:=inferInstanceAs (Decidable (_∧_))
theorem Pa.own_le{p:Pa}(h:p.ok):p.own≤1+B50+B50:=by
 cases p with
 | st s=>have:=((Sm.ok_iff s).1 h).labels.1;simp only[Pa.own];omega
 | de d=>have:=((De.ok_iff d).1 h).names.1;have:=((De.ok_iff d).1 h).formals.1;simp only[Pa.own];omega
 | el e=>simp only[Pa.own];omega
 | ex e=>simp only[Pa.own];omega
def mag(m:Int):Int:=if m<0 then IntKind.i64.wrap (-m) else m
def qex(man exp:Int):Bool:=decide (man=0∧exp=0) || (decide (1≤mag man∧mag man<16777216) && (decide (exp=-150) || (decide (8388608≤mag man) && decide (-150<exp∧exp≤150))))
def Zc(b:UInt8):Bool:=decide (32≤b.toNat∧b.toNat≤126∧b.toNat≠34)
def Qy(s:Bz):Bool:=s.data.toList.all Zc && decide (s.size≤80)
def zr(t:Bz):Bool:=decide (t.size=0)
def Ex.vOwn(nm:Bz→Bool):Ex→Bool
 | .mk k o n m e t a=>
  if k=1 then decide (0≤n∧n≤2147483647) && decide (a.length=0) && decide (o=0) && (decide (m=0) && decide (e=0)) && zr t
  else if k=2 then qex m e && decide (0≤m) && decide (a.length=0) && decide (o=0) && decide (n=0) && zr t
  else if k=3∨k=4 then decide (a.length=0) && decide (o=0) && decide (n=0) && (decide (m=0) && decide (e=0)) && zr t
  else if k=5 then Qy t && decide (a.length=0) && decide (o=0) && decide (n=0) && (decide (m=0) && decide (e=0))
  else if k=6 then nm t && decide (a.length=0) && decide (o=0) && decide (n=0) && (decide (m=0) && decide (e=0))
  else if k=7 then nm t && decide (1≤a.length∧a.length≤4) && decide (o=0) && decide (n=0) && (decide (m=0) && decide (e=0))
  else if k=8 then nm t && decide (1≤a.length∧a.length≤8) && decide (o=0) && decide (n=0) && (decide (m=0) && decide (e=0))
  else if k=9 then decide (o=1∨o=2) && decide (a.length=1) && decide (n=0) && (decide (m=0) && decide (e=0)) && zr t
  else if k=10 then decide (3≤o∧o≤18) && decide (a.length=2) && decide (n=0) && (decide (m=0) && decide (e=0)) && zr t
  else if k=11 then decide (a.length=3) && decide (o=0) && decide (n=0) && (decide (m=0) && decide (e=0)) && zr t
  else false
def El.vOwn(e:El):Bool:=(decide (e.kind=1) && decide (e.exps.length=1)) || (decide (e.kind=2) && decide (e.exps.length=3)) || (decide (e.kind=3) && decide (e.exps.length=2))
def Fo.vOwn(nm:Bz→Bool)(f:Fo):Bool:=nm f.name &&
 (if f.spec=0∨f.spec=3∨f.spec=4∨f.spec=5 then decide (f.type=0) && !f.value
  else if f.spec=1 then decide (1≤f.type∧f.type≤3)
  else if f.spec=2 then decide (0≤f.type∧f.type≤3) && (!f.value || decide (f.type≠0))
  else if f.spec=6 then decide (0≤f.type∧f.type≤3) && !f.value
  else false)
def zV(nm:Bz→Bool):List Fo→List Bz→Bool
 | [],_=>true
 | f::l,had=>f.vOwn nm && !(had.any fun x=>decide (x=f.name)) && zV nm l (had++[f.name])
def De.vOwn(nm:Bz→Bool):De→Bool
 | .mk k o t n e f b=>n.all nm &&
  (if k=1 then decide (1≤n.length) && decide (e.length=0) && decide (f.length=0) && decide (b.length=0) && decide (1≤t∧t≤3)
   else if k=2 then decide (1≤n.length) && decide (2≤e.length∧e.length≤8) && decide (e.length % 2=0) && decide (f.length=0) && decide (b.length=0) && decide (1≤t∧t≤3)
   else if k=3 then decide (n.length=1) && decide (1≤e.length) && decide (f.length=0) && decide (b.length=0) && !o && decide (t=0)
   else if k=4 then decide (n.length=1) && decide (e.length=0) && decide (b.length=1) && decide (f.length≤8) && !o && decide (0≤t∧t≤3) && zV nm f []
   else false)
def Ex.tgt(x:Ex):Bool:=decide (x.kind=6∨x.kind=7)
def Sm.noIf:List Sm→Bool
 | []=>false
 | s::_=>decide (s.kind≠4∧s.kind≠5)
def Sm.vOwn(nm:Bz→Bool):Sm→Bool
 | .mk l k t g e h d b=>l.all nm && g.all Ex.tgt &&
  (if k=1 then decide (g.length=0) && decide (e.length=0) && decide (h.length=0) && decide (d.length=0) && decide (b.length=0) && zr t
   else if k=2 then decide (1≤g.length) && decide (e.length=1) && decide (h.length=0) && decide (d.length=0) && decide (b.length=0) && zr t
   else if k=3 then decide (g.length=0) && decide (e.length=1) && decide (h.length=0) && decide (d.length=0) && decide (b.length=0) && zr t
   else if k=4 then decide (g.length=0) && decide (e.length=1) && decide (h.length=0) && decide (d.length=0) && decide (1≤b.length∧b.length≤2) && zr t && Sm.noIf b
   else if k=5 then decide (g.length=1) && decide (e.length=0) && decide (1≤h.length) && decide (d.length=0) && decide (b.length=1) && zr t
   else if k=6 then decide (g.length=0) && decide (e.length≤8) && decide (h.length=0) && decide (d.length=0) && decide (b.length=0) && nm t
   else if k=7 then decide (g.length=0) && decide (e.length=0) && decide (h.length=0) && decide (1≤d.length) && decide (1≤b.length) && zr t
   else if k=8 then decide (g.length=0) && decide (e.length=0) && decide (h.length=0) && decide (d.length=0) && decide (1≤b.length) && zr t
   else false)
def Pa.vOwn(nm:Bz→Bool):Pa→Bool
 | .st s=>s.vOwn nm
 | .de d=>d.vOwn nm
 | .el e=>e.vOwn
 | .ex x=>x.vOwn nm
def Pa.valid(nm:Bz→Bool)(p:Pa):Bool:=p.vOwn nm && (p.kids.attach.all fun q=>q.1.valid nm)
termination_by p.wt
decreasing_by exact Pa.kid_lt q.2
theorem Pa.valid_eq(nm:Bz→Bool)(p:Pa):p.valid nm=(p.vOwn nm && p.kids.all (Pa.valid nm)):=by
 rw[Pa.valid];congr 1;rw[qqy,qqi,qqi];exact ⟨fun h q hq=>h ⟨q,hq⟩ (List.mem_attach _ _),fun h q _=>h q.1 q.2⟩
theorem Pa.valid_iff{nm:Bz→Bool}{p:Pa}:p.valid nm=true↔p.vOwn nm=true∧∀q,q∈p.kids→q.valid nm=true:=by
 rw[Pa.valid_eq,qp1,qqi]
def Pa.err(nm:Bz→Bool)(p:Pa):Int:=if p.fits then (if p.valid nm=true then 0 else 1) else 2
theorem Ex.valid_args{nm:Bz→Bool}{x:Ex}(h:(Pa.ex x).valid nm=true):∀y,y∈x.args→(Pa.ex y).valid nm=true:=fun y hy=>(Pa.valid_iff.1 h).2 _ (by simp only[Pa.kids,qql];exact ⟨y,hy,rfl⟩)
theorem Ex.valid_text{nm:Bz→Bool}{x:Ex}(h:(Pa.ex x).valid nm=true)(hk:Ex.named x.kind=true):nm x.text=true:=by
 have h1:=(Pa.valid_iff.1 h).1
 cases x with
 | mk k o n m e t a=>
  simp only[Ex.kind,Ex.text] at *;simp only[Pa.vOwn,Ex.vOwn] at h1;have hk:k=6∨k=7∨k=8:=by simpa[Ex.named,or_assoc] using hk
  rcases hk with rfl|rfl|rfl <;> simp at h1 <;> simp[h1]
abbrev Sco:=List (Bz×Nat)
abbrev Scs:=List Sco
def Sco.at(s:Sco)(x:Bz):Option Nat:=(s.find? fun p=>decide (p.1=x)).map (·.2)
def Scs.at:Scs→Bz→Option Nat
 | [],_=>none
 | s::r,x=>match Sco.at s x with
  | some k=>some k
  | none=>Scs.at r x
def binds:List Bz→Sco→Nat→Sco
 | [],s,_=>s
 | x::l,s,n=>if (s.at x).isSome then binds l s n else binds l (s++[(x,n)]) (n+1)
def qd(l:List Bz)(n:Nat):Sco:=binds l [] n
def qk(l:List Sm):List Bz:=l.flatMap Sm.labels
def qg(d:List De)(b:List Sm):List Bz:=d.flatMap De.names++qk b
def jo(f:Nat→Bz)(sc:Scs)(x:Bz):Bz:=match sc.at x with
 | some k=>f k
 | none=>x
mutual
def Ex.w(f:Nat→Bz)(sc:Scs):Ex→Ex
 | .mk k o n m e t a=>.mk k o n m e (if Ex.named k then jo f sc t else t) (Ex.wl f sc a)
def Ex.wl(f:Nat→Bz)(sc:Scs):List Ex→List Ex
 | []=>[]
 | x::l=>Ex.w f sc x::Ex.wl f sc l
end
theorem Ex.wl_map(f:Nat→Bz)(sc:Scs):∀l,Ex.wl f sc l=l.map (Ex.w f sc)
 | []=>rfl
 | x::l=>by rw[Ex.wl,Ex.wl_map f sc l];rfl
def El.w(f:Nat→Bz)(sc:Scs)(e:El):El:=⟨e.kind,e.exps.map (Ex.w f sc)⟩
def Fo.w(f:Nat→Bz)(sc:Scs)(x:Fo):Fo:=⟨jo f sc x.name,x.value,x.spec,x.type⟩
mutual
def Sm.nb:Sm→Nat
 | .mk _ k _ _ _ _ d b=>if k=7 then (qd (qg d b) 0).length+De.nbl d+Sm.nbl b else if k=8 then (qd (qk b) 0).length+Sm.nbl b else Sm.nb1 b
def De.nb:De→Nat
 | .mk k _ _ _ _ f b=>if k=4 then (qd (f.map Fo.name) 0).length+Sm.nb1 b else 0
def De.nbl:List De→Nat
 | []=>0
 | x::l=>De.nb x+De.nbl l
def Sm.nbl:List Sm→Nat
 | []=>0
 | x::l=>Sm.nb x+Sm.nbl l
def Sm.nb1:List Sm→Nat
 | []=>0
 | x::l=>(qd x.labels 0).length+Sm.nb x+Sm.nb1 l
end
mutual
def Sm.w(f:Nat→Bz)(sc:Scs)(n:Nat):Sm→Sm
 | .mk l k t g e h d b=>
  if k=7 then
   .mk (l.map (jo f sc)) k t [] [] [] (De.wl f (qd (qg d b) n::sc) sc (n+(qd (qg d b) n).length) d) (Sm.wl f (qd (qg d b) n::sc) (n+(qd (qg d b) n).length+De.nbl d) b)
  else if k=8 then
   .mk (l.map (jo f sc)) k t [] [] [] [] (Sm.wl f (qd (qk b) n::sc) (n+(qd (qk b) n).length) b)
  else .mk (l.map (jo f sc)) k (if k=6 then jo f sc t else t) (Ex.wl f sc g) (Ex.wl f sc e) (h.map (El.w f sc)) [] (Sm.w1 f sc n b)
def De.w(f:Nat→Bz)(own sc:Scs)(n:Nat):De→De
 | .mk k o t nm e fo b=>
  if k=4 then .mk k o t (nm.map (jo f own)) [] (fo.map (Fo.w f (qd (fo.map Fo.name) n::own))) (Sm.w1 f (qd (fo.map Fo.name) n::own) (n+(qd (fo.map Fo.name) n).length) b)
  else .mk k o t (nm.map (jo f own)) (Ex.wl f (if k=2 then sc else own) e) [] []
def De.wl(f:Nat→Bz)(own sc:Scs)(n:Nat):List De→List De
 | []=>[]
 | x::l=>De.w f own sc n x::De.wl f own sc (n+De.nb x) l
def Sm.wl(f:Nat→Bz)(sc:Scs)(n:Nat):List Sm→List Sm
 | []=>[]
 | x::l=>Sm.w f sc n x::Sm.wl f sc (n+Sm.nb x) l
def Sm.w1(f:Nat→Bz)(sc:Scs)(n:Nat):List Sm→List Sm
 | []=>[]
 | x::l=>Sm.w f (qd x.labels n::sc) (n+(qd x.labels n).length) x::Sm.w1 f sc (n+(qd x.labels n).length+Sm.nb x) l
end
def Sm.whole(f:Nat→Bz)(s:Sm):Sm:=s.w f [qd s.labels 0] (qd s.labels 0).length
theorem zj:∀(l m:List Pa),qF (l++m)=qF l+qF m
 | [],m=>by simp
 | p::l,m=>by simp only[qp7,sizes_cons,zj l m];omega
theorem yr:∀(l m:List Pa),zG (l++m)=max (zG l) (zG m)
 | [],m=>by simp
 | p::l,m=>by simp only[qp7,depths_cons,yr l m];omega
def Pa.le(p q:Pa):Prop:=p.size≤q.size∧p.depth≤q.depth
theorem Pa.le_of{p q:Pa}(ho:p.own≤q.own)(hs:qF p.kids≤qF q.kids)(hd:zG p.kids≤zG q.kids):p.le q:=by
 unfold Pa.le;rw[Pa.size_eq,Pa.size_eq q,Pa.depth_eq,Pa.depth_eq q];omega
def qcH(l m:List Pa):Prop:=qF l≤qF m∧zG l≤zG m
theorem zJ(m:List Pa):qcH [] m:=⟨qqB _,qqB _⟩
theorem zQ{a b c d:List Pa}(h:qcH a b)(g:qcH c d):qcH (a++c) (b++d):=by
 unfold qcH at *;rw[zj,zj,yr,yr];omega
theorem Q7{p q:Pa}{l m:List Pa}(h:p.le q)(g:qcH l m):qcH (p::l) (q::m):=by
 unfold qcH Pa.le at *;rw[sizes_cons,sizes_cons,depths_cons,depths_cons];omega
theorem Pa.le_of'{p q:Pa}(ho:p.own≤q.own)(h:qcH p.kids q.kids):p.le q:=Pa.le_of ho h.1 h.2
mutual
theorem Ex.w_le(f:Nat→Bz)(sc:Scs):∀x:Ex,(Pa.ex (x.w f sc)).le (.ex x)
 | .mk k o n m e t a=>Pa.le_of' (qp0 _) (by simp only[Ex.w,Pa.kids,Ex.args];exact Ex.wl_le f sc a)
theorem Ex.wl_le(f:Nat→Bz)(sc:Scs):∀l:List Ex,qcH ((Ex.wl f sc l).map Pa.ex) (l.map Pa.ex)
 | []=>zJ _
 | x::l=>Q7 (Ex.w_le f sc x) (Ex.wl_le f sc l)
end
theorem El.w_le(f:Nat→Bz)(sc:Scs)(e:El):(Pa.el (e.w f sc)).le (.el e):=Pa.le_of' (qp0 _) (by
 have:=Ex.wl_le f sc e.exps;rw[Ex.wl_map] at this;exact this)
theorem Els.w_le(f:Nat→Bz)(sc:Scs):∀l:List El,qcH ((l.map (El.w f sc)).map Pa.el) (l.map Pa.el)
 | []=>zJ _
 | x::l=>Q7 (El.w_le f sc x) (Els.w_le f sc l)
mutual
theorem Sm.w_le(f:Nat→Bz):∀(s:Sm) (sc:Scs) (n:Nat),(Pa.st (s.w f sc n)).le (.st s)
 | .mk l k t g e h d b,sc,n=>by
  simp only[Sm.w];split
  ·refine Pa.le_of' (by simp[Pa.own,Sm.labels]) ?_;simp only[Pa.kids,Sm.targets,Sm.exps,Sm.elems,Sm.decls,Sm.body,qq4];exact zQ (zJ _) (zQ (zJ _) (zQ (zJ _) (zQ (De.wl_le f d _ _ _) (Sm.wl_le f b _ _))))
  ·split
   ·refine Pa.le_of' (by simp[Pa.own,Sm.labels]) ?_;simp only[Pa.kids,Sm.targets,Sm.exps,Sm.elems,Sm.decls,Sm.body,qq4];exact zQ (zJ _) (zQ (zJ _) (zQ (zJ _) (zQ (zJ _) (Sm.wl_le f b _ _))))
   ·refine Pa.le_of' (by simp[Pa.own,Sm.labels]) ?_;simp only[Pa.kids,Sm.targets,Sm.exps,Sm.elems,Sm.decls,Sm.body,qq4];exact zQ (Ex.wl_le f sc g) (zQ (Ex.wl_le f sc e) (zQ (Els.w_le f sc h) (zQ (zJ _) (Sm.w1_le f b _ _))))
theorem De.w_le(f:Nat→Bz):∀(d:De) (own sc:Scs) (n:Nat),(Pa.de (d.w f own sc n)).le (.de d)
 | .mk k o t nm e fo b,own,sc,n=>by
  simp only[De.w];split
  ·refine Pa.le_of' (by simp[Pa.own,De.names,De.formals]) ?_;simp only[Pa.kids,De.exps,De.body,qq4];exact zQ (zJ _) (Sm.w1_le f b _ _)
  ·refine Pa.le_of' (by simp[Pa.own,De.names,De.formals]) ?_;simp only[Pa.kids,De.exps,De.body,qq4];exact zQ (Ex.wl_le f _ e) (zJ _)
theorem De.wl_le(f:Nat→Bz):∀(l:List De) (own sc:Scs) (n:Nat),qcH ((De.wl f own sc n l).map Pa.de) (l.map Pa.de)
 | [],_,_,_=>zJ _
 | x::l,own,sc,n=>Q7 (De.w_le f x own sc n) (De.wl_le f l _ _ _)
theorem Sm.wl_le(f:Nat→Bz):∀(l:List Sm) (sc:Scs) (n:Nat),qcH ((Sm.wl f sc n l).map Pa.st) (l.map Pa.st)
 | [],_,_=>zJ _
 | x::l,sc,n=>Q7 (Sm.w_le f x sc n) (Sm.wl_le f l _ _)
theorem Sm.w1_le(f:Nat→Bz):∀(l:List Sm) (sc:Scs) (n:Nat),qcH ((Sm.w1 f sc n l).map Pa.st) (l.map Pa.st)
 | [],_,_=>zJ _
 | x::l,sc,n=>Q7 (Sm.w_le f x _ _) (Sm.w1_le f l _ _)
end
theorem Sm.whole_fits(f:Nat→Bz)(s:Sm)(h:(Pa.st s).fits):(Pa.st (s.whole f)).fits:=by
 have:=Sm.w_le f s [qd s.labels 0] (qd s.labels 0).length;unfold Pa.fits Pa.le at *;unfold Sm.whole;omega
structure Namer(nm:Bz→Bool)(f g:Nat→Bz):Prop where
 f1:∀i j,f i=f j→i=j
 g1:∀i j,g i=g j→i=j
 f2:∀i,nm (f i)=false
 g2:∀i,nm (g i)=false
section
variable {nm:Bz→Bool} {f g:Nat→Bz} (N:Namer nm f g)
include N
end
theorem JU{nm:Bz→Bool}:∀{l:List Fo} {had:List Bz},zV nm l had=true→∀x,x∈l→nm x.name=true
 | f::l,had,h,x,hx=>by
  simp only[zV,qp1] at h;rcases qqk.1 hx with rfl|hx
  ·have:=h.1.1;simp only[Fo.vOwn,qp1] at this;exact this.1
  ·exact JU h.2 x hx
theorem De.valid_names{nm:Bz→Bool}{d:De}(h:(Pa.de d).valid nm=true):∀x,x∈d.names→nm x=true:=by
 have h1:=(Pa.valid_iff.1 h).1;cases d;simp only[Pa.vOwn,De.vOwn,qp1,qqi] at h1;exact h1.1
theorem De.valid_formals{nm:Bz→Bool}{d:De}(h:(Pa.de d).valid nm=true):∀x,x∈d.formals→nm x.name=true:=by
 have h1:=(Pa.valid_iff.1 h).1
 cases d with
 | mk k o t n e f b=>
  simp only[Pa.vOwn,De.vOwn,qp1] at h1;have h1:=h1.2;simp only[De.formals];split at h1
  ·simp at h1;have:f=[]:=by simp[h1]
   subst this;simp
  split at h1
  ·simp at h1;have:f=[]:=by simp[h1]
   subst this;simp
  split at h1
  ·simp at h1;have:f=[]:=by simp[h1]
   subst this;simp
  split at h1
  ·simp only[qp1] at h1;exact JU h1.2
  ·cases h1
theorem De.valid_exps{nm:Bz→Bool}{d:De}(h:(Pa.de d).valid nm=true):∀x,x∈d.exps→(Pa.ex x).valid nm=true:=fun x hx=>(Pa.valid_iff.1 h).2 _ (by simp only[Pa.kids,qqc,qql];exact .inl ⟨x,hx,rfl⟩)
theorem De.valid_body{nm:Bz→Bool}{d:De}(h:(Pa.de d).valid nm=true):∀x,x∈d.body→(Pa.st x).valid nm=true:=fun x hx=>(Pa.valid_iff.1 h).2 _ (by simp only[Pa.kids,qqc,qql];exact .inr ⟨x,hx,rfl⟩)
theorem Sm.valid_labels{nm:Bz→Bool}{s:Sm}(h:(Pa.st s).valid nm=true):∀x,x∈s.labels→nm x=true:=by
 have h1:=(Pa.valid_iff.1 h).1;cases s;simp only[Pa.vOwn,Sm.vOwn,qp1,qqi] at h1;exact h1.1.1
theorem Sm.valid_text{nm:Bz→Bool}{s:Sm}(h:(Pa.st s).valid nm=true)(hk:s.kind=6):nm s.text=true:=by
 have h1:=(Pa.valid_iff.1 h).1;cases s;simp only[Sm.kind] at hk;subst hk;simp[Pa.vOwn,Sm.vOwn] at h1;simp[Sm.text,h1]
theorem Sm.valid_targets{nm:Bz→Bool}{s:Sm}(h:(Pa.st s).valid nm=true):∀x,x∈s.targets→(Pa.ex x).valid nm=true:=fun x hx=>(Pa.valid_iff.1 h).2 _ (by simp only[Pa.kids,qqc,qql];exact .inl ⟨x,hx,rfl⟩)
theorem Sm.valid_exps{nm:Bz→Bool}{s:Sm}(h:(Pa.st s).valid nm=true):∀x,x∈s.exps→(Pa.ex x).valid nm=true:=fun x hx=>(Pa.valid_iff.1 h).2 _ (by simp only[Pa.kids,qqc,qql];exact .inr (.inl ⟨x,hx,rfl⟩))
theorem Sm.valid_elems{nm:Bz→Bool}{s:Sm}(h:(Pa.st s).valid nm=true):∀x,x∈s.elems→(Pa.el x).valid nm=true:=fun x hx=>(Pa.valid_iff.1 h).2 _ (by simp only[Pa.kids,qqc,qql];exact .inr (.inr (.inl ⟨x,hx,rfl⟩)))
theorem Sm.valid_decls{nm:Bz→Bool}{s:Sm}(h:(Pa.st s).valid nm=true):∀x,x∈s.decls→(Pa.de x).valid nm=true:=fun x hx=>(Pa.valid_iff.1 h).2 _ (by simp only[Pa.kids,qqc,qql];exact .inr (.inr (.inr (.inl ⟨x,hx,rfl⟩))))
theorem Sm.valid_body{nm:Bz→Bool}{s:Sm}(h:(Pa.st s).valid nm=true):∀x,x∈s.body→(Pa.st x).valid nm=true:=fun x hx=>(Pa.valid_iff.1 h).2 _ (by simp only[Pa.kids,qqc,qql];exact .inr (.inr (.inr (.inr ⟨x,hx,rfl⟩))))
section
variable {nm:Bz→Bool} {f g:Nat→Bz} (N:Namer nm f g)
include N
end
def Gr(sz n0:Nat)(xs:List V)(v:V)(S:St):Prop:=(xs=[]∧v=.sl true [])∨∃l wr,n0≤l∧v=.arr l 0 xs.length xs.length∧S[l]?=some (.arr xs sz wr)∧wr≤xs.length
theorem Gr.nil(sz n0:Nat)(S:St):Gr sz n0 [] (.sl true []) S:=.inl ⟨rfl,rfl⟩
theorem yf(S:St)(b:Bool)(ys:List V):elems S (.sl b ys)=some ys:=rfl
theorem Gr.app{sz n0 bytes:Nat}{xs ys:List V}{v:V}{S:St}{b:Bool}(h:Gr sz n0 xs v S)(hy:fits sz ys=true)(hne:ys≠[])(hr:(xs.length+ys.length) * bytes≤2 ^ 47)(hn:n0≤S.length):
  ∃v' S',QP S sz bytes v (.sl b ys)=some (v',S')∧Gr sz n0 (xs++ys) v' S'∧S.length≤S'.length∧∀l,l<n0→S'[l]?=S[l]?:=by
 rcases h with ⟨rfl,rfl⟩|⟨l,wr,h1,rfl,h3,h4⟩
 ·have he:ys.isEmpty=false:=by cases ys with
   | nil=>exact absurd rfl hne
   | cons=>rfl
  have hr':ys.length * bytes≤2 ^ 47:=by simpa using hr
  refine ⟨.arr S.length 0 ys.length ys.length,S++[.arr ys sz ys.length],?_,.inr ⟨S.length,ys.length,hn,by simp,by simp,by simp⟩,by simp,fun l hl=>by rw[qpY (by omega)]⟩;unfold QP;rw[yf];have hc:true=true∧fits sz ys=true∧(([]:List V).all fun v=>v.size==sz)=true∧(([]:List V).length+ys.length) * bytes≤2 ^ 47:=⟨rfl,hy,rfl,hr⟩;show (if ys.isEmpty=true then _ else _)=_;rw[if_neg (by rw[he];simp),if_pos hc];simp
 ·have hc:0=0∧xs.length=xs.length∧xs.length=xs.length∧sz=sz∧fits sz ys=true∧(xs.length+ys.length) * bytes≤2 ^ 47:=⟨rfl,rfl,rfl,rfl,hy,hr⟩;have hlt:l<S.length:=(qpU.1 h3).1;refine ⟨.arr l 0 (xs.length+ys.length) (xs.length+ys.length),S.set l (.arr (xs++ys) sz wr),?_,.inr ⟨l,wr,h1,by simp,by rw[qpW hlt],by simp;omega⟩,by simp,fun k hk=>by rw[qpX (by omega)]⟩;unfold QP;rw[yf];show (match S[l]? with|_=>_)=_;rw[h3];show (if _ then _ else _)=_;rw[if_pos hc]
theorem Gr.app1{sz n0 bytes:Nat}{xs:List V}{y v:V}{S:St}{b:Bool}(h:Gr sz n0 xs v S)(hy:fits sz [y]=true)(hr:(xs.length+1) * bytes≤2 ^ 47)(hn:n0≤S.length):
 ∃v' S',QP S sz bytes v (.sl b [y])=some (v',S')∧Gr sz n0 (xs++[y]) v' S'∧S.length≤S'.length∧∀l,l<n0→S'[l]?=S[l]?:=h.app hy (by simp) hr hn
theorem Gr.keep{sz n0:Nat}{xs:List V}{v:V}{S S':St}(h:Gr sz n0 xs v S)(hk:∀l,n0≤l→l<S.length→S'[l]?=S[l]?):Gr sz n0 xs v S':=by
 rcases h with h|⟨l,wr,h1,h2,h3,h4⟩
 ·exact .inl h
 ·exact .inr ⟨l,wr,h1,h2,(hk l h1 (qpU.1 h3).1).trans h3,h4⟩
theorem Gr.ghost{sz n0:Nat}{xs:List V}{v:V}{S S0:St}(h:Gr sz n0 xs v S)(h0:S.take n0=S0)(hn:n0≤S.length)(hS:∀o,o∈S0→o.under n0=true)(hx:∀x,x∈xs→x.weak.under n0=true):
  zg n0 v S (.sl false (xs.map V.weak)) S0:=by
 have hu:∀b,(V.sl b (xs.map V.weak)).under n0=true:=fun b=>by
  simp only[V.under]
  exact JF fun y hy=>by
   obtain ⟨x,h1,rfl⟩:=qql.1 hy;exact hx x h1
 rcases h with ⟨rfl,rfl⟩|⟨l,wr,h1,rfl,h3,h4⟩
 ·have g1:zg n0 (.sl true []) S (.sl false []) S:=zg.weak (r:=.sl true []);have g2:=zg.cut (n:=n0) (m:=n0) (r:=.sl false []) (S:=S) rfl (by rw[h0];exact hS) (qp0 _) hn;rw[h0] at g2;exact g1.trans g2
 ·have g1:=zg.freeze (n:=n0) (l:=l) (off:=0) (len:=xs.length) (st:=xs.length) h3 h4 (by omega);simp only[qrO,qqo] at g1;have g2:zg n0 (.sl false xs) (S.set l .dead) (V.sl false xs).weak (S.set l .dead):=zg.weak;simp only[V.weak,qM] at g2
  have ht:(S.set l .dead).take n0=S0:=by
   rw[←h0];apply qq9;intro i;rw[qrP,qrP];split
   ·rw[qpX (by omega)]
   ·rfl
  have g3:=zg.cut (n:=n0) (m:=n0) (r:=.sl false (xs.map V.weak)) (S:=S.set l .dead) (hu _) (by rw[ht];exact hS) (qp0 _) (by simp;exact hn);rw[ht] at g3;exact (g1.trans g2).trans g3
theorem qjK{rs:List RV}{R:V→Prop}{e:Env}{S:St}{v:V}{sz:Nat}{xs:List V}(h:rvs e S rs=some [v])(g:Gr sz 0 xs v S)(hu:∀x,x∈xs→x.weak.under 0=true)(hR:R (.sl false (xs.map V.weak))):
  Z4 rs 0 (fun v U=>R v∧U=[]) .ret e S:=
 ⟨_,h,_,_,g.ghost (by simp) (qqB _) (by simp) hu,hR,rfl⟩
theorem Qh{rs:List RV}{R:V→Prop}{e:Env}{S:St}{vs:List V}(h:rvs e S rs=some vs)(hR:R (qo vs).weak)(hu:(qo vs).weak.under 0=true):Z4 rs 0 (fun v U=>R v∧U=[]) .ret e S:=
 ⟨vs,h,_,[],zg.weak.trans (zg.cut (m:=0) hu (by simp) (qp0 _) (qqB _)),hR,rfl⟩
structure Kp(M:Np)(S U:St):Prop where
 len:S.length≤U.length
 get:∀l,l<S.length→¬ M l→U[l]?=S[l]?
theorem Kp.refl(M:Np)(S:St):Kp M S S:=⟨qp0 _,fun _ _ _=>rfl⟩
theorem Kp.trans{M:Np}{S T U:St}(h:Kp M S T)(g:Kp M T U):Kp M S U:=
 ⟨qqS h.len g.len,fun l hl hm=>(g.get l (qqC hl h.len) hm).trans (h.get l hl hm)⟩
theorem Kp.mono{M N:Np}{S T:St}(h:Kp M S T)(hm:∀l,l<S.length→M l→N l):Kp N S T:=⟨h.len,fun l hl hn=>h.get l hl fun hh=>hn (hm l hl hh)⟩
theorem Kp.push{M:Np}{S U:St}(h:Kp M S U)(os:List Ob):Kp M S (U++os):=
 ⟨by simp;have:=h.len;omega,fun l hl hm=>by rw[qpY (qqC hl h.len)];exact h.get l hl hm⟩
theorem Kp.set{M:Np}{S U:St}(h:Kp M S U){l:Nat}(o:Ob)(hl:M l∨S.length≤l):Kp M S (U.set l o):=
  ⟨by simp;exact h.len,fun k hk hm=>by
    rw[qpX ?_]
    · exact h.get k hk hm
    · rintro rfl;rcases hl with hl|hl
      · exact hm hl
      · omega⟩
theorem Kp.at{M:Np}{S U:St}(h:Kp M S U){l:Nat}{o:Ob}(ho:S[l]?=some o)(hm:¬ M l):U[l]?=some o:=(h.get l (qpU.1 ho).1 hm).trans ho
theorem Kp.ofPush{M:Np}{S U:St}{os:List Ob}(h:Kp M (S++os) U):Kp M S U:=
 ⟨by have:=h.len;simp at this;omega,fun l hl hm=>(h.get l (by simp;omega) hm).trans (qpY hl)⟩
theorem yh.mono'{P:Program}{l:Nat}{args:List V}{S:St}{R R':V→St→Prop}(h:yh P l args S R)(hr:∀r S',R r S'→R' r S'):yh P l args S R':=fun E w us n x h1 h2 h3=>by
 obtain ⟨f,tmps,asg,body,g1,g2⟩:=h E w us n x h1 h2 h3;exact ⟨f,tmps,asg,body,g1,g2.mono fun e w' ⟨u,r,E',S',k1,k2,k3⟩=>⟨u,r,E',S',k1,hr _ _ k2,k3⟩⟩
theorem qi1{P:Program}{l:Nat}{args:List V}{S:St}{R:V→St→Prop}{Φ:V→St→Prop}(h:yh P l args S R)(g:∀v U,R v U→Φ v U):qom P l args S Φ:=⟨_,h,g⟩
def RR(M:Np)(U0:St)(L:Nat)(i0:LI)(J1:St→Prop)(Dr:St→Prop)(De:Nat→St→Prop):V→St→Prop:=fun v U=>Kp M U0 U∧
 ((v=.bool true∧J1 U∧U[L]?=some (.loop i0))∨(v=.bool false∧Dr U∧U[L]?=some (.loop { i0 with st:=.done,pend:=some .ret }))∨
  ∃id,v=.bool false∧De id U∧U[L]?=some (.loop { i0 with st:=.done,pend:=some (.exit id) }))
theorem QZ{P:Program}{L:Nat}{cb:C'}{R:V→St→Prop}{e:Env}{U:St}{i0:LI}(h:U[L]?=some (.loop i0))(hr:i0.st=.ready)(g:WP P cb (Jd L R) e (U.set L (.loop { i0 with st:=.busy }))):
 qaO P L cb R .normal e U:=⟨i0,h,hr,g⟩
theorem jZ{M:Np}{U0:St}{L:Nat}{i0:LI}{J1 Dr:St→Prop}{De:Nat→St→Prop}{e:Env}{U:St}(hi:i0.st=.ready∧i0.pend=none)(hM:M L)(h:U[L]?=some (.loop { i0 with st:=.busy }))(k:Kp M U0 U)(g:J1 (U.set L (.loop i0))):Jd L (RR M U0 L i0 J1 Dr De) .normal e U:=by
 have hlt:=(qpU.1 h).1;have:({ i0 with st:=.ready,pend:=none }:LI)=i0:=by cases i0;simp only at hi;simp[hi.1,hi.2]
 refine ⟨_,h,k.set _ (.inl hM),.inl ⟨rfl,?_,?_⟩⟩
 ·simp only[this];exact g
 ·simp only[this];rw[qpW hlt]
theorem qbm{M:Np}{U0:St}{L:Nat}{i0:LI}{J1 Dr:St→Prop}{De:Nat→St→Prop}{e:Env}{U:St}(hM:M L)(h:U[L]?=some (.loop { i0 with st:=.busy }))(k:Kp M U0 U)(g:Dr (U.set L (.loop { i0 with st:=.done,pend:=some .ret }))):Jd L (RR M U0 L i0 J1 Dr De) .ret e U:=by
 have hlt:=(qpU.1 h).1;exact ⟨_,h,k.set _ (.inl hM),.inr (.inl ⟨rfl,g,by rw[qpW hlt]⟩)⟩
def qi7(P:Program)(k:Nat)(fs cs:List V)(aa:List (List V))(cap:St→Prop):Prop:=
 ∀(S:St) (l:Nat) (J:Nat→St→Prop) (D:St→Prop) (M:Np),(∀x,M x→x<S.length)→(∀i U,J i U→cap U)→(∀i U o,J i U→J i (U++[o]))→(∀U o,D U→D (U++[o]))→
  (∀i U L o o',S.length≤L→J i U→U[L]?=some (.loop o)→J i (U.set L (.loop o')))→(∀U L o o',S.length≤L→D U→U[L]?=some (.loop o)→D (U.set L (.loop o')))→
  (∀(i:Nat) (a:List V),aa[i]?=some a→∀U,J i U→Kp M S U→yh P l a U (fun v U'=>Kp M U U'∧((v=.bool true∧J (i+1) U')∨(v=.bool false∧D U'))))→J 0 S→
  qB P k (fs++[.yld l]++cs) S (fun _ U=>Kp M S U∧(J aa.length U∨D U))
theorem Kp.unloop{M:Np}{S U:St}{o o':Ob}(h:Kp (fun x=>M x∨x=S.length) (S++[o]) U):Kp M S (U.set S.length o'):=by
 refine ⟨by have:=h.len;simp at this ⊢;omega,fun l hl hm=>?_⟩;rw[qpX (by omega)];rw[h.get l (by simp;omega) (by rintro (hh|hh);exact hm hh;omega)];exact qpY hl
theorem gl{U:St}{x L:Nat}{o:Ob}{i i':LI}(h:U[x]?=some o)(ho:∀i,o≠.loop i)(hL:U[L]?=some (.loop i)):(U.set L (.loop i'))[x]?=some o:=by
 rw[qpX]
 ·exact h
 ·rintro rfl;rw[hL] at h;cases h;exact ho i rfl
theorem qc8{P:Program}{g:Opd}{ps:List Nat}{asg body:Code}{ca cb:C'}{N:Nat}{ts:List Nat}{Q:yG}{e:Env}{S:St}{k:Nat}{fs cs:List V}{aa:List (List V)}{cap:St→Prop}
  (hg:g.ev e=some (.fn (.func k) fs cs)) (hy:qi7 P k fs cs aa cap) (na:ca.noRf=true) (nb:cb.noRf=true) (hps:ps.all (fun p=>decide (p<N))=true) (hlen:∀a,a∈aa→a.length=ps.length)
  (M:Np) (hM:∀x,M x→x<S.length) (J:Nat→St→Prop) (Dr:St→Prop) (De:Nat→St→Prop) (hcap:∀i U,J i U→cap U)
  (hJ:∀i U,J i U→∀o,J i (U++[o])) (hDr:∀U,Dr U→∀o,Dr (U++[o])) (hDe:∀id U,De id U→∀o,De id (U++[o]))
  (hJl:∀i U L o o',S.length≤L→J i U→U[L]?=some (.loop o)→J i (U.set L (.loop o'))) (hDl:∀U L o o',S.length≤L→Dr U→U[L]?=some (.loop o)→Dr (U.set L (.loop o'))) (hDel:∀id U L o o',S.length≤L→De id U→U[L]?=some (.loop o)→De id (U.set L (.loop o')))
  (h0:J 0 (S++[.loop ⟨.ready,none,ps,asg,body,e.keep ts,N⟩]))
  (hr:∀(i:Nat) (a:List V),aa[i]?=some a→∀U,J i U→Kp (fun x=>M x∨x=S.length) (S++[.loop ⟨.ready,none,ps,asg,body,e.keep ts,N⟩]) U→U[S.length]?=some (.loop ⟨.ready,none,ps,asg,body,e.keep ts,N⟩)→
   WP P ca (qaO P S.length cb (RR (fun x=>M x∨x=S.length) U S.length ⟨.ready,none,ps,asg,body,e.keep ts,N⟩ (J (i+1)) Dr De)) (QD ps a (e.keep ts)) U)
  (hn:∀U,J aa.length U→Kp M S U→Q .normal e U) (hret:∀U,Dr U→Kp M S U→Q .ret e U) (hexit:∀id U,De id U→Kp M S U→Q (.exit id) e U):
  WP P (.rf g ps asg body ca cb N ts) Q e S:=by
 intro hca hcb;rw[hg];refine ⟨_,hy (S++[.loop ⟨.ready,none,ps,asg,body,e.keep ts,N⟩]) S.length (fun i U=>J i U∧U[S.length]?=some (.loop ⟨.ready,none,ps,asg,body,e.keep ts,N⟩))
  (fun U=>(Dr U∧U[S.length]?=some (.loop ⟨.done,some .ret,ps,asg,body,e.keep ts,N⟩))∨∃id,De id U∧U[S.length]?=some (.loop ⟨.done,some (.exit id),ps,asg,body,e.keep ts,N⟩))
  (fun x=>M x∨x=S.length) ?_ (fun i U h=>hcap i U h.1) (fun i U o h=>⟨hJ i U h.1 o,?_⟩) ?_ ?_ ?_ ?_ ⟨h0,by simp⟩,?_⟩
 ·rintro x (h|rfl)
  ·have:=hM x h;simp;omega
  ·simp
 ·rw[qpY (qpU.1 h.2).1];exact h.2
 ·rintro U o (⟨h1,h2⟩|⟨id,h1,h2⟩)
  ·exact .inl ⟨hDr U h1 o,by rw[qpY (qpU.1 h2).1];exact h2⟩
  ·exact .inr ⟨id,hDe id U h1 o,by rw[qpY (qpU.1 h2).1];exact h2⟩
 ·rintro i U L o o' hL ⟨h1,h2⟩ h3;simp at hL;exact ⟨hJl i U L o o' (by omega) h1 h3,by rw[qpX (by omega)];exact h2⟩
 ·rintro U L o o' hL (⟨h1,h2⟩|⟨id,h1,h2⟩) h3
  ·simp at hL;exact .inl ⟨hDl U L o o' (by omega) h1 h3,by rw[qpX (by omega)];exact h2⟩
  ·simp at hL;exact .inr ⟨id,hDel id U L o o' (by omega) h1 h3,by rw[qpX (by omega)];exact h2⟩
 ·rintro i a ha U ⟨hj,hl⟩ hk;refine yh.mono' (yh.intro hl hca hcb rfl na nb ?_ hps (hr i a ha U hj hk hl)) ?_
  ·exact hlen _ (qp6 ha)
  ·rintro v U' ⟨hk',⟨rfl,h1,h2⟩|⟨rfl,h1,h2⟩|⟨id,rfl,h1,h2⟩⟩
   ·exact ⟨hk',.inl ⟨rfl,h1,h2⟩⟩
   ·exact ⟨hk',.inr ⟨rfl,.inl ⟨h1,h2⟩⟩⟩
   ·exact ⟨hk',.inr ⟨rfl,.inr ⟨id,h1,h2⟩⟩⟩
 ·rintro r U ⟨hk,⟨h1,h2⟩|⟨h1,h2⟩|⟨id,h1,h2⟩⟩
  ·exact ⟨_,h2,by simp,hn _ (hJl _ U _ _ _ (qp0 _) h1 h2) hk.unloop⟩
  ·exact ⟨_,h2,by simp,hret _ (hDl U _ _ _ (qp0 _) h1 h2) hk.unloop⟩
  ·exact ⟨_,h2,by simp,hexit id _ (hDel id U _ _ _ (qp0 _) h1 h2) hk.unloop⟩
theorem qdu{N N':Env→St→Prop}{Q Q':yG}(hn:∀e S,N e S→N' e S)(hq:∀x e S,Q x e S→Q' x e S):∀x e S,ZO N Q x e S→ZO N' Q' x e S:=by
 intro x e S h;cases x <;> first|exact hn _ _ h|exact hq _ _ _ h
theorem qjj{P:Program}{a:C'}{N:Env→St→Prop}{Q:yG}{e:Env}{S:St}(M:Env→St→Prop)(h1:WP P a (ZO M Q) e S)(h2:∀e S,M e S→N e S):WP P a (ZO N Q) e S:=
 QO (qdu h2 fun _ _ _ h=>h) h1
theorem qE{P:Program}{id:Nat}{c:C'}{Q:yG}{e:Env}{S:St}(M:Env→St→Prop)(h1:WP P (.loop c) (Zb id (ZO M Q)) e S)(h2:∀e S,M e S→Q .normal e S):WP P (.loop c) (Zb id Q) e S:=
 QO (fun x e S hx=>by
  cases x <;> simp only[Zb,ZO] at hx ⊢<;> first|exact h2 _ _ hx|exact hx|skip
  split <;> rename_i hh
  ·rw[if_pos hh] at hx;exact h2 _ _ hx
  ·rw[if_neg hh] at hx;exact hx) h1
theorem qg4(v:V)(o:Nat):V.part v o none=v.cells[o]?:=rfl
theorem qga(cs:List V):(V.agg cs).cells=cs:=rfl
theorem qhe(k:IntKind)(n:Int):(V.int k n).cells=[V.int k n]:=rfl
theorem qdZ(b:Bool):(V.bool b).cells=[V.bool b]:=rfl
theorem qgj(b:Bz):(V.str b).cells=[V.str b]:=rfl
theorem qiz(b:Bool)(l:List V):(V.sl b l).cells=[V.sl b l]:=rfl
theorem qgN(a b c d:Nat):(V.arr a b c d).cells=[V.arr a b c d]:=rfl
theorem qhj(a b c d:Nat):(V.ptr a b c d).cells=[V.ptr a b c d]:=rfl
theorem qfg(a:Nat):(V.map a).cells=[V.map a]:=rfl
theorem qiX(f:Go.Fn)(a b:List V):(V.fn f a b).cells=[V.fn f a b]:=rfl
theorem qdH:V.nilp.cells=[V.nilp]:=rfl
theorem qbF:V.nilfn.cells=[V.nilfn]:=rfl
theorem qaF:V.nilmap.cells=[V.nilmap]:=rfl
theorem qec(v:V)(o:Nat):(V.iptr v o).cells=[V.iptr v o]:=rfl
theorem qir(cs:List V):(V.agg cs).size=cs.length:=rfl
theorem qhN(k:IntKind)(n:Int):(V.int k n).size=1:=rfl
theorem qfD(b:Bool):(V.bool b).size=1:=rfl
theorem qiN(b:Bz):(V.str b).size=1:=rfl
theorem qkz(b:Bool)(l:List V):(V.sl b l).size=1:=rfl
theorem qij(a b c d:Nat):(V.arr a b c d).size=1:=rfl
theorem qiC(a b c d:Nat):(V.ptr a b c d).size=1:=rfl
theorem qiE(a:Nat):(V.map a).size=1:=rfl
theorem qku(f:Go.Fn)(a b:List V):(V.fn f a b).size=1:=rfl
theorem qgP:V.nilp.size=1:=rfl
theorem qdL:V.nilfn.size=1:=rfl
theorem qbv:V.nilmap.size=1:=rfl
theorem qfH(cs:List V):(V.agg cs).isAgg=true:=rfl
theorem qh1(k:IntKind)(n:Int):(V.int k n).flat=true:=rfl
theorem qfL(b:Bool):(V.bool b).flat=true:=rfl
theorem qia(b:Bz):(V.str b).flat=true:=rfl
theorem qkf(b:Bool)(l:List V):(V.sl b l).flat=true:=rfl
theorem qhw(a b c d:Nat):(V.arr a b c d).flat=true:=rfl
theorem qh4(a b c d:Nat):(V.ptr a b c d).flat=true:=rfl
theorem qiS(a:Nat):(V.map a).flat=true:=rfl
theorem qjI(f:Go.Fn)(a b:List V):(V.fn f a b).flat=true:=rfl
theorem qeA:V.nilp.flat=true:=rfl
theorem qdE:V.nilfn.flat=true:=rfl
theorem qbJ:V.nilmap.flat=true:=rfl
theorem Sm.v_cells(s:Sm):s.v.cells=[.sl false (s.labels.map .str),.int .i64 s.kind,.str s.text,.sl false (s.targets.map Ex.v),.sl false (s.exps.map Ex.v),.sl false (s.elems.map El.v),.sl false (s.decls.map De.v),.sl false (s.body.map Sm.v)]:=by rw[Sm.v_eq];rfl
theorem De.v_cells(d:De):d.v.cells=[.int .i64 d.kind,.bool d.own,.int .i64 d.type,.sl false (d.names.map .str),.sl false (d.exps.map Ex.v),.sl false (d.formals.map Fo.v),.sl false (d.body.map Sm.v)]:=by rw[De.v_eq];rfl
theorem Ex.v_cells(x:Ex):x.v.cells=[.int .i64 x.kind,.int .i64 x.op,.int .i64 x.n,.int .i64 x.man,.int .i64 x.exp,.str x.text,.sl false (x.args.map Ex.v)]:=by rw[Ex.v_eq];rfl
theorem El.v_cells(e:El):e.v.cells=[.int .i64 e.kind,.sl false (e.exps.map Ex.v)]:=rfl
theorem Fo.v_cells(f:Fo):f.v.cells=[.str f.name,.bool f.value,.int .i64 f.spec,.int .i64 f.type]:=rfl
theorem qgy(k:Int)(s:Sm)(d:De)(e:El)(x:Ex):(paV k s d e x).cells=
 [.int .i64 k,.sl false (s.labels.map .str),.int .i64 s.kind,.str s.text,.sl false (s.targets.map Ex.v),.sl false (s.exps.map Ex.v),.sl false (s.elems.map El.v),.sl false (s.decls.map De.v),.sl false (s.body.map Sm.v),
  .int .i64 d.kind,.bool d.own,.int .i64 d.type,.sl false (d.names.map .str),.sl false (d.exps.map Ex.v),.sl false (d.formals.map Fo.v),.sl false (d.body.map Sm.v),
  .int .i64 e.kind,.sl false (e.exps.map Ex.v),
  .int .i64 x.kind,.int .i64 x.op,.int .i64 x.n,.int .i64 x.man,.int .i64 x.exp,.str x.text,.sl false (x.args.map Ex.v)]:=rfl
theorem qhy(k:Int)(s:Sm)(d:De)(e:El)(x:Ex):(paV k s d e x).size=25:=rfl
theorem Sm.v_isAgg(s:Sm):s.v.isAgg=true:=by rw[Sm.v_eq];rfl
theorem De.v_isAgg(s:De):s.v.isAgg=true:=by rw[De.v_eq];rfl
theorem Ex.v_isAgg(s:Ex):s.v.isAgg=true:=by rw[Ex.v_eq];rfl
theorem El.v_isAgg(s:El):s.v.isAgg=true:=rfl
theorem Fo.v_isAgg(s:Fo):s.v.isAgg=true:=rfl
theorem qfr(k:Int)(s:Sm)(d:De)(e:El)(x:Ex):(paV k s d e x).isAgg=true:=rfl
theorem JD(s:Sm):V.part s.v 0 (some 8)=some s.v:=by simp[V.part,Sm.v_size,Sm.v_isAgg]
theorem qjY(s:De):V.part s.v 0 (some 7)=some s.v:=by simp[V.part,De.v_size,De.v_isAgg]
theorem kH(s:Ex):V.part s.v 0 (some 7)=some s.v:=by simp[V.part,Ex.v_size,Ex.v_isAgg]
theorem qlx(s:El):V.part s.v 0 (some 2)=some s.v:=rfl
theorem qms(s:Fo):V.part s.v 0 (some 4)=some s.v:=rfl
theorem qkA(k:Int)(s:Sm)(d:De)(e:El)(x:Ex):V.part (paV k s d e x) 0 (some 25)=some (paV k s d e x):=rfl
theorem qhT(k:Int)(s:Sm)(d:De)(e:El)(x:Ex):V.part (paV k s d e x) 1 (some 8)=some s.v:=by rw[Sm.v_eq];rfl
theorem qhv(k:Int)(s:Sm)(d:De)(e:El)(x:Ex):V.part (paV k s d e x) 9 (some 7)=some d.v:=by rw[De.v_eq];rfl
theorem qhz(k:Int)(s:Sm)(d:De)(e:El)(x:Ex):V.part (paV k s d e x) 16 (some 2)=some e.v:=rfl
theorem qhS(k:Int)(s:Sm)(d:De)(e:El)(x:Ex):V.part (paV k s d e x) 18 (some 7)=some x.v:=by rw[Ex.v_eq];rfl
theorem qk9(b:Bool)(l:List V):qoB (.sl b l)=some (.int .i64 l.length):=rfl
theorem qhA(a b c d:Nat):qoB (.arr a b c d)=some (.int .i64 c):=rfl
theorem qiG(s:Bz):qoB (.str s)=some (.int .i64 s.size):=rfl
theorem qkX(l i o st off:Nat):faV (.ptr l i o st) off=some (.ptr l i (o+off) st):=rfl
theorem qig(v:V)(o off:Nat):faV (.iptr v o) off=some (.iptr v (o+off)):=rfl
theorem qiW(S:St)(v:V)(o:Nat)(k:Option Nat):ldS S (.iptr v o) k=V.part v o k:=rfl
theorem qjO{S:St}{x:V}(h:x.cells.all V.flat=true)(h0:0<x.size):qw S x=some (.ptr S.length 0 0 1,S++[.arr [x] x.size 1]):=by simp[qw,h,h0]
theorem zO{v x:V}{off n:Nat}:V.upd v off n x=if x.size=n∧x.cells.all V.flat=true then (if off=0∧n=v.size then some x else match v with
 | .agg cs=>if off+n≤cs.length then some (.agg (cs.take off++x.cells++cs.drop (off+n))) else none
 | _=>none) else none:=rfl
theorem qlp:phs []=[]:=rfl
attribute [simp] qg4 qga qhe qdZ qgj qiz qgN qhj qfg qiX qdH qbF qaF qec
 qir qhN qfD qiN qkz qij qiC qiE qku qgP qdL qbv qfH
 qh1 qfL qia qkf qhw qh4 qiS qjI qeA qdE qbJ
 Sm.v_cells De.v_cells Ex.v_cells El.v_cells Fo.v_cells qgy qhy Sm.v_isAgg De.v_isAgg Ex.v_isAgg El.v_isAgg Fo.v_isAgg qfr
 JD qjY kH qlx qms qkA qhT qhv qhz qhS qk9 qhA qiG qkX qig qiW qlp
open Go.Proofs.Tryz
set_option maxRecDepth 20000
noncomputable def c17:F':=⟨6,[.t 2],.k [.B 1 0,.F 2] (.k [.j 3 8 1,.o 4 (.call (.f 52) [(.t 3),(.c z0),(.c (.int .i64 150))]),.u 5 .gtr 4 0,.m 2 5] .ret)⟩
theorem ok17:okF f17 c17:=okI
noncomputable def c52:F':=⟨125,[.t 6],.k [.B 3 0,.G 6 0] (.k [.m 12 2,.u 13 .sub 12 1,.f 14 0 3,.l 15 14,.L 16 15,.b 17 .sub 13 16,.m 2 17] (.seq (.k [.m 18 1,.u 19 .gtr 18 30] (.d 19 (.k [.G 6 0] .ret) .skip)) (.seq (.draw [.q (.f 20 3 3) false false [] 0 1,.q (.l 21 20) false true [0] 0 1,.q (.m 22 1) false false [] 0 1,.q (.u 23 .add 22 1) false false [2] 0 1,.p (.f 24 4 3) [],.p (.l 25 24) [4],.p (.m 26 1) [],.p (.u 27 .add 26 1) [6],.p (.m 28 2) [],.q (.x 29 72 25 27 28) true false [5,7,8,4,6] 0 0,.q (.x 30 72 21 23 29) true false [1,3,9,0,2,5,7,8,4,6] 1 1,.q (.m 2 30) false false [10,1,3,9,0,2,5,7,8,4,6] 2 2] []) (.seq (.k [.G 7 0] (.block 0 (.loop (.seq (.k [.m 31 7,.f 32 5 3,.l 33 32,.L 34 33,.b 35 .lss 31 34,.m 36 35,.V 37 36 true 2,.v 38 36 true (.bin .gtr (.t 37) (.c z0)),.y 39 36 38] (.d 39 .skip (.exit 0))) (.seq (.block 1 (.reg [.f 42 5 3,.l 43 42,.m 44 7,.i 45 2 43 44,.f 46 1 45,.l 47 46,.m 48 1,.u 49 .add 48 1,.m 50 2,.u 51 .sub 50 1,.x 52 72 47 49 51,.m 2 52])) (.reg [.m 40 7,.u 41 .add 40 1,.m 7 41])))))) (.seq (.k [.G 8 0] (.block 2 (.loop (.seq (.k [.m 53 8,.f 54 6 3,.l 55 54,.L 56 55,.b 57 .lss 53 56,.m 58 57,.V 59 58 true 2,.v 60 58 true (.bin .gtr (.t 59) (.c z0)),.y 61 58 60] (.d 61 .skip (.exit 2))) (.seq (.block 3 (.k [.f 64 6 3,.l 65 64,.m 66 8,.i 67 7 65 66,.j 68 7 67,.o 9 (.new zD),.s 7 9 68] (.k [.f 69 4 9,.l 70 69,.m 71 1,.u 72 .add 71 1,.m 73 2,.u 74 .sub 73 1,.f 75 3 9,.l 76 75,.L 77 76,.b 78 .sub 74 77,.f 79 5 9,.l 80 79,.L 81 80,.b 82 .sub 78 81,.x 83 72 70 72 82,.m 2 83] (.k [.G 10 0] (.block 4 (.loop (.seq (.k [.m 84 10,.f 85 6 9,.l 86 85,.L 87 86,.b 88 .lss 84 87,.m 89 88,.V 90 89 true 2,.v 91 89 true (.bin .gtr (.t 90) (.c z0)),.y 92 89 91] (.d 92 .skip (.exit 4))) (.seq (.block 5 (.reg [.f 95 6 9,.l 96 95,.m 97 10,.i 98 8 96 97,.j 99 8 98,.m 100 1,.u 101 .add 100 1,.m 102 2,.x 103 52 99 101 102,.m 2 103])) (.reg [.m 93 10,.u 94 .add 93 1,.m 10 94]))))))))) (.reg [.m 62 8,.u 63 .add 62 1,.m 8 63])))))) (.seq (.k [.G 11 0] (.block 6 (.loop (.seq (.k [.m 104 11,.f 105 7 3,.l 106 105,.L 107 106,.b 108 .lss 104 107,.m 109 108,.V 110 109 true 2,.v 111 109 true (.bin .gtr (.t 110) (.c z0)),.y 112 109 111] (.d 112 .skip (.exit 6))) (.seq (.block 7 (.reg [.f 115 7 3,.l 116 115,.m 117 11,.i 118 8 116 117,.j 119 8 118,.m 120 1,.u 121 .add 120 1,.m 122 2,.x 123 52 119 121 122,.m 2 123])) (.reg [.m 113 11,.u 114 .add 113 1,.m 11 114])))))) (.k [.m 124 2,.m 6 124] .ret)))))))⟩
theorem ok52:okF f52 c52:=okI
noncomputable def c72:F':=⟨31,[.t 6],.k [.G 6 0] (.seq (.k [.m 8 1,.u 9 .gtr 8 40] (.d 9 (.k [.G 6 0] .ret) .skip)) (.seq (.k [.G 7 0] (.block 0 (.loop (.seq (.k [.m 10 7,.m 11 0,.L 12 11,.b 13 .lss 10 12,.m 14 13,.V 15 14 true 2,.v 16 14 true (.bin .gtr (.t 15) (.c z0)),.y 17 14 16] (.d 17 .skip (.exit 0))) (.seq (.block 1 (.reg [.m 20 0,.m 21 7,.i 22 7 20 21,.f 23 6 22,.l 24 23,.m 25 1,.u 26 .add 25 1,.m 27 2,.u 28 .sub 27 1,.x 29 72 24 26 28,.m 2 29])) (.reg [.m 18 7,.u 19 .add 18 1,.m 7 19])))))) (.k [.m 30 2,.m 6 30] .ret)))⟩
theorem ok72:okF f72 c72:=okI
noncomputable def c20:F':=⟨5,[.t 2],.k [.B 1 0,.G 2 0] (.k [.j 3 8 1,.c 4 63 3,.m 2 4] .ret)⟩
theorem ok20:okF f20 c20:=okI
noncomputable def c63:F':=⟨6,[.t 2],.k [.B 1 0,.G 2 0] (.k [.j 3 8 1,.c 4 113 3,.c 5 112 4,.m 2 5] .ret)⟩
theorem ok63:okF f63 c63:=okI
noncomputable def c112:F':=⟨9,[.t 2],.k [.B 1 0,.G 2 0] (.seq (.k [.j 3 25 1,.c 4 159 3,.o 5 (.un .not (.t 4))] (.d 5 (.k [.G 2 2] .ret) .skip)) (.seq (.k [.j 6 25 1,.c 7 160 6,.o 8 (.un .not (.t 7))] (.d 8 (.k [.G 2 1] .ret) .skip)) (.k [.G 2 0] .ret)))⟩
theorem ok112:okF f112 c112:=okI
noncomputable def c135:F':=⟨5,[.cell 2 (some 25)],.k [.B 1 0,.o 2 (.new zP)] (.k [.j 3 7 1,.o 4 (.build zP [(0,0,1,(.c (.int .i64 2))),(2,9,7,(.t 3))]),.s 25 2 4] .ret)⟩
theorem ok135:okF f135 c135:=okI
noncomputable def c141:F':=⟨5,[.cell 2 (some 25)],.k [.B 1 0,.o 2 (.new zP)] (.k [.j 3 7 1,.o 4 (.build zP [(0,0,1,(.c (.int .i64 4))),(4,18,7,(.t 3))]),.s 25 2 4] .ret)⟩
theorem ok141:okF f141 c141:=okI
noncomputable def c160:F':=⟨45,[.t 2],.k [.B 1 0,.F 2] (.k [.F 3] (.seq (.k [.f 6 0 1,.l 7 6] (.block 0 (.k [.u 9 .eql 7 1,.m 8 9] (.d 8 (.reg [.f 10 1 1,.j 11 8 10,.c 12 189 11,.m 3 12]) (.k [.u 14 .eql 7 2,.m 13 14] (.d 13 (.reg [.f 15 9 1,.j 16 7 15,.c 17 190 16,.m 3 17]) (.k [.u 19 .eql 7 3,.m 18 19] (.d 18 (.reg [.f 20 16 1,.j 21 2 20,.c 22 191 21,.m 3 22]) (.k [.u 24 .eql 7 4,.m 23 24] (.d 23 (.reg [.f 25 18 1,.j 26 7 25,.c 27 192 26,.m 3 27]) .skip)))))))))) (.k [.j 28 25 1,.c 29 193 28,.m 4 29] (.seq (.k [.G 5 0] (.block 1 (.loop (.seq (.k [.m 30 5,.m 31 4,.L 32 31,.b 33 .lss 30 32,.m 34 33,.V 35 34 true 3,.y 36 34 35] (.d 36 .skip (.exit 1))) (.seq (.block 2 (.reg [.m 39 4,.m 40 5,.i 41 25 39 40,.j 42 25 41,.c 43 160 42,.m 3 43])) (.reg [.m 37 5,.u 38 .add 37 1,.m 5 38])))))) (.k [.m 44 3,.m 2 44] .ret)))))⟩
theorem ok160:okF f160 c160:=okI
noncomputable def c181:F':=⟨23,[.t 2],.k [.B 1 0,.F 2] (.seq (.k [.f 3 0 1,.l 4 3] (.block 0 (.k [.u 6 .eql 4 1,.m 5 6] (.d 5 (.k [.f 7 1 1,.l 8 7,.L 9 8,.u 10 .eql 9 1,.m 2 10] .ret) (.k [.u 12 .eql 4 2,.m 11 12] (.d 11 (.k [.f 13 1 1,.l 14 13,.L 15 14,.u 16 .eql 15 3,.m 2 16] .ret) (.k [.u 18 .eql 4 3,.m 17 18] (.d 17 (.k [.f 19 1 1,.l 20 19,.L 21 20,.u 22 .eql 21 2,.m 2 22] .ret) .skip)))))))) (.k [.F 2] .ret))⟩
theorem ok181:okF f181 c181:=okI
noncomputable def c189:F':=⟨159,[.t 2],.k [.B 1 0,.F 2] (.k [.f 7 1 1,.l 8 7,.f 9 0 1,.l 10 9,.o 11 (.build zS [(1,1,1,(.t 8)),(0,0,1,(.t 10))]),.o 3 (.new zS),.s 8 3 11] (.k [.f 12 4 1,.l 13 12,.L 14 13,.m 4 14] (.k [.f 15 7 1,.l 16 15,.L 17 16,.m 5 17] (.k [.F 6] (.seq (.k [.f 18 1 1,.l 19 18] (.block 0 (.k [.u 21 .eql 19 1,.m 20 21] (.d 20 (.reg [.T 6]) (.k [.u 23 .eql 19 2,.m 22 23] (.d 22 (.k [.f 24 3 1,.l 25 24,.f 26 3 3,.s 1 26 25] (.k [.f 27 4 1,.l 28 27,.f 29 4 3,.s 1 29 28] (.reg [.f 30 3 1,.l 31 30,.c 32 222 31,.m 33 32,.V 34 33 true 4,.v 35 33 true (.bin .eql (.t 34) (.c (.int .i64 1))),.y 36 33 35,.m 6 36]))) (.k [.u 38 .eql 19 3,.m 37 38] (.d 37 (.k [.f 39 4 1,.l 40 39,.f 41 4 3,.s 1 41 40] (.reg [.m 42 4,.u 43 .eql 42 1,.m 6 43])) (.k [.u 45 .eql 19 4,.m 44 45] (.d 44 (.k [.f 46 4 1,.l 47 46,.f 48 4 3,.s 1 48 47] (.k [.f 49 7 1,.l 50 49,.f 51 7 3,.s 1 51 50] (.reg [.m 52 4,.u 53 .eql 52 1,.m 54 53,.V 55 54 true 5,.v 56 54 true (.bin .geq (.t 55) (.c (.int .i64 1))),.y 57 54 56,.m 58 57,.V 59 58 true 5,.v 60 58 true (.bin .leq (.t 59) (.c (.int .i64 2))),.y 61 58 60,.m 62 61,.v 63 62 true (.fa 7 (.t 1)),.M 64 62 true 63,.v 65 62 true (.ia 8 (.t 64) (.c z0)),.v 66 62 true (.fa 1 (.t 65)),.M 67 62 true 66,.v 68 62 true (.bin .neq (.t 67) (.c (.int .i64 4))),.y 69 62 68,.m 70 69,.v 71 70 true (.fa 7 (.t 1)),.M 72 70 true 71,.v 73 70 true (.ia 8 (.t 72) (.c z0)),.v 74 70 true (.fa 1 (.t 73)),.M 75 70 true 74,.v 76 70 true (.bin .neq (.t 75) (.c (.int .i64 5))),.y 77 70 76,.m 6 77]))) (.k [.u 79 .eql 19 5,.m 78 79] (.d 78 (.k [.f 80 3 1,.l 81 80,.f 82 3 3,.s 1 82 81] (.k [.f 83 5 1,.l 84 83,.f 85 5 3,.s 1 85 84] (.k [.f 86 7 1,.l 87 86,.f 88 7 3,.s 1 88 87] (.reg [.f 89 3 1,.l 90 89,.c 91 222 90,.m 92 91,.v 93 92 true (.fa 3 (.t 1)),.M 94 92 true 93,.v 95 92 true (.len false (.t 94)),.v 96 92 true (.bin .eql (.t 95) (.c (.int .i64 1))),.y 97 92 96,.m 98 97,.v 99 98 true (.fa 5 (.t 1)),.M 100 98 true 99,.v 101 98 true (.len false (.t 100)),.v 102 98 true (.bin .geq (.t 101) (.c (.int .i64 1))),.y 103 98 102,.m 104 103,.V 105 104 true 5,.v 106 104 true (.bin .eql (.t 105) (.c (.int .i64 1))),.y 107 104 106,.m 6 107])))) (.k [.u 109 .eql 19 6,.m 108 109] (.d 108 (.k [.f 110 2 1,.l 111 110,.f 112 2 3,.s 1 112 111] (.k [.f 113 4 1,.l 114 113,.f 115 4 3,.s 1 115 114] (.reg [.f 116 2 1,.l 117 116,.c 118 21 117,.m 119 118,.V 120 119 true 4,.v 121 119 true (.bin .leq (.t 120) (.c (.int .i64 8))),.y 122 119 121,.m 6 122]))) (.k [.u 124 .eql 19 7,.m 123 124] (.d 123 (.k [.f 125 6 1,.l 126 125,.f 127 6 3,.s 1 127 126] (.k [.f 128 7 1,.l 129 128,.f 130 7 3,.s 1 130 129] (.reg [.f 131 6 1,.l 132 131,.L 133 132,.u 134 .geq 133 1,.m 135 134,.V 136 135 true 5,.v 137 135 true (.bin .geq (.t 136) (.c (.int .i64 1))),.y 138 135 137,.m 6 138]))) (.k [.u 140 .eql 19 8,.m 139 140] (.d 139 (.k [.f 141 7 1,.l 142 141,.f 143 7 3,.s 1 143 142] (.reg [.m 144 5,.u 145 .geq 144 1,.m 6 145])) .skip)))))))))))))))))) (.seq (.draw [.p (.m 146 6) [],.p (.m 147 146) [0],.p (.v 148 147 true (.fa 0 (.t 1))) [1,0],.p (.M 149 147 true 148) [2,1,0],.q (.v 150 147 true (.call (.f 223) [(.t 149)])) true false [3,2,1,0] 0 0,.q (.y 151 147 150) false false [4,3,2,1,0] 1 1,.q (.m 152 151) false false [5,4,3,2,1,0] 1 1,.q (.v 153 152 true (.ld (some 8) (.t 1))) false false [6,5,4,3,2,1,0] 1 1,.q (.v 154 152 true (.call (.f 113) [(.t 153)])) true false [7,6,5,4,3,2,1,0] 1 1,.q (.v 155 152 true (.ld (some 8) (.t 3))) false true [6,5,4,3,2,1,0] 1 2,.q (.v 156 152 true (.call (.f 113) [(.t 155)])) true false [9,8,7,6,5,4,3,2,1,0] 2 2,.q (.v 157 152 true (.call (.f 195) [(.t 154),(.t 156)])) true false [10,9,8,7,6,5,4,3,2,1,0] 3 3,.q (.y 158 152 157) false false [11,10,9,8,7,6,5,4,3,2,1,0] 4 4,.q (.m 2 158) false false [12,11,10,9,8,7,6,5,4,3,2,1,0] 4 4] []) .ret))))))⟩
theorem ok189:okF f189 c189:=okI
noncomputable def c190:F':=⟨123,[.t 2],.k [.B 1 0,.F 2] (.k [.f 6 0 1,.l 7 6,.f 8 3 1,.l 9 8,.o 10 (.build zD [(0,0,1,(.t 7)),(3,3,1,(.t 9))]),.o 3 (.new zD),.s 7 3 10] (.k [.f 11 4 1,.l 12 11,.L 13 12,.m 4 13] (.k [.F 5] (.seq (.k [.f 14 0 1,.l 15 14] (.block 0 (.k [.u 17 .eql 15 1,.m 16 17] (.d 16 (.k [.f 18 1 1,.l 19 18,.f 20 1 3,.s 1 20 19] (.k [.f 21 2 1,.l 22 21,.f 23 2 3,.s 1 23 22] (.reg [.f 24 2 1,.l 25 24,.o 26 (.call (.f 224) [(.t 25),(.c (.int .i64 1)),(.c (.int .i64 3))]),.m 27 26,.v 28 27 true (.fa 3 (.t 1)),.M 29 27 true 28,.v 30 27 true (.len false (.t 29)),.v 31 27 true (.bin .geq (.t 30) (.c (.int .i64 1))),.y 32 27 31,.m 5 32]))) (.k [.u 34 .eql 15 2,.m 33 34] (.d 33 (.k [.f 35 1 1,.l 36 35,.f 37 1 3,.s 1 37 36] (.k [.f 38 2 1,.l 39 38,.f 40 2 3,.s 1 40 39] (.k [.f 41 4 1,.l 42 41,.f 43 4 3,.s 1 43 42] (.reg [.f 44 2 1,.l 45 44,.o 46 (.call (.f 224) [(.t 45),(.c (.int .i64 1)),(.c (.int .i64 3))]),.m 47 46,.v 48 47 true (.fa 3 (.t 1)),.M 49 47 true 48,.v 50 47 true (.len false (.t 49)),.v 51 47 true (.bin .geq (.t 50) (.c (.int .i64 1))),.y 52 47 51,.m 53 52,.V 54 53 true 4,.v 55 53 true (.bin .geq (.t 54) (.c (.int .i64 2))),.y 56 53 55,.m 57 56,.V 58 57 true 4,.v 59 57 true (.bin .rem (.t 58) (.c (.int .i64 2))),.v 60 57 true (.bin .eql (.t 59) (.c z0)),.y 61 57 60,.m 62 61,.V 63 62 true 4,.v 64 62 true (.bin .leq (.t 63) (.c (.int .i64 8))),.y 65 62 64,.m 5 65])))) (.k [.u 67 .eql 15 3,.m 66 67] (.d 66 (.k [.f 68 4 1,.l 69 68,.f 70 4 3,.s 1 70 69] (.reg [.f 71 3 1,.l 72 71,.L 73 72,.u 74 .eql 73 1,.m 75 74,.V 76 75 true 4,.v 77 75 true (.bin .geq (.t 76) (.c (.int .i64 1))),.y 78 75 77,.m 5 78])) (.k [.u 80 .eql 15 4,.m 79 80] (.d 79 (.k [.f 81 2 1,.l 82 81,.f 83 2 3,.s 1 83 82] (.k [.f 84 5 1,.l 85 84,.f 86 5 3,.s 1 86 85] (.k [.f 87 6 1,.l 88 87,.f 89 6 3,.s 1 89 88] (.reg [.f 90 2 1,.l 91 90,.o 92 (.call (.f 224) [(.t 91),(.c z0),(.c (.int .i64 3))]),.m 93 92,.v 94 93 true (.fa 3 (.t 1)),.M 95 93 true 94,.v 96 93 true (.len false (.t 95)),.v 97 93 true (.bin .eql (.t 96) (.c (.int .i64 1))),.y 98 93 97,.m 99 98,.v 100 99 true (.fa 5 (.t 1)),.M 101 99 true 100,.v 102 99 true (.call (.f 225) [(.t 101)]),.y 103 99 102,.m 104 103,.v 105 104 true (.fa 6 (.t 1)),.M 106 104 true 105,.v 107 104 true (.len false (.t 106)),.v 108 104 true (.bin .eql (.t 107) (.c (.int .i64 1))),.y 109 104 108,.m 5 109])))) .skip)))))))))) (.seq (.draw [.p (.m 110 5) [],.p (.m 111 110) [0],.p (.v 112 111 true (.fa 3 (.t 1))) [1,0],.p (.M 113 111 true 112) [2,1,0],.q (.v 114 111 true (.call (.f 223) [(.t 113)])) true false [3,2,1,0] 0 0,.q (.y 115 111 114) false false [4,3,2,1,0] 1 1,.q (.m 116 115) false false [5,4,3,2,1,0] 1 1,.q (.v 117 116 true (.ld (some 7) (.t 1))) false false [6,5,4,3,2,1,0] 1 1,.q (.v 118 116 true (.call (.f 135) [(.t 117)])) true false [7,6,5,4,3,2,1,0] 1 1,.q (.v 119 116 true (.ld (some 7) (.t 3))) false true [6,5,4,3,2,1,0] 1 2,.q (.v 120 116 true (.call (.f 135) [(.t 119)])) true false [9,8,7,6,5,4,3,2,1,0] 2 2,.q (.v 121 116 true (.call (.f 195) [(.t 118),(.t 120)])) true false [10,9,8,7,6,5,4,3,2,1,0] 3 3,.q (.y 122 116 121) false false [11,10,9,8,7,6,5,4,3,2,1,0] 4 4,.q (.m 2 122) false false [12,11,10,9,8,7,6,5,4,3,2,1,0] 4 4] []) .ret)))))⟩
theorem ok190:okF f190 c190:=okI
noncomputable def c191:F':=⟨34,[.t 2],.k [.B 1 0,.F 2] (.k [.f 3 0 1,.l 4 3,.u 5 .eql 4 1,.m 6 5,.v 7 6 true (.fa 1 (.t 1)),.M 8 6 true 7,.v 9 6 true (.len false (.t 8)),.v 10 6 true (.bin .eql (.t 9) (.c (.int .i64 1))),.y 11 6 10,.m 12 11,.v 13 12 false (.fa 0 (.t 1)),.M 14 12 false 13,.v 15 12 false (.bin .eql (.t 14) (.c (.int .i64 2))),.V 16 12 false 15,.v 17 16 true (.fa 1 (.t 1)),.M 18 16 true 17,.v 19 16 true (.len false (.t 18)),.v 20 16 true (.bin .eql (.t 19) (.c (.int .i64 3))),.v 21 12 false (.pick (.t 16) (.t 20) (.c (.bool false))),.z 22 12 21,.m 23 22,.v 24 23 false (.fa 0 (.t 1)),.M 25 23 false 24,.v 26 23 false (.bin .eql (.t 25) (.c (.int .i64 3))),.V 27 23 false 26,.v 28 27 true (.fa 1 (.t 1)),.M 29 27 true 28,.v 30 27 true (.len false (.t 29)),.v 31 27 true (.bin .eql (.t 30) (.c (.int .i64 2))),.v 32 23 false (.pick (.t 27) (.t 31) (.c (.bool false))),.z 33 23 32,.m 2 33] .ret)⟩
theorem ok191:okF f191 c191:=okI
noncomputable def c192:F':=⟨159,[.t 2],.k [.B 1 0,.F 2] (.k [.f 6 0 1,.l 7 6,.o 8 (.build zX [(0,0,1,(.t 7))]),.o 3 (.new zX),.s 7 3 8] (.k [.f 9 6 1,.l 10 9,.L 11 10,.m 4 11] (.k [.F 5] (.seq (.k [.f 12 0 1,.l 13 12] (.block 0 (.k [.u 15 .eql 13 1,.m 14 15] (.d 14 (.k [.f 16 2 1,.l 17 16,.f 18 2 3,.s 1 18 17] (.reg [.f 19 2 1,.l 20 19,.u 21 .geq 20 0,.m 22 21,.v 23 22 true (.fa 2 (.t 1)),.M 24 22 true 23,.v 25 22 true (.bin .leq (.t 24) (.c (.int .i64 2147483647))),.y 26 22 25,.m 27 26,.V 28 27 true 4,.v 29 27 true (.bin .eql (.t 28) (.c z0)),.y 30 27 29,.m 5 30])) (.k [.u 32 .eql 13 2,.m 31 32] (.d 31 (.k [.f 33 3 1,.j 34 2 33,.f 35 3 3,.s 2 35 34] (.reg [.f 36 3 1,.j 37 2 36,.c 38 226 37,.m 39 38,.v 40 39 true (.fa 3 (.t 1)),.v 41 39 true (.fa 0 (.t 40)),.M 42 39 true 41,.v 43 39 true (.bin .geq (.t 42) (.c z0)),.y 44 39 43,.m 45 44,.V 46 45 true 4,.v 47 45 true (.bin .eql (.t 46) (.c z0)),.y 48 45 47,.m 5 48])) (.seq (.k [.u 50 .eql 13 3,.m 49 50] (.d 49 .skip (.reg [.u 51 .eql 13 4,.m 49 51]))) (.d 49 (.reg [.m 52 4,.u 53 .eql 52 0,.m 5 53]) (.k [.u 55 .eql 13 5,.m 54 55] (.d 54 (.k [.f 56 5 1,.l 57 56,.f 58 5 3,.s 1 58 57] (.reg [.f 59 5 1,.l 60 59,.c 61 227 60,.m 62 61,.V 63 62 true 4,.v 64 62 true (.bin .eql (.t 63) (.c z0)),.y 65 62 64,.m 5 65])) (.k [.u 67 .eql 13 6,.m 66 67] (.d 66 (.k [.f 68 5 1,.l 69 68,.f 70 5 3,.s 1 70 69] (.reg [.f 71 5 1,.l 72 71,.c 73 21 72,.m 74 73,.V 75 74 true 4,.v 76 74 true (.bin .eql (.t 75) (.c z0)),.y 77 74 76,.m 5 77])) (.k [.u 79 .eql 13 7,.m 78 79] (.d 78 (.k [.f 80 5 1,.l 81 80,.f 82 5 3,.s 1 82 81] (.reg [.f 83 5 1,.l 84 83,.c 85 21 84,.m 86 85,.V 87 86 true 4,.v 88 86 true (.bin .geq (.t 87) (.c (.int .i64 1))),.y 89 86 88,.m 90 89,.V 91 90 true 4,.v 92 90 true (.bin .leq (.t 91) (.c (.int .i64 4))),.y 93 90 92,.m 5 93])) (.k [.u 95 .eql 13 8,.m 94 95] (.d 94 (.k [.f 96 5 1,.l 97 96,.f 98 5 3,.s 1 98 97] (.reg [.f 99 5 1,.l 100 99,.c 101 21 100,.m 102 101,.V 103 102 true 4,.v 104 102 true (.bin .geq (.t 103) (.c (.int .i64 1))),.y 105 102 104,.m 106 105,.V 107 106 true 4,.v 108 106 true (.bin .leq (.t 107) (.c (.int .i64 8))),.y 109 106 108,.m 5 109])) (.k [.u 111 .eql 13 9,.m 110 111] (.d 110 (.k [.f 112 1 1,.l 113 112,.f 114 1 3,.s 1 114 113] (.reg [.f 115 1 1,.l 116 115,.u 117 .eql 116 1,.m 118 117,.v 119 118 false (.fa 1 (.t 1)),.M 120 118 false 119,.v 121 118 false (.bin .eql (.t 120) (.c (.int .i64 2))),.z 122 118 121,.m 123 122,.V 124 123 true 4,.v 125 123 true (.bin .eql (.t 124) (.c (.int .i64 1))),.y 126 123 125,.m 5 126])) (.k [.u 128 .eql 13 10,.m 127 128] (.d 127 (.k [.f 129 1 1,.l 130 129,.f 131 1 3,.s 1 131 130] (.reg [.f 132 1 1,.l 133 132,.u 134 .geq 133 3,.m 135 134,.v 136 135 true (.fa 1 (.t 1)),.M 137 135 true 136,.v 138 135 true (.bin .leq (.t 137) (.c (.int .i64 18))),.y 139 135 138,.m 140 139,.V 141 140 true 4,.v 142 140 true (.bin .eql (.t 141) (.c (.int .i64 2))),.y 143 140 142,.m 5 143])) (.k [.u 145 .eql 13 11,.m 144 145] (.d 144 (.reg [.m 146 4,.u 147 .eql 146 3,.m 5 147]) .skip)))))))))))))))))))))) (.k [.f 148 6 1,.l 149 148,.f 150 6 3,.s 1 150 149] (.seq (.draw [.p (.m 151 5) [],.p (.m 152 151) [0],.p (.v 153 152 true (.ld (some 7) (.t 1))) [1,0],.q (.v 154 152 true (.call (.f 141) [(.t 153)])) true false [2,1,0] 0 0,.q (.v 155 152 true (.ld (some 7) (.t 3))) false true [1,0] 0 1,.q (.v 156 152 true (.call (.f 141) [(.t 155)])) true false [4,3,2,1,0] 1 1,.q (.v 157 152 true (.call (.f 195) [(.t 154),(.t 156)])) true false [5,4,3,2,1,0] 2 2,.q (.y 158 152 157) false false [6,5,4,3,2,1,0] 3 3,.q (.m 2 158) false false [7,6,5,4,3,2,1,0] 3 3] []) .ret))))))⟩
theorem ok192:okF f192 c192:=okI
noncomputable def c205:F':=⟨5,[.cell 2 (some 25)],.k [.B 1 0,.o 2 (.new zP)] (.k [.j 3 2 1,.o 4 (.build zP [(0,0,1,(.c (.int .i64 3))),(3,16,2,(.t 3))]),.s 25 2 4] .ret)⟩
theorem ok205:okF f205 c205:=okI
noncomputable def c210:F':=⟨36,[.t 2],.k [.B 1 0,.F 2] (.seq (.k [.j 4 2 1,.o 5 (.build (.agg [(.int .i64 0),(.int .i64 0)]) []),.o 6 (.ex (.eqs false 2 [(0,.i),(1,.i)] (.t 4) (.t 5)))] (.d 6 (.k [.T 2] .ret) .skip)) (.k [.f 7 0 1,.l 8 7,.f 9 0 1,.l 10 9,.o 11 (.un .neg (.t 10)),.o 12 (.ex (.mm true (.t 8) (.t 11))),.m 3 12] (.seq (.k [.m 13 3,.u 14 .lss 13 1,.m 15 14,.V 16 15 false 3,.v 17 15 false (.bin .geq (.t 16) (.c (.int .i64 16777216))),.z 18 15 17] (.d 18 (.k [.F 2] .ret) .skip)) (.k [.f 19 1 1,.l 20 19,.u 21 .eql 20 (-150),.m 22 21,.V 23 22 false 3,.v 24 22 false (.bin .geq (.t 23) (.c (.int .i64 8388608))),.V 25 22 false 24,.v 26 25 true (.fa 1 (.t 1)),.M 27 25 true 26,.v 28 25 true (.bin .gtr (.t 27) (.c (.int .i64 (-150)))),.v 29 22 false (.pick (.t 25) (.t 28) (.c (.bool false))),.V 30 22 false 29,.v 31 30 true (.fa 1 (.t 1)),.M 32 30 true 31,.v 33 30 true (.bin .leq (.t 32) (.c (.int .i64 150))),.v 34 22 false (.pick (.t 30) (.t 33) (.c (.bool false))),.z 35 22 34,.m 2 35] .ret))))⟩
theorem ok210:okF f210 c210:=okI
noncomputable def c211:F':=⟨25,[.t 2],.k [.F 2] (.seq (.k [.G 3 0] (.block 0 (.loop (.seq (.k [.m 4 3,.m 5 0,.o 6 (.len true (.t 5)),.b 7 .lss 4 6] (.d 7 .skip (.exit 0))) (.seq (.block 1 (.k [.m 10 0,.m 11 3,.o 12 (.idx (.t 10) (.t 11)),.o 13 (.conv .i64 (.t 12)),.o 14 (.call (.f 209) [(.t 13),(.c (.int .i64 32)),(.c (.int .i64 126))]),.o 15 (.un .not (.t 14)),.m 16 15,.V 17 16 false 0,.V 18 16 false 3,.v 19 16 false (.idx (.t 17) (.t 18)),.v 20 16 false (.bin .eql (.t 19) (.c (.int .u8 34))),.z 21 16 20] (.d 21 (.k [.F 2] .ret) .skip))) (.reg [.m 8 3,.u 9 .add 8 1,.m 3 9])))))) (.k [.m 22 0,.o 23 (.len true (.t 22)),.u 24 .leq 23 80,.m 2 24] .ret))⟩
theorem ok211:okF f211 c211:=okI
noncomputable def c222:F':=⟨19,[.t 2],.k [.F 2] (.seq (.k [.G 3 0] (.block 0 (.loop (.seq (.k [.m 4 3,.m 5 0,.L 6 5,.b 7 .lss 4 6] (.d 7 .skip (.exit 0))) (.seq (.block 1 (.k [.m 10 0,.m 11 3,.i 12 7 10 11,.j 13 7 12,.c 14 257 13,.o 15 (.un .not (.t 14))] (.d 15 (.k [.F 2] .ret) .skip))) (.reg [.m 8 3,.u 9 .add 8 1,.m 3 9])))))) (.k [.m 16 0,.L 17 16,.u 18 .gtr 17 0,.m 2 18] .ret))⟩
theorem ok222:okF f222 c222:=okI
noncomputable def c223:F':=⟨16,[.t 2],.k [.F 2] (.seq (.k [.G 3 0] (.block 0 (.loop (.seq (.k [.m 4 3,.m 5 0,.L 6 5,.b 7 .lss 4 6] (.d 7 .skip (.exit 0))) (.seq (.block 1 (.k [.m 10 0,.m 11 3,.i 12 1 10 11,.l 13 12,.c 14 21 13,.o 15 (.un .not (.t 14))] (.d 15 (.k [.F 2] .ret) .skip))) (.reg [.m 8 3,.u 9 .add 8 1,.m 3 9])))))) (.k [.T 2] .ret))⟩
theorem ok223:okF f223 c223:=okI
noncomputable def c224:F':=⟨15,[.t 6],.k [.F 6] (.k [.m 7 0,.m 8 1,.b 9 .geq 7 8,.m 10 9,.V 11 10 true 0,.V 12 10 true 2,.N 13 10 true .leq 11 12,.y 14 10 13,.m 6 14] .ret)⟩
theorem ok224:okF f224 c224:=okI
noncomputable def c225:F':=⟨36,[.t 2],.k [.F 2] (.seq (.k [.G 3 0] (.block 0 (.loop (.seq (.k [.m 5 3,.m 6 0,.L 7 6,.b 8 .lss 5 7] (.d 8 .skip (.exit 0))) (.seq (.block 1 (.seq (.k [.G 4 0] (.block 2 (.loop (.seq (.k [.m 11 4,.m 12 3,.b 13 .lss 11 12] (.d 13 .skip (.exit 2))) (.seq (.block 3 (.seq (.draw [.p (.m 16 0) [],.p (.m 17 4) [],.p (.i 18 4 16 17) [0,1],.p (.f 19 0 18) [2,0,1],.p (.l 20 19) [3,2,0,1],.p (.m 21 0) [],.p (.m 22 3) [],.p (.i 23 4 21 22) [5,6],.p (.f 24 0 23) [7,5,6],.p (.l 25 24) [8,7,5,6],.p (.b 26 .eql 20 25) [4,9,3,2,0,1,8,7,5,6]] []) (.d 26 (.k [.F 2] .ret) .skip))) (.reg [.m 14 4,.u 15 .add 14 1,.m 4 15])))))) (.k [.m 27 0,.m 28 3,.i 29 4 27 28,.j 30 4 29,.c 31 258 30,.o 32 (.un .not (.t 31))] (.d 32 (.k [.F 2] .ret) .skip)))) (.reg [.m 9 3,.u 10 .add 9 1,.m 3 10])))))) (.k [.m 33 0,.L 34 33,.u 35 .leq 34 8,.m 2 35] .ret))⟩
theorem ok225:okF f225 c225:=okI
noncomputable def c226:F':=⟨43,[.t 2],.k [.B 1 0,.F 2] (.k [.f 4 0 1,.l 5 4,.m 3 5] (.seq (.k [.m 6 3,.u 7 .lss 6 0] (.d 7 (.reg [.m 8 3,.o 9 (.bin .sub (.c z0) (.t 8)),.m 3 9]) .skip)) (.seq (.k [.m 10 3,.u 11 .eql 10 0] (.d 11 (.k [.f 12 0 1,.l 13 12,.u 14 .eql 13 0,.m 15 14,.v 16 15 true (.fa 1 (.t 1)),.M 17 15 true 16,.v 18 15 true (.bin .eql (.t 17) (.c z0)),.y 19 15 18,.m 2 19] .ret) .skip)) (.seq (.k [.m 20 3,.u 21 .lss 20 0,.m 22 21,.V 23 22 false 3,.v 24 22 false (.bin .geq (.t 23) (.c (.int .i64 16777216))),.z 25 22 24,.m 26 25,.v 27 26 false (.fa 1 (.t 1)),.M 28 26 false 27,.v 29 26 false (.bin .lss (.t 28) (.c (.int .i64 (-150)))),.z 30 26 29,.m 31 30,.v 32 31 false (.fa 1 (.t 1)),.M 33 31 false 32,.v 34 31 false (.bin .gtr (.t 33) (.c (.int .i64 150))),.z 35 31 34] (.d 35 (.k [.F 2] .ret) .skip)) (.k [.m 36 3,.u 37 .geq 36 8388608,.m 38 37,.v 39 38 false (.fa 1 (.t 1)),.M 40 38 false 39,.v 41 38 false (.bin .eql (.t 40) (.c (.int .i64 (-150)))),.z 42 38 41,.m 2 42] .ret)))))⟩
theorem ok226:okF f226 c226:=okI
noncomputable def c227:F':=⟨29,[.t 2],.k [.F 2] (.seq (.k [.G 3 0] (.block 0 (.loop (.seq (.k [.m 4 3,.m 5 0,.o 6 (.len true (.t 5)),.b 7 .lss 4 6] (.d 7 .skip (.exit 0))) (.seq (.block 1 (.k [.m 10 0,.m 11 3,.o 12 (.idx (.t 10) (.t 11)),.o 13 (.bin .lss (.t 12) (.c (.int .u8 32))),.m 14 13,.V 15 14 false 0,.V 16 14 false 3,.v 17 14 false (.idx (.t 15) (.t 16)),.v 18 14 false (.bin .gtr (.t 17) (.c (.int .u8 126))),.z 19 14 18,.m 20 19,.V 21 20 false 0,.V 22 20 false 3,.v 23 20 false (.idx (.t 21) (.t 22)),.v 24 20 false (.bin .eql (.t 23) (.c (.int .u8 34))),.z 25 20 24] (.d 25 (.k [.F 2] .ret) .skip))) (.reg [.m 8 3,.u 9 .add 8 1,.m 3 9])))))) (.k [.m 26 0,.o 27 (.len true (.t 26)),.u 28 .leq 27 80,.m 2 28] .ret))⟩
theorem ok227:okF f227 c227:=okI
noncomputable def c257:F':=⟨11,[.t 2],.k [.B 1 0,.F 2] (.k [.f 3 0 1,.l 4 3,.u 5 .eql 4 6,.m 6 5,.v 7 6 false (.fa 0 (.t 1)),.M 8 6 false 7,.v 9 6 false (.bin .eql (.t 8) (.c (.int .i64 7))),.z 10 6 9,.m 2 10] .ret)⟩
theorem ok257:okF f257 c257:=okI
noncomputable def c258:F':=⟨49,[.t 2],.k [.B 1 0,.F 2] (.k [.F 3] (.seq (.k [.f 4 2 1,.l 5 4] (.block 0 (.seq (.k [.u 7 .eql 5 0,.m 6 7] (.d 6 .skip (.k [.u 8 .eql 5 3,.m 6 8] (.d 6 .skip (.k [.u 9 .eql 5 4,.m 6 9] (.d 6 .skip (.reg [.u 10 .eql 5 5,.m 6 10]))))))) (.d 6 (.reg [.f 11 3 1,.l 12 11,.u 13 .eql 12 0,.m 3 13]) (.k [.u 15 .eql 5 1,.m 14 15] (.d 14 (.reg [.f 16 3 1,.l 17 16,.o 18 (.call (.f 224) [(.t 17),(.c (.int .i64 1)),(.c (.int .i64 3))]),.m 3 18]) (.seq (.k [.u 20 .eql 5 2,.m 19 20] (.d 19 .skip (.reg [.u 21 .eql 5 6,.m 19 21]))) (.d 19 (.reg [.f 22 3 1,.l 23 22,.o 24 (.call (.f 224) [(.t 23),(.c z0),(.c (.int .i64 3))]),.m 3 24]) .skip)))))))) (.seq (.k [.f 25 1 1,.l 26 25] (.d 26 (.reg [.m 27 3,.m 28 27,.v 29 28 true (.fa 2 (.t 1)),.M 30 28 true 29,.v 31 28 true (.bin .eql (.t 30) (.c (.int .i64 1))),.V 32 28 true 31,.v 33 32 false (.fa 2 (.t 1)),.M 34 32 false 33,.v 35 32 false (.bin .eql (.t 34) (.c (.int .i64 2))),.v 36 28 true (.pick (.t 32) (.c (.bool true)) (.t 35)),.y 37 28 36,.m 38 37,.v 39 38 true (.fa 3 (.t 1)),.M 40 38 true 39,.v 41 38 true (.bin .neq (.t 40) (.c z0)),.y 42 38 41,.m 3 42]) .skip)) (.k [.m 43 3,.m 44 43,.v 45 44 true (.fa 0 (.t 1)),.M 46 44 true 45,.v 47 44 true (.call (.f 21) [(.t 46)]),.y 48 44 47,.m 2 48] .ret))))⟩
theorem ok258:okF f258 c258:=okI
@[simp] theorem uEx(l:List Ex):V.underL 0 (l.map Ex.v)=true:=qL fun x _=>Ex.v_under x
@[simp] theorem uEl(l:List El):V.underL 0 (l.map El.v)=true:=qL fun x _=>El.v_under x
@[simp] theorem uFo(l:List Fo):V.underL 0 (l.map Fo.v)=true:=qL fun x _=>Fo.v_under x
@[simp] theorem uDe(l:List De):V.underL 0 (l.map De.v)=true:=qL fun x _=>De.v_under x
@[simp] theorem uSm(l:List Sm):V.underL 0 (l.map Sm.v)=true:=qL fun x _=>Sm.v_under x
@[simp] theorem uStr(l:List Bz):V.underL 0 (l.map .str)=true:=qL fun x _=>rfl
theorem qdv{l:List Ex}{i:Nat}(h:i<l.length):SizeOf.sizeOf l[i].args<SizeOf.sizeOf l:=by
 have h1:=qq6 (qp5 h)
 have h2:SizeOf.sizeOf l[i].args<SizeOf.sizeOf l[i]:=by
  cases l[i] with
  | mk k o n m e t a=>simp[Ex.args];omega
 omega
theorem Zf{α:Type}{l:List α}{i:Nat}(h:i<l.length):l.drop i=l[i]::l.drop (i+1):=qqZ h
theorem qdd:∀(k:Nat) (l:List Ex),SizeOf.sizeOf l≤k→l.length≤B50→Ex.okL l→∀deep n:Int,0≤deep→deep≤1000→-4503599627370496≤n→n≤1000→∀S,Fn prog 72 [.sl false (l.map Ex.v),.int .i64 deep,.int .i64 n] S (.int .i64 (Ex.leftL l deep n)):=by
 intro k
 induction k with
 | zero=>intro l h;cases l <;> simp at h
 | succ k ih=>
  intro l hsz hlen hok deep n hd0 hd1 hn0 hn1;refine Pu.intro (R:=fun v=>v=.int .i64 (Ex.leftL l deep n)) func72 ok72 (by simp[c72]) (by simp[V.under,V.underL]) (by rintro v rfl;rfl) ?_;unfold Ex.leftL;by_cases hd:deep > 40
  ·simp[c72,show (40:Int)<deep from hd];exact qa rfl rfl rfl
  simp[c72,show ¬ (40:Int)<deep from hd];refine qq (fun j e S'=>∃(i:Nat) (m:Int),j=l.length - i∧i≤l.length∧Ex.leftG (l.drop i) deep m=Ex.leftG l deep n∧m≤n∧-4503599627370496≤m∧S'=[]∧
   e=[(7,.int .i64 i),(2,.int .i64 m),(0,.sl false (l.map Ex.v)),(1,.int .i64 deep),(6,.int .i64 0)]) l.length _ ?_ ⟨0,n,by simp,by omega,rfl,by omega,by omega,rfl,rfl⟩ ?_
  ·exact Env.so (by simp)
  rintro j e S' ⟨i,m,rfl,hi,hm,hmn,hm0,rfl,rfl⟩;by_cases h:i<l.length
  ·by_cases h0:0<m
   ·have hx:=ih l[i].args (by have:=qdv h;omega) (Ex.ok_args (Ex.okL_mem hok _ (qp5 h))).1 (Ex.ok_args (Ex.okL_mem hok _ (qp5 h))).2 (deep+1) (m - 1) (by omega) (by omega) (by omega) (by omega);have hle:=Ex.left_le l[i] deep m h0;simp[h,h0,qht,qy (n:=deep+1) (by omega) (by omega),qy (n:=m - 1) (by omega) (by omega)];refine qj (hx []) ?_;rw[←Ex.left_eq];simp[qy (n:=(i:Int)+1) (by unfold B50 at hlen;omega) (by unfold B50 at hlen;omega)];refine ⟨_,?_,_,?_,i+1,rfl,by omega,l[i].left deep m,?_,?_,?_,rfl⟩
    ·omega
    ·repeat' first|exact Env.sub_nil _|refine Env.sub_cons (by simp;rfl) ?_|refine Env.sub_cons (by simp) ?_
    ·rw[←hm,Zf h,Ex.leftG,if_pos h0]
    ·omega
    ·omega
   ·simp[h,h0];refine qa rfl ?_ rfl;simp only[qo];rw[←hm,Ex.leftG_neg _ _ _ (by omega)]
  ·simp[h];refine qa rfl ?_ rfl;simp only[qo];rw[←hm,qrn (by omega),Ex.leftG]
theorem zI(l:List Ex)(deep n:Int):Ex.leftL l deep n≤max n 0∧min n 0≤Ex.leftL l deep n:=by
 by_cases h:0≤n
 ·have:=Ex.leftL_le l deep n h;omega
 ·unfold Ex.leftL;split
  ·omega
  ·rw[Ex.leftG_neg _ _ _ (by omega)];omega
theorem qkw{s:Sm}{i:Nat}(h:i<s.body.length):SizeOf.sizeOf s.body[i]<SizeOf.sizeOf s:=by
 have h1:=qq6 (qp5 h);cases s;simp only[Sm.body] at *;simp;omega
theorem qoF{s:Sm}{i:Nat}(h:i<s.decls.length):SizeOf.sizeOf s.decls[i]<SizeOf.sizeOf s:=by
 have h1:=qq6 (qp5 h);cases s;simp only[Sm.decls] at *;simp;omega
theorem qjw{s:De}{i:Nat}(h:i<s.body.length):SizeOf.sizeOf s.body[i]<SizeOf.sizeOf s:=by
 have h1:=qq6 (qp5 h);cases s;simp only[De.body] at *;simp;omega
def Bd(m:Int):Prop:=-4503599627370496≤m∧m≤1000
theorem El.leftG_bd:∀(l:List El) (deep n:Int),Bd n→Bd (El.leftG l deep n)
 | [],_,n,h=>h
 | x::l,deep,n,h=>by
  rw[El.leftG];split
  ·have:=zI x.exps (deep+1) (n - 1);refine El.leftG_bd l deep _ ?_;unfold Bd at *;omega
  ·exact h
mutual
theorem Sm.left_bd:∀(s:Sm) (deep n:Int),s.ok→0<n→n≤1000→Bd (s.left deep n)
 | .mk l k t g e f d b,deep,n,h,h0,h1=>by
  simp only[Sm.ok] at h;obtain ⟨hl,ht,hg,he,hf,hd,hb,hbl⟩:=h;rw[Sm.left];split
  ·unfold Bd;omega
  ·have h2:=hl.1;have h3:=zI e (deep+1) (n - 1 - l.length);have h4:=zI g (deep+1) (Ex.leftL e (deep+1) (n - 1 - l.length));refine Sm.leftG_bd b _ _ hbl (De.leftG_bd d _ _ hd.2 (El.leftG_bd f _ _ ?_));unfold Bd B50 at *;omega
theorem De.left_bd:∀(s:De) (deep n:Int),s.ok→0<n→n≤1000→Bd (s.left deep n)
 | .mk k o t nm e f b,deep,n,h,h0,h1=>by
  simp only[De.ok] at h;obtain ⟨hn,he,hf,hb,hbl⟩:=h;rw[De.left];have h2:=hn.1;have h3:=hf.1;have h4:=zI e (deep+1) (n - 1 - nm.length - f.length);refine Sm.leftG_bd b _ _ hbl ?_;unfold Bd B50 at *;omega
theorem De.leftG_bd:∀(l:List De) (deep n:Int),De.okL l→Bd n→Bd (De.leftG l deep n)
 | [],_,n,_,h=>h
 | x::l,deep,n,hk,h=>by
  simp only[De.okL] at hk;rw[De.leftG];split
  ·rename_i h0;exact De.leftG_bd l deep _ hk.2 (De.left_bd x deep n hk.1 h0 h.2)
  ·exact h
theorem Sm.leftG_bd:∀(l:List Sm) (deep n:Int),Sm.okL l→Bd n→Bd (Sm.leftG l deep n)
 | [],_,n,_,h=>h
 | x::l,deep,n,hk,h=>by
  simp only[Sm.okL] at hk;rw[Sm.leftG];split
  ·rename_i h0;exact Sm.leftG_bd l deep _ hk.2 (Sm.left_bd x deep n hk.1 h0 h.2)
  ·exact h
end
theorem El.leftG_neg{l:List El}{deep n:Int}(h:¬ 0<n):El.leftG l deep n=n:=by cases l <;> simp[El.leftG,h]
theorem De.leftG_neg{l:List De}{deep n:Int}(h:¬ 0<n):De.leftG l deep n=n:=by cases l <;> simp[De.leftG,h]
theorem Sm.leftG_neg{l:List Sm}{deep n:Int}(h:¬ 0<n):Sm.leftG l deep n=n:=by cases l <;> simp[Sm.leftG,h]
theorem De.left_eq(d:De)(deep n:Int):d.left deep n=Sm.leftG d.body (deep+1) (Ex.leftL d.exps (deep+1) (n - 1 - d.names.length - d.formals.length)):=by cases d;rw[De.left];rfl
theorem Sm.left_eq(s:Sm)(deep n:Int):s.left deep n=if deep > 30 then 0 else
 Sm.leftG s.body (deep+1) (De.leftG s.decls deep (El.leftG s.elems deep (Ex.leftL s.targets (deep+1) (Ex.leftL s.exps (deep+1) (n - 1 - s.labels.length))))):=by cases s;rw[Sm.left];rfl
theorem qmH:∀(k:Nat) (s:Sm),SizeOf.sizeOf s≤k→s.ok→∀deep n:Int,0≤deep→deep≤1000→0<n→n≤1000→∀S,Fn prog 52 [s.v,.int .i64 deep,.int .i64 n] S (.int .i64 (s.left deep n)):=by
 intro k
 induction k with
 | zero=>intro s h;cases s;simp at h
 | succ k ih=>
  intro s hsz hok deep n hd0 hd1 hn0 hn1;have O:=(Sm.ok_iff s).1 hok;refine Pu.ib func52 ok52 (by simp[c52]) (by simp[V.under]) rfl ?_;have hl:=O.labels.1;rw[Sm.left_eq];by_cases hd:deep > 30
  ·simp[c52,qw,ldS,show (30:Int)<deep from hd];exact qa rfl rfl rfl
  have e1:IntKind.i64.wrap (n - 1)=n - 1:=qy (by omega) (by omega);have e2:IntKind.i64.wrap (n - 1 - s.labels.length)=n - 1 - s.labels.length:=qy (by unfold B50 at hl;omega) (by omega);have e3:IntKind.i64.wrap (deep+1)=deep+1:=qy (by omega) (by omega);have b1:=zI s.exps (deep+1) (n - 1 - s.labels.length);have b2:=zI s.targets (deep+1) (Ex.leftL s.exps (deep+1) (n - 1 - s.labels.length));simp[c52,qw,ldS,show ¬ (30:Int)<deep from hd,e1,e2,e3];refine zt (qdd _ s.exps (qp0 _) O.exps.1 O.exps.2 (deep+1) (n - 1 - s.labels.length) (by omega) (by omega) (by unfold B50 at hl;omega) (by omega) _) ?_;simp;refine zt (qdd _ s.targets (qp0 _) O.targets.1 O.targets.2 (deep+1) _ (by omega) (by omega) (by unfold B50 at hl;omega) (by omega) _) ?_;simp[Qd,zA,zK,ldS];generalize hm0:Ex.leftL s.targets (deep+1) (Ex.leftL s.exps (deep+1) (n - 1 - s.labels.length))=m0 at b2 ⊢;have B0:Bd m0:=by unfold Bd;unfold B50 at hl;omega
  have B1:=El.leftG_bd s.elems deep m0 B0;have B2:=De.leftG_bd s.decls deep _ O.decls.2 B1;have l1:=O.elems.1;have l2:=O.decls.1;have l3:=O.body.1;unfold B50 at l1 l2 l3;refine qE (fun e S=>e.get 2=some (.int .i64 (El.leftG s.elems deep m0))∧e.get 3=some (.ptr 0 0 0 1)∧e.get 1=some (.int .i64 deep)∧e.get 6=some (.int .i64 0)∧S=[.arr [s.v] 8 1]) ?_ ?_
  ·refine qq (fun j e S'=>∃(i:Nat) (m:Int),j=s.elems.length - i∧i≤s.elems.length∧El.leftG (s.elems.drop i) deep m=El.leftG s.elems deep m0∧Bd m∧S'=[.arr [s.v] 8 1]∧
    e=[(7,.int .i64 i),(2,.int .i64 m),(3,.ptr 0 0 0 1),(1,.int .i64 deep),(6,.int .i64 0)]) s.elems.length _ ?_ ⟨0,m0,by simp,by omega,rfl,B0,rfl,rfl⟩ ?_
   ·exact Env.so (by simp)
   rintro j e S' ⟨i,m,rfl,hi,hm,hB,rfl,rfl⟩;by_cases h:i<s.elems.length
   ·by_cases h0:0<m
    ·have hB':=hB;unfold Bd at hB';have b3:=zI s.elems[i].exps (deep+1) (m - 1);have o3:=O.elems.2 _ (qp5 h);have hx:=qdd _ s.elems[i].exps (qp0 _) o3.1 o3.2 (deep+1) (m - 1) (by omega) (by omega) (by omega) (by omega);simp[h,h0,ldS,qnk,e3,qy (n:=m - 1) (by omega) (by omega)];refine qj (hx _) ?_;simp[qO (n:=(i:Int)+1)];refine ⟨_,?_,_,?_,i+1,rfl,by omega,Ex.leftL s.elems[i].exps (deep+1) (m - 1),?_,?_,rfl⟩
     ·omega
     ·repeat' first|exact Env.sub_nil _|refine Env.sub_cons (by simp;rfl) ?_|refine Env.sub_cons (by simp) ?_
     ·rw[←hm,Zf h,El.leftG,if_pos h0]
     ·unfold Bd;omega
    ·simp[h,h0,ldS];rw[←hm,El.leftG_neg h0]
   ·simp[h,ldS];rw[←hm,qrn (by omega)];rfl
  rintro e S ⟨g2,g3,g1,g6,rfl⟩;generalize hm1:El.leftG s.elems deep m0=m1 at *;simp[g1,g2,g3];refine qE (fun e S=>e.get 2=some (.int .i64 (De.leftG s.decls deep m1))∧e.get 3=some (.ptr 0 0 0 1)∧e.get 1=some (.int .i64 deep)∧e.get 6=some (.int .i64 0)∧S[0]?=some (.arr [s.v] 8 1)) ?_ ?_
  ·refine qq (fun j e S'=>∃(i:Nat) (m:Int),j=s.decls.length - i∧i≤s.decls.length∧De.leftG (s.decls.drop i) deep m=De.leftG s.decls deep m1∧Bd m∧S'[0]?=some (.arr [s.v] 8 1)∧
    e=[(8,.int .i64 i),(2,.int .i64 m),(3,.ptr 0 0 0 1),(1,.int .i64 deep),(6,.int .i64 0)]) s.decls.length _ ?_ ⟨0,m1,by simp,by omega,rfl,B1,rfl,rfl⟩ ?_
   ·repeat' first|exact Env.sub_nil _|refine Env.sub_cons (by simp[g1,g2,g3,g6]) ?_
   rintro j e S' ⟨i,m,rfl,hi,hm,hB,hz,rfl⟩;by_cases h:i<s.decls.length
   ·by_cases h0:0<m
    ·have hB':=hB;unfold Bd at hB';have o3:=(De.ok_iff _).1 (De.okL_mem O.decls.2 _ (qp5 h));have lt3:=qoF h;generalize hdd:s.decls[i]=d at *;have q1:=o3.names.1;have q2:=o3.formals.1;have q3:=o3.body.1;unfold B50 at q1 q2 q3;have b3:=zI d.exps (deep+1) (m - 1 - d.names.length - d.formals.length);have hx:=qdd _ d.exps (qp0 _) o3.exps.1 o3.exps.2 (deep+1) (m - 1 - d.names.length - d.formals.length) (by omega) (by omega) (by omega) (by omega);have w1:IntKind.i64.wrap (m - 1)=m - 1:=qy (by omega) (by omega);have w2:IntKind.i64.wrap (m - 1 - d.names.length)=m - 1 - d.names.length:=qy (by omega) (by omega);have w3:IntKind.i64.wrap (m - 1 - d.names.length - d.formals.length)=m - 1 - d.names.length - d.formals.length:=qy (by omega) (by omega);have B3:Bd (Ex.leftL d.exps (deep+1) (m - 1 - d.names.length - d.formals.length)):=by unfold Bd;omega
     have hnext:De.leftG (s.decls.drop (i+1)) deep (d.left deep m)=De.leftG s.decls deep m1:=by rw[←hm,Zf h,De.leftG,if_pos h0,hdd]
     rw[De.left_eq] at hnext;have B4:=Sm.leftG_bd d.body (deep+1) _ o3.body.2 B3;simp[h,h0,hz,ldS,qjS,hdd,qw,stS,zO,e3,w1,w2,w3];refine qj (hx _) ?_;generalize Ex.leftL d.exps (deep+1) (m - 1 - d.names.length - d.formals.length)=m2 at *;simp;refine qE (fun e U=>e.get 2=some (.int .i64 (Sm.leftG d.body (deep+1) m2))∧e.get 3=some (.ptr 0 0 0 1)∧e.get 1=some (.int .i64 deep)∧e.get 6=some (.int .i64 0)∧e.get 8=some (.int .i64 i)∧U[0]?=some (.arr [s.v] 8 1)) ?_ ?_
     ·have hz':(S'++[Ob.arr [d.v] 7 1])[0]?=some (.arr [s.v] 8 1):=by rw[qpY (qpU.1 hz).1];exact hz
      have hd':(S'++[Ob.arr [d.v] 7 1])[S'.length]?=some (.arr [d.v] 7 1):=by simp
      generalize S'++[Ob.arr [d.v] 7 1]=U at *;generalize S'.length=L at *;refine qq (fun j e S'=>∃(r:Nat) (q:Int),j=d.body.length - r∧r≤d.body.length∧Sm.leftG (d.body.drop r) (deep+1) q=Sm.leftG d.body (deep+1) m2∧Bd q∧S'=U∧
       e=[(10,.int .i64 r),(9,.ptr L 0 0 1),(8,.int .i64 i),(2,.int .i64 q),(3,.ptr 0 0 0 1),(1,.int .i64 deep),(6,.int .i64 0)]) d.body.length _ ?_ ⟨0,m2,by simp,by omega,rfl,B3,rfl,rfl⟩ ?_
      ·exact Env.so (by simp)
      rintro j e S' ⟨r,q,rfl,hr,hq,hBq,rfl,rfl⟩;by_cases g:r<d.body.length
      ·by_cases g0:0<q
       ·have hBq':=hBq;unfold Bd at hBq';have lt4:SizeOf.sizeOf d.body[r]<SizeOf.sizeOf d:=qjw g;have ok4:=Sm.okL_mem o3.body.2 _ (qp5 g);have hy:=ih d.body[r] (by omega) ok4 (deep+1) q (by omega) (by omega) g0 (by omega) S';have B5:=Sm.left_bd d.body[r] (deep+1) q ok4 g0 hBq'.2;simp[g,g0,hz',hd',ldS,qhg,e3];refine qj hy ?_;simp[qO (n:=(r:Int)+1)];refine ⟨_,?_,_,?_,r+1,rfl,by omega,d.body[r].left (deep+1) q,?_,B5,rfl⟩
        ·omega
        ·repeat' first|exact Env.sub_nil _|refine Env.sub_cons (by simp;rfl) ?_|refine Env.sub_cons (by simp) ?_
        ·rw[←hq,Zf g,Sm.leftG,if_pos g0]
       ·simp[g,g0,hz',hd',ldS];rw[←hq,Sm.leftG_neg g0]
      ·simp[g,hz',hd',ldS];rw[←hq,qrn (by omega)];rfl
     ·rintro e U ⟨f2,f3,f1,f6,f8,fz⟩;simp[f8,qO (n:=(i:Int)+1)];refine ⟨_,?_,_,?_,i+1,rfl,by omega,Sm.leftG d.body (deep+1) m2,hnext,B4,fz,rfl⟩
      ·omega
      ·repeat' first|exact Env.sub_nil _|refine Env.sub_cons (by simp[f1,f2,f3,f6];try rfl) ?_
    ·simp[h,h0,hz,ldS];rw[←hm,De.leftG_neg h0]
   ·simp[h,hz,ldS];rw[←hm,qrn (by omega)];rfl
  clear g1 g2 g3 g6;rintro e S ⟨g2,g3,g1,g6,hz⟩;generalize hm2:De.leftG s.decls deep m1=m2 at *;simp[g1,g2,g3];refine qE (fun e S=>e.get 2=some (.int .i64 (Sm.leftG s.body (deep+1) m2))) ?_ ?_
  ·refine qq (fun j e S'=>∃(r:Nat) (q:Int),j=s.body.length - r∧r≤s.body.length∧Sm.leftG (s.body.drop r) (deep+1) q=Sm.leftG s.body (deep+1) m2∧Bd q∧S'=S∧
    e=[(11,.int .i64 r),(2,.int .i64 q),(3,.ptr 0 0 0 1),(1,.int .i64 deep),(6,.int .i64 0)]) s.body.length _ ?_ ⟨0,m2,by simp,by omega,rfl,B2,rfl,rfl⟩ ?_
   ·repeat' first|exact Env.sub_nil _|refine Env.sub_cons (by simp[g1,g2,g3,g6]) ?_
   rintro j e S' ⟨r,q,rfl,hr,hq,hBq,rfl,rfl⟩;by_cases g:r<s.body.length
   ·by_cases g0:0<q
    ·have hBq':=hBq;unfold Bd at hBq';have lt4:SizeOf.sizeOf s.body[r]<SizeOf.sizeOf s:=qkw g;have ok4:=Sm.okL_mem O.body.2 _ (qp5 g);have hy:=ih s.body[r] (by omega) ok4 (deep+1) q (by omega) (by omega) g0 (by omega) S';have B5:=Sm.left_bd s.body[r] (deep+1) q ok4 g0 hBq'.2;simp[g,g0,hz,ldS,qhg,e3];refine qj hy ?_;simp[qO (n:=(r:Int)+1)];refine ⟨_,?_,_,?_,r+1,rfl,by omega,s.body[r].left (deep+1) q,?_,B5,rfl⟩
     ·omega
     ·repeat' first|exact Env.sub_nil _|refine Env.sub_cons (by simp;rfl) ?_|refine Env.sub_cons (by simp) ?_
     ·rw[←hq,Zf g,Sm.leftG,if_pos g0]
    ·simp[g,g0,hz,ldS];rw[←hq,Sm.leftG_neg g0]
   ·simp[g,hz,ldS];rw[←hq,qrn (by omega)];rfl
  ·rintro e S g;simp[g];exact qa (vs:=[.int .i64 (Sm.leftG s.body (deep+1) m2)]) (by simp) rfl rfl
def Sm.light(s:Sm):Bool:=decide (0<s.left 0 150)
theorem qnW(s:Sm)(hok:s.ok):∀S,Fn prog 17 [s.v] S (.bool s.light):=by
 refine Pu.ib func17 ok17 (by simp[c17]) (by simp[V.under]) rfl ?_;simp[c17,qw,ldS];refine qj (qmH _ s (qp0 _) hok 0 150 (by omega) (by omega) (by omega) (by omega) _) ?_;simp;exact qa rfl rfl rfl
mutual
theorem Ex.v_weak:∀x:Ex,x.v.weak=x.v
 | .mk k o n m e t a=>by simp only[Ex.v,V.weak,V.weakL,Ex.vl_weak a]
theorem Ex.vl_weak:∀l:List Ex,V.weakL (Ex.vl l)=Ex.vl l
 | []=>rfl
 | x::l=>by simp only[Ex.vl,V.weakL,Ex.v_weak x,Ex.vl_weak l]
end
theorem QY{α:Type}{f:α→V}(h:∀x,(f x).weak=f x)(l:List α):V.weakL (l.map f)=l.map f:=by
 rw[qM,qrJ];exact qqX fun x _=>h x
theorem wEx(l:List Ex):V.weakL (l.map Ex.v)=l.map Ex.v:=QY Ex.v_weak l
theorem El.v_weak(e:El):e.v.weak=e.v:=by simp only[El.v,V.weak,V.weakL,wEx]
theorem Fo.v_weak(e:Fo):e.v.weak=e.v:=rfl
theorem wEl(l:List El):V.weakL (l.map El.v)=l.map El.v:=QY El.v_weak l
theorem wFo(l:List Fo):V.weakL (l.map Fo.v)=l.map Fo.v:=QY Fo.v_weak l
theorem kx(l:List Bz):V.weakL (l.map .str)=l.map .str:=QY (fun _=>rfl) l
mutual
theorem De.v_weak:∀x:De,x.v.weak=x.v
 | .mk k o t n e f b=>by simp only[De.v,V.weak,V.weakL,wEx,wFo,kx,Sm.vl_weak b]
theorem Sm.v_weak:∀x:Sm,x.v.weak=x.v
 | .mk l k t g e f d b=>by simp only[Sm.v,V.weak,V.weakL,wEx,wEl,kx,De.vl_weak d,Sm.vl_weak b]
theorem De.vl_weak:∀l:List De,V.weakL (De.vl l)=De.vl l
 | []=>rfl
 | x::l=>by simp only[De.vl,V.weakL,De.v_weak x,De.vl_weak l]
theorem Sm.vl_weak:∀l:List Sm,V.weakL (Sm.vl l)=Sm.vl l
 | []=>rfl
 | x::l=>by simp only[Sm.vl,V.weakL,Sm.v_weak x,Sm.vl_weak l]
end
theorem wDe(l:List De):V.weakL (l.map De.v)=l.map De.v:=QY De.v_weak l
theorem wSm(l:List Sm):V.weakL (l.map Sm.v)=l.map Sm.v:=QY Sm.v_weak l
theorem qcI(k:Int)(s:Sm)(d:De)(e:El)(x:Ex):(paV k s d e x).weak=paV k s d e x:=by
 simp only[paV,Sm.cs,De.cs,El.cs,Ex.cs,qp7,qqn,V.weak,V.weakL,wEx,wEl,wFo,kx,wDe,wSm]
theorem Pa.v_weak(p:Pa):p.v.weak=p.v:=qcI _ _ _ _ _
attribute [simp] Ex.v_weak El.v_weak Fo.v_weak De.v_weak Sm.v_weak wEx wEl wFo kx wDe wSm qcI Pa.v_weak qbi Pa.v_under
theorem qgU(s:Sm):∀S,Fn prog 101 [s.v] S (Pa.st s).v:=by
 refine Pu.intro (R:=fun v=>v=(Pa.st s).v) func101 ok101 (by simp[c101]) (by simp[V.under]) (by rintro v rfl;simp) ?_;simp[c101,qw,ldS,stS,zO,qh,ql];refine Qh rfl ?_ ?_
 ·simp only[qo,V.weak,V.weakL,wEx,wEl,wFo,kx,wDe,wSm];rfl
 ·simp[qo,V.weak,V.weakL,V.under,V.underL]
theorem qla(s:Ex):∀S,Fn prog 142 [s.v] S (Pa.ex s).v:=by
 refine Pu.intro (R:=fun v=>v=(Pa.ex s).v) func142 ok142 (by simp[c142]) (by simp[V.under]) (by rintro v rfl;simp) ?_;simp[c142,qw,ldS,stS,zO,qh,ql];refine Qh rfl ?_ ?_
 ·simp only[qo,V.weak,V.weakL,wEx,wEl,wFo,kx,wDe,wSm];rfl
 ·simp[qo,V.weak,V.weakL,V.under,V.underL]
theorem qlN(s:De):∀S,Fn prog 168 [s.v] S (Pa.de s).v:=by
 refine Pu.intro (R:=fun v=>v=(Pa.de s).v) func168 ok168 (by simp[c168]) (by simp[V.under]) (by rintro v rfl;simp) ?_;simp[c168,qw,ldS,stS,zO,qh,ql];refine Qh rfl ?_ ?_
 ·simp only[qo,V.weak,V.weakL,wEx,wEl,wFo,kx,wDe,wSm];rfl
 ·simp[qo,V.weak,V.weakL,V.under,V.underL]
theorem qj9(s:El):∀S,Fn prog 205 [s.v] S (Pa.el s).v:=by
 refine Pu.intro (R:=fun v=>v=(Pa.el s).v) func205 ok205 (by simp[c205]) (by simp[V.under]) (by rintro v rfl;simp) ?_;simp[c205,qw,ldS,stS,zO,qh,ql];refine Qh rfl ?_ ?_
 ·simp only[qo,V.weak,V.weakL,wEx,wEl,wFo,kx,wDe,wSm];rfl
 ·simp[qo,V.weak,V.weakL,V.under,V.underL]
theorem qlq(p:Pa)(hp:p.ok):∀S,Fn prog 178 [p.v] S (.int .i64 p.own):=by
 refine Pu.ib func178 ok178 (by simp[c178]) (by simp[V.under]) rfl ?_;have h1:=Pa.own_le hp;unfold B50 at h1
 cases p with
 | st s=>
  simp only[Pa.own] at h1;simp[c178,qw,ldS,Pa.v,Pa.kind,Pa.toS,Pa.own,qy (n:=1+(s.labels.length:Int)) (by omega) (by omega)];exact qa rfl rfl rfl
 | de d=>
  simp only[Pa.own] at h1;simp[c178,qw,ldS,Pa.v,Pa.kind,Pa.toD,Pa.own,qy (n:=1+(d.names.length:Int)) (by omega) (by omega),qy (n:=1+(d.names.length:Int)+d.formals.length) (by omega) (by omega)];exact qa rfl rfl rfl
 | el e=>
  simp[c178,qw,ldS,Pa.v,Pa.kind,Pa.own];exact qa rfl rfl rfl
 | ex x=>
  simp[c178,qw,ldS,Pa.v,Pa.kind,Pa.own];exact qa rfl rfl rfl
theorem Pa.v_flat(p:Pa):p.v.cells.all V.flat=true:=rfl
theorem qgp(p:Pa)(S:St):qB prog 179 [p.v] S (fun v U=>v=.fn (.func 202) [] [.ptr S.length 0 0 1]∧U=S++[.arr [p.v] 25 1]):=by
 refine qB.ib func179 ok179 ?_;simp[c179,qjO (Pa.v_flat p) (by rw[Pa.v_size];omega),Pa.v_size];exact qi rfl ⟨rfl,rfl⟩
theorem jh(l:List Ex)(hl:l.length≤B50)(y:Nat)(S:St)(J:Nat→St→Prop)(D:St→Prop)(M:Np)(hM:∀x,M x→x<S.length)(hJ:∀i U o,J i U→J i (U++[o]))(hD:∀U o,D U→D (U++[o]))
  (hy:∀i x,l[i]?=some x→∀U,J i U→Kp M S U→yh prog y [(Pa.ex x).v] U (fun v U'=>Kp M U U'∧((v=.bool true∧J (i+1) U')∨(v=.bool false∧D U')))) (h0:J 0 S):
  qB prog 203 [.sl false (l.map Ex.v),.fn (.func 142) [] [],.yld y] S (fun v U=>Kp M S U∧((v=.bool true∧J l.length U)∨(v=.bool false∧D U))):=by
 unfold B50 at hl;refine qB.ib func203 ok203 ?_;simp[c203];refine qq (fun j e S'=>∃i:Nat,j=l.length - i∧i≤l.length∧J i S'∧Kp M S S'∧
  e=[(11,.int .i64 i),(10,.int .i64 l.length),(9,.sl false (l.map Ex.v)),(1,.fn (.func 142) [] []),(2,.yld y)]) l.length _ ?_ ⟨0,by simp,by omega,h0,Kp.refl _ _,rfl⟩ ?_
 ·exact Env.so (by simp)
 rintro j e S' ⟨i,rfl,hi,hj,hk,rfl⟩;by_cases h:i<l.length
 ·simp[h,qht,qw,stS,zO,ldS];refine qj (qla l[i] _) ?_;simp;refine qi1 (hy i l[i] (by simp[h]) _ (hJ _ _ _ hj) (hk.push _)) ?_;rintro v U' ⟨hk',⟨rfl,hj'⟩|⟨rfl,hd'⟩⟩
  ·simp[qO (n:=(i:Int)+1)];refine ⟨_,?_,_,?_,i+1,rfl,by omega,hj',(hk.push _).trans hk',rfl⟩
   ·omega
   ·exact Env.so (by simp)
  ·simp;exact qi rfl ⟨(hk.push _).trans hk',.inr ⟨rfl,hd'⟩⟩
 ·simp[h];have:i=l.length:=by omega
  subst this;exact qi rfl ⟨hk,.inl ⟨rfl,hj⟩⟩
theorem qkP(l:List El)(hl:l.length≤B50)(y:Nat)(S:St)(J:Nat→St→Prop)(D:St→Prop)(M:Np)(hM:∀x,M x→x<S.length)(hJ:∀i U o,J i U→J i (U++[o]))(hD:∀U o,D U→D (U++[o]))
  (hy:∀i x,l[i]?=some x→∀U,J i U→Kp M S U→yh prog y [(Pa.el x).v] U (fun v U'=>Kp M U U'∧((v=.bool true∧J (i+1) U')∨(v=.bool false∧D U')))) (h0:J 0 S):
  qB prog 204 [.sl false (l.map El.v),.fn (.func 205) [] [],.yld y] S (fun v U=>Kp M S U∧((v=.bool true∧J l.length U)∨(v=.bool false∧D U))):=by
 unfold B50 at hl;refine qB.ib func204 ok204 ?_;simp[c204];refine qq (fun j e S'=>∃i:Nat,j=l.length - i∧i≤l.length∧J i S'∧Kp M S S'∧
  e=[(11,.int .i64 i),(10,.int .i64 l.length),(9,.sl false (l.map El.v)),(1,.fn (.func 205) [] []),(2,.yld y)]) l.length _ ?_ ⟨0,by simp,by omega,h0,Kp.refl _ _,rfl⟩ ?_
 ·exact Env.so (by simp)
 rintro j e S' ⟨i,rfl,hi,hj,hk,rfl⟩;by_cases h:i<l.length
 ·simp[h,qnk,qw,stS,zO,ldS];refine qj (qj9 l[i] _) ?_;simp;refine qi1 (hy i l[i] (by simp[h]) _ (hJ _ _ _ hj) (hk.push _)) ?_;rintro v U' ⟨hk',⟨rfl,hj'⟩|⟨rfl,hd'⟩⟩
  ·simp[qO (n:=(i:Int)+1)];refine ⟨_,?_,_,?_,i+1,rfl,by omega,hj',(hk.push _).trans hk',rfl⟩
   ·omega
   ·exact Env.so (by simp)
  ·simp;exact qi rfl ⟨(hk.push _).trans hk',.inr ⟨rfl,hd'⟩⟩
 ·simp[h];have:i=l.length:=by omega
  subst this;exact qi rfl ⟨hk,.inl ⟨rfl,hj⟩⟩
theorem ql4(l:List De)(hl:l.length≤B50)(y:Nat)(S:St)(J:Nat→St→Prop)(D:St→Prop)(M:Np)(hM:∀x,M x→x<S.length)(hJ:∀i U o,J i U→J i (U++[o]))(hD:∀U o,D U→D (U++[o]))
  (hy:∀i x,l[i]?=some x→∀U,J i U→Kp M S U→yh prog y [(Pa.de x).v] U (fun v U'=>Kp M U U'∧((v=.bool true∧J (i+1) U')∨(v=.bool false∧D U')))) (h0:J 0 S):
  qB prog 206 [.sl false (l.map De.v),.fn (.func 168) [] [],.yld y] S (fun v U=>Kp M S U∧((v=.bool true∧J l.length U)∨(v=.bool false∧D U))):=by
 unfold B50 at hl;refine qB.ib func206 ok206 ?_;simp[c206];refine qq (fun j e S'=>∃i:Nat,j=l.length - i∧i≤l.length∧J i S'∧Kp M S S'∧
  e=[(11,.int .i64 i),(10,.int .i64 l.length),(9,.sl false (l.map De.v)),(1,.fn (.func 168) [] []),(2,.yld y)]) l.length _ ?_ ⟨0,by simp,by omega,h0,Kp.refl _ _,rfl⟩ ?_
 ·exact Env.so (by simp)
 rintro j e S' ⟨i,rfl,hi,hj,hk,rfl⟩;by_cases h:i<l.length
 ·simp[h,qjS,qw,stS,zO,ldS];refine qj (qlN l[i] _) ?_;simp;refine qi1 (hy i l[i] (by simp[h]) _ (hJ _ _ _ hj) (hk.push _)) ?_;rintro v U' ⟨hk',⟨rfl,hj'⟩|⟨rfl,hd'⟩⟩
  ·simp[qO (n:=(i:Int)+1)];refine ⟨_,?_,_,?_,i+1,rfl,by omega,hj',(hk.push _).trans hk',rfl⟩
   ·omega
   ·exact Env.so (by simp)
  ·simp;exact qi rfl ⟨(hk.push _).trans hk',.inr ⟨rfl,hd'⟩⟩
 ·simp[h];have:i=l.length:=by omega
  subst this;exact qi rfl ⟨hk,.inl ⟨rfl,hj⟩⟩
theorem qfQ(l:List Sm)(hl:l.length≤B50)(y:Nat)(S:St)(J:Nat→St→Prop)(D:St→Prop)(M:Np)(hM:∀x,M x→x<S.length)(hJ:∀i U o,J i U→J i (U++[o]))(hD:∀U o,D U→D (U++[o]))
  (hy:∀i x,l[i]?=some x→∀U,J i U→Kp M S U→yh prog y [(Pa.st x).v] U (fun v U'=>Kp M U U'∧((v=.bool true∧J (i+1) U')∨(v=.bool false∧D U')))) (h0:J 0 S):
  qB prog 207 [.sl false (l.map Sm.v),.fn (.func 101) [] [],.yld y] S (fun v U=>Kp M S U∧((v=.bool true∧J l.length U)∨(v=.bool false∧D U))):=by
 unfold B50 at hl;refine qB.ib func207 ok207 ?_;simp[c207];refine qq (fun j e S'=>∃i:Nat,j=l.length - i∧i≤l.length∧J i S'∧Kp M S S'∧
  e=[(11,.int .i64 i),(10,.int .i64 l.length),(9,.sl false (l.map Sm.v)),(1,.fn (.func 101) [] []),(2,.yld y)]) l.length _ ?_ ⟨0,by simp,by omega,h0,Kp.refl _ _,rfl⟩ ?_
 ·exact Env.so (by simp)
 rintro j e S' ⟨i,rfl,hi,hj,hk,rfl⟩;by_cases h:i<l.length
 ·simp[h,qhg,qw,stS,zO,ldS];refine qj (qgU l[i] _) ?_;simp;refine qi1 (hy i l[i] (by simp[h]) _ (hJ _ _ _ hj) (hk.push _)) ?_;rintro v U' ⟨hk',⟨rfl,hj'⟩|⟨rfl,hd'⟩⟩
  ·simp[qO (n:=(i:Int)+1)];refine ⟨_,?_,_,?_,i+1,rfl,by omega,hj',(hk.push _).trans hk',rfl⟩
   ·omega
   ·exact Env.so (by simp)
  ·simp;exact qi rfl ⟨(hk.push _).trans hk',.inr ⟨rfl,hd'⟩⟩
 ·simp[h];have:i=l.length:=by omega
  subst this;exact qi rfl ⟨hk,.inl ⟨rfl,hj⟩⟩
theorem ZA(p:Pa):p.kids.length=match p with
 | .st s=>s.targets.length+(s.exps.length+(s.elems.length+(s.decls.length+s.body.length)))
 | .de d=>d.exps.length+d.body.length
 | .el e=>e.exps.length
 | .ex x=>x.args.length:=by cases p <;> simp[Pa.kids]
theorem qbh(p:Pa)(hp:p.ok)(c:Nat):qi7 prog 202 [] [.ptr c 0 0 1] (p.kids.map fun q=>[q.v]) (fun U=>U[c]?=some (.arr [p.v] 25 1)):=by
 intro S l J D M hM hcap hJ hD _ _ hy h0;have hc:=hcap _ _ h0;have hyk:∀i q,p.kids[i]?=some q→∀U,J i U→Kp M S U→yh prog l [q.v] U (fun v U'=>Kp M U U'∧((v=.bool true∧J (i+1) U')∨(v=.bool false∧D U'))):=fun i q hq=>hy i [q.v] (by simp[hq])
 clear hy;simp only[qp2,qqn,qp7];have hlt:c<S.length:=(qpU.1 hc).1;refine qB.ib func202 ok202 ?_
 cases p with
 | el e=>
  have o:=hp;have hA:=jh e.exps o.1 l S J D M hM hJ hD (fun i x hx=>hyk i (.ex x) (by simp[Pa.kids,hx])) h0;simp[c202,ldS,hc,Pa.v,Pa.kind,Pa.toE];refine qm hA ?_;rintro v U ⟨hk,⟨rfl,hj⟩|⟨rfl,hd⟩⟩
  ·simp;exact qI rfl ⟨hk,.inl (by simpa[Pa.kids] using hj)⟩
  ·simp;exact qI rfl ⟨hk,.inr hd⟩
 | ex e=>
  have o:=Ex.ok_args hp;have hA:=jh e.args o.1 l S J D M hM hJ hD (fun i x hx=>hyk i (.ex x) (by simp[Pa.kids,hx])) h0;simp[c202,ldS,hc,Pa.v,Pa.kind,Pa.toX];refine qm hA ?_;rintro v U ⟨hk,⟨rfl,hj⟩|⟨rfl,hd⟩⟩
  ·simp;exact qI rfl ⟨hk,.inl (by simpa[Pa.kids] using hj)⟩
  ·simp;exact qI rfl ⟨hk,.inr hd⟩
 | de d=>
  have o:=(De.ok_iff d).1 hp;have hA:=jh d.exps o.exps.1 l S J D M hM hJ hD (fun i x hx=>hyk i (.ex x) (by simp only[Pa.kids];rw[qpY (by simpa using (qpU.1 hx).1)];simp[hx])) h0;simp[c202,ldS,hc,Pa.v,Pa.kind,Pa.toD];refine qm hA ?_;rintro v U ⟨hk,⟨rfl,hj⟩|⟨rfl,hd⟩⟩
  ·have hc':=hcap _ _ hj;have hB:=qfQ d.body o.body.1 l U (fun i=>J (d.exps.length+i)) D M (fun x hx=>qqC (hM x hx) hk.len) (fun i U o=>hJ _ U o) hD
    (fun i x hx U' hj' hk'=>hyk (d.exps.length+i) (.st x) (by simp only[Pa.kids];rw[qpV (by simp)];simp[hx]) U' hj' (hk.trans hk')) hj
   simp[ldS,hc',Pa.v,Pa.kind,Pa.toD];refine qm hB ?_;rintro v U' ⟨hk',⟨rfl,hj'⟩|⟨rfl,hd'⟩⟩
   ·simp;exact qI rfl ⟨hk.trans hk',.inl (by simpa[Pa.kids] using hj')⟩
   ·simp;exact qI rfl ⟨hk.trans hk',.inr hd'⟩
  ·simp;exact qI rfl ⟨hk,.inr hd⟩
 | st s=>
  have o:=(Sm.ok_iff s).1 hp
  have g1:∀(i:Nat) x,s.targets[i]?=some x→(Pa.st s).kids[i]?=some (.ex x):=fun i x hx=>by
   simp only[Pa.kids];rw[qpY (by simpa using (qpU.1 hx).1)];simp[hx]
  have g2:∀(i:Nat) x,s.exps[i]?=some x→(Pa.st s).kids[s.targets.length+i]?=some (.ex x):=fun i x hx=>by
   simp only[Pa.kids];rw[qpV (by simp),qpY (by simpa using (qpU.1 hx).1)];simp[hx]
  have g3:∀(i:Nat) x,s.elems[i]?=some x→(Pa.st s).kids[s.targets.length+s.exps.length+i]?=some (.el x):=fun i x hx=>by
   simp only[Pa.kids];rw[qpV (by simp;omega),qpV (by simp;omega),qpY (by have:=(qpU.1 hx).1;simp;omega)];simp[show s.targets.length+s.exps.length+i - s.targets.length - s.exps.length=i by omega,hx]
  have g4:∀(i:Nat) x,s.decls[i]?=some x→(Pa.st s).kids[s.targets.length+s.exps.length+s.elems.length+i]?=some (.de x):=fun i x hx=>by
   simp only[Pa.kids];rw[qpV (by simp;omega),qpV (by simp;omega),qpV (by simp;omega),qpY (by have:=(qpU.1 hx).1;simp;omega)];simp[show s.targets.length+s.exps.length+s.elems.length+i - s.targets.length - s.exps.length - s.elems.length=i by omega,hx]
  have g5:∀(i:Nat) x,s.body[i]?=some x→(Pa.st s).kids[s.targets.length+s.exps.length+s.elems.length+s.decls.length+i]?=some (.st x):=fun i x hx=>by
   simp only[Pa.kids];rw[qpV (by simp;omega),qpV (by simp;omega),qpV (by simp;omega),qpV (by simp;omega)];simp[show s.targets.length+s.exps.length+s.elems.length+s.decls.length+i - s.targets.length - s.exps.length - s.elems.length - s.decls.length=i by omega,hx]
  have S1k:Kp M S (S++[.arr [s.v] 8 1]):=(Kp.refl _ _).push _;have hA:=jh s.targets o.targets.1 l (S++[.arr [s.v] 8 1]) J D M (fun x hx=>by have:=hM x hx;simp;omega) hJ hD (fun i x hx U hj hk=>hyk i (.ex x) (g1 i x hx) U hj (S1k.trans hk)) (hJ _ _ _ h0);have hs:(S++[Ob.arr [s.v] 8 1])[S.length]?=some (.arr [s.v] 8 1):=by simp
  have nM:¬ M S.length:=fun h=>by have:=hM _ h;omega
  simp[c202,ldS,hc,Pa.v,Pa.kind,Pa.toS,qw,stS,zO];refine qm hA ?_;rintro v U1 ⟨k1,⟨rfl,j1⟩|⟨rfl,hd⟩⟩
  ·have hs1:=k1.at hs nM;have k1':=S1k.trans k1;have hB:=jh s.exps o.exps.1 l U1 (fun i=>J (s.targets.length+i)) D M (fun x hx=>qqC (hM x hx) k1'.len) (fun i U o=>hJ _ U o) hD (fun i x hx U' hj' hk'=>hyk _ (.ex x) (g2 i x hx) U' hj' (k1'.trans hk')) j1;simp[ldS,hs1];refine qm hB ?_;rintro v U2 ⟨k2,⟨rfl,j2⟩|⟨rfl,hd⟩⟩
   ·have hs2:=k2.at hs1 nM;have k2':=k1'.trans k2;have hC:=qkP s.elems o.elems.1 l U2 (fun i=>J (s.targets.length+s.exps.length+i)) D M (fun x hx=>qqC (hM x hx) k2'.len) (fun i U o=>hJ _ U o) hD (fun i x hx U' hj' hk'=>hyk _ (.el x) (g3 i x hx) U' hj' (k2'.trans hk')) j2;simp[ldS,hs2];refine qm hC ?_;rintro v U3 ⟨k3,⟨rfl,j3⟩|⟨rfl,hd⟩⟩
    ·have hs3:=k3.at hs2 nM;have k3':=k2'.trans k3;have hE:=ql4 s.decls o.decls.1 l U3 (fun i=>J (s.targets.length+s.exps.length+s.elems.length+i)) D M (fun x hx=>qqC (hM x hx) k3'.len) (fun i U o=>hJ _ U o) hD (fun i x hx U' hj' hk'=>hyk _ (.de x) (g4 i x hx) U' hj' (k3'.trans hk')) j3;simp[ldS,hs3];refine qm hE ?_;rintro v U4 ⟨k4,⟨rfl,j4⟩|⟨rfl,hd⟩⟩
     ·have hs4:=k4.at hs3 nM;have k4':=k3'.trans k4;have hF:=qfQ s.body o.body.1 l U4 (fun i=>J (s.targets.length+s.exps.length+s.elems.length+s.decls.length+i)) D M (fun x hx=>qqC (hM x hx) k4'.len) (fun i U o=>hJ _ U o) hD (fun i x hx U' hj' hk'=>hyk _ (.st x) (g5 i x hx) U' hj' (k4'.trans hk')) j4;simp[ldS,hs4];refine qm hF ?_;rintro v U5 ⟨k5,⟨rfl,j5⟩|⟨rfl,hd⟩⟩
      ·simp;refine qI rfl ⟨k4'.trans k5,.inl ?_⟩;rw[ZA];simpa[qqK] using j5
      ·simp;exact qI rfl ⟨k4'.trans k5,.inr hd⟩
     ·simp;exact qI rfl ⟨k3'.trans k4,.inr hd⟩
    ·simp;exact qI rfl ⟨k2'.trans k3,.inr hd⟩
   ·simp;exact qI rfl ⟨k1'.trans k2,.inr hd⟩
  ·simp;exact qI rfl ⟨S1k.trans k1,.inr hd⟩
end Go.Proofs.YtbifpocccfkhhaaGreatDoor
end
