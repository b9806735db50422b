/- A part. -/
import Derived.Test.YtbifpocccfkhhaaGreatDoorUb
import Derived.Deep.LoopGhost
import Derived.OrdersIn
set_option linter.all false
namespace Go.Proofs.YtbifpocccfkhhaaGreatDoor
open Go
structure O' where
 dst:Option Nat
 g:Option (Nat×Bool)
 k:K
 deriving Inhabited
def qdU(N:Nat):Option Nat→Bool
 | none=>true
 | some d=>decide (d<N)
def zM(P:Program)(N:Nat)(ops:Array Oper)(o:Oper):Option O':=
 match yj P o with
 | none=>none
 | some k=>if qdU N o.dst=true then
   match o.guard with
   | none=>some ⟨o.dst,none,k⟩
   | some (j,want)=>match (ops[j]?).bind (·.dst) with
    | some t=>some ⟨o.dst,some (t,want),k⟩
    | none=>none
  else none
def VRs(E:En)(args:List V)(us:Array Value):Prop:=args.length=us.size∧∀(i:Nat) (v:V) (u:Value),args[i]?=some v→us[i]?=some u→VR E v u
def qv(P:Program)(f:FuncId)(args:List V)(S:St)(R:V→St→Prop):Prop:=
 (∀as w,(callFunc f as).run P w=.ok (.enter f as) w)∧
 ∀(E:En) (w:World) (us:Array Value) (n:Nat),SR E S w→VRs E args us→
  CallsIn Fence.wide n P f us w fun e w'=>∃u r E' S',e=.returned u∧R r S'∧VR E' r u∧SR E' S' w'∧Ext S.length E S w E' S' w'∧S.length≤S'.length
def yf(P:Program)(l:Nat)(args:List V)(S:St)(R:V→St→Prop):Prop:=
 ∀(E:En) (w:World) (us:Array Value) (n:Nat) (x:Blk),SR E S w→VRs E args us→E.ρ l 0=some x→
  ∃f tmps asg body,(Instr.yield x.b us).run P w=.ok (.round x.b f tmps asg body) w∧
   RoundIn Fence.wide n P x.b f tmps asg body w fun e w'=>∃u r E' S',e=.returned u∧R r S'∧VR E' r u∧SR E' S' w'∧Ext S.length E S w E' S' w'∧S.length≤S'.length
theorem qv.mono{P:Program}{f:FuncId}{args:List V}{S:St}{R R':V→St→Prop}(h:qv P f args S R)(hr:∀r S',R r S'→R' r S'):qv P f args S R':=
 ⟨h.1,fun E w us n hs hv=>(h.2 E w us n hs hv).mono fun e w' ⟨u,r,E',S',h1,h2,h3⟩=>⟨u,r,E',S',h1,hr _ _ h2,h3⟩⟩
def qR(e:Env):Option (Nat×Bool)→Option Bool
 | none=>some true
 | some (t,want)=>match e.get t with
  | some (.bool b)=>some (b==want)
  | some (.tup [])=>some false
  | _=>none
def yM(P:Program):List O'→(Env→St→Prop)→Env→St→Prop
 | [],Q,e,S=>Q e S
 | o::os,Q,e,S=>match qR e o.g with
  | none=>False
  | some false=>yM P os Q (e.put o.dst (.tup [])) S
  | some true=>match o.k with
   | .call f args=>match f.ev e,evs e args with
    | some (.fn (.func k) fs cs),some vs=>∃R,qv P k (fs++vs++cs) S R∧∀r S',R r S'→yM P os Q (e.put o.dst r) S'
    | some (.yld l),some vs=>∃R,yf P l vs S R∧∀r S',R r S'→yM P os Q (e.put o.dst r) S'
    | _,_=>False
   | k=>match evK e S k with
    | some (r,S')=>yM P os Q (e.put o.dst r) S'
    | none=>(ndK e k≠[]∧∀v,v∈ndK e k→yM P os Q (e.put o.dst v) S)∨(ndS e S k≠[]∧∀q,q∈ndS e S k→yM P os Q (e.put o.dst q.1) q.2)
abbrev yH:=Exit→Env→St→Prop
def Env.sub(e' e:Env):Prop:=∀t v,e'.get t=some v→e.get t=some v
def yO(ro:Option Nat):Fence:={ Fence.wide with round:=ro }
def Up(N n0 m0:Nat)(E:En)(S:St)(w:World)(Q:yH)(x:Exit)(a':Act)(w':World):Prop:=
 ∃E' e' S',Rel N n0 m0 E' e' S' a' w'∧Ext n0 E S w E' S' w'∧Q x e' S'
theorem Up.back{N n0 m0:Nat}{E E1:En}{S S1:St}{w w1:World}{Q:yH}{x:Exit}{a:Act}{w':World}(h:Ext n0 E S w E1 S1 w1)(g:Up N n0 m0 E1 S1 w1 Q x a w'):Up N n0 m0 E S w Q x a w':=
 let ⟨E',e',S',r,x,q⟩:=g;⟨E',e',S',r,h.trans x,q⟩
theorem yG{ro:Option Nat}{ρ:Operand→Value}{o:Oper}{P:Program}{k:K}(h:yj P o=some k):o.semAt ro ρ=execOp ρ o:=by
 cases ro with
 | none=>exact Oper.semAt_none ρ o
 | some l=>exact Oper.semAt_some l ρ o fun c hc=>by simp[yj,yV,Jz,hc] at h
theorem Rel.put{N n0 m0:Nat}{E:En}{e:Env}{S:St}{a:Act}{w:World}(h:Rel N n0 m0 E e S a w){d:Option Nat}{v:V}{u:Value}(hd:qdU N d=true)(r:VR E v u):Rel N n0 m0 E (e.put d v) S (a.put d u) w:=by
 cases d with
 | none=>exact h
 | some d=>
  simp[qdU] at hd;exact ⟨h.tmps.put (by rw[h.size];exact hd) r,by simp[Act.put,h.size],h.defers,h.base,h.sr⟩
theorem Rel.step{N n0 m0:Nat}{E E':En}{e:Env}{S S':St}{a:Act}{w w':World}(h:Rel N n0 m0 E e S a w)(hs:SR E' S' w')(hx:Ext S.length E S w E' S' w')(hl:S.length≤S'.length):Rel N n0 m0 E' e S' a w':=
 ⟨h.tmps.mono (hx.le h.sr),h.size,YI.step hx h.defers,qra h.base hl,hs⟩
theorem j8{P:Program}{o:Oper}{k:K}(h:yj P o=some k)(hx:∀x,k≠.ex x):yV P o=some k:=by
 unfold yj at h;split at h
 ·rename_i k' hk;cases h;exact hk
 ·cases hx':Jz P o with
  | none=>rw[hx'] at h;cases h
  | some x=>rw[hx'] at h;cases h;exact absurd rfl (hx x)
theorem jn{P:Program}{dst:Option Tmp}{op:Op}{type:TypeId}{pos:String}{after:Array Edge}{guard:Option (Nat×Bool)}{f:Opd}{args:List Opd}(hk:yj P ⟨dst,op,type,pos,after,guard⟩=some (.call f args)):
  ∃c f0,op=.call c∧c.callee=.value f0∧qj f0=some f∧c.args.toList.mapM qj=some args:=by
 replace hk:=j8 hk (fun x=>by simp);by_cases hc:∃c,op=.call c
 ·obtain ⟨c,rfl⟩:=hc;simp only[yV] at hk;split at hk
  ·rename_i f0 args' h1 h2
   cases h3:qj f0 with
   | none=>rw[h3] at hk;cases hk
   | some f1=>rw[h3] at hk;cases hk;exact ⟨c,f0,rfl,h1,h3,h2⟩
  ·exfalso;repeat' split at hk
   all_goals cases hk
  ·rename_i h1 h2;cases h3:qgh P c.argTypes <;> rw[h3] at hk <;> cases hk
  ·cases hk
 ·exfalso;cases op <;> first|(exact hc ⟨_,rfl⟩)|skip
  all_goals (simp only[yV] at hk)
  all_goals (first|(cases hk;done)|(simp at hk;done)|(revert hk;repeat' split))
  all_goals (first|contradiction|(intro hk;cases hk;done)|(intro hk;simp at hk;done)|skip)
theorem qM{F:Fence}{n:Nat}{P:Program}{ops:Array Oper}{Q Q':Exit→Act→World→Prop}(hq:∀x a w,Q x a w→Q' x a w):∀{l:List Oper} {a:Act} {w:World},wpListIn F n P ops Q l a w→wpListIn F n P ops Q' l a w
 | [],a,w,h=>hq _ _ _ h
 | o::l,a,w,h=>by
  have hlet:LetsOut Q→LetsOut Q':=fun ⟨a,w,h⟩=>⟨a,w,hq _ _ _ h⟩
  simp only[wpListIn] at h ⊢;split
  ·rename_i hw;rw[if_pos hw] at h;obtain ⟨h1,h2⟩:=h;refine ⟨h1,?_⟩;generalize (o.semAt F.round a.eval).run P w=r at h2 ⊢
   cases r with
   | ok nx w'=>
    cases nx <;> simp only[Oper.uponIn] at h2 ⊢
    case value v=>exact qM hq h2
    case skip=>exact qM hq h2
    case defer d=>exact qM hq h2
    case enter f args=>exact ⟨h2.1,h2.2.mono fun e w'' he=>by cases e <;> first|exact qM hq he|exact hq _ _ _ he|exact hlet he⟩
    case row r args=>exact ⟨h2.1,h2.2.mono fun v w'' he=>qM hq he⟩
    case round l f t x y=>exact ⟨h2.1,h2.2.mono fun e w'' he=>by cases e <;> first|exact qM hq he|exact hq _ _ _ he|exact hlet he⟩
   | halt x w'=>
    cases x <;> simp only[Oper.uponIn] at h2 ⊢
    case panic v=>exact hq _ _ _ h2
  ·rename_i hw;rw[if_neg hw] at h;exact ⟨h.1,qM hq h.2⟩
theorem qaL{P:Program}{ro:Option Nat}{n:Nat}{o:Oper}{k:K}{E:En}{e:Env}{S S':St}{r:V}{a:Act}{w:World}{next:Act→World→Prop}{Q:Exit→Act→World→Prop}(hk:yj P o=some k)(ht:Z0 E e a.tmps)(hs:SR E S w)(hev:evK e S k=some (r,S'))
  (hn:∀E' u w',VR E' r u→SR E' S' w'→Ext S.length E S w E' S' w'→S.length≤S'.length→next (a.put o.dst u) w'):o.wpIn (yO ro) n P a w next Q:=by
 refine ⟨fun f hf=>trivial,?_⟩;rw[show o.semAt (yO ro).round a.eval=execOp a.eval o from yG hk];obtain ⟨nx,E',w',hrun,hnr,hsr,hext,hlen⟩:=qj1 hk hev ht hs;rw[hrun];rcases hnr with ⟨u,rfl,hvr⟩|⟨rfl,rfl⟩
 ·exact hn E' u w' hvr hsr hext hlen
 ·exact hn E' undef w' (.tup (by simp) (fun i v u h=>by simp at h)) hsr hext hlen
theorem qoX{P:Program}{ro:Option Nat}{n:Nat}{o:Oper}{k:K}{E:En}{e:Env}{S:St}{a:Act}{w:World}{next:Act→World→Prop}{Q:Exit→Act→World→Prop}(hk:yj P o=some k)(hnd:ndK e k≠[])(ht:Z0 E e a.tmps)(hs:SR E S w)
  (hn:∀v u,v∈ndK e k→VR E v u→next (a.put o.dst u) w):o.wpIn (yO ro) n P a w next Q:=by
 refine ⟨fun f hf=>trivial,?_⟩;rw[show o.semAt (yO ro).round a.eval=execOp a.eval o from yG hk];obtain ⟨v,u,hv,hrun,hvr⟩:=qlF hk hnd ht hs;rw[hrun];exact hn v u hv hvr
theorem qoz{P:Program}{ro:Option Nat}{n:Nat}{o:Oper}{k:K}{E:En}{e:Env}{S:St}{a:Act}{w:World}{next:Act→World→Prop}{Q:Exit→Act→World→Prop}(hk:yj P o=some k)(hnd:ndS e S k≠[])(ht:Z0 E e a.tmps)(hs:SR E S w)
  (hn:∀q E' u w',q∈ndS e S k→VR E' q.1 u→SR E' q.2 w'→Ext S.length E S w E' q.2 w'→S.length≤q.2.length→next (a.put o.dst u) w'):o.wpIn (yO ro) n P a w next Q:=by
 refine ⟨fun f hf=>trivial,?_⟩;rw[show o.semAt (yO ro).round a.eval=execOp a.eval o from yG hk];obtain ⟨q,hq,nx,E',w',hrun,hnr,hsr,hext,hlen⟩:=qlX hk hnd ht hs;rw[hrun];rcases hnr with ⟨u,rfl,hvr⟩|⟨rfl,hv⟩
 ·exact hn q E' u w' hq hvr hsr hext hlen
 ·exact hn q E' undef w' hq (by rw[hv];exact .tup (by simp) (fun i v u h=>by simp at h)) hsr hext hlen
theorem qfj{P:Program}{ro:Option Nat}{n:Nat}{o:Oper}{f:Opd}{args:List Opd}{kf:FuncId}{fs cs vs:List V}{R:V→St→Prop}{E:En}{e:Env}{S:St}{a:Act}{w:World}{next:Act→World→Prop}{Q:Exit→Act→World→Prop}(hk:yj P o=some (.call f args))(ht:Z0 E e a.tmps)(hs:SR E S w)
  (hf:f.ev e=some (.fn (.func kf) fs cs)) (hvs:evs e args=some vs) (hspec:qv P kf (fs++vs++cs) S R)
  (hn:∀r S' E' u w',R r S'→VR E' r u→SR E' S' w'→Ext S.length E S w E' S' w'→S.length≤S'.length→next (a.put o.dst u) w'):o.wpIn (yO ro) n P a w next Q:=by
 refine ⟨fun f hf=>trivial,?_⟩;rw[show o.semAt (yO ro).round a.eval=execOp a.eval o from yG hk];obtain ⟨dst,op,type,pos,after,guard⟩:=o;obtain ⟨c,f0,rfl,h1,h2,h3⟩:=jn hk;have hfv:=qr ht h2 hf;obtain ⟨a1,a2⟩:=Qn ht h3 hvs;generalize hu:a.eval f0=u at hfv;have a1':vs.length=c.args.size:=by simpa using a1
 obtain ⟨us,ws,rfl,b1,b2,b3,b4⟩:∃us ws,u=.func (.func kf) us ws∧fs.length=us.size∧cs.length=ws.size∧(∀(i:Nat) (v:V) (u:Value),fs[i]?=some v→us[i]?=some u→VR E v u)∧(∀(i:Nat) (v:V) (u:Value),cs[i]?=some v→ws[i]?=some u→VR E v u):=by
  cases hfv with
  | fn h1 h2 g1 g2=>exact ⟨_,_,rfl,h1,h2,g1,g2⟩
 have hrun:(execOp a.eval ⟨dst,.call c,type,pos,after,guard⟩).run P w=.ok (.enter kf (us++c.args.map a.eval++ws)) w:=by
  simp only[execOp,resolve,h1,hu,Deferred.ofValue,Sem.run_bind,Sem.run_pure,Result.andThen,invoke];exact hspec.1 _ w
 rw[hrun];simp only[Oper.uponIn];refine ⟨fun hd=>by simp[yO,Fence.wide] at hd,?_⟩
 have hargs:VRs E (fs++vs++cs) (us++c.args.map a.eval++ws):=by
  refine ⟨by simp[b1,b2,a1'],fun i v u hv hu=>?_⟩;rw[qqR] at hv;rw[Array.append_assoc] at hu;by_cases hi:i<fs.length
  ·rw[qqA hi] at hv;rw[qrA (by omega)] at hu;exact b3 i v u hv hu
  ·rw[qqy (by omega)] at hv;rw[qr1 (by omega),←b1] at hu;by_cases hj:i - fs.length<vs.length
   ·rw[qqA hj] at hv;rw[qrA (by simp;omega)] at hu;simp only[qr2,qqI] at hu;obtain ⟨o,ho,rfl⟩:=hu;exact a2 _ v o hv (by simpa using ho)
   ·rw[qqy (by omega)] at hv;rw[qr1 (by simp;omega)] at hu;rw[show i - fs.length - (c.args.map a.eval).size=i - fs.length - vs.length by simp[a1']] at hu;exact b4 _ v u hv hu
 have hcalls:=hspec.2 E w _ (n - 1) hs hargs;refine CallsIn.mono (show CallsIn (yO ro) (n - 1) P kf _ w _ from hcalls) ?_;rintro ed w' ⟨uv,r,E',S',rfl,hR,hvr,hsr,hext,hlen⟩;exact hn r S' E' uv w' hR hvr hsr hext hlen
theorem qja{P:Program}{ro:Option Nat}{n:Nat}{o:Oper}{f:Opd}{args:List Opd}{ly:Nat}{vs:List V}{R:V→St→Prop}{E:En}{e:Env}{S:St}{a:Act}{w:World}{next:Act→World→Prop}{Q:Exit→Act→World→Prop}(hk:yj P o=some (.call f args))(ht:Z0 E e a.tmps)(hs:SR E S w)
    (hf:f.ev e=some (.yld ly)) (hvs:evs e args=some vs) (hspec:yf P ly vs S R)
    (hn:∀r S' E' u w',R r S'→VR E' r u→SR E' S' w'→Ext S.length E S w E' S' w'→S.length≤S'.length→next (a.put o.dst u) w'):o.wpIn (yO ro) n P a w next Q:=by
  refine ⟨fun f hf=>trivial,?_⟩;rw[show o.semAt (yO ro).round a.eval=execOp a.eval o from yG hk];obtain ⟨dst,op,type,pos,after,guard⟩:=o;obtain ⟨c,f0,rfl,h1,h2,h3⟩:=jn hk;have hfv:=qr ht h2 hf;obtain ⟨a1,a2⟩:=Qn ht h3 hvs;generalize hu:a.eval f0=u at hfv;have a1':vs.length=c.args.size:=by simpa using a1
  cases hfv with
  | yld hx=>
    rename_i x
    obtain ⟨fn,tmps,asg,body,hy,hround⟩:=hspec E w (c.args.map a.eval) (n - 1) x hs ⟨by simp[a1'],fun i v u hv hu=>by
      simp only[qr2,qqI] at hu;obtain ⟨o,ho,rfl⟩:=hu;exact a2 _ v o hv (by simpa using ho)⟩ hx
    have hrun:(execOp a.eval ⟨dst,.call c,type,pos,after,guard⟩).run P w=.ok (.round x.b fn tmps asg body) w:=by
      simp only[execOp,resolve,h1,hu,Deferred.ofValue,Sem.run_bind,Sem.run_pure,Result.andThen,invoke,Array.empty_append];exact hy
    rw[hrun,Oper.uponIn_round];refine ⟨fun hd=>by simp[yO,Fence.wide] at hd,?_⟩;refine RoundIn.mono (show RoundIn (yO ro) (n - 1) P _ _ _ _ _ w _ from hround) ?_;rintro ed w' ⟨uv,r,E',S',rfl,hR,hvr,hsr,hext,hlen⟩;exact hn r S' E' uv w' hR hvr hsr hext hlen
theorem jq{P:Program}{N:Nat}{ops:Array Oper}{o:Oper}{o':O'}(h:zM P N ops o=some o'):
  o'.dst=o.dst∧qdU N o.dst=true∧yj P o=some o'.k∧∀(E:En) (e:Env) (a:Act) (b:Bool),(∀t w,o'.g=some (t,w)→∀v,e.get t=some v→∃u,a.tmps[t]?=some u∧VR E v u)→qR e o'.g=some b→Region.wanted o (yielded ops a.tmps)=b:=by
 unfold zM at h;split at h
 ·cases h
 rename_i k hk;split at h
 case isFalse=>cases h
 rename_i hd;split at h
 ·rename_i hgd;cases h;exact ⟨rfl,hd,hk,fun E e a b _ hb=>by cases hb;simp[Region.wanted,hgd]⟩
 ·rename_i j want hgd;split at h <;> cases h;rename_i t ht;refine ⟨rfl,hd,hk,fun E e a b hr hb=>?_⟩;simp only[qR] at hb;split at hb <;> cases hb
  ·rename_i bb hbb;obtain ⟨u,hu,hv⟩:=hr _ _ rfl _ hbb;cases hv;simp[Region.wanted,hgd,yielded,ht,hu]
  ·rename_i hbb;obtain ⟨u,hu,hv⟩:=hr _ _ rfl _ hbb;cases hv;simp[Region.wanted,hgd,yielded,ht,hu]
theorem ym{P:Program}{N n0 m0:Nat}{ro:Option Nat}{n:Nat}{ops:Array Oper}{Q:yH}:∀(l:List Oper) (l':List O') (E:En) (e:Env) (S:St) (a:Act) (w:World),
  l.mapM (zM P N ops)=some l'→Rel N n0 m0 E e S a w→yM P l' (Q .normal) e S→wpListIn (yO ro) n P ops (Up N n0 m0 E S w Q) l a w
 | [],l',E,e,S,a,w,hc,hr,h=>by
  simp at hc;subst hc;exact ⟨E,e,S,hr,Ext.refl _ _ _ _,h⟩
 | o::l,l',E,e,S,a,w,hc,hr,h=>by
  simp only[qrX,qru] at hc
  cases ho:zM P N ops o with
  | none=>rw[ho] at hc;simp at hc
  | some o'=>
   rw[ho] at hc
   cases hl:l.mapM (zM P N ops) with
   | none=>rw[hl] at hc;simp at hc
   | some l2=>
    rw[hl] at hc;simp at hc;subst hc;obtain ⟨hdst,hd,hk,hg⟩:=jq ho;simp only[yM] at h;rw[hdst] at h
    cases hw:qR e o'.g with
    | none=>rw[hw] at h;exact h.elim
    | some b=>
     rw[hw] at h;have hwd:=hg E e a b (fun t _ _ v hv=>hr.tmps t v hv) hw;simp only[wpListIn]
     cases b with
     | false=>
      rw[hwd];simp only[qq1,if_false];refine ⟨fun f hf=>trivial,?_⟩;exact ym l l2 E _ S _ w hl (hr.put hd (.tup (by simp) (fun i v u h=>by simp at h))) h
     | true=>
      rw[hwd];simp only[if_true];generalize hkk:o'.k=k at h hk;by_cases hcall:∃f args,k=.call f args
      ·obtain ⟨f,args,rfl⟩:=hcall;simp only at h;split at h <;> try exact h.elim
       ·rename_i kf fs cs vs hf hvs;obtain ⟨R,hspec,hnext⟩:=h;refine qfj hk hr.tmps hr.sr hf hvs hspec fun r S' E' u w' hR hvr hsr hext hlen=>?_
        have hr':=(hr.step hsr hext hlen).put hd hvr;have:=ym (n:=n) (ro:=ro) (Q:=Q) l l2 E' _ S' _ w' hl hr' (hnext r S' hR);exact qM (fun x a' w'' hq=>hq.back (hext.less hr.base)) this
       ·rename_i ly vs hf hvs;obtain ⟨R,hspec,hnext⟩:=h;refine qja hk hr.tmps hr.sr hf hvs hspec fun r S' E' u w' hR hvr hsr hext hlen=>?_
        have hr':=(hr.step hsr hext hlen).put hd hvr;have:=ym (n:=n) (ro:=ro) (Q:=Q) l l2 E' _ S' _ w' hl hr' (hnext r S' hR);exact qM (fun x a' w'' hq=>hq.back (hext.less hr.base)) this
      ·have h':match evK e S k with
        | some (r,S')=>yM P l2 (Q .normal) (e.put o.dst r) S'
        | none=>(ndK e k≠[]∧∀v,v∈ndK e k→yM P l2 (Q .normal) (e.put o.dst v) S)∨(ndS e S k≠[]∧∀q,q∈ndS e S k→yM P l2 (Q .normal) (e.put o.dst q.1) q.2):=by
        cases k <;> first|exact h|exact absurd ⟨_,_,rfl⟩ hcall
       cases hev:evK e S k with
       | none=>
        rw[hev] at h';rcases h' with h'|h'
        ·refine qoX hk h'.1 hr.tmps hr.sr fun v u hv hvr=>?_
         exact ym l l2 E _ S _ w hl (hr.put hd hvr) (h'.2 v hv)
        ·refine qoz hk h'.1 hr.tmps hr.sr fun q E' u w' hq hvr hsr hext hlen=>?_
         have hr':=(hr.step hsr hext hlen).put hd hvr;have:=ym (n:=n) (ro:=ro) (Q:=Q) l l2 E' _ q.2 _ w' hl hr' (h'.2 q hq);exact qM (fun x a' w'' hq=>hq.back (hext.less hr.base)) this
       | some rs=>
        obtain ⟨r,S'⟩:=rs;rw[hev] at h';refine qaL hk hr.tmps hr.sr hev fun E' u w' hvr hsr hext hlen=>?_
        have hr':=(hr.step hsr hext hlen).put hd hvr;have:=ym (n:=n) (ro:=ro) (Q:=Q) l l2 E' _ S' _ w' hl hr' h';exact qM (fun x a' w'' hq=>hq.back (hext.less hr.base)) this
theorem SR.phantom{E:En}{S:St}{w:World}(h:SR E S w){z:V}(h0:0<z.size):SR E (S++[.arr [z] z.size 1]) w∧∀n,Ext n E S w E (S++[.arr [z] z.size 1]) w:=by
 have hno:∀st,E.ρ S.length st=none:=fun st=>by
  cases hr:E.ρ S.length st with
  | none=>rfl
  | some x=>exact absurd (h.dom _ _ _ hr) (by omega)
 have hlv:∀l st x,ZL (S++[.arr [z] z.size 1]) l→E.ρ l st=some x→ZL S l:=fun l st x hl hx=>by
  rcases Ya hl with hl|rfl
  ·exact hl
  ·rw[hno] at hx;cases hx
 have hown:∀b,own E (S++[.arr [z] z.size 1]) b→own E S b:=fun b ⟨l,st,x,hl,hx,he⟩=>⟨l,st,x,hlv l st x hl hx,hx,he⟩
 refine ⟨⟨h.gl,h.I,fun l o ho=>?_,fun l st x hx=>by have:=h.dom _ _ _ hx;simp;omega,fun b o hb=>h.apart b o (hown b hb),fun b hb=>h.lt b (hown b hb),fun l l' st st' x x' hl hl' hx hx' he=>h.inj l l' st st' x x' (hlv l st x hl hx) (hlv l' st' x' hl' hx') hx hx' he⟩,
  fun n=>⟨qqC _,fun _ _ _ h=>h,fun _ _ _ _ h=>h,fun _ _ h=>h,fun b hb=>.inl (hown b hb),fun _ _ _ h=>.inl h,fun _ _ _=>rfl,rfl⟩⟩
 rcases qsi l S.length with hl|hl
 ·rw[qqA hl] at ho;exact h.obs l o ho
 ·have hlt:=(qqx.1 ho).1;simp at hlt;have:l=S.length:=by omega
  subst this;simp at ho;subst ho;refine ⟨⟨h0,by simp⟩,fun v hv=>by simp at hv;subst hv;rfl,fun st x hx=>?_⟩;rw[hno] at hx;cases hx
def phs(zs:List V):St:=zs.map fun z=>.arr [z] z.size 1
theorem SR.phantoms{E:En}{w:World}:∀(zs:List V) {S:St},SR E S w→(∀z,z∈zs→0<z.size)→SR E (S++phs zs) w∧∀n,Ext n E S w E (S++phs zs) w
 | [],S,h,_=>by simp[phs];exact ⟨h,fun n=>Ext.refl _ _ _ _⟩
 | z::zs,S,h,h0=>by
  obtain ⟨a,b⟩:=h.phantom (h0 z (by simp));obtain ⟨c,d⟩:=SR.phantoms zs a fun z hz=>h0 z (by simp[hz])
  rw[qqR] at c d;exact ⟨c,fun n=>(b n).trans (d n)⟩
theorem SR.real{E:En}{S:St}{w:World}(h:SR E S w){l:Nat}{ob:Ob}{o:Obj}{st N sz:Nat}(hl:S[l]?=some ob)(hno:∀st,E.ρ l st=none)
  (ho:OR (E.at l st ⟨w.heap.size,N,sz⟩) { w with heap:=w.heap.push o } l ob):
  SR (E.at l st ⟨w.heap.size,N,sz⟩) S { w with heap:=w.heap.push o }∧E.le (E.at l st ⟨w.heap.size,N,sz⟩)∧
  ∀n,n≤l→Ext n E S w (E.at l st ⟨w.heap.size,N,sz⟩) S { w with heap:=w.heap.push o }:=by
 have hle:E.le (E.at l st ⟨w.heap.size,N,sz⟩):=JW (hno st)
 have key:∀l' st' x,ZL S l'→(E.at l st ⟨w.heap.size,N,sz⟩).ρ l' st'=some x→(l'=l∧x.b=w.heap.size)∨(l'≠l∧E.ρ l' st'=some x∧x.b<w.heap.size):=by
  intro l' st' x hl' hx;by_cases hk:l'=l
  ·subst hk;by_cases hs:st'=st
   ·subst hs;rw[zf] at hx;cases hx;exact .inl ⟨rfl,rfl⟩
   ·simp[En.at,hs,hno] at hx
  ·rw[z6 hk] at hx;exact .inr ⟨hk,hx,h.lt _ ⟨l',st',x,hl',hx,rfl⟩⟩
 have hown:∀b,own (E.at l st ⟨w.heap.size,N,sz⟩) S b→own E S b∨b=w.heap.size:=by
  rintro b ⟨l',st',x,hl',hx,rfl⟩;rcases key l' st' x hl' hx with ⟨_,h2⟩|⟨_,h2,_⟩
  ·exact .inr h2
  ·exact .inl ⟨l',st',x,hl',h2,rfl⟩
 refine ⟨⟨h.gl.old hle.1 (fun b _ _ _ hb _=>zq (Zq hb)),?_,?_,?_,?_,?_,?_⟩,hle,fun n hn=>⟨by simp,hle.1,fun l st' x _ hx=>hle.2 l st' x hx,fun l' hl' hx st'=>by rw[z6 (by omega)];exact hx st',fun b hb=>(hown b hb).imp id (fun e=>by omega),fun b o c hc=>.inl hc,fun b hb _=>zq hb,rfl⟩⟩
 ·intro b o' c hc;have:=h.I b o' c hc;rw[cell?_heap (zq (cell?_lt this))];exact this
 ·intro l' o' hl';by_cases hk:l'=l
  ·subst hk;rw[hl] at hl';cases hl';exact ho
  ·by_cases hd:o'=.dead
   ·subst hd;trivial
   exact (h.obs l' o' hl').mono hle (fun st' x hx=>by rw[z6 hk] at hx;exact hx) (fun st' x hx=>zq (h.lt _ ⟨l',st',x,⟨o',hl',hd⟩,hx,rfl⟩))
 ·intro l' st' x hx;by_cases hk:l'=l
  ·subst hk;exact (qqx.1 hl).1
  ·rw[z6 hk] at hx;exact h.dom _ _ _ hx
 ·intro b o' hb;rcases hown b hb with hb|rfl
  ·exact h.apart b o' hb
  ·cases hc:E.I w.heap.size o' with
   | none=>exact hc
   | some c=>exact absurd (cell?_lt (h.I _ _ _ hc)) (by omega)
 ·intro b hb;rcases hown b hb with hb|rfl
  ·have:=h.lt b hb;simp;omega
  ·simp
 ·intro l1 l2 st1 st2 x x' hl1 hl2 hx hx' hb;rcases key l1 st1 x hl1 hx with ⟨h1,h2⟩|⟨h1,h3,h4⟩ <;> rcases key l2 st2 x' hl2 hx' with ⟨g1,g2⟩|⟨g1,g3,g4⟩
  ·omega
  ·omega
  ·omega
  ·exact h.inj l1 l2 st1 st2 x x' hl1 hl2 h3 g3 hb
theorem SR.realBox{E:En}{S:St}{w:World}{l:Nat}{z:V}{d:Value}{t:TypeId}(h:SR E S w)(hl:S[l]?=some (.arr [z] z.size 1))(hno:∀st,E.ρ l st=none)(h0:0<z.size)(hf:(z.cells.all V.flat)=true)(hz:VR E z d):
  ∃E',SR E' S { w with heap:=w.heap.push (.cells d.cells t (0,0)) }∧E.le E'∧(∀n,n≤l→Ext n E S w E' S { w with heap:=w.heap.push (.cells d.cells t (0,0)) })∧(∀l' st,l'≠l→E'.ρ l' st=E.ρ l' st)∧VR E' (.ptr l 0 0 1) (.pointer (some ⟨w.heap.size,0,none⟩)):=by
 obtain ⟨h1,h2⟩:=hz.cells (qY hf)
 obtain ⟨n1,n2,n3⟩:=h.real (o:=.cells d.cells t (0,0)) (st:=1) (N:=d.cells.size) (sz:=z.size) hl hno (by
  refine ⟨⟨h0,by simp⟩,fun v hv=>by simp at hv;subst hv;rfl,fun st y hy hst=>?_⟩;by_cases hs1:st=1
  ·subst hs1;rw[zf] at hy;cases hy;refine ⟨by simp,rfl,d.cells,t,Q8,rfl,by simp[V.size,h1],fun i v hv hi j c hc=>?_⟩;have hi0:i=0:=by omega
   subst hi0;simp at hv;subst hv;obtain ⟨e,he,hr⟩:=hz.cells_ex (qY hf) hc;exact ⟨e,by simpa using he,hr.mono (JW (hno 1))⟩
  ·exfalso;simp only[En.at] at hy;rw[if_neg (by simp;exact hs1),hno] at hy;cases hy)
 refine ⟨_,n1,n2,n3,fun l' st hl'=>z6 hl',?_⟩;have:=VR.ptr (E:=E.at l 1 ⟨w.heap.size,d.cells.size,z.size⟩) (l:=l) (st:=1) 0 0 zf;simpa using this
theorem qd7{P:Program}{o:Oper}{z:V}(h:yj P o=some (.new z)):∃t i zv,o.op=.alloc t∧P.info? t=some i∧i.zero=some zv∧z=vOf zv:=by
 obtain ⟨dst,op,type,pos,after,guard⟩:=o;replace h:=j8 h (fun x=>by simp);by_cases hc:∃t,op=.alloc t
 ·obtain ⟨t,rfl⟩:=hc;simp only[yV] at h;split at h <;> try cases h
  rename_i i hi;split at h <;> cases h;rename_i z hz;exact ⟨t,i,z,rfl,hi,hz,rfl⟩
 ·exfalso;cases op <;> first|(exact hc ⟨_,rfl⟩)|skip
  all_goals (simp only[yV] at h)
  all_goals (first|(cases h;done)|(simp at h;done)|(revert h;repeat' split))
  all_goals (first|contradiction|(intro h;cases h;done)|(intro h;simp at h;done)|skip)
theorem ql1{P:Program}{ro:Option Nat}{n:Nat}{o:Oper}{z:V}{E:En}{S:St}{a:Act}{w:World}{next:Act→World→Prop}{Q:Exit→Act→World→Prop}{l:Nat}(hk:yj P o=some (.new z))(hs:SR E S w)(hl:S[l]?=some (.arr [z] z.size 1))(hno:∀st,E.ρ l st=none)(h0:0<z.size)(hf:(z.cells.all V.flat)=true)
  (hn:∀E' u w',VR E' (.ptr l 0 0 1) u→SR E' S w'→E.le E'→(∀n,n≤l→Ext n E S w E' S w')→(∀l' st,l'≠l→E'.ρ l' st=E.ρ l' st)→next (a.put o.dst u) w'):o.wpIn (yO ro) n P a w next Q:=by
 refine ⟨fun f hf=>trivial,?_⟩;rw[show o.semAt (yO ro).round a.eval=execOp a.eval o from yG hk];obtain ⟨t,i,zv,hop,hi,hz,rfl⟩:=qd7 hk;obtain ⟨E',b1,b2,b3,b4,b5⟩:=hs.realBox (t:=t) hl hno h0 hf (ZG E zv);obtain ⟨dst,op,type,pos,after,guard⟩:=o;cases hop
 have hrun:(execOp a.eval ⟨dst,.alloc t,type,pos,after,guard⟩).run P w=.ok (.value (.pointer (some ⟨w.heap.size,0,none⟩))) { w with heap:=w.heap.push (.cells zv.cells t (0,0)) }:=by
  have:(Instr.alloc t true (.tuple #[])).run P w=.ok (.pointer (some ⟨w.heap.size,0,none⟩)) { w with heap:=w.heap.push (.cells zv.cells t (0,0)) }:=by
   simp[Instr.alloc,newVar,Sem.run_bind,qQ hi hz,Result.andThen,yE]
  simp only[execOp,Sem.run_bind,this,Result.andThen,Sem.run_pure]
 rw[hrun];exact hn E' _ _ b5 b1 b2 b3 b4
def K.tmps:K→List Nat
 | .mv x|.box x|.nck x|.un _ x|.fa _ x|.fld _ _ x|.ext _ x|.len _ x|.conv _ x|.ld _ x=>x.tmps
 | .pick c a b=>c.tmps++a.tmps++b.tmps
 | .new _=>[]
 | .build _ ps=>ps.flatMap fun p=>p.2.2.2.tmps
 | .bsl _ xs=>xs.flatMap Opd.tmps
 | .sto _ a x|.bin _ a x|.eq _ _ a x|.ia _ a x|.idx a x|.app _ _ a x=>a.tmps++x.tmps
 | .slc _ _ x lo hi=>x.tmps++lo.toList.flatMap Opd.tmps++hi.toList.flatMap Opd.tmps
 | .mkf _ fs cs=>fs.flatMap Opd.tmps++cs.flatMap Opd.tmps
 | .call f xs=>f.tmps++xs.flatMap Opd.tmps
 | .ex k=>k.tmps
def ZZ(ts:List Nat)(e e':Env):Prop:=∀t,t∈ts→e'.get t=e.get t
theorem ZZ.sub{ts us:List Nat}{e e':Env}(h:ZZ ts e e')(hs:∀t,t∈us→t∈ts):ZZ us e e':=fun t ht=>h t (hs t ht)
theorem qo{e e':Env}{x:Opd}(h:ZZ x.tmps e e'):x.ev e'=x.ev e:=by
 cases x with
 | t n=>exact h n (by simp[Opd.tmps])
 | c v=>rfl
 | f k=>rfl
theorem Zv{e e':Env}:∀{xs:List Opd},ZZ (xs.flatMap Opd.tmps) e e'→evs e' xs=evs e xs
 | [],_=>rfl
 | x::xs,h=>by
  simp only[evs]
  rw[qo (x:=x) (fun t ht=>h t (by simp[ht])),Zv (xs:=xs) (fun t ht=>h t (by
   simp only[qq6,qqE];exact .inr ht))]
theorem Yp{e e':Env}:∀{ps:List (Nat×Nat×Nat×Opd)},ZZ (ps.flatMap fun p=>p.2.2.2.tmps) e e'→qD e' ps=qD e ps
 | [],_=>rfl
 | (f,o,n,x)::ps,h=>by
  simp only[qD]
  rw[qo (x:=x) (fun t ht=>h t (by simp[ht])),Yp (ps:=ps) (fun t ht=>h t (by
   simp only[qq6,qqE];exact .inr ht))]
theorem jl{e e':Env}{x:Option Opd}(h:ZZ (x.toList.flatMap Opd.tmps) e e'):JD e' x=JD e x:=by
 cases x with
 | none=>rfl
 | some x=>simp only[JD];rw[qo (x:=x) (fun t ht=>h t (by simpa using ht))]
theorem qbl{e e':Env}{S:St}{k:X}(h:ZZ k.tmps e e'):evX e' S k=evX e S k:=by
 cases k <;> simp only[X.tmps] at h <;> simp only[evX]
 case eqs n s os x y=>rw[qo (h.sub (us:=x.tmps) (by simp;grind)),qo (h.sub (us:=y.tmps) (by simp;grind))]
 case eqn n x=>rw[qo h]
 case lkp kd z ok x y=>rw[qo (h.sub (us:=x.tmps) (by simp;grind)),qo (h.sub (us:=y.tmps) (by simp;grind))]
 case mup kd x y z=>rw[qo (h.sub (us:=x.tmps) (by simp;grind)),qo (h.sub (us:=y.tmps) (by simp;grind)),qo (h.sub (us:=z.tmps) (by simp;grind))]
 case mks sz b z x y=>rw[qo (h.sub (us:=x.tmps) (by simp;grind)),qo (h.sub (us:=y.tmps) (by simp;grind))]
 case iaa n sz x y=>rw[qo (h.sub (us:=x.tmps) (by simp;grind)),qo (h.sub (us:=y.tmps) (by simp;grind))]
 case cts x=>rw[qo h]
 case ctb x=>rw[qo h]
 case rng x=>rw[qo h]
 case ent x=>rw[qo h]
 case wrap n x=>rw[qo h]
 case del kd x y=>rw[qo (h.sub (us:=x.tmps) (by simp;grind)),qo (h.sub (us:=y.tmps) (by simp;grind))]
 case ixa n sz kd x y=>rw[qo (h.sub (us:=x.tmps) (by simp;grind)),qo (h.sub (us:=y.tmps) (by simp;grind))]
 case mm m x y=>rw[qo (h.sub (us:=x.tmps) (by simp;grind)),qo (h.sub (us:=y.tmps) (by simp;grind))]
theorem Yo{e e':Env}{S:St}{k:K}(h:ZZ k.tmps e e'):evK e' S k=evK e S k:=by
 cases k <;> simp only[K.tmps] at h <;> simp only[evK]
 case mv x=>rw[qo h]
 case pick c a b=>
  have ha:=qo (h.sub (us:=a.tmps) (by simp;grind));have hb:=qo (h.sub (us:=b.tmps) (by simp;grind));rw[qo (h.sub (us:=c.tmps) (by simp;grind))];split
  ·rename_i t _;cases t <;> simp[ha,hb]
  ·rfl
 case box x=>rw[qo h]
 case build z ps=>rw[Yp h]
 case bsl sz xs=>rw[Zv h]
 case ld k a=>rw[qo h]
 case sto n a x=>rw[qo (h.sub (us:=a.tmps) (by simp;grind)),qo (h.sub (us:=x.tmps) (by simp;grind))]
 case nck x=>rw[qo h]
 case bin op a x=>rw[qo (h.sub (us:=a.tmps) (by simp;grind)),qo (h.sub (us:=x.tmps) (by simp;grind))]
 case eq kd ng a x=>rw[qo (h.sub (us:=a.tmps) (by simp;grind)),qo (h.sub (us:=x.tmps) (by simp;grind))]
 case un op x=>rw[qo h]
 case fa op x=>rw[qo h]
 case ia sz a x=>rw[qo (h.sub (us:=a.tmps) (by simp;grind)),qo (h.sub (us:=x.tmps) (by simp;grind))]
 case idx a x=>rw[qo (h.sub (us:=a.tmps) (by simp;grind)),qo (h.sub (us:=x.tmps) (by simp;grind))]
 case fld o k x=>rw[qo h]
 case slc s sz x lo hi=>rw[qo (h.sub (us:=x.tmps) (by simp;grind)),jl (h.sub (us:=lo.toList.flatMap Opd.tmps) (by simp;grind)),jl (h.sub (us:=hi.toList.flatMap Opd.tmps) (by simp;grind))]
 case ext i x=>rw[qo h]
 case len s x=>rw[qo h]
 case app sz b a x=>rw[qo (h.sub (us:=a.tmps) (by simp;grind)),qo (h.sub (us:=x.tmps) (by simp;grind))]
 case mkf k fs cs=>rw[Zv (h.sub (us:=fs.flatMap Opd.tmps) (by simp;grind)),Zv (h.sub (us:=cs.flatMap Opd.tmps) (by simp;grind))]
 case conv k x=>rw[qo h]
 case ex k=>exact qbl h
def K.writes:K→Bool
 | .new _|.box _|.sto ..|.app ..|.call ..=>true
 | .ex k=>k.writes
 | _=>false
theorem qdn{e:Env}{S S':St}{k:X}{r:V}(hw:k.writes=false)(h:evX e S k=some (r,S')):S'=S:=by
 cases k <;> simp only[X.writes,Bool.true_eq_false] at hw <;> simp only[evX] at h
 all_goals first
  | (simp only[qrn] at h;obtain ⟨_,_,h⟩:=h)
  | skip
 all_goals (repeat' split at h)
 all_goals first
  | (cases h;done)
  | (simp only[qqI,Prod.mk.injEq] at h;obtain ⟨_,_,_,h⟩:=h;exact h.symm)
  | (simp only[Option.some.injEq,Prod.mk.injEq] at h;exact h.2.symm)
theorem Ym{e:Env}{S S':St}{k:K}{r:V}(hw:k.writes=false)(h:evK e S k=some (r,S')):S'=S:=by
 cases k <;> simp only[K.writes,Bool.true_eq_false] at hw <;> simp only[evK] at h
 case ex k=>exact qdn hw h
 all_goals first
  | (simp only[qqI,Prod.mk.injEq] at h;obtain ⟨_,_,_,h⟩:=h;exact h.symm)
  | skip
 all_goals first
  | (simp only[qrn] at h;obtain ⟨_,_,h⟩:=h)
  | skip
 all_goals (repeat' split at h)
 all_goals first
  | (cases h;done)
  | (simp only[qqI,Prod.mk.injEq] at h;obtain ⟨_,_,_,h⟩:=h;exact h.symm)
  | (simp only[Option.some.injEq,Prod.mk.injEq] at h;exact h.2.symm)
def K.reads:K→Bool
 | .new _|.box _|.sto ..|.app ..|.call ..|.ld ..|.ia ..|.slc ..=>true
 | .ex k=>k.reads
 | _=>false
theorem qcO{e:Env}{S T:St}{k:X}(hr:k.reads=false):evX e T k=(evX e S k).map fun p=>(p.1,T):=by
 cases k <;> simp only[X.reads,Bool.true_eq_false] at hr <;> simp only[evX]
 case wrap n x=>
  cases x.ev e with
  | none=>rfl
  | some v=>simp only[qqU];split <;> rfl
 all_goals ((repeat' split) <;> first|rfl|(simp only[Option.map_map];rfl)|simp)
theorem qiV{e:Env}{S T:St}{k:K}(hr:k.reads=false):evK e T k=(evK e S k).map fun p=>(p.1,T):=by
 cases k <;> simp only[K.reads,Bool.true_eq_false] at hr <;> simp only[evK]
 case ex k=>exact qcO hr
 all_goals first
  | rfl
  | (simp only[Option.map_map];rfl)
  | (simp only[Option.map_bind];congr 1;funext v;simp only[Function.comp];first|rfl|(simp only[Option.map_map];rfl)|(repeat' split) <;> first|rfl|(simp only[Option.map_map];rfl))
  | ((repeat' split) <;> first|rfl|(simp only[Option.map_map];rfl)|simp)
structure D where
 o:O'
 w:Bool
 slot:Option Nat
 chk:Bool
 anc:List Nat
 lo:Nat
 hi:Nat
 deriving Inhabited
def O'.tmps(o:O'):List Nat:=o.k.tmps++(match o.g with|some (t,_)=>[t]|none=>[])
def wix(ds:List D):List Nat:=(List.range ds.length).filter fun i=>(ds[i]?.map D.w).getD false
def pos(ds:List D)(j:Nat):Nat:=(ds.take j).countP fun d=>d.w
def zr(ds:List D)(i:Nat):Option Nat:=ds[i]?.bind fun d=>d.o.dst
def jw(ds:List D)(i:Nat):List Nat:=(ds[i]?.map D.anc).getD []
def Qx(ds:List D)(i:Nat):Option Nat:=ds[i]?.bind fun d=>d.slot
def okD(ds:List D)(aft:List Nat)(j:Nat)(d:D):Bool:=
 (aft.all fun i=>decide (i<j)) &&
 (d.anc.all fun i=>aft.contains i || aft.any fun s=>(jw ds s).contains i) &&
 (d.o.tmps.all fun t=>(List.range ds.length).all fun i=>!(zr ds i==some t) || (d.anc.contains i && decide (i<j)) || (!d.chk && decide (j≤i) && (i==j || (jw ds i).contains j))) &&
 (match d.o.dst with|none=>true|some t=>(List.range ds.length).all fun i=>i==j || !(zr ds i==some t)) &&
 ((List.range d.lo).all fun p=>match (wix ds)[p]? with|some i=>d.anc.contains i|none=>false) &&
 ((List.range (wix ds).length).all fun p=>decide (p<d.hi) || (match (wix ds)[p]? with|some i=>i==j || (jw ds i).contains j|none=>true)) &&
 (if d.w then (wix ds)[pos ds j]?==some j && d.lo==pos ds j else true) &&
 (match d.slot with
  | some s=>!d.w && d.chk && (match d.o.k with|.new _=>true|_=>false) && (List.range ds.length).all fun i=>i==j || !(Qx ds i==some s)
  | none=>d.w || !d.o.k.writes) &&
 (d.w || d.chk || (d.lo==pos ds j && d.hi==pos ds j) || (d.slot.isNone && !d.o.k.reads))
def qoN(P:Program)(base:Nat)(e:Env)(S:St)(d:D)(v:V)(S':St):Prop:=
 (qR e d.o.g=some false∧v=.tup []∧S'=S)∨
 (qR e d.o.g=some true∧((∃s,d.slot=some s∧v=.ptr (base+s) 0 0 1∧S'=S)∨
  (d.slot=none∧((∃f args,d.o.k=.call f args)∨evK e S d.o.k=some (v,S')))))
def dwp(P:Program)(base:Nat):List D→(Env→List St→Prop)→Env→St→List St→Prop
 | [],K,e,_,H=>K e H
 | d::ds,K,e,S,H=>match qR e d.o.g with
  | none=>False
  | some false=>dwp P base ds K (e.put d.o.dst (.tup [])) S (if d.w then H++[S] else H)
  | some true=>match d.slot with
   | some s=>dwp P base ds K (e.put d.o.dst (.ptr (base+s) 0 0 1)) S (if d.w then H++[S] else H)
   | none=>match d.o.k with
    | .call f args=>match f.ev e,evs e args with
     | some (.fn (.func k) fs cs),some vs=>∃R:V→St→Prop,qv P k (fs++vs++cs) S R∧(∃v S',R v S')∧∀v S',R v S'→dwp P base ds K (e.put d.o.dst v) S' (if d.w then H++[S'] else H)
     | _,_=>False
    | k=>match evK e S k with
     | some (r,S')=>dwp P base ds K (e.put d.o.dst r) S' (if d.w then H++[S'] else H)
     | none=>False
def Tr(P:Program)(base:Nat):List D→Env→St→List St→Env→List St→Prop
 | [],e,_,H,ef,Hf=>ef=e∧Hf=H
 | d::ds,e,S,H,ef,Hf=>∃v S',qoN P base e S d v S'∧Tr P base ds (e.put d.o.dst v) S' (if d.w then H++[S'] else H) ef Hf
theorem Yw{P:Program}{k:Nat}{args:List V}{S:St}{Φ:V→St→Prop}{v:V}{S':St}(h:qv P k args S (fun r T=>r=v∧T=S'))(g:Φ v S'):∃R:V→St→Prop,qv P k args S R∧(∃v S',R v S')∧∀v S',R v S'→Φ v S':=
 ⟨_,h,⟨v,S',rfl,rfl⟩,fun _ _ hh=>by obtain ⟨rfl,rfl⟩:=hh;exact g⟩
theorem jJ{e:Env}{d:Option Nat}{v:V}{t:Nat}:(e.put d v).get t=if d=some t then some v else e.get t:=by
 cases d with
 | none=>simp[Env.put]
 | some d=>simp[Env.put,Env.get]
theorem jN{P:Program}{base:Nat}{t:Nat}:∀(ds:List D) (e:Env) (S:St) (H:List St) (ef:Env) (Hf:List St),Tr P base ds e S H ef Hf→(∀d,d∈ds→d.o.dst≠some t)→ef.get t=e.get t
 | [],e,S,H,ef,Hf,h,_=>by rw[h.1]
 | d::ds,e,S,H,ef,Hf,⟨v,S',h1,h2⟩,hd=>by
  rw[jN ds _ _ _ _ _ h2 fun d' hd'=>hd d' (by simp[hd']),jJ,if_neg (hd d (by simp))]
theorem J8{P:Program}{base:Nat}:∀(ds:List D) (e:Env) (S:St) (H:List St) (ef:Env) (Hf:List St),Tr P base ds e S H ef Hf→∃T,Hf=H++T∧T.length=ds.countP fun d=>d.w
 | [],e,S,H,ef,Hf,h=>⟨[],by simp[h.2],rfl⟩
 | d::ds,e,S,H,ef,Hf,⟨v,S',h1,h2⟩=>by
  obtain ⟨T,ht,hl⟩:=J8 ds _ _ _ _ _ h2;cases hw:d.w
  ·rw[hw] at ht;simp only[qq1,if_false] at ht;exact ⟨T,ht,by rw[hl];simp[qr5,hw]⟩
  ·rw[hw] at ht;simp only[if_true] at ht;exact ⟨S'::T,by rw[ht];simp,by simp[qr5,hw,hl]⟩
theorem yu{e e':Env}{o:O'}(h:ZZ o.tmps e e'):qR e' o.g=qR e o.g:=by
 cases hg:o.g with
 | none=>rfl
 | some p=>
  obtain ⟨t,w⟩:=p;simp only[qR];rw[h t (by simp[O'.tmps,hg])]
structure Ok(ds:List D)(aft:Nat→List Nat)(j:Nat)(d:D):Prop where
 back:∀i,i∈aft j→i<j
 anc:∀i,i∈d.anc→i∈aft j∨∃s,s∈aft j∧i∈jw ds s
 tmps:∀t,t∈d.o.tmps→∀i,zr ds i=some t→(i∈d.anc∧i<j)∨(d.chk=false∧j≤i∧(i=j∨j∈jw ds i))
 dst:∀t,d.o.dst=some t→∀i,i≠j→zr ds i≠some t
 lo:∀p,p<d.lo→∃i,(wix ds)[p]?=some i∧i∈d.anc
 hi:∀p i,d.hi≤p→(wix ds)[p]?=some i→i=j∨j∈jw ds i
 wr:d.w=true→(wix ds)[pos ds j]?=some j∧d.lo=pos ds j
 slot:∀s,d.slot=some s→d.w=false∧d.chk=true∧(∃z,d.o.k=.new z)∧∀i,i≠j→Qx ds i≠some s
 noslot:d.slot=none→d.w=true∨d.o.k.writes=false
 nochk:d.w=true∨d.chk=true∨(d.lo=pos ds j∧d.hi=pos ds j)∨(d.slot=none∧d.o.k.reads=false)
theorem qaA{ds:List D}{i t:Nat}(h:zr ds i=some t):i<ds.length:=by
 unfold zr at h
 cases hd:ds[i]? with
 | none=>rw[hd] at h;cases h
 | some d=>exact (qqx.1 hd).1
theorem qbb{ds:List D}{i t:Nat}(h:Qx ds i=some t):i<ds.length:=by
 unfold Qx at h
 cases hd:ds[i]? with
 | none=>rw[hd] at h;cases h
 | some d=>exact (qqx.1 hd).1
theorem qhH{ds:List D}{aft:Nat→List Nat}{j:Nat}{d:D}(h:okD ds (aft j) j d=true):Ok ds aft j d:=by
 unfold okD at h;simp only[qqL] at h;obtain ⟨⟨⟨⟨⟨⟨⟨⟨h1,h2⟩,h3⟩,h4⟩,h5⟩,h6⟩,h7⟩,h8⟩,h9⟩:=h;simp only[qqV,decide_eq_true_eq,qsy,qst,List.contains_iff_mem,List.any_eq_true,qqL,qsj,beq_eq_false_iff_ne,ne_eq] at h1 h2 h3 h5 h6;refine ⟨h1,h2,fun t ht i hi=>?_,fun t ht i hi hne=>?_,fun p hp=>?_,fun p i hp hi=>?_,fun hw=>?_,fun s hs=>?_,fun hs=>?_,?_⟩
 ·rcases h3 t ht i (qaA hi) with (h|h)|⟨⟨h,h'⟩,h''⟩
  ·exact absurd hi h
  ·exact .inl h
  ·exact .inr ⟨h,h',by simpa using h''⟩
 ·rw[ht] at h4;simp only[qqV,qsy,qst,beq_iff_eq,qsj,beq_eq_false_iff_ne,ne_eq] at h4;exact (h4 i (qaA hne)).elim (fun h=>hi h) (fun h=>h hne)
 ·have:=h5 p hp;split at this
  ·rename_i i hi;exact ⟨i,hi,by simpa using this⟩
  ·cases this
 ·have hlt:=(qqx.1 hi).1;have:=(h6 p hlt).resolve_left (by omega);rw[hi] at this;simpa using this
 ·rw[if_pos hw] at h7;simp only[qqL,beq_iff_eq] at h7;exact h7
 ·rw[hs] at h8;simp only[qqL,qqV,qsy,qst,beq_iff_eq,qsj,beq_eq_false_iff_ne,ne_eq] at h8;obtain ⟨⟨⟨a,b⟩,c⟩,e⟩:=h8;refine ⟨by simpa using a,b,?_,fun i hi hne=>(e i (qbb hne)).elim (fun h=>hi h) (fun h=>h hne)⟩;split at c
  ·rename_i z hz;exact ⟨z,hz⟩
  ·cases c
 ·rw[hs] at h8;simpa using h8
 ·simp only[qst,qqL,beq_iff_eq] at h9;rcases h9 with ((h9|h9)|h9)|h9
  ·exact .inl h9
  ·exact .inr (.inl h9)
  ·exact .inr (.inr (.inl h9))
  ·exact .inr (.inr (.inr (by simpa using h9)))
theorem qdy{P:Program}{base:Nat}{all:List D}{aft:Nat→List Nat}{e0:Env}(ok:∀j d,all[j]?=some d→Ok all aft j d):∀(ds:List D) (k:Nat) (e:Env) (S:St) (H:List St) (ef:Env) (Hf:List St),all.drop k=ds→
  H.length=pos all k+1→H[pos all k]?=some S→Tr P base ds e S H ef Hf→(∀t,(∀i,i<k→zr all i≠some t)→e.get t=e0.get t)→∀j d,k≤j→all[j]?=some d→∃T v T' ej,Hf[pos all j]?=some T∧qoN P base ej T d v T'∧(∀t,d.o.dst=some t→ef.get t=some v)∧(d.w=true→Hf[pos all j+1]?=some T')∧
   (∀t,t∈d.o.tmps→(∀i,zr all i=some t→i<j)→ej.get t=ef.get t)∧(∀t i,j≤i→zr all i=some t→ej.get t=e0.get t)
 | [],k,e,S,H,ef,Hf,hd,hl,hS,h,he0,j,d,hj,hjd=>by
  have:=(qqx.1 hjd).1;have h0:(all.drop k).length=0:=by rw[hd];rfl
  simp at h0;omega
 | d0::ds,k,e,S,H,ef,Hf,hd,hl,hS,⟨v,S',h1,h2⟩,he0,j,d,hj,hjd=>by
  have hk:all[k]?=some d0:=by
   have:(all.drop k)[0]?=some d0:=by rw[hd];rfl
   simpa using this
  have hk1:all.drop (k+1)=ds:=by
   rw[←List.drop_drop,hd];rfl
  have hdk:=hd
  have hpos:pos all (k+1)=pos all k+if d0.w=true then 1 else 0:=by
   unfold pos;rw[qqW,hk];simp[List.countP_append,qr5]
  have hok:=ok k d0 hk
  have hin:∀d',d'∈ds→∃i,k<i∧all[i]?=some d':=fun d' hd'=>by
   obtain ⟨i,hi⟩:=qrl hd';rw[←hk1,qrd] at hi;exact ⟨k+1+i,by omega,hi⟩
  have hag:∀t,t∈d0.o.tmps→(∀i,zr all i=some t→i<k)→e.get t=ef.get t:=fun t ht hlt=>by
   refine (jN (P:=P) (base:=base) (t:=t) (d0::ds) e S H ef Hf ⟨v,S',h1,h2⟩ fun d' hd' hdd=>?_).symm
   have:∃i,k≤i∧all[i]?=some d':=by
    rcases qq0.1 hd' with rfl|hd'
    ·exact ⟨k,qqC _,hk⟩
    ·obtain ⟨i,hi,hi'⟩:=hin d' hd';exact ⟨i,by omega,hi'⟩
   obtain ⟨i,hi,hi'⟩:=this;have:=hlt i (by simp[zr,hi',hdd]);omega
  have hold:∀t i,k≤i→zr all i=some t→e.get t=e0.get t:=fun t i hi hit=>he0 t fun i' hi' hit'=>by
   obtain ⟨d',hd',hdd⟩:∃d',all[i]?=some d'∧d'.o.dst=some t:=by
    unfold zr at hit
    cases hx:all[i]? with
    | none=>rw[hx] at hit;cases hit
    | some d'=>rw[hx] at hit;exact ⟨d',rfl,hit⟩
   exact (ok i d' hd').dst t hdd i' (by omega) hit'
  have hdst:∀t,d0.o.dst=some t→ef.get t=some v:=fun t ht=>by
   rw[jN ds _ _ _ _ _ h2 fun d' hd' hdd=>by
    obtain ⟨i,hi,hi'⟩:=hin d' hd';exact hok.dst t ht i (by omega) (by simp[zr,hi',hdd]),jJ,if_pos ht]
  obtain ⟨T0,hT0,_⟩:=J8 ds _ _ _ _ _ h2;rcases qsi k j with hlt|hge
  ·refine qdy ok ds (k+1) _ S' _ ef Hf hk1 ?_ ?_ h2 ?_ j d hlt hjd
   ·cases hw:d0.w <;> simp[hw] at hpos ⊢<;> omega
   rotate_left
   ·intro t ht;rw[jJ,if_neg (fun hdd=>ht k (by omega) (by simp[zr,hk,hdd]))];exact he0 t fun i hi=>ht i (by omega)
   ·cases hw:d0.w
    ·simp only[hw,qq1,if_false] at hpos ⊢
     have:S'=S:=by
      rcases h1 with ⟨_,_,h⟩|⟨_,h⟩
      ·exact h
      ·rcases h with ⟨s,_,_,h⟩|⟨hs,h⟩
       ·exact h
       ·have hnw:=(hok.noslot hs).resolve_left (by simp[hw]);rcases h with ⟨f,args,hkk⟩| h
        ·rw[hkk] at hnw;simp[K.writes] at hnw
        ·exact Ym hnw h
     rw[this,hpos];exact hS
    ·simp only[hw,if_true] at hpos ⊢;rw[hpos,qqy (by omega),hl];simp
  ·have hjk:j=k:=by omega
   subst hjk;rw[hk] at hjd;cases hjd;refine ⟨S,v,S',e,?_,h1,hdst,fun hw=>?_,hag,hold⟩
   ·rw[hT0];have:pos all j<H.length:=by omega
    split
    ·rw[qqR,qqA this];exact hS
    ·rw[qqA this];exact hS
   ·rw[hT0,if_pos hw,qqR,qqy (by omega),hl];simp
structure EnvAt(ds:List D)(e0:Env)(i:Nat)(d:D)(ei ef:Env):Prop where
 f5:∀t,t∈d.o.tmps→(∀s,zr ds s=some t→s<i)→ei.get t=ef.get t
 f6:∀t s,i≤s→zr ds s=some t→ei.get t=e0.get t
def qmA(d:D)(q:Nat)(v:V)(S':St)(ef:Env)(Hf:List St):Prop:=(∀t,d.o.dst=some t→ef.get t=some v)∧Hf[q+1]?=some S'
def Det(e:Env)(S:St)(d:D)(v:V)(S':St):Prop:=
 (qR e d.o.g=some false∧v=.tup []∧S'=S)∨(qR e d.o.g=some true∧d.slot=none∧evK e S d.o.k=some (v,S'))
def qaE(P:Program)(ds:List D)(e0:Env):Nat→Nat→(Env→List St→Prop)→Prop
 | 0,_,C=>∃ef Hf,C ef Hf
 | m+1,q,C=>(∃ef Hf,C ef Hf)∧∃i d ei T,(wix ds)[q]?=some i∧ds[i]?=some d∧(∀ef Hf,C ef Hf→Hf[q]?=some T∧EnvAt ds e0 i d ei ef)∧
  ((∃v S',Det ei T d v S'∧(∀ef Hf,C ef Hf→qmA d q v S' ef Hf)∧qaE P ds e0 m (q+1) C)∨
   (∃f args k fs cs vs,∃R:V→St→Prop,qR ei d.o.g=some true∧d.slot=none∧d.o.k=.call f args∧f.ev ei=some (.fn (.func k) fs cs)∧evs ei args=some vs∧qv P k (fs++vs++cs) T R∧
    ∀v S',R v S'→∃C':Env→List St→Prop,(∀ef Hf,C' ef Hf→C ef Hf∧qmA d q v S' ef Hf)∧qaE P ds e0 m (q+1) C'))
theorem qaE.some{P:Program}{ds:List D}{e0:Env}{m q:Nat}{C:Env→List St→Prop}(h:qaE P ds e0 m q C):∃ef Hf,C ef Hf:=by
 cases m with
 | zero=>exact h
 | succ m=>exact h.1
theorem qhY{all:List D}{k:Nat}{d:D}(hk:all[k]?=some d):pos all (k+1)=pos all k+if d.w=true then 1 else 0:=by
 unfold pos;rw[qqW,hk];simp[List.countP_append,qr5]
section
variable {P:Program} {base:Nat} {all:List D} {aft:Nat→List Nat} {e0:Env} (ok:∀j d,all[j]?=some d→Ok all aft j d)
include ok
theorem qjL{d:D}{ds:List D}{k:Nat}{e:Env}{S:St}{H:List St}{ef:Env}{Hf:List St}(hd:all.drop k=d::ds)(h:Tr P base (d::ds) e S H ef Hf)(he0:∀t,(∀i,i<k→zr all i≠some t)→e.get t=e0.get t):EnvAt all e0 k d e ef:=by
 have hk:all[k]?=some d:=by
  have:(all.drop k)[0]?=some d:=by rw[hd];rfl
  simpa using this
 refine ⟨fun t ht hlt=>(jN (P:=P) (base:=base) (t:=t) (d::ds) e S H ef Hf h fun d' hd' hdd=>?_).symm,fun t i hi hit=>he0 t fun i' hi' hit'=>?_⟩
 ·obtain ⟨i,hi⟩:=qrl hd';rw[←hd,qrd] at hi;have:=hlt (k+i) (by simp[zr,hi,hdd]);omega
 ·obtain ⟨d',hd',hdd⟩:∃d',all[i]?=some d'∧d'.o.dst=some t:=by
   unfold zr at hit
   cases hx:all[i]? with
   | none=>rw[hx] at hit;cases hit
   | some d'=>rw[hx] at hit;exact ⟨d',rfl,hit⟩
  exact (ok i d' hd').dst t hdd i' (by omega) hit'
theorem qjN{d:D}{ds:List D}{k:Nat}{e:Env}{S':St}{v:V}{H:List St}{ef:Env}{Hf:List St}(hd:all.drop k=d::ds)(hl:H.length=pos all k+1)(h:Tr P base ds (e.put d.o.dst v) S' (H++[S']) ef Hf):qmA d (pos all k) v S' ef Hf:=by
 have hk:all[k]?=some d:=by
  have:(all.drop k)[0]?=some d:=by rw[hd];rfl
  simpa using this
 have hk1:all.drop (k+1)=ds:=by
  rw[←List.drop_drop,hd];rfl
 constructor
 ·intro t ht
  rw[jN ds _ _ _ _ _ h fun d' hd' hdd=>by
   obtain ⟨i,hi⟩:=qrl hd';rw[←hk1,qrd] at hi;exact (ok k d hk).dst t ht (k+1+i) (by omega) (by simp[zr,hi,hdd]),jJ,if_pos ht]
 ·obtain ⟨T0,hT0,_⟩:=J8 ds _ _ _ _ _ h;rw[hT0,qqR,qqy (by omega),hl];simp
theorem JE{K:Env→List St→Prop}:∀(ds:List D) (k:Nat) (e:Env) (S:St) (H:List St),all.drop k=ds→H.length=pos all k+1→H[pos all k]?=some S→(∀t,(∀i,i<k→zr all i≠some t)→e.get t=e0.get t)→
  dwp P base ds K e S H→∃C:Env→List St→Prop,(∀ef Hf,C ef Hf→K ef Hf∧Tr P base ds e S H ef Hf)∧qaE P all e0 (ds.countP fun d=>d.w) (pos all k) C
 | [],k,e,S,H,_,_,_,_,h=>⟨fun ef Hf=>ef=e∧Hf=H,fun ef Hf hc=>⟨by rw[hc.1,hc.2];exact h,hc⟩,e,H,rfl,rfl⟩
 | d::ds,k,e,S,H,hd,hl,hS,he0,h=>by
  have hk:all[k]?=some d:=by
   have:(all.drop k)[0]?=some d:=by rw[hd];rfl
   simpa using this
  have hk1:all.drop (k+1)=ds:=by
   rw[←List.drop_drop,hd];rfl
  have hpos:=qhY hk
  have he1:∀v t,(∀i,i<k+1→zr all i≠some t)→(e.put d.o.dst v).get t=e0.get t:=fun v t ht=>by
   rw[jJ,if_neg (fun hdd=>ht k (by omega) (by simp[zr,hk,hdd]))];exact he0 t fun i hi=>ht i (by omega)
  have one:∀(v:V) (S':St),qoN P base e S d v S'→(d.w=true→Det e S d v S')→(d.w=false→S'=S)→dwp P base ds K (e.put d.o.dst v) S' (if d.w then H++[S'] else H)→
    ∃C:Env→List St→Prop,(∀ef Hf,C ef Hf→K ef Hf∧Tr P base (d::ds) e S H ef Hf)∧qaE P all e0 ((d::ds).countP fun d=>d.w) (pos all k) C:=by
   intro v S' hst hdt hsm h;cases hw:d.w
   ·rw[hw] at h;simp only[qq1,if_false] at h;obtain ⟨C,h1,h2⟩:=JE ds (k+1) _ S' H hk1 (by rw[hpos,hw];simpa using hl) (by rw[hpos,hw,hsm hw];simpa using hS) (he1 v) h;refine ⟨C,fun ef Hf hc=>⟨(h1 ef Hf hc).1,v,S',hst,by rw[hw];exact (h1 ef Hf hc).2⟩,?_⟩;rw[hpos,hw] at h2;rw[qr5,hw];exact h2
   ·rw[hw] at h;simp only[if_true] at h;obtain ⟨C,h1,h2⟩:=JE ds (k+1) _ S' (H++[S']) hk1 (by rw[hpos,hw];simp[hl]) (by rw[hpos,hw];simp[←hl]) (he1 v) h;refine ⟨C,fun ef Hf hc=>⟨(h1 ef Hf hc).1,v,S',hst,by rw[hw];exact (h1 ef Hf hc).2⟩,?_⟩;rw[hpos,hw] at h2;rw[qr5,hw];refine ⟨h2.some,k,d,e,S,(ok k d hk).wr hw |>.1,hk,fun ef Hf hc=>⟨?_,?_⟩,.inl ⟨v,S',hdt hw,fun ef Hf hc=>qjN ok hd hl (h1 ef Hf hc).2,h2⟩⟩
    ·obtain ⟨T0,hT0,_⟩:=J8 ds _ _ _ _ _ (h1 ef Hf hc).2;rw[hT0,qqR,qqA (by omega)];exact hS
    ·exact qjL ok hd (H:=H) ⟨v,S',hst,by rw[hw];exact (h1 ef Hf hc).2⟩ he0
  simp only[dwp] at h;split at h
  ·exact h.elim
  ·rename_i hw;exact one (.tup []) S (.inl ⟨hw,rfl,rfl⟩) (fun _=>.inl ⟨hw,rfl,rfl⟩) (fun _=>rfl) h
  ·rename_i hw;split at h
   ·rename_i s hs;exact one _ S (.inr ⟨hw,.inl ⟨s,hs,rfl,rfl⟩⟩) (fun hdw=>by rw[((ok k d hk).slot s hs).1] at hdw;cases hdw) (fun _=>rfl) h
   ·rename_i hs;split at h
    ·rename_i f args hkc;have hdw:d.w=true:=((ok k d hk).noslot hs).resolve_right (by rw[hkc];simp[Go.Proofs.YtbifpocccfkhhaaGreatDoor.K.writes]);split at h <;> try exact h.elim
     rename_i kf fs cs vs hf hvs;obtain ⟨R,hsp,⟨v0,S0',hR0⟩,h⟩:=h;rw[hdw] at h;simp only[if_true] at h
     have all':∀(v:V) (S':St),R v S'→∃C:Env→List St→Prop,(∀ef Hf,C ef Hf→K ef Hf∧Tr P base ds (e.put d.o.dst v) S' (H++[S']) ef Hf)∧qaE P all e0 (ds.countP fun d=>d.w) (pos all k+1) C:=fun v S' hR=>by
      rw[←show pos all (k+1)=pos all k+1 by rw[hpos,hdw];rfl];exact JE ds (k+1) _ S' (H++[S']) hk1 (by rw[hpos,hdw];simp[hl]) (by rw[hpos,hdw];simp[←hl]) (he1 v) (h v S' hR)
     have tr:∀(v:V) (S':St) (ef:Env) (Hf:List St),Tr P base ds (e.put d.o.dst v) S' (H++[S']) ef Hf→Tr P base (d::ds) e S H ef Hf:=fun v S' ef Hf ht=>
      ⟨v,S',.inr ⟨hw,.inr ⟨hs,.inl ⟨f,args,hkc⟩⟩⟩,by rw[hdw];exact ht⟩
     refine ⟨fun ef Hf=>∃(v:V) (S':St) (hR:R v S'),Classical.choose (all' v S' hR) ef Hf,fun ef Hf ⟨v,S',hR,hc⟩=>?_,?_⟩
     ·have:=(Classical.choose_spec (all' v S' hR)).1 ef Hf hc;exact ⟨this.1,tr _ _ _ _ this.2⟩
     ·rw[qr5,hdw];refine ⟨?_,k,d,e,S,(ok k d hk).wr hdw |>.1,hk,fun ef Hf ⟨v,S',hR,hc⟩=>⟨?_,?_⟩,.inr ⟨f,args,kf,fs,cs,vs,R,hw,hs,hkc,hf,hvs,hsp,fun v S' hR=>⟨Classical.choose (all' v S' hR),fun ef Hf hc=>⟨⟨v,S',hR,hc⟩,?_⟩,?_⟩⟩⟩
      ·obtain ⟨ef,Hf,hc⟩:=(Classical.choose_spec (all' v0 S0' hR0)).2.some;exact ⟨ef,Hf,v0,S0',hR0,hc⟩
      ·have:=(Classical.choose_spec (all' v S' hR)).1 ef Hf hc;obtain ⟨T0,hT0,_⟩:=J8 ds _ _ _ _ _ this.2;rw[hT0,qqR,qqA (by omega)];exact hS
      ·have:=(Classical.choose_spec (all' v S' hR)).1 ef Hf hc;exact qjL ok hd (tr _ _ _ _ this.2) he0
      ·exact qjN ok hd hl ((Classical.choose_spec (all' v S' hR)).1 ef Hf hc).2
      ·exact (Classical.choose_spec (all' v S' hR)).2
    ·split at h <;> try exact h.elim
     rename_i r S' hev;refine one r S' (.inr ⟨hw,.inr ⟨hs,.inr hev⟩⟩) (fun _=>.inr ⟨hw,hs,hev⟩) (fun hdw=>?_) h;exact Ym (((ok k d hk).noslot hs).resolve_left (by simp[hdw])) hev
end
def qqj(base:Nat)(ef:Env)(H:List St)(d:D):Prop:=
 ∀q,d.lo≤q→q≤d.hi→∀T,H[q]?=some T→match d.slot with
  | some s=>match d.o.k with
   | .new z=>T[base+s]?=some (.arr [z] z.size 1)∧0<z.size∧(z.cells.all V.flat)=true
   | _=>False
  | none=>∃v,evK ef T d.o.k=some (v,T)∧∀t,d.o.dst=some t→ef.get t=some v
def qll(base:Nat)(ef:Env)(H:List St)(ds:List D):Prop:=∀d,d∈ds→d.chk=true→d.w=false→qR ef d.o.g=some true→qqj base ef H d
def qiD(P:Program)(N:Nat)(ops:Array Oper)(ds:List D):Bool:=
 decide (ds.length=ops.size) && (List.range ds.length).all fun j=>match ds[j]?,ops[j]? with
  | some d,some o=>okD ds ((o.after.toList.filter fun e=>Region.binds .any e).map fun e=>e.on) j d
  | _,_=>false
def yS(ops:Array Oper)(j:Nat):List Nat:=match ops[j]? with
 | some o=>(o.after.toList.filter fun e=>Region.binds .any e).map fun e=>e.on
 | none=>[]
theorem qd4{P:Program}{N:Nat}{ops:Array Oper}{ds:List D}(h:qiD P N ops ds=true):ds.length=ops.size∧∀j d,ds[j]?=some d→Ok ds (yS ops) j d:=by
 unfold qiD at h;simp only[qqL,decide_eq_true_eq,qqV,qsy] at h;refine ⟨h.1,fun j d hj=>?_⟩;have hlt:=(qqx.1 hj).1;have:=h.2 j hlt;rw[hj] at this
 cases ho:ops[j]? with
 | none=>rw[ho] at this;simp at this
 | some o=>
  rw[ho] at this;refine qhH (aft:=yS ops) ?_;simpa[yS,ho] using this
structure Inv(ds:List D)(N n0 m0 base:Nat)(e0 ef:Env)(Hf:List St)(E0:En)(S0:St)(w0:World)(listed:Array Bool)(q:Nat)(E:En)(S:St)(a:Act)(w:World):Prop where
 size:listed.size=ds.length
 closed:∀j d,ds[j]?=some d→listed.getD j false=true→∀i,i∈d.anc→listed.getD i false=true
 num:∀p i,(wix ds)[p]?=some i→(listed.getD i false=true↔p<q)
 qle:q≤(wix ds).length
 st:Hf[q]?=some S
 tmps:∀t v,ef.get t=some v→(∀i,zr ds i=some t→listed.getD i false=true)→∃u,a.tmps[t]?=some u∧VR E v u
 tmps0:∀t v,e0.get t=some v→(∀i,zr ds i=some t→listed.getD i false=false)→∃u,a.tmps[t]?=some u∧VR E v u
 slots:∀i s,Qx ds i=some s→listed.getD i true=false→∀st,E.ρ (base+s) st=none
 N:a.tmps.size=N
 defers:YI m0 E S w a.defers
 sr:SR E S w
 len:base≤S.length
 room:∀i s,Qx ds i=some s→base+s<S.length
 ext:Ext n0 E0 S0 w0 E S w
theorem Qp{l:Array Bool}{i:Nat}:l.getD i true=false↔∃h:i<l.size,l[i]=false:=by
 simp only[Array.getD];split
 ·rename_i h;simp[h]
 ·rename_i h;simp[h]
theorem Qk{l:Array Bool}{i:Nat}:l.getD i false=true↔∃h:i<l.size,l[i]=true:=by
 simp only[Array.getD];split
 ·rename_i h;simp[h]
 ·rename_i h;simp[h]
theorem QD{l:Array Bool}{j i:Nat}(hj:j<l.size):(l.setIfInBounds j true).getD i false=true↔i=j∨l.getD i false=true:=by
 by_cases h:j=i
 ·subst h;simp[hj]
 ·rw[getD_set_ne false h];exact ⟨.inr,fun h'=>h'.resolve_left (fun e=>h e.symm)⟩
theorem count_set{l:Array Bool}{j:Nat}(hj:l.getD j true=false):(l.setIfInBounds j true).toList.count false+1=l.toList.count false:=by
 obtain ⟨h,hv⟩:=Qp.1 hj;have:(l.setIfInBounds j true).toList=l.toList.set j true:=by simp
 have hlt:j<l.toList.length:=by simpa using h
 have h1:l.toList[j]=false:=by simpa using hv
 have h2:0<l.toList.count false:=List.count_pos_iff.2 (by rw[←h1];exact qqP _);rw[this,List.count_set hlt,h1];rw[show (if (true==false)=true then 1 else 0)=0 from rfl,show (if (false==false)=true then 1 else 0)=1 from rfl];omega
theorem qfV{l:Array Bool}(h:l.toList.count false=0){i:Nat}(hi:i<l.size):l.getD i false=true:=by
 rw[List.count_eq_zero] at h;refine Qk.2 ⟨hi,?_⟩
 cases hb:l[i] with
 | true=>rfl
 | false=>exact absurd (by rw[←hb];simp) h
theorem qaH{ds:List D}{p i:Nat}(h:(wix ds)[p]?=some i):∃d,ds[i]?=some d∧d.w=true:=by
 have:=qqG h;unfold wix at this;rw[qrv] at this
 cases hd:ds[i]? with
 | none=>rw[hd] at this;simp at this
 | some d=>rw[hd] at this;exact ⟨d,rfl,by simpa using this.2⟩
theorem qj6{ds:List D}{p p' i:Nat}(h:(wix ds)[p]?=some i)(h':(wix ds)[p']?=some i):p=p':=by
 have hn:(wix ds).Nodup:=List.Pairwise.filter _ List.nodup_range;exact (List.getElem?_inj (qqx.1 h).1 hn).1 (h.trans h'.symm)
section
variable {P:Program} {N n0 m0:Nat} {ro:Option Nat} {n:Nat} {ops:Array Oper} {Q:yH} {ds:List D} {base:Nat} {e0 ef:Env} {Hf:List St} {E0:En} {S0:St} {w0:World}
def qpI(P:Program)(ds:List D)(base:Nat)(e0 ef:Env)(Hf:List St)(j:Nat)(d:D):Prop:=
 ∃T v T' ej,Hf[pos ds j]?=some T∧qoN P base ej T d v T'∧(∀t,d.o.dst=some t→ef.get t=some v)∧(d.w=true→Hf[pos ds j+1]?=some T')∧
  (∀t,t∈d.o.tmps→(∀i,zr ds i=some t→i<j)→ej.get t=ef.get t)∧(∀t i,j≤i→zr ds i=some t→ej.get t=e0.get t)
theorem Inv.range{listed:Array Bool}{q:Nat}{E:En}{S:St}{a:Act}{w:World}(inv:Inv ds N n0 m0 base e0 ef Hf E0 S0 w0 listed q E S a w)(ok:∀j d,ds[j]?=some d→Ok ds (yS ops) j d){j:Nat}{d:D}(hj:ds[j]?=some d)
  (hun:listed.getD j true=false) (hanc:∀i,i∈d.anc→listed.getD i false=true):d.lo≤q∧(d.w=false→q≤d.hi)∧(d.w=true→q=pos ds j):=by
 have hok:=ok j d hj
 have hnl:listed.getD j false≠true:=by
  intro h;obtain ⟨h1,h2⟩:=Qp.1 hun;obtain ⟨h3,h4⟩:=Qk.1 h;rw[h2] at h4;cases h4
 have hlo:d.lo≤q:=by
  rcases qsi q d.lo with h| h
  ·obtain ⟨i,hi,hia⟩:=hok.lo q h;have:=(inv.num q i hi).1 (hanc i hia);omega
  ·exact h
 refine ⟨hlo,fun hw=>?_,fun hw=>?_⟩
 ·rcases qsi d.hi q with h| h
  ·have hlt:d.hi<(wix ds).length:=qrb h inv.qle;have hi:(wix ds)[d.hi]?=some (wix ds)[d.hi]:=by simp[hlt]
   rcases hok.hi d.hi _ (qqC _) hi with he|he
   ·obtain ⟨d',hd',hw'⟩:=qaH hi;rw[he,hj] at hd';cases hd';rw[hw] at hw';cases hw'
   ·have hl:=(inv.num d.hi _ hi).2 h;obtain ⟨d',hd',_⟩:=qaH hi;exact absurd (inv.closed _ d' hd' hl j (by simpa[jw,hd'] using he)) hnl
  ·exact h
 ·obtain ⟨h1,h2⟩:=hok.wr hw;have hnq:¬ pos ds j<q:=fun h=>hnl ((inv.num _ j h1).2 h)
  omega
theorem Inv.next{listed:Array Bool}{q:Nat}{E:En}{S:St}{a:Act}{w:World}(inv:Inv ds N n0 m0 base e0 ef Hf E0 S0 w0 listed q E S a w)(ok:∀j d,ds[j]?=some d→Ok ds (yS ops) j d){i:Nat}{d:D}{o:Oper}(hd:ds[i]?=some d)
  (hun:listed.getD i true=false) (hanc:∀s,s∈d.anc→listed.getD s false=true) (hdst:d.o.dst=o.dst) (hdN:qdU N o.dst=true) {v:V} {E':En} {S':St} {u:Value} {w':World}
  (f3:∀t,d.o.dst=some t→ef.get t=some v) (hq:d.w=true→q=pos ds i) (hS':d.w=true→Hf[q+1]?=some S') (hSS:d.w=false→S'=S)
  (hv:∀t,o.dst=some t→VR E' v u) (hle:E.le E') (hsr:SR E' S' w') (hext:Ext n0 E S w E' S' w') (hl:S.length≤S'.length)
  (hsl:∀i' s,Qx ds i'=some s→i'≠i→(∀st,E.ρ (base+s) st=none)→∀st,E'.ρ (base+s) st=none):
  Inv ds N n0 m0 base e0 ef Hf E0 S0 w0 (listed.setIfInBounds i true) (if d.w then q+1 else q) E' S' (a.put o.dst u) w':=by
 have hok:=ok i d hd;have hils:i<listed.size:=by rw[inv.size];exact (qqx.1 hd).1
 refine ⟨by simp[inv.size],?_,?_,?_,?_,?_,?_,?_,?_,?_,hsr,qra inv.len hl,fun i' s hs=>qrb (inv.room i' s hs) hl,inv.ext.trans hext⟩
 ·intro j d' hj hlj s hs;rw[QD hils] at hlj ⊢;rcases hlj with rfl|hlj
  ·rw[hd] at hj;cases hj;exact .inr (hanc s hs)
  ·exact .inr (inv.closed j d' hj hlj s hs)
 ·intro p i' hp;rw[QD hils,inv.num p i' hp]
  cases hw:d.w with
  | true=>
   have hq:=hq hw;simp only[if_true];constructor
   ·rintro (rfl|h)
    ·have:=qj6 hp (hok.wr hw).1;omega
    ·omega
   ·intro h;rcases qsi p q with h'|h'
    ·exact .inr h'
    ·have:p=pos ds i:=by omega
     subst this;rw[(hok.wr hw).1] at hp;cases hp;exact .inl rfl
  | false=>
   simp only[qq1,if_false];refine ⟨fun h=>h.resolve_left ?_,.inr⟩;rintro rfl;obtain ⟨d',hd',hw'⟩:=qaH hp;rw[hd] at hd';cases hd';rw[hw] at hw';cases hw'
 ·cases hw:d.w with
  | true=>
   have hq:=hq hw;have:=(qqx.1 (hok.wr hw).1).1;simp only[if_true];omega
  | false=>simpa using inv.qle
 ·cases hw:d.w with
  | true=>
   have hq:=hq hw;simp only[if_true];exact hS' hw
  | false=>
   simp only[qq1,if_false];rw[hSS hw];exact inv.st
 ·intro t vt hvt hall';by_cases ht:o.dst=some t
  ·have h3:=f3 t (by rw[hdst];exact ht);rw[hvt] at h3;cases h3;refine ⟨u,?_,hv t ht⟩;have hlt:t<a.tmps.size:=by rw[inv.N];rw[ht] at hdN;simpa[qdU] using hdN
   rw[ht];show (a.tmps.setIfInBounds t u)[t]?=some u;simp[hlt]
  ·obtain ⟨x,hx,hxr⟩:=inv.tmps t vt hvt fun s hs=>by
    have:=hall' s hs;rw[QD hils] at this;refine this.resolve_left ?_;rintro rfl;simp[zr,hd,hdst] at hs;exact ht hs
   refine ⟨x,?_,hxr.mono hle⟩
   cases hod:o.dst with
   | none=>exact hx
   | some t'=>
    show (a.tmps.setIfInBounds t' u)[t]?=some x;rw[qq2 (by rintro rfl;exact ht hod)];exact hx
 ·intro t vt hvt hall'
  have ht:o.dst≠some t:=fun ht=>by
   have:=hall' i (by simp[zr,hd,hdst,ht]);have h2:(listed.setIfInBounds i true).getD i false=true:=(QD hils).2 (.inl rfl);rw[this] at h2;cases h2
  obtain ⟨x,hx,hxr⟩:=inv.tmps0 t vt hvt fun s hs=>by
   have:=hall' s hs
   cases hl':listed.getD s false with
   | false=>rfl
   | true=>rw[(QD hils).2 (.inr hl')] at this;cases this
  refine ⟨x,?_,hxr.mono hle⟩
  cases hod:o.dst with
  | none=>exact hx
  | some t'=>
   show (a.tmps.setIfInBounds t' u)[t]?=some x;rw[qq2 (by rintro rfl;exact ht hod)];exact hx
 ·intro i' s hs hl' st;by_cases hii:i'=i
  ·subst hii;rw[Qp] at hl';obtain ⟨h1,h2⟩:=hl';simp at h2
  ·exact hsl i' s hs hii (inv.slots i' s hs (by rw[getD_set_ne true (Ne.symm hii)] at hl';exact hl')) st
 ·cases o.dst <;> simp[Act.put,inv.N]
 ·cases o.dst <;> exact YI.step hext inv.defers
theorem Inv.opnd{listed:Array Bool}{q:Nat}{E:En}{S:St}{a:Act}{w:World}(inv:Inv ds N n0 m0 base e0 ef Hf E0 S0 w0 listed q E S a w)(ok:∀j d,ds[j]?=some d→Ok ds (yS ops) j d){i:Nat}{d:D}(hd:ds[i]?=some d)
  (hun:listed.getD i true=false) (hanc:∀s,s∈d.anc→listed.getD s false=true) {ej:Env} (ev:EnvAt ds e0 i d ej ef):∀t,t∈d.o.tmps→∀v,ej.get t=some v→∃u,a.tmps[t]?=some u∧VR E v u:=by
 have hok:=ok i d hd
 have hnl:∀s,(s=i∨i∈jw ds s)→listed.getD s false=false:=fun s hs=>by
  cases hl:listed.getD s false with
  | false=>rfl
  | true=>
   exfalso
   have:listed.getD i false=true:=by
    rcases hs with rfl|hs
    ·exact hl
    ·cases hds:ds[s]? with
     | none=>simp[jw,hds] at hs
     | some d'=>exact inv.closed s d' hds hl i (by simpa[jw,hds] using hs)
   obtain ⟨h1,h2⟩:=Qp.1 hun;obtain ⟨h3,h4⟩:=Qk.1 this;rw[h2] at h4;cases h4
 intro t ht v hv;by_cases hlate:∃s,i≤s∧zr ds s=some t
 ·obtain ⟨s,hs,hst⟩:=hlate;rw[ev.f6 t s hs hst] at hv;refine inv.tmps0 t v hv fun s' hs'=>?_
  have hss:s'=s:=by
   cases hds:ds[s]? with
   | none=>simp[zr,hds] at hst
   | some d'=>
    have hdd:d'.o.dst=some t:=by simpa[zr,hds] using hst
    by_cases h:s'=s
    ·exact h
    ·exact absurd hs' ((ok s d' hds).dst t hdd s' h)
  subst hss;rcases hok.tmps t ht s' hst with ⟨_,h⟩|⟨_,_,h⟩
  ·omega
  ·exact hnl s' h
 ·rw[ev.f5 t ht fun s hs=>by
   rcases qsi s i with h| h
   ·exact h
   ·exact absurd ⟨s,h,hs⟩ hlate] at hv
  refine inv.tmps t v hv fun s hs=>?_
  rcases hok.tmps t ht s hs with ⟨h,_⟩|⟨_,h,_⟩
  ·exact hanc s h
  ·exact absurd ⟨s,h,hs⟩ hlate
theorem qbA:∀(ts:List Nat) (ej:Env) (t:Nat),t∈ts→(ej.keep ts).get t=ej.get t:=by
 intro ts ej
 induction ts with
 | nil=>intro t h;cases h
 | cons s ts ih=>
  intro t h;simp only[Env.keep];by_cases hst:s=t
  ·subst hst
   cases hs:ej.get s with
   | none=>
    simp only[]
    cases hk:(ej.keep ts).get s with
    | none=>rfl
    | some v=>have:=Env.get_keep hk;rw[hs] at this;cases this
   | some v=>simp[Env.get]
  ·have ht:=(qq0.1 h).resolve_left (fun e=>hst e.symm)
   cases hs:ej.get s with
   | none=>exact ih t ht
   | some v=>simp only[Env.get];rw[if_neg hst];exact ih t ht
theorem qha:∀(ts:List Nat) (ej:Env) (t:Nat),t∉ts→(ej.keep ts).get t=none:=by
 intro ts ej t
 induction ts with
 | nil=>intro _;rfl
 | cons s ts ih=>
  intro h;simp only[qq0,not_or] at h;simp only[Env.keep];split
  ·simp only[Env.get];rw[if_neg (Ne.symm h.1)];exact ih h.2
  ·exact ih h.2
def qpf(ds:List D)(base:Nat)(e0 ef:Env)(S:St)(i:Nat)(d:D)(ej:Env):Prop:=EnvAt ds e0 i d ej ef∧
 ((qR ej d.o.g=some false∧∀t,d.o.dst=some t→ef.get t=some (.tup []))∨
  (qR ej d.o.g=some true∧∃s z,d.slot=some s∧d.o.k=.new z∧(∀t,d.o.dst=some t→ef.get t=some (.ptr (base+s) 0 0 1))∧S[base+s]?=some (.arr [z] z.size 1)∧0<z.size∧(z.cells.all V.flat)=true)∨
  (qR ej d.o.g=some true∧d.slot=none∧∃v,evK ej S d.o.k=some (v,S)∧∀t,d.o.dst=some t→ef.get t=some v))
theorem Inv.seen{listed:Array Bool}{q:Nat}{E:En}{S:St}{a:Act}{w:World}(inv:Inv ds N n0 m0 base e0 ef Hf E0 S0 w0 listed q E S a w)(ok:∀j d,ds[j]?=some d→Ok ds (yS ops) j d){i:Nat}{d:D}(hd:ds[i]?=some d)
  (hun:listed.getD i true=false) (hanc:∀s,s∈d.anc→listed.getD s false=true) (hw:d.w=false) (fact:qpI P ds base e0 ef Hf i d) (chks:qll base ef Hf ds):∃ej,qpf ds base e0 ef S i d ej:=by
 have hok:=ok i d hd;obtain ⟨rlo,rhi,_⟩:=inv.range ok hd hun hanc;obtain ⟨T,v,T',ej,f1,f2,f3,f4,f5,f6⟩:=fact;refine ⟨ej,⟨f5,f6⟩,?_⟩
 have hstrict:d.chk=true→ZZ d.o.tmps ef ej:=fun hc t ht=>f5 t ht fun s hs=>by
  rcases hok.tmps t ht s hs with ⟨_,h⟩|⟨h,_⟩
  ·exact h
  ·rw[hc] at h;cases h
 rcases f2 with ⟨g1,g2,g3⟩|⟨g1,g2⟩
 ·exact .inl ⟨g1,by rw[←g2];exact f3⟩
 rcases g2 with ⟨s,hs,g3,g4⟩|⟨hs,g2⟩
 ·obtain ⟨k1,k2,⟨z,hz⟩,k4⟩:=hok.slot s hs;have hc:=chks d (qqG hd) k2 k1 (by rw[←yu (hstrict k2)];exact g1) q rlo (rhi k1) S inv.st;rw[hs,hz] at hc;simp only at hc;obtain ⟨c1,c2,c3⟩:=hc;exact .inr (.inl ⟨g1,s,z,hs,hz,by rw[←g3];exact f3,c1,c2,c3⟩)
 refine .inr (.inr ⟨g1,hs,?_⟩);have hnw:=(hok.noslot hs).resolve_left (by simp[hw]);rcases g2 with ⟨f,args,hkc⟩|g2
 ·rw[hkc] at hnw;simp[K.writes] at hnw
 have hT:=Ym hnw g2;subst hT;rcases hok.nochk.resolve_left (by simp[hw]) with hch|⟨hl,hh⟩|⟨_,hch⟩
 ·have hc:=chks d (qqG hd) hch hw (by rw[←yu (hstrict hch)];exact g1) q rlo (rhi hw) S inv.st;rw[hs] at hc;simp only at hc;obtain ⟨v',c1,c2⟩:=hc;exact ⟨v',by rw[Yo ((hstrict hch).sub fun t ht=>by simp[O'.tmps,ht])];exact c1,c2⟩
 ·have hq:q=pos ds i:=by have:=rhi hw;omega
  have:=inv.st;rw[hq,f1] at this;cases this;exact ⟨v,g2,f3⟩
 ·exact ⟨v,by rw[qiV (S:=T') hch,g2];rfl,f3⟩
structure Cls(P:Program)(ds:List D)(base:Nat)(e0:Env)(Q:yH)(ef:Env)(Hf:List St):Prop where
 facts:∀(j:Nat) (d:D),ds[j]?=some d→qpI P ds base e0 ef Hf j d
 chks:qll base ef Hf ds
 last:∀S,Hf.getLast?=some S→Q .normal ef S
 len:Hf.length=(wix ds).length+1
 keep:∀t,(∀i,zr ds i≠some t)→ef.get t=e0.get t
structure InvC(P:Program)(ds:List D)(N n0 m0 base:Nat)(e0:Env)(Q:yH)(E0:En)(S0:St)(w0:World)(C:Env→List St→Prop)(listed:Array Bool)(q:Nat)(E:En)(S:St)(a:Act)(w:World):Prop where
 cls:∀ef Hf,C ef Hf→Cls P ds base e0 Q ef Hf
 inv:∀ef Hf,C ef Hf→Inv ds N n0 m0 base e0 ef Hf E0 S0 w0 listed q E S a w
 good:qaE P ds e0 ((wix ds).length - q) q C
 agree:∀ef Hf ef' Hf',C ef Hf→C ef' Hf'→∀i t,listed.getD i false=true→zr ds i=some t→ef.get t=ef'.get t
theorem qeS{C:Env→List St→Prop}{listed:Array Bool}{q:Nat}{E:En}{S:St}{a:Act}{w:World}{M:Act→World→Prop}(ic:InvC P ds N n0 m0 base e0 Q E0 S0 w0 C listed q E S a w)(ok:∀j d,ds[j]?=some d→Ok ds (yS ops) j d)(hlen:ds.length=ops.size)(hn0:n0≤base)
  (hcomp:∀(j:Nat) (d:D) (o:Oper),ds[j]?=some d→ops[j]?=some o→zM P N ops o=some d.o) {i:Nat} (hi:i∈Region.ready .any ops listed)
  (hK:∀a' w' E' q' S' C',InvC P ds N n0 m0 base e0 Q E0 S0 w0 C' (listed.setIfInBounds i true) q' E' S' a' w'→M a' w'):
  wpOpIn (yO ro) n P ops (Up N n0 m0 E0 S0 w0 Q) i M a w:=by
 obtain ⟨hun,o,ho,hall⟩:=mem_ready.1 hi;have hilt:i<ds.length:=by rw[hlen];exact (qqQ.1 ho).1
 have hd:ds[i]?=some ds[i]:=by simp[hilt]
 generalize hdd:ds[i]=d at hd;have hok:=ok i d hd;obtain ⟨hdst,hdN,hk,hg⟩:=jq (hcomp i d o hd ho);obtain ⟨ef,Hf,hc⟩:=ic.good.some;have inv:=ic.inv ef Hf hc;have cl:=ic.cls ef Hf hc;have hils:i<listed.size:=by rw[inv.size];exact hilt
 have haft:∀s,s∈yS ops i→listed.getD s false=true:=fun s hs=>by
  simp only[yS,ho,qqT,qrv] at hs;obtain ⟨e,⟨he,hb⟩,rfl⟩:=hs;exact hall e (by simpa using he) hb
 have hanc:∀s,s∈d.anc→listed.getD s false=true:=fun s hs=>by
  rcases hok.anc s hs with h|⟨r,hr,hrs⟩
  ·exact haft s h
  ·have hrlt:r<ds.length:=by have:=hok.back r hr;omega
   have hrd:ds[r]?=some ds[r]:=by simp[hrlt]
   exact inv.closed r _ hrd (haft r hr) s (by simpa[jw,hrd] using hrs)
 obtain ⟨rlo,rhi,rw'⟩:=inv.range ok hd hun hanc;have extOf:∀{E':En} {S':St} {w':World},Ext S.length E S w E' S' w'→Ext n0 E S w E' S' w':=fun h=>h.less (qra hn0 inv.len)
 have slotsOf:∀{E':En} {S':St} {w':World},Ext S.length E S w E' S' w'→∀i' s,Qx ds i'=some s→i'≠i→(∀st,E.ρ (base+s) st=none)→∀st,E'.ρ (base+s) st=none:=fun h i' s hs _ hno=>h.no _ (inv.room i' s hs) hno
 have finish:∀(C':Env→List St→Prop),(∀ef Hf,C' ef Hf→C ef Hf)→∀(v:V) (E':En) (S':St) (u:Value) (w':World),(∀ef Hf,C' ef Hf→∀t,d.o.dst=some t→ef.get t=some v)→(∀ef Hf,C' ef Hf→d.w=true→Hf[q+1]?=some S')→(d.w=false→S'=S)→
   qaE P ds e0 ((wix ds).length - (if d.w then q+1 else q)) (if d.w then q+1 else q) C'→(∀t,o.dst=some t→VR E' v u)→E.le E'→SR E' S' w'→Ext n0 E S w E' S' w'→S.length≤S'.length→
   (∀i' s,Qx ds i'=some s→i'≠i→(∀st,E.ρ (base+s) st=none)→∀st,E'.ρ (base+s) st=none)→M (a.put o.dst u) w':=by
  intro C' hsub v E' S' u w' f3 hS' hSS hgood hv hle hsr hext hl hsl;refine hK _ _ E' (if d.w then q+1 else q) S' C' ⟨fun ef Hf h=>ic.cls ef Hf (hsub ef Hf h),fun ef Hf h=>(ic.inv ef Hf (hsub ef Hf h)).next ok hd hun hanc hdst hdN (f3 ef Hf h) rw' (hS' ef Hf h) hSS hv hle hsr hext hl hsl,hgood,?_⟩;intro ef Hf ef' Hf' h h' i' t hli hit;rw[QD hils] at hli;rcases hli with rfl|hli
  ·have ht:d.o.dst=some t:=by simpa[zr,hd] using hit
   rw[f3 ef Hf h t ht,f3 ef' Hf' h' t ht]
  ·exact ic.agree ef Hf ef' Hf' (hsub _ _ h) (hsub _ _ h') i' t hli hit
 unfold wpOpIn;rw[ho];simp only[];have hgd:∀{ej:Env},EnvAt ds e0 i d ej ef→∀b,qR ej d.o.g=some b→Region.wanted o (yielded ops a.tmps)=b:=fun {ej} ev b hb=>
  hg E ej a b (fun t w hg v hv=>inv.opnd ok hd hun hanc ev t (by simp[O'.tmps,hg]) v hv) hb
 have hTm:∀{ej:Env},EnvAt ds e0 i d ej ef→Z0 E (ej.keep d.o.tmps) a.tmps:=fun {ej} ev t v hv=>by
  by_cases ht:t∈d.o.tmps
  ·rw[qbA _ _ t ht] at hv;exact inv.opnd ok hd hun hanc ev t ht v hv
  ·rw[qha _ _ t ht] at hv;cases hv
 have hag:∀ej:Env,ZZ d.o.k.tmps ej (ej.keep d.o.tmps):=fun ej t ht=>qbA _ _ t (by simp[O'.tmps,ht])
 cases hw:d.w with
 | true=>
  have hqp:=rw' hw;have hwq:=(hok.wr hw).1;rw[←hqp] at hwq;have hqlt:=(qqx.1 hwq).1;obtain ⟨m,hm⟩:∃m,(wix ds).length - q=m+1:=⟨(wix ds).length - q - 1,by omega⟩;have hm1:(wix ds).length - (q+1)=m:=by omega
  have hgood:=ic.good;rw[hm] at hgood;obtain ⟨_,i',d',ei,T,gi,gd,gT,gout⟩:=hgood;rw[hwq] at gi;cases gi;rw[hd] at gd;cases gd;obtain ⟨gT1,gev⟩:=gT ef Hf hc
  have hST:T=S:=by
   have:=inv.st;rw[gT1] at this;cases this;rfl
  subst hST;rw[hw] at finish;simp only[if_true,hm1] at finish;rcases gout with ⟨v,S',hdet,hout,hgd'⟩|⟨f,args,kf,fs,cs,vs,R,g1,hs,g3,g4,g5,g6,g7⟩
  ·have fin:∀(E':En) (u:Value) (w':World),(∀t,o.dst=some t→VR E' v u)→E.le E'→SR E' S' w'→Ext n0 E T w E' S' w'→T.length≤S'.length→
     (∀i' s,Qx ds i'=some s→i'≠i→(∀st,E.ρ (base+s) st=none)→∀st,E'.ρ (base+s) st=none)→M (a.put o.dst u) w':=fun E' u w'=>
    finish C (fun _ _ h=>h) v E' S' u w' (fun ef Hf h=>(hout ef Hf h).1) (fun ef Hf h _=>(hout ef Hf h).2) (fun h=>by cases h) hgd'
   rcases hdet with ⟨g1,g2,g3⟩|⟨g1,hs,g2⟩
   ·rw[hgd gev false g1];simp only[qq1,if_false];refine ⟨fun f hf=>trivial,?_⟩;subst g3;exact fin E undef w (fun _ _=>by rw[g2];exact .tup (by simp) (fun i v u h=>by simp at h)) (En.le_refl E) inv.sr (Ext.refl _ _ _ _) (qqC _) (fun _ _ _ _ h=>h)
   ·rw[hgd gev true g1];simp only[if_true];refine qaL hk (hTm gev) inv.sr (by rw[Yo (hag ei)];exact g2) fun E' u w' hvr hsr hext hl=>?_
    exact fin E' u w' (fun _ _=>hvr) (hext.le inv.sr) hsr (extOf hext) hl (slotsOf hext)
  ·rw[hgd gev true g1];simp only[if_true];have hagk:=hag ei;rw[g3] at hagk;simp only[K.tmps] at hagk;refine qfj (by rw[hk,g3]) (hTm gev) inv.sr (by rw[qo (hagk.sub (us:=f.tmps) (by simp;grind))];exact g4) (by rw[Zv (hagk.sub (us:=args.flatMap Opd.tmps) (by simp;grind))];exact g5) g6 fun r S' E' u w' hR hvr hsr hext hl=>?_
   obtain ⟨C',hsub,hgd'⟩:=g7 r S' hR;exact finish C' (fun _ _ h=>(hsub _ _ h).1) r E' S' u w' (fun ef Hf h=>(hsub ef Hf h).2.1) (fun ef Hf h _=>(hsub ef Hf h).2.2) (fun h=>by cases h) hgd' (fun _ _=>hvr) (hext.le inv.sr) hsr (extOf hext) hl (slotsOf hext)
 | false=>
  have hgood:=ic.good;rw[hw] at finish;simp only[qq1,if_false] at finish;obtain ⟨ej,gev,hseen⟩:=inv.seen ok hd hun hanc hw (cl.facts i d hd) cl.chks
  have agr:∀ef' Hf',C ef' Hf'→∃ej',qpf ds base e0 ef' S i d ej'∧ZZ d.o.tmps ej ej':=fun ef' Hf' hc'=>by
   obtain ⟨ej',hs'⟩:=(ic.inv ef' Hf' hc').seen ok hd hun hanc hw ((ic.cls ef' Hf' hc').facts i d hd) (ic.cls ef' Hf' hc').chks;refine ⟨ej',hs',fun t ht=>?_⟩;by_cases hlate:∃s,i≤s∧zr ds s=some t
   ·obtain ⟨s,hs,hst⟩:=hlate;rw[gev.f6 t s hs hst,hs'.1.f6 t s hs hst]
   ·have hlt:∀s,zr ds s=some t→s<i:=fun s hs=>by
     rcases qsi s i with h| h
     ·exact h
     ·exact absurd ⟨s,h,hs⟩ hlate
    rw[gev.f5 t ht hlt,hs'.1.f5 t ht hlt];by_cases hex:∃s,zr ds s=some t
    ·obtain ⟨s,hs⟩:=hex;refine ic.agree ef' Hf' ef Hf hc' hc s t ?_ hs;rcases hok.tmps t ht s hs with ⟨h,_⟩|⟨_,h,_⟩
     ·exact hanc s h
     ·have:=hlt s hs;omega
    ·rw[cl.keep t fun s hs=>hex ⟨s,hs⟩,(ic.cls ef' Hf' hc').keep t fun s hs=>hex ⟨s,hs⟩]
  have val:∀v:V,(∀ef' Hf' ej',C ef' Hf'→qpf ds base e0 ef' S i d ej'→ZZ d.o.tmps ej ej'→∀t,d.o.dst=some t→ef'.get t=some v)→∀ef' Hf',C ef' Hf'→∀t,d.o.dst=some t→ef'.get t=some v:=fun v h ef' Hf' hc'=>by
   obtain ⟨ej',h1,h2⟩:=agr ef' Hf' hc';exact h ef' Hf' ej' hc' h1 h2
  rcases hseen with ⟨g1,g2⟩|⟨g1,s,z,hs,hz,g2,c1,c2,c3⟩|⟨g1,hs,v,g2,g3⟩
  ·rw[hgd gev false g1];simp only[qq1,if_false];refine ⟨fun f hf=>trivial,?_⟩;refine finish C (fun _ _ h=>h) (.tup []) E S undef w (val _ fun ef' Hf' ej' hc' hs' ha t ht=>?_) (fun _ _ _ h=>by cases h) (fun _=>rfl) hgood (fun _ _=>.tup (by simp) (fun i v u h=>by simp at h)) (En.le_refl E) inv.sr (Ext.refl _ _ _ _) (qqC _) (fun _ _ _ _ h=>h);have hwd:=yu ha;rw[g1] at hwd;rcases hs'.2 with ⟨_,k⟩|⟨k,_⟩|⟨k,_⟩
   ·exact k t ht
   ·rw[hwd] at k;cases k
   ·rw[hwd] at k;cases k
  ·rw[hgd gev true g1];simp only[if_true];have hno:=inv.slots i s (by simp[Qx,hd,hs]) hun;obtain ⟨_,_,_,k4⟩:=hok.slot s hs;refine ql1 (by rw[hk,hz]) inv.sr c1 hno c2 c3 fun E' u w' b1 b2 b3 b4 b5=>?_
   have h1:=inv.len;refine finish C (fun _ _ h=>h) (.ptr (base+s) 0 0 1) E' S u w' (val _ fun ef' Hf' ej' hc' hs' ha t ht=>?_) (fun _ _ _ h=>by cases h) (fun _=>rfl) hgood (fun _ _=>b1) b3 b2 (b4 n0 (by omega)) (qqC _) (fun i' s' hs' hne hno' st=>?_)
   ·have hwd:=yu ha;rw[g1] at hwd;rcases hs'.2 with ⟨k,_⟩|⟨_,s',z',k1,_,k2,_⟩|⟨_,k,_⟩
    ·rw[hwd] at k;cases k
    ·rw[hs] at k1;cases k1;exact k2 t ht
    ·rw[hs] at k;cases k
   ·rw[b5 _ _ (fun he=>?_)]
    ·exact hno' st
    ·have:s'=s:=by omega
     subst this;exact k4 i' hne hs'
  ·rw[hgd gev true g1];simp only[if_true];refine qaL hk (hTm gev) inv.sr (by rw[Yo (hag ej)];exact g2) fun E' u w' hvr hsr hext hl=>?_
   refine finish C (fun _ _ h=>h) v E' S u w' (val _ fun ef' Hf' ej' hc' hs' ha t ht=>?_) (fun _ _ _ h=>by cases h) (fun _=>rfl) hgood (fun _ _=>hvr) (hext.le inv.sr) hsr (extOf hext) hl (slotsOf hext);have hwd:=yu ha;rw[g1] at hwd;rcases hs'.2 with ⟨k,_⟩|⟨_,s',z',k1,_⟩|⟨_,_,v',k1,k2⟩
   ·rw[hwd] at k;cases k
   ·rw[hs] at k1;cases k1
   ·rw[Yo (ha.sub fun t ht=>by simp[O'.tmps,ht]),g2] at k1;cases k1;exact k2 t ht
theorem qhP(ok:∀j d,ds[j]?=some d→Ok ds (yS ops) j d)(hlen:ds.length=ops.size)(hn0:n0≤base)
  (hcomp:∀(j:Nat) (d:D) (o:Oper),ds[j]?=some d→ops[j]?=some o→zM P N ops o=some d.o):
  ∀(fuel:Nat) (C:Env→List St→Prop) (listed:Array Bool) (q:Nat) (E:En) (S:St) (a:Act) (w:World),InvC P ds N n0 m0 base e0 Q E0 S0 w0 C listed q E S a w→listed.toList.count false≤fuel→
   wpAnyIn (yO ro) n P .any ops (Up N n0 m0 E0 S0 w0 Q) fuel listed a w:=by
 have done:∀(ef:Env) (Hf:List St),Cls P ds base e0 Q ef Hf→∀(listed:Array Bool) (q:Nat) (E:En) (S:St) (a:Act) (w:World),Inv ds N n0 m0 base e0 ef Hf E0 S0 w0 listed q E S a w→(∀i,i<listed.size→listed.getD i false=true)→Up N n0 m0 E0 S0 w0 Q .normal a w:=by
  intro ef Hf cl listed q E S a w inv hall
  have hq:q=(wix ds).length:=by
   rcases qsi q (wix ds).length with h| h
   ·exfalso;have hi:(wix ds)[q]?=some (wix ds)[q]:=by simp[h]
    obtain ⟨d,hd,_⟩:=qaH hi;have:=(inv.num q _ hi).1 (hall _ (by rw[inv.size];exact (qqx.1 hd).1));omega
   ·have:=inv.qle;omega
  refine ⟨E,ef,S,⟨fun t v hv=>inv.tmps t v hv fun i hi=>hall i (by rw[inv.size];exact qaA hi),inv.N,inv.defers,qra hn0 inv.len,inv.sr⟩,inv.ext,cl.last S ?_⟩;rw[List.getLast?_eq_getElem?,cl.len,Nat.add_sub_cancel,←hq];exact inv.st
 have none_ready:∀(ef:Env) (Hf:List St) (listed:Array Bool) (q:Nat) (E:En) (S:St) (a:Act) (w:World),Inv ds N n0 m0 base e0 ef Hf E0 S0 w0 listed q E S a w→Region.ready .any ops listed=[]→∀i,i<listed.size→listed.getD i false=true:=by
  intro ef Hf listed q E S a w inv hr i
  induction i using Nat.strongRecOn with
  | ind i ih=>
   intro hi
   cases hb:listed.getD i false with
   | true=>rfl
   | false=>
    exfalso;have hil:i<ds.length:=by rw[←inv.size];exact hi
    have hd:ds[i]?=some ds[i]:=by simp[hil]
    have ho:ops[i]?=some (ops[i]'(by omega)):=by simp
    have hmem:i∈Region.ready .any ops listed:=by
     refine mem_ready.2 ⟨?_,_,ho,fun e he hbi=>?_⟩
     ·simp only[Array.getD,hi,dif_pos] at hb ⊢;exact hb
     ·have hs:e.on∈yS ops i:=by
       simp only[yS,ho,qqT,qrv];exact ⟨e,⟨by simpa using he,hbi⟩,rfl⟩
      have hlt:=(ok i _ hd).back _ hs;exact ih _ hlt (by omega)
    rw[hr] at hmem;cases hmem
 intro fuel
 induction fuel with
 | zero=>
  intro C listed q E S a w ic hc;obtain ⟨ef,Hf,hC⟩:=ic.good.some;have hall:∀i,i<listed.size→listed.getD i false=true:=fun i hi=>qfV (by omega) hi
  refine ⟨?_,done ef Hf (ic.cls ef Hf hC) listed q E S a w (ic.inv ef Hf hC) hall⟩
  cases hr:Region.ready .any ops listed with
  | nil=>rfl
  | cons i l=>
   exfalso;have:i∈Region.ready .any ops listed:=by rw[hr];simp
   obtain ⟨h1,_⟩:=mem_ready.1 this;obtain ⟨h2,h3⟩:=Qp.1 h1;obtain ⟨h4,h5⟩:=Qk.1 (hall i h2);rw[h3] at h5;cases h5
 | succ fuel ih=>
  intro C listed q E S a w ic hc;obtain ⟨ef,Hf,hC⟩:=ic.good.some;refine ⟨fun hr=>done ef Hf (ic.cls ef Hf hC) listed q E S a w (ic.inv ef Hf hC) (none_ready ef Hf listed q E S a w (ic.inv ef Hf hC) hr),fun i hi=>?_⟩;refine qeS ic ok hlen hn0 hcomp hi fun a' w' E' q' S' C' ic'=>ih C' _ q' E' S' a' w' ic' ?_
  have:=count_set (mem_ready.1 hi).1;omega
end
def qhL:List Nat→List Nat
 | []=>[]
 | x::xs=>if xs.contains x then qhL xs else x::qhL xs
def qpH:List (List Nat)→List (List Nat)→List (List Nat)
 | [],acc=>acc
 | a::as,acc=>qpH as (acc++[qhL (a++a.flatMap fun s=>(acc[s]?).getD [])])
def qlf:K→Bool
 | .new _=>true
 | _=>false
def qqq:O'→List V
 | ⟨_,_,.new z⟩=>[z]
 | _=>[]
def qf7:List V→Bool
 | []=>true
 | z::zs=>decide (0<z.size) && qf7 zs
theorem jW:∀{zs:List V},qf7 zs=true→∀z,z∈zs→0<z.size
 | [],_,z,h=>by cases h
 | z0::zs,h,z,hz=>by
  simp only[qf7,qqL,decide_eq_true_eq] at h;rcases qq0.1 hz with rfl|hz
  ·exact h.1
  ·exact jW h.2 z hz
def qcf(ds:List D)(n:Nat):Bool:=(List.range ds.length).all fun i=>match Qx ds i with
 | some s=>decide (s<n)
 | none=>true
theorem qaW{ds:List D}{n:Nat}(h:qcf ds n=true):∀i s,Qx ds i=some s→s<n:=fun i s hs=>by
 unfold qcf at h;simp only[qqV,qsy] at h;have:=h i (qbb hs);rw[hs] at this;simpa using this
def yK(P:Program)(N:Nat)(ops:Array Oper):Option (List D×List V):=
 match ops.toList.mapM (zM P N ops) with
 | none=>none
 | some os=>
  let as:=qpH ((List.range ops.size).map (yS ops)) []
  let ws:=os.map fun o=>o.k.writes && !qlf o.k
  let wi:=(List.range os.length).filter fun i=>(ws[i]?).getD false
  let ds:=os.mapIdx fun j o=>
   let anc:=(as[j]?).getD []
   let w:=(ws[j]?).getD false
   let p:=((ws.take j).filter id).length
   let lo:=if w then p else (wi.takeWhile fun i=>anc.contains i).length
   let hi:=if w then p else (wi.takeWhile fun i=>!((as[i]?).getD []).contains j).length
   let slot:=if qlf o.k then some ((os.take j).filter fun o=>qlf o.k).length else none
   { o:=o,w:=w,slot:=slot,chk:=slot.isSome || (!w && o.k.reads && decide (lo<hi)),anc:=anc,lo:=lo,hi:=hi:D }
  let zs:=os.flatMap qqq
  if qiD P N ops ds=true∧P.follows .mixedOrders=true∧qf7 zs=true∧qcf ds zs.length=true then some (ds,zs) else none
def QG(base:Nat)(ef:Env)(d:D):List St→Prop
 | []=>True
 | T::Ts=>(match d.slot with
  | some s=>match d.o.k with
   | .new z=>T[base+s]?=some (.arr [z] z.size 1)∧0<z.size∧(z.cells.all V.flat)=true
   | _=>False
  | none=>∃v,evK ef T d.o.k=some (v,T)∧∀t,d.o.dst=some t→ef.get t=some v)∧QG base ef d Ts
def Qc(base:Nat)(ef:Env)(H:List St):List D→Prop
 | []=>True
 | d::ds=>(if (d.chk && !d.w)=true then match qR ef d.o.g with
   | some true=>QG base ef d ((H.drop d.lo).take (d.hi+1 - d.lo))
   | _=>True
  else True)∧Qc base ef H ds
theorem qaV{base:Nat}{ef:Env}{d:D}:∀{Ts:List St},QG base ef d Ts→∀T,T∈Ts→match d.slot with
  | some s=>match d.o.k with
   | .new z=>T[base+s]?=some (.arr [z] z.size 1)∧0<z.size∧(z.cells.all V.flat)=true
   | _=>False
  | none=>∃v,evK ef T d.o.k=some (v,T)∧∀t,d.o.dst=some t→ef.get t=some v
 | [],_,T,h=>by cases h
 | T0::Ts,⟨h1,h2⟩,T,h=>by
  rcases qq0.1 h with rfl| h
  ·exact h1
  ·exact qaV h2 T h
theorem kp{base:Nat}{ef:Env}{H:List St}:∀{ds:List D},Qc base ef H ds→qll base ef H ds
 | [],_,d,h,_,_,_=>by cases h
 | d0::ds,⟨h1,h2⟩,d,h,hc,hw,hg=>by
  rcases qq0.1 h with rfl| h
  ·rw[if_pos (by simp[hc,hw]),hg] at h1;intro q hlo hhi T hT;refine qaV h1 T ?_
   have:((H.drop d.lo).take (d.hi+1 - d.lo))[q - d.lo]?=some T:=by
    rw[qq5 (by omega),qrd,show d.lo+(q - d.lo)=q by omega];exact hT
   exact qqG this
  ·exact kp h2 d h hc hw hg
def ZX(base:Nat)(ds:List D)(Q:Env→St→Prop)(ef:Env)(H:List St):Prop:=
 Qc base ef H ds∧match H.getLast? with
  | some S=>Q ef S
  | none=>False
theorem qcq{α β:Type}{f:α→Option β}:∀{l:List α} {r:List β},l.mapM f=some r→r.length=l.length∧∀(i:Nat) (x:α) (y:β),l[i]?=some x→r[i]?=some y→f x=some y
 | [],r,h=>by simp at h;subst h;exact ⟨rfl,fun i x y h=>by simp at h⟩
 | a::l,r,h=>by
  simp only[qrX,qru] at h
  cases ha:f a with
  | none=>rw[ha] at h;simp at h
  | some b=>
   rw[ha] at h
   cases hl:l.mapM f with
   | none=>rw[hl] at h;simp at h
   | some bs=>
    rw[hl] at h;simp at h;subst h;obtain ⟨h1,h2⟩:=qcq hl;refine ⟨by simp[h1],fun i x y hx hy=>?_⟩
    cases i with
    | zero=>simp at hx hy;subst hx;subst hy;exact ha
    | succ i=>exact h2 i x y (by simpa using hx) (by simpa using hy)
theorem qfX{ds:List D}:(wix ds).length=ds.countP fun d=>d.w:=by
 unfold wix;rw[←List.countP_eq_length_filter]
 have:∀(l:List D) (k:Nat),List.countP (fun i=>((k+l.length) - (k+l.length)=0) && ((l[i]?.map D.w).getD false)) (List.range l.length)=l.countP fun d=>d.w:=by
  intro l
  induction l with
  | nil=>intro k;rfl
  | cons d l ih=>
   intro k
   have h1:List.range (d::l).length=0::(List.range l.length).map (·+1):=by
    rw[qqY,List.range_succ_eq_map]
   rw[h1,qr5,List.countP_map,qr5];have:=ih 0;simp at this ⊢;rw[←this];rfl
 have h:=this ds 0;simpa using h
theorem Q6{P:Program}{N:Nat}{ops:Array Oper}{ds:List D}{zs:List V}(h:yK P N ops=some (ds,zs)):
  P.follows .mixedOrders=true∧qiD P N ops ds=true∧qf7 zs=true∧(∀i s,Qx ds i=some s→s<zs.length)∧∀(j:Nat) (d:D) (o:Oper),ds[j]?=some d→ops[j]?=some o→zM P N ops o=some d.o:=by
 unfold yK at h;split at h
 ·cases h
 ·rename_i os hos;simp only[] at h;split at h
  ·rename_i hc;obtain ⟨hc,hm,hz,hs⟩:=hc;simp only[Option.some.injEq,Prod.mk.injEq] at h;obtain ⟨rfl,rfl⟩:=h;refine ⟨hm,hc,hz,qaW hs,fun j d o hj ho=>?_⟩;rw[List.getElem?_mapIdx] at hj;simp only[qqI] at hj;obtain ⟨o',ho',rfl⟩:=hj;exact (qcq hos).2 j o o' (by simpa using ho) ho'
  ·cases h
theorem ZO{P:Program}{N n0 m0:Nat}{ro:Option Nat}{n:Nat}{ops:Array Oper}{Q:yH}{ds:List D}{zs:List V}{E:En}{e:Env}{S:St}{a:Act}{w:World}
  (hc:yK P N ops=some (ds,zs)) (hr:Rel N n0 m0 E e S a w)
  (h:dwp P S.length ds (ZX S.length ds (Q .normal)) e (S++phs zs) [S++phs zs]):wpAnyIn (yO ro) n P .any ops (Up N n0 m0 E S w Q) ops.size (Array.replicate ops.size false) a { w with drawn:=w.drawn+1 }:=by
 obtain ⟨hm,hcd,hz,hslots,hcomp⟩:=Q6 hc;obtain ⟨hlen,hok⟩:=qd4 hcd;obtain ⟨p1,p2⟩:=(hr.sr.heap (w':={ w with drawn:=w.drawn+1 }) rfl).phantoms zs (jW hz);have hext0:Ext n0 E S w E (S++phs zs) { w with drawn:=w.drawn+1 }:=(Ext.heap (w:=w) (w':={ w with drawn:=w.drawn+1 }) n0 rfl rfl).trans (p2 n0);obtain ⟨C,hC,hgood⟩:=JE (e0:=e) hok ds 0 e (S++phs zs) [S++phs zs] (by simp) (by simp[pos]) (by simp[pos]) (fun _ _=>rfl) h;rw[←qfX,show pos ds 0=0 by simp[pos]] at hgood
 have hfalse:∀i,(Array.replicate ops.size false).getD i false=false:=fun i=>by
  simp only[Array.getD];split <;> simp
 refine qhP (base:=S.length) (e0:=e) hok hlen hr.base hcomp ops.size C (Array.replicate ops.size false) 0 E (S++phs zs) a { w with drawn:=w.drawn+1 } ⟨fun ef Hf hc=>?_,fun ef Hf hc=>?_,hgood,fun ef Hf ef' Hf' _ _ i t hl _=>(by rw[hfalse] at hl;cases hl)⟩ (by simp)
 ·obtain ⟨⟨h1,h2⟩,htr⟩:=hC ef Hf hc;obtain ⟨T,hT1,hT2⟩:=J8 ds _ _ _ _ _ htr;refine ⟨fun j d hj=>qdy (aft:=yS ops) hok ds 0 e (S++phs zs) [S++phs zs] ef Hf (by simp) (by simp[pos]) (by simp[pos]) htr (fun _ _=>rfl) j d (qrc _) hj,kp h1,fun S' hS'=>by rw[hS'] at h2;exact h2,by rw[hT1,qfX];simp[hT2,Nat.add_comm],fun t ht=>?_⟩
  exact jN ds _ _ _ _ _ htr fun d hd hdd=>by
   obtain ⟨i,hi⟩:=qrl hd;exact ht i (by simp[zr,hi,hdd])
 ·obtain ⟨_,htr⟩:=hC ef Hf hc;obtain ⟨T,hT1,hT2⟩:=J8 ds _ _ _ _ _ htr;refine ⟨by simp[hlen],fun j d _ hl=>(by rw[hfalse] at hl;cases hl),fun p i _=>(by rw[hfalse i];simp),qrc _,by rw[hT1];simp,fun t v hv hall=>?_,fun t v hv _=>hr.tmps t v hv,fun i s _ _ st=>?_,hr.size,YI.step hext0 hr.defers,p1,by simp,fun i s hs=>by simp[phs];exact hslots i s hs,hext0⟩
  ·have:ef.get t=e.get t:=jN ds _ _ _ _ _ htr fun d hd hdd=>by
    obtain ⟨i,hi⟩:=qrl hd;have:=hall i (by simp[zr,hi,hdd]);rw[hfalse] at this;cases this
   rw[this] at hv;exact hr.tmps t v hv
  ·cases hx:E.ρ (S.length+s) st with
   | none=>rfl
   | some x=>exact absurd (hr.sr.dom _ _ _ hx) (by omega)
theorem qel{P:Program}{N n0 m0:Nat}{ro:Option Nat}{n id:Nat}{ops:Array Oper}{Q:yH}{ds:List D}{zs:List V}{E:En}{e:Env}{S:St}{a:Act}{w:World}
  (hc:yK P N ops=some (ds,zs)) (hr:Rel N n0 m0 E e S a w)
  (h:dwp P S.length ds (ZX S.length ds (Q .normal)) e (S++phs zs) [S++phs zs]):(Code.region id ops true).wpIn (yO ro) n P (Up N n0 m0 E S w Q) a w:=
 wpIn_region_any (Q6 hc).1 (ZO hc hr h)
def qbP(m:Nat)(aft:Nat→List Nat):Nat→List Nat→List Nat
 | 0,S=>S
 | n+1,S=>qbP m aft n ((List.range m).filter fun i=>S.contains i || S.any fun s=>(aft s).contains i)
theorem Jp{m:Nat}{aft:Nat→List Nat}{C:Np}(hC:∀s,C s→∀r,r∈aft s→C r):∀(n:Nat) (S:List Nat),(∀s,s∈S→C s)→∀s,s∈qbP m aft n S→C s
 | 0,S,h=>h
 | n+1,S,h=>Jp hC n _ fun s hs=>by
  simp only[qrv,qst,List.contains_iff_mem,List.any_eq_true] at hs;rcases hs.2 with h1|⟨r,h1,h2⟩
  ·exact h s h1
  ·exact hC r (h r h1) s h2
def jc(ops:Array Oper):Bool:=
 let m:=ops.size - 1
 let S:=qbP m (yS ops) m (yS ops m)
 (List.range m).all (fun i=>S.contains i) && (yS ops m).all (fun r=>decide (r<m)) && (List.range m).all (fun i=>(yS ops i).all (fun r=>decide (r<i)) && match ops[i]? with
  | some o=>match o.guard with
   | none=>true
   | some (j,_)=>decide (j<m)
  | none=>false)
theorem Oper.wpIn_exit{F:Fence}{n:Nat}{P:Program}{o:Oper}{a:Act}{w:World}{K:Act→World→Prop}{Q Q':Exit→Act→World→Prop}(hq:∀x a w,x≠.normal→Q x a w→Q' x a w)(h:o.wpIn F n P a w K Q):o.wpIn F n P a w K Q':=by
 obtain ⟨h1,h2⟩:=h;have hlet:LetsOut Q→LetsOut Q':=fun ⟨a,w,h⟩=>⟨a,w,hq _ _ _ (by simp) h⟩
 refine ⟨h1,?_⟩;generalize (o.semAt F.round a.eval).run P w=r at h2 ⊢
 cases r with
 | ok nx w'=>
  cases nx <;> simp only[Oper.uponIn] at h2 ⊢
  case value v=>exact h2
  case skip=>exact h2
  case defer d=>exact h2
  case enter f args=>exact ⟨h2.1,h2.2.mono fun e w'' he=>by cases e <;> first|exact he|exact hq _ _ _ (by simp) he|exact hlet he⟩
  case row r args=>exact ⟨h2.1,h2.2.mono fun v w'' he=>he⟩
  case round l f t x y=>exact ⟨h2.1,h2.2.mono fun e w'' he=>by cases e <;> first|exact he|exact hq _ _ _ (by simp) he|exact hlet he⟩
 | halt x w'=>
  cases x <;> simp only[Oper.uponIn] at h2 ⊢
  case panic v=>exact hq _ _ _ (by simp) h2
def qdT(F:Fence)(n:Nat)(P:Program)(ops:Array Oper)(Q:Exit→Act→World→Prop):Exit→Act→World→Prop
 | .normal,a,w=>wpOpIn F n P ops Q (ops.size - 1) (Q .normal) a w
 | x,a,w=>Q x a w
theorem QU{l:Array Bool}{i:Nat}(d:Bool)(hi:i<l.size):(l.push false).getD i d=l.getD i d:=by
 simp only[Array.getD];rw[dif_pos hi,dif_pos (by simp;omega)];simp[Array.getElem_push_lt hi]
theorem qmB{F:Fence}{n:Nat}{P:Program}{ops':Array Oper}{o:Oper}{Q:Exit→Act→World→Prop}(hall:jc (ops'.push o)=true):
  ∀(fuel:Nat) (l:Array Bool) (a:Act) (w:World),l.size=ops'.size→(∀s,l.getD s false=true→∀r,r∈yS (ops'.push o) s→l.getD r false=true)→l.toList.count false≤fuel→
   wpAnyIn F n P .any ops' (qdT F n P (ops'.push o) Q) fuel l a w→wpAnyIn F n P .any (ops'.push o) Q (fuel+1) (l.push false) a w:=by
 have hm:(ops'.push o).size - 1=ops'.size:=by simp
 simp only[jc,hm,qqL,qqV,qsy,List.contains_iff_mem,decide_eq_true_eq] at hall;obtain ⟨⟨hcl,hlast⟩,hgd⟩:=hall;have ho:(ops'.push o)[ops'.size]?=some o:=by simp
 have hget:∀i,i<ops'.size→(ops'.push o)[i]?=ops'[i]?:=fun i hi=>by rw[qrD,if_neg (by omega)]
 have haft:∀i o',(ops'.push o)[i]?=some o'→∀e,e∈o'.after→Region.binds .any e=true→e.on∈yS (ops'.push o) i:=fun i o' ho' e he hb=>by
  simp only[yS,ho',qqT,qrv];exact ⟨e,⟨by simpa using he,hb⟩,rfl⟩
 have hwait:∀l:Array Bool,l.size=ops'.size→(∀s,l.getD s false=true→∀r,r∈yS (ops'.push o) s→l.getD r false=true)→ops'.size∈Region.ready .any (ops'.push o) (l.push false)→∀i,i<ops'.size→l.getD i false=true:=by
  intro l hl hclosed hr i hi;obtain ⟨_,o',ho',hh⟩:=mem_ready.1 hr;rw[ho] at ho';cases ho';refine Jp (C:=fun s=>l.getD s false=true) hclosed ops'.size (yS (ops'.push o) ops'.size) (fun s hs=>?_) i (hcl i hi);have hsl:=hlast s hs;simp only[yS,ho,qqT,qrv] at hs;obtain ⟨e,⟨he,hb⟩,rfl⟩:=hs;have:=hh e (by simpa using he) hb;rw[QU _ (by rw[hl];exact hsl)] at this;exact this
 have hready:∀l:Array Bool,l.size=ops'.size→∀i,i<ops'.size→(i∈Region.ready .any (ops'.push o) (l.push false)↔i∈Region.ready .any ops' l):=by
  intro l hl i hi;rw[mem_ready,mem_ready,hget i hi,QU _ (by omega)]
  have hafter:∀o',ops'[i]?=some o'→∀e∈o'.after,Region.binds .any e=true→e.on<ops'.size:=by
   intro o' ho' e he hb;have:=(hgd i hi).1 e.on (haft i o' (by rw[hget i hi];exact ho') e he hb);omega
  constructor
  ·rintro ⟨h1,o',h2,h3⟩
   exact ⟨h1,o',h2,fun e he hb=>by
    have:=h3 e he hb;rw[QU _ (by rw[hl];exact hafter o' h2 e he hb)] at this;exact this⟩
  ·rintro ⟨h1,o',h2,h3⟩
   exact ⟨h1,o',h2,fun e he hb=>by
    rw[QU _ (by rw[hl];exact hafter o' h2 e he hb)];exact h3 e he hb⟩
 have hrange:∀(l:Array Bool) (i:Nat),i∈Region.ready .any (ops'.push o) (l.push false)→i<ops'.size∨i=ops'.size:=fun l i hi=>by
  obtain ⟨_,o',ho',_⟩:=mem_ready.1 hi;have:=(qqQ.1 ho').1;simp at this;omega
 have hnone:∀l:Array Bool,l.size=ops'.size→Region.ready .any ops' l=[]→∀i,i<ops'.size→l.getD i false=true:=by
  intro l hl hr i
  induction i using Nat.strongRecOn with
  | ind i ih=>
   intro hi
   cases hb:l.getD i false with
   | true=>rfl
   | false=>
    exfalso;have hoi:ops'[i]?=some (ops'[i]'hi):=by simp
    have hmem:i∈Region.ready .any ops' l:=by
     refine mem_ready.2 ⟨?_,_,hoi,fun e he hbi=>?_⟩
     ·have hil:i<l.size:=by omega
      simp only[Array.getD,hil,dif_pos] at hb ⊢;exact hb
     ·have hlt:=(hgd i hi).1 e.on (haft i _ (by rw[hget i hi];exact hoi) e he hbi);exact ih _ hlt (by omega)
    rw[hr] at hmem;cases hmem
 have hlastReady:∀l:Array Bool,l.size=ops'.size→(∀i,i<ops'.size→l.getD i false=true)→ops'.size∈Region.ready .any (ops'.push o) (l.push false):=by
  intro l hl hall;refine mem_ready.2 ⟨by simp[Array.getD,hl,Array.getElem_push],o,ho,fun e he hb=>?_⟩;have hlt:=hlast e.on (haft _ o ho e he hb);rw[QU _ (by omega)];exact hall _ hlt
 have hdone:∀(fuel:Nat) (l:Array Bool) (a:Act) (w:World),l.size=ops'.size→(∀i,i<ops'.size→l.getD i false=true)→Q .normal a w→wpAnyIn F n P .any (ops'.push o) Q fuel ((l.push false).setIfInBounds ops'.size true) a w:=by
  intro fuel l a w hl hall hQ
  have hempty:Region.ready .any (ops'.push o) ((l.push false).setIfInBounds ops'.size true)=[]:=by
   cases hr:Region.ready .any (ops'.push o) ((l.push false).setIfInBounds ops'.size true) with
   | nil=>rfl
   | cons i r=>
    exfalso;have hi:i∈Region.ready .any (ops'.push o) ((l.push false).setIfInBounds ops'.size true):=by rw[hr];simp
    obtain ⟨h1,o',ho',_⟩:=mem_ready.1 hi;have hlt:=(qqQ.1 ho').1;simp only[Array.size_push] at hlt
    have htrue:((l.push false).setIfInBounds ops'.size true).getD i false=true:=by
     rw[QD (by simp;omega)];by_cases hil:i=ops'.size
     ·exact .inl hil
     ·right;rw[QU _ (by omega)];exact hall i (by omega)
    obtain ⟨h2,h3⟩:=Qp.1 h1;obtain ⟨h4,h5⟩:=Qk.1 htrue;rw[h3] at h5;cases h5
  cases fuel with
  | zero=>exact ⟨hempty,hQ⟩
  | succ f=>exact ⟨fun _=>hQ,fun i hi=>by rw[hempty] at hi;cases hi⟩
 have hopmono:∀{i:Nat} {K K':Act→World→Prop} {a:Act} {w:World},(∀a w,K a w→K' a w)→wpOpIn F n P (ops'.push o) Q i K a w→wpOpIn F n P (ops'.push o) Q i K' a w:=by
  intro i K K' a w hK h;unfold wpOpIn at h ⊢;split
  ·rename_i h1;rw[h1] at h;exact hK _ _ h
  ·rename_i o1 h1;rw[h1] at h;simp only at h;split
   ·rename_i hw;rw[if_pos hw] at h;exact Oper.wpIn_mono hK h
   ·rename_i hw;rw[if_neg hw] at h;exact ⟨h.1,hK _ _ h.2⟩
 have last:∀(fuel:Nat) (l:Array Bool) (a:Act) (w:World),l.size=ops'.size→(∀i,i<ops'.size→l.getD i false=true)→qdT F n P (ops'.push o) Q .normal a w→
   wpOpIn F n P (ops'.push o) Q ops'.size (wpAnyIn F n P .any (ops'.push o) Q fuel ((l.push false).setIfInBounds ops'.size true)) a w:=by
  intro fuel l a w hl hall h;simp only[qdT,hm] at h;exact hopmono (fun a w hq=>hdone fuel l a w hl hall hq) h
 intro fuel
 induction fuel with
 | zero=>
  intro l a w hl hclosed hc h;obtain ⟨h1,h2⟩:=h;have hall:=hnone l hl h1;refine ⟨fun hr=>?_,fun i hi=>?_⟩
  ·have:=hlastReady l hl hall;rw[hr] at this;cases this
  ·rcases hrange l i hi with hlt|rfl
   ·rw[hready l hl i hlt,h1] at hi;cases hi
   ·exact last 0 l a w hl hall h2
 | succ fuel ih=>
  intro l a w hl hclosed hc h;obtain ⟨h1,h2⟩:=h;refine ⟨fun hr=>?_,fun i hi=>?_⟩
  ·have hr':Region.ready .any ops' l=[]:=by
    cases hq:Region.ready .any ops' l with
    | nil=>rfl
    | cons j r=>
     exfalso;have hj:j∈Region.ready .any ops' l:=by rw[hq];simp
     obtain ⟨_,o',ho',_⟩:=mem_ready.1 hj;have hlt:=(qqQ.1 ho').1;rw[←hready l hl j hlt,hr] at hj;cases hj
   have:=hlastReady l hl (hnone l hl hr');rw[hr] at this;cases this
  ·rcases hrange l i hi with hlt|rfl
   ·have hi':=(hready l hl i hlt).1 hi;have hop:=h2 i hi';obtain ⟨hun,o1,ho1,_⟩:=mem_ready.1 hi'
    have hset:(l.push false).setIfInBounds i true=(l.setIfInBounds i true).push false:=by
     apply qsk;intro j;rw[Array.getElem?_setIfInBounds,qrD,qrD,Array.getElem?_setIfInBounds];simp only[Array.size_push,Array.size_setIfInBounds];by_cases hij:i=j
     ·subst hij;rw[if_pos rfl,if_pos (by omega),if_neg (by omega),if_pos rfl,if_pos (by omega)]
     ·rw[if_neg hij,if_neg hij]
    have hnext:∀a' w',wpAnyIn F n P .any ops' (qdT F n P (ops'.push o) Q) fuel (l.setIfInBounds i true) a' w'→wpAnyIn F n P .any (ops'.push o) Q (fuel+1) ((l.push false).setIfInBounds i true) a' w':=by
     intro a' w' h';rw[hset];refine ih _ a' w' (by simpa using hl) (fun s hs r hr=>?_) ?_ h'
     ·rw[QD (by omega)] at hs ⊢;rcases hs with rfl|hs
      ·right;obtain ⟨_,o2,ho2,hall2⟩:=mem_ready.1 hi';simp only[yS,hget s hlt,ho2,qqT,qrv] at hr;obtain ⟨e,⟨he,hb⟩,rfl⟩:=hr;exact hall2 e (by simpa using he) hb
      ·exact .inr (hclosed s hs r hr)
     ·have:=count_set hun;omega
    unfold wpOpIn at hop ⊢;rw[hget i hlt,ho1];rw[ho1] at hop;simp only at hop ⊢
    have hwd:Region.wanted o1 (yielded (ops'.push o) a.tmps)=Region.wanted o1 (yielded ops' a.tmps):=by
     have hg:=(hgd i hlt).2;rw[hget i hlt,ho1] at hg;simp only at hg;unfold Region.wanted;split
     ·rfl
     ·rename_i j want hgj;rw[hgj] at hg;simp only[decide_eq_true_eq] at hg;simp only[yielded,hget j hg]
    rw[hwd];split
    ·rename_i hw;rw[if_pos hw] at hop;refine Oper.wpIn_exit (fun x a w hx hq=>?_) (Oper.wpIn_mono hnext hop);cases x <;> first|exact absurd rfl hx|exact hq
    ·rename_i hw;rw[if_neg hw] at hop;exact ⟨hop.1,hnext _ _ hop.2⟩
   ·have hall:=hwait l hl hclosed hi
    have hr':Region.ready .any ops' l=[]:=by
     cases hq:Region.ready .any ops' l with
     | nil=>rfl
     | cons j r=>
      exfalso;have hj:j∈Region.ready .any ops' l:=by rw[hq];simp
      obtain ⟨h3,o',ho',_⟩:=mem_ready.1 hj;have hlt:=(qqQ.1 ho').1;obtain ⟨h4,h5⟩:=Qp.1 h3;obtain ⟨h6,h7⟩:=Qk.1 (hall j hlt);rw[h5] at h7;cases h7
    exact last (fuel+1) l a w hl hall (h1 hr')
theorem JH{F:Fence}{n:Nat}{P:Program}{ops:Array Oper}{md:Region.Mode}{Q Q':Exit→Act→World→Prop}(hq:∀x a w,Q x a w→Q' x a w):∀(fuel:Nat) (l:Array Bool) (a:Act) (w:World),wpAnyIn F n P md ops Q fuel l a w→wpAnyIn F n P md ops Q' fuel l a w
 | 0,l,a,w,h=>⟨h.1,hq _ _ _ h.2⟩
 | fuel+1,l,a,w,h=>by
  refine ⟨fun hr=>hq _ _ _ (h.1 hr),fun i hi=>?_⟩;have hop:=h.2 i hi;unfold wpOpIn at hop ⊢;split
  ·rename_i h1;rw[h1] at hop;exact JH hq fuel _ _ _ hop
  ·rename_i o1 h1;rw[h1] at hop;simp only at hop;split
   ·rename_i hw;rw[if_pos hw] at hop;exact Oper.wpIn_exit (fun x a w _ hx=>hq x a w hx) (Oper.wpIn_mono (fun a w hx=>JH hq fuel _ _ _ hx) hop)
   ·rename_i hw;rw[if_neg hw] at hop;exact ⟨hop.1,JH hq fuel _ _ _ hop.2⟩
def Q2(P:Program)(o':O')(Q:yH):yH
 | .normal,e,S=>yM P [o'] (Q .normal) e S
 | x,e,S=>Q x e S
theorem qbO{P:Program}{N n0 m0:Nat}{ro:Option Nat}{n id:Nat}{ops:Array Oper}{Q:yH}{ds:List D}{zs:List V}{o:Oper}{o':O'}{E:En}{e:Env}{S:St}{a:Act}{w:World}
  (hc:yK P N ops=some (ds,zs)) (hall:jc (ops.push o)=true) (ho:zM P N (ops.push o) o=some o') (hr:Rel N n0 m0 E e S a w)
  (h:dwp P S.length ds (ZX S.length ds (Q2 P o' Q .normal)) e (S++phs zs) [S++phs zs]):(Code.region id (ops.push o) true).wpIn (yO ro) n P (Up N n0 m0 E S w Q) a w:=by
 refine wpIn_region_any (Q6 hc).1 ?_;have h1:=ZO (ro:=ro) (n:=n) (Q:=Q2 P o' Q) hc hr h
 have h2:=JH (Q':=qdT (yO ro) n P (ops.push o) (Up N n0 m0 E S w Q)) (fun x a1 w1 hx=>by
  cases x <;> try exact hx
  obtain ⟨E',e',S',r,xt,q⟩:=hx;have hw:=ym (n:=n) (ro:=ro) (Q:=Q) (ops:=ops.push o) [o] [o'] E' e' S' a1 w1 (by simp[ho]) r q;have hw:=qM (Q':=Up N n0 m0 E S w Q) (fun x a' w'' hq=>hq.back xt) hw;simp only[qdT,Array.size_push,Nat.add_sub_cancel];unfold wpOpIn;rw[show (ops.push o)[ops.size]?=some o by simp];exact hw) ops.size _ a _ h1
 have h3:=qmB hall ops.size (Array.replicate ops.size false) a _ (by simp) (fun s hs=>by
  have:(Array.replicate ops.size false).getD s false=false:=by
   simp only[Array.getD];split <;> simp
  rw[this] at hs;cases hs) (by simp) h2
 rw[Array.size_push,Array.replicate_succ];exact h3
end Go.Proofs.YtbifpocccfkhhaaGreatDoor
