/- A part. -/
import Derived.Test.YtbifpocccfkhhaaGreatDoorKb
import Derived.Deep.LoopGhost
import Derived.OrdersIn
set_option linter.all false
namespace Go.Proofs.YtbifpocccfkhhaaGreatDoor
open Go
structure O' where
 dst:Option Nat
 g:Option (Nat×Bool)
 k:K
 deriving Inhabited
def qdY(N:Nat):Option Nat→Bool
 | none=>true
 | some d=>decide (d<N)
def zM(P:Program)(N:Nat)(ops:Array Oper)(o:Oper):Option O':=
 match yi P o with
 | none=>none
 | some k=>if qdY N o.dst=true then
   match o.guard with
   | none=>some ⟨o.dst,none,k⟩
   | some (j,want)=>match (ops[j]?).bind (·.dst) with
    | some t=>some ⟨o.dst,some (t,want),k⟩
    | none=>none
  else none
def VRs(E:En)(args:List V)(us:Array Value):Prop:=args.length=us.size∧∀(i:Nat) (v:V) (u:Value),args[i]?=some v→us[i]?=some u→VR E v u
def qt(P:Program)(f:FuncId)(args:List V)(S:St)(R:V→St→Prop):Prop:=
 (∀as w,(callFunc f as).run P w=.ok (.enter f as) w)∧
 ∀(E:En) (w:World) (us:Array Value) (n:Nat),SR E S w→VRs E args us→
  CallsIn Fence.wide n P f us w fun e w'=>∃u r E' S',e=.returned u∧R r S'∧VR E' r u∧SR E' S' w'∧Ext S.length E S w E' S' w'∧S.length≤S'.length
def ye(P:Program)(l:Nat)(args:List V)(S:St)(R:V→St→Prop):Prop:=
 ∀(E:En) (w:World) (us:Array Value) (n:Nat) (x:Blk),SR E S w→VRs E args us→E.ρ l 0=some x→
  ∃f tmps asg body,(Instr.yield x.b us).run P w=.ok (.round x.b f tmps asg body) w∧
   RoundIn Fence.wide n P x.b f tmps asg body w fun e w'=>∃u r E' S',e=.returned u∧R r S'∧VR E' r u∧SR E' S' w'∧Ext S.length E S w E' S' w'∧S.length≤S'.length
theorem qt.mono{P:Program}{f:FuncId}{args:List V}{S:St}{R R':V→St→Prop}(h:qt P f args S R)(hr:∀r S',R r S'→R' r S'):qt P f args S R':=
 ⟨h.1,fun E w us n hs hv=>(h.2 E w us n hs hv).mono fun e w' ⟨u,r,E',S',h1,h2,h3⟩=>⟨u,r,E',S',h1,hr _ _ h2,h3⟩⟩
def qU(e:Env):Option (Nat×Bool)→Option Bool
 | none=>some true
 | some (t,want)=>match e.get t with
  | some (.bool b)=>some (b==want)
  | some (.tup [])=>some false
  | _=>none
def yK(P:Program):List O'→(Env→St→Prop)→Env→St→Prop
 | [],Q,e,S=>Q e S
 | o::os,Q,e,S=>match qU e o.g with
  | none=>False
  | some false=>yK P os Q (e.put o.dst (.tup [])) S
  | some true=>match o.k with
   | .call f args=>match f.ev e,evs e args with
    | some (.fn (.func k) fs cs),some vs=>∃R,qt P k (fs++vs++cs) S R∧∀r S',R r S'→yK P os Q (e.put o.dst r) S'
    | some (.yld l),some vs=>∃R,ye P l vs S R∧∀r S',R r S'→yK P os Q (e.put o.dst r) S'
    | _,_=>False
   | k=>match evK e S k with
    | some (r,S')=>yK P os Q (e.put o.dst r) S'
    | none=>(ndK e k≠[]∧∀v,v∈ndK e k→yK P os Q (e.put o.dst v) S)∨(ndS e S k≠[]∧∀q,q∈ndS e S k→yK P os Q (e.put o.dst q.1) q.2)
abbrev yD:=Exit→Env→St→Prop
def Env.sub(e' e:Env):Prop:=∀t v,e'.get t=some v→e.get t=some v
def yL(ro:Option Nat):Fence:={ Fence.wide with round:=ro }
def Up(N n0 m0:Nat)(E:En)(S:St)(w:World)(Q:yD)(x:Exit)(a':Act)(w':World):Prop:=
 ∃E' e' S',Rel N n0 m0 E' e' S' a' w'∧Ext n0 E S w E' S' w'∧Q x e' S'
theorem Up.back{N n0 m0:Nat}{E E1:En}{S S1:St}{w w1:World}{Q:yD}{x:Exit}{a:Act}{w':World}(h:Ext n0 E S w E1 S1 w1)(g:Up N n0 m0 E1 S1 w1 Q x a w'):Up N n0 m0 E S w Q x a w':=
 let ⟨E',e',S',r,x,q⟩:=g;⟨E',e',S',r,h.trans x,q⟩
theorem yC{ro:Option Nat}{ρ:Operand→Value}{o:Oper}{P:Program}{k:K}(h:yi P o=some k):o.semAt ro ρ=execOp ρ o:=by
 cases ro with
 | none=>exact Oper.semAt_none ρ o
 | some l=>exact Oper.semAt_some l ρ o fun c hc=>by simp[yi,yU,Jy,hc] at h
theorem Rel.put{N n0 m0:Nat}{E:En}{e:Env}{S:St}{a:Act}{w:World}(h:Rel N n0 m0 E e S a w){d:Option Nat}{v:V}{u:Value}(hd:qdY N d=true)(r:VR E v u):Rel N n0 m0 E (e.put d v) S (a.put d u) w:=by
 cases d with
 | none=>exact h
 | some d=>
  simp[qdY] at hd;exact ⟨h.tmps.put (by rw[h.size];exact hd) r,by simp[Act.put,h.size],h.defers,h.base,h.sr⟩
theorem Rel.step{N n0 m0:Nat}{E E':En}{e:Env}{S S':St}{a:Act}{w w':World}(h:Rel N n0 m0 E e S a w)(hs:SR E' S' w')(hx:Ext S.length E S w E' S' w')(hl:S.length≤S'.length):Rel N n0 m0 E' e S' a w':=
 ⟨h.tmps.mono (hx.le h.sr),h.size,YH.step hx h.defers,qrt h.base hl,hs⟩
theorem jZ{P:Program}{o:Oper}{k:K}(h:yi P o=some k)(hx:∀x,k≠.ex x):yU P o=some k:=by
 unfold yi at h;split at h
 ·rename_i k' hk;cases h;exact hk
 ·cases hx':Jy P o with
  | none=>rw[hx'] at h;cases h
  | some x=>rw[hx'] at h;cases h;exact absurd rfl (hx x)
theorem jm{P:Program}{dst:Option Tmp}{op:Op}{type:TypeId}{pos:String}{after:Array Edge}{guard:Option (Nat×Bool)}{f:Opd}{args:List Opd}(hk:yi P ⟨dst,op,type,pos,after,guard⟩=some (.call f args)):
  ∃c f0,op=.call c∧c.callee=.value f0∧qj f0=some f∧c.args.toList.mapM qj=some args:=by
 replace hk:=jZ hk (fun x=>by simp);by_cases hc:∃c,op=.call c
 ·obtain ⟨c,rfl⟩:=hc;simp only[yU] at hk;split at hk
  ·rename_i f0 args' h1 h2
   cases h3:qj f0 with
   | none=>rw[h3] at hk;cases hk
   | some f1=>rw[h3] at hk;cases hk;exact ⟨c,f0,rfl,h1,h3,h2⟩
  ·exfalso;repeat' split at hk
   all_goals cases hk
  ·rename_i h1 h2;cases h3:qgn P c.argTypes <;> rw[h3] at hk <;> cases hk
  ·cases hk
 ·exfalso;cases op <;> first|(exact hc ⟨_,rfl⟩)|skip
  all_goals (simp only[yU] at hk)
  all_goals (first|(cases hk;done)|(simp at hk;done)|(revert hk;repeat' split))
  all_goals (first|contradiction|(intro hk;cases hk;done)|(intro hk;simp at hk;done)|skip)
theorem qP{F:Fence}{n:Nat}{P:Program}{ops:Array Oper}{Q Q':Exit→Act→World→Prop}(hq:∀x a w,Q x a w→Q' x a w):∀{l:List Oper} {a:Act} {w:World},wpListIn F n P ops Q l a w→wpListIn F n P ops Q' l a w
 | [],a,w,h=>hq _ _ _ h
 | o::l,a,w,h=>by
  have hlet:LetsOut Q→LetsOut Q':=fun ⟨a,w,h⟩=>⟨a,w,hq _ _ _ h⟩
  simp only[wpListIn] at h ⊢;split
  ·rename_i hw;rw[if_pos hw] at h;obtain ⟨h1,h2⟩:=h;refine ⟨h1,?_⟩;generalize (o.semAt F.round a.eval).run P w=r at h2 ⊢
   cases r with
   | ok nx w'=>
    cases nx <;> simp only[Oper.uponIn] at h2 ⊢
    case value v=>exact qP hq h2
    case skip=>exact qP hq h2
    case defer d=>exact qP hq h2
    case enter f args=>exact ⟨h2.1,h2.2.mono fun e w'' he=>by cases e <;> first|exact qP hq he|exact hq _ _ _ he|exact hlet he⟩
    case row r args=>exact ⟨h2.1,h2.2.mono fun v w'' he=>qP hq he⟩
    case round l f t x y=>exact ⟨h2.1,h2.2.mono fun e w'' he=>by cases e <;> first|exact qP hq he|exact hq _ _ _ he|exact hlet he⟩
   | halt x w'=>
    cases x <;> simp only[Oper.uponIn] at h2 ⊢
    case panic v=>exact hq _ _ _ h2
  ·rename_i hw;rw[if_neg hw] at h;exact ⟨h.1,qP hq h.2⟩
theorem qaG{P:Program}{ro:Option Nat}{n:Nat}{o:Oper}{k:K}{E:En}{e:Env}{S S':St}{r:V}{a:Act}{w:World}{next:Act→World→Prop}{Q:Exit→Act→World→Prop}(hk:yi P o=some k)(ht:Z5 E e a.tmps)(hs:SR E S w)(hev:evK e S k=some (r,S'))
  (hn:∀E' u w',VR E' r u→SR E' S' w'→Ext S.length E S w E' S' w'→S.length≤S'.length→next (a.put o.dst u) w'):o.wpIn (yL ro) n P a w next Q:=by
 refine ⟨fun f hf=>trivial,?_⟩;rw[show o.semAt (yL ro).round a.eval=execOp a.eval o from yC hk];obtain ⟨nx,E',w',hrun,hnr,hsr,hext,hlen⟩:=qj7 hk hev ht hs;rw[hrun];rcases hnr with ⟨u,rfl,hvr⟩|⟨rfl,rfl⟩
 ·exact hn E' u w' hvr hsr hext hlen
 ·exact hn E' undef w' (.tup (by simp) (fun i v u h=>by simp at h)) hsr hext hlen
theorem qpg{P:Program}{ro:Option Nat}{n:Nat}{o:Oper}{k:K}{E:En}{e:Env}{S:St}{a:Act}{w:World}{next:Act→World→Prop}{Q:Exit→Act→World→Prop}(hk:yi P o=some k)(hnd:ndK e k≠[])(ht:Z5 E e a.tmps)(hs:SR E S w)
  (hn:∀v u,v∈ndK e k→VR E v u→next (a.put o.dst u) w):o.wpIn (yL ro) n P a w next Q:=by
 refine ⟨fun f hf=>trivial,?_⟩;rw[show o.semAt (yL ro).round a.eval=execOp a.eval o from yC hk];obtain ⟨v,u,hv,hrun,hvr⟩:=qlP hk hnd ht hs;rw[hrun];exact hn v u hv hvr
theorem qoP{P:Program}{ro:Option Nat}{n:Nat}{o:Oper}{k:K}{E:En}{e:Env}{S:St}{a:Act}{w:World}{next:Act→World→Prop}{Q:Exit→Act→World→Prop}(hk:yi P o=some k)(hnd:ndS e S k≠[])(ht:Z5 E e a.tmps)(hs:SR E S w)
  (hn:∀q E' u w',q∈ndS e S k→VR E' q.1 u→SR E' q.2 w'→Ext S.length E S w E' q.2 w'→S.length≤q.2.length→next (a.put o.dst u) w'):o.wpIn (yL ro) n P a w next Q:=by
 refine ⟨fun f hf=>trivial,?_⟩;rw[show o.semAt (yL ro).round a.eval=execOp a.eval o from yC hk];obtain ⟨q,hq,nx,E',w',hrun,hnr,hsr,hext,hlen⟩:=ql7 hk hnd ht hs;rw[hrun];rcases hnr with ⟨u,rfl,hvr⟩|⟨rfl,hv⟩
 ·exact hn q E' u w' hq hvr hsr hext hlen
 ·exact hn q E' undef w' hq (by rw[hv];exact .tup (by simp) (fun i v u h=>by simp at h)) hsr hext hlen
theorem qfq{P:Program}{ro:Option Nat}{n:Nat}{o:Oper}{f:Opd}{args:List Opd}{kf:FuncId}{fs cs vs:List V}{R:V→St→Prop}{E:En}{e:Env}{S:St}{a:Act}{w:World}{next:Act→World→Prop}{Q:Exit→Act→World→Prop}(hk:yi P o=some (.call f args))(ht:Z5 E e a.tmps)(hs:SR E S w)
  (hf:f.ev e=some (.fn (.func kf) fs cs)) (hvs:evs e args=some vs) (hspec:qt P kf (fs++vs++cs) S R)
  (hn:∀r S' E' u w',R r S'→VR E' r u→SR E' S' w'→Ext S.length E S w E' S' w'→S.length≤S'.length→next (a.put o.dst u) w'):o.wpIn (yL ro) n P a w next Q:=by
 refine ⟨fun f hf=>trivial,?_⟩;rw[show o.semAt (yL ro).round a.eval=execOp a.eval o from yC hk];obtain ⟨dst,op,type,pos,after,guard⟩:=o;obtain ⟨c,f0,rfl,h1,h2,h3⟩:=jm hk;have hfv:=qp ht h2 hf;obtain ⟨a1,a2⟩:=Ql ht h3 hvs;generalize hu:a.eval f0=u at hfv;have a1':vs.length=c.args.size:=by simpa using a1
 obtain ⟨us,ws,rfl,b1,b2,b3,b4⟩:∃us ws,u=.func (.func kf) us ws∧fs.length=us.size∧cs.length=ws.size∧(∀(i:Nat) (v:V) (u:Value),fs[i]?=some v→us[i]?=some u→VR E v u)∧(∀(i:Nat) (v:V) (u:Value),cs[i]?=some v→ws[i]?=some u→VR E v u):=by
  cases hfv with
  | fn h1 h2 g1 g2=>exact ⟨_,_,rfl,h1,h2,g1,g2⟩
 have hrun:(execOp a.eval ⟨dst,.call c,type,pos,after,guard⟩).run P w=.ok (.enter kf (us++c.args.map a.eval++ws)) w:=by
  simp only[execOp,resolve,h1,hu,Deferred.ofValue,Sem.run_bind,Sem.run_pure,Result.andThen,invoke];exact hspec.1 _ w
 rw[hrun];simp only[Oper.uponIn];refine ⟨fun hd=>by simp[yL,Fence.wide] at hd,?_⟩
 have hargs:VRs E (fs++vs++cs) (us++c.args.map a.eval++ws):=by
  refine ⟨by simp[b1,b2,a1'],fun i v u hv hu=>?_⟩;rw[qrc] at hv;rw[Array.append_assoc] at hu;by_cases hi:i<fs.length
  ·rw[qqW hi] at hv;rw[qrW (by omega)] at hu;exact b3 i v u hv hu
  ·rw[qqU (by omega)] at hv;rw[qsn (by omega),←b1] at hu;by_cases hj:i - fs.length<vs.length
   ·rw[qqW hj] at hv;rw[qrW (by simp;omega)] at hu;simp only[qso,qq3] at hu;obtain ⟨o,ho,rfl⟩:=hu;exact a2 _ v o hv (by simpa using ho)
   ·rw[qqU (by omega)] at hv;rw[qsn (by simp;omega)] at hu;rw[show i - fs.length - (c.args.map a.eval).size=i - fs.length - vs.length by simp[a1']] at hu;exact b4 _ v u hv hu
 have hcalls:=hspec.2 E w _ (n - 1) hs hargs;refine CallsIn.mono (show CallsIn (yL ro) (n - 1) P kf _ w _ from hcalls) ?_;rintro ed w' ⟨uv,r,E',S',rfl,hR,hvr,hsr,hext,hlen⟩;exact hn r S' E' uv w' hR hvr hsr hext hlen
theorem qjc{P:Program}{ro:Option Nat}{n:Nat}{o:Oper}{f:Opd}{args:List Opd}{ly:Nat}{vs:List V}{R:V→St→Prop}{E:En}{e:Env}{S:St}{a:Act}{w:World}{next:Act→World→Prop}{Q:Exit→Act→World→Prop}(hk:yi P o=some (.call f args))(ht:Z5 E e a.tmps)(hs:SR E S w)
    (hf:f.ev e=some (.yld ly)) (hvs:evs e args=some vs) (hspec:ye P ly vs S R)
    (hn:∀r S' E' u w',R r S'→VR E' r u→SR E' S' w'→Ext S.length E S w E' S' w'→S.length≤S'.length→next (a.put o.dst u) w'):o.wpIn (yL ro) n P a w next Q:=by
  refine ⟨fun f hf=>trivial,?_⟩;rw[show o.semAt (yL ro).round a.eval=execOp a.eval o from yC hk];obtain ⟨dst,op,type,pos,after,guard⟩:=o;obtain ⟨c,f0,rfl,h1,h2,h3⟩:=jm hk;have hfv:=qp ht h2 hf;obtain ⟨a1,a2⟩:=Ql ht h3 hvs;generalize hu:a.eval f0=u at hfv;have a1':vs.length=c.args.size:=by simpa using a1
  cases hfv with
  | yld hx=>
    rename_i x
    obtain ⟨fn,tmps,asg,body,hy,hround⟩:=hspec E w (c.args.map a.eval) (n - 1) x hs ⟨by simp[a1'],fun i v u hv hu=>by
      simp only[qso,qq3] at hu;obtain ⟨o,ho,rfl⟩:=hu;exact a2 _ v o hv (by simpa using ho)⟩ hx
    have hrun:(execOp a.eval ⟨dst,.call c,type,pos,after,guard⟩).run P w=.ok (.round x.b fn tmps asg body) w:=by
      simp only[execOp,resolve,h1,hu,Deferred.ofValue,Sem.run_bind,Sem.run_pure,Result.andThen,invoke,Array.empty_append];exact hy
    rw[hrun,Oper.uponIn_round];refine ⟨fun hd=>by simp[yL,Fence.wide] at hd,?_⟩;refine RoundIn.mono (show RoundIn (yL ro) (n - 1) P _ _ _ _ _ w _ from hround) ?_;rintro ed w' ⟨uv,r,E',S',rfl,hR,hvr,hsr,hext,hlen⟩;exact hn r S' E' uv w' hR hvr hsr hext hlen
theorem jq{P:Program}{N:Nat}{ops:Array Oper}{o:Oper}{o':O'}(h:zM P N ops o=some o'):
  o'.dst=o.dst∧qdY N o.dst=true∧yi P o=some o'.k∧∀(E:En) (e:Env) (a:Act) (b:Bool),(∀t w,o'.g=some (t,w)→∀v,e.get t=some v→∃u,a.tmps[t]?=some u∧VR E v u)→qU e o'.g=some b→Region.wanted o (yielded ops a.tmps)=b:=by
 unfold zM at h;split at h
 ·cases h
 rename_i k hk;split at h
 case isFalse=>cases h
 rename_i hd;split at h
 ·rename_i hgd;cases h;exact ⟨rfl,hd,hk,fun E e a b _ hb=>by cases hb;simp[Region.wanted,hgd]⟩
 ·rename_i j want hgd;split at h <;> cases h;rename_i t ht;refine ⟨rfl,hd,hk,fun E e a b hr hb=>?_⟩;simp only[qU] at hb;split at hb <;> cases hb
  ·rename_i bb hbb;obtain ⟨u,hu,hv⟩:=hr _ _ rfl _ hbb;cases hv;simp[Region.wanted,hgd,yielded,ht,hu]
  ·rename_i hbb;obtain ⟨u,hu,hv⟩:=hr _ _ rfl _ hbb;cases hv;simp[Region.wanted,hgd,yielded,ht,hu]
theorem yl{P:Program}{N n0 m0:Nat}{ro:Option Nat}{n:Nat}{ops:Array Oper}{Q:yD}:∀(l:List Oper) (l':List O') (E:En) (e:Env) (S:St) (a:Act) (w:World),
  l.mapM (zM P N ops)=some l'→Rel N n0 m0 E e S a w→yK P l' (Q .normal) e S→wpListIn (yL ro) n P ops (Up N n0 m0 E S w Q) l a w
 | [],l',E,e,S,a,w,hc,hr,h=>by
  simp at hc;subst hc;exact ⟨E,e,S,hr,Ext.refl _ _ _ _,h⟩
 | o::l,l',E,e,S,a,w,hc,hr,h=>by
  simp only[qsj,qrQ] at hc
  cases ho:zM P N ops o with
  | none=>rw[ho] at hc;simp at hc
  | some o'=>
   rw[ho] at hc
   cases hl:l.mapM (zM P N ops) with
   | none=>rw[hl] at hc;simp at hc
   | some l2=>
    rw[hl] at hc;simp at hc;subst hc;obtain ⟨hdst,hd,hk,hg⟩:=jq ho;simp only[yK] at h;rw[hdst] at h
    cases hw:qU e o'.g with
    | none=>rw[hw] at h;exact h.elim
    | some b=>
     rw[hw] at h;have hwd:=hg E e a b (fun t _ _ v hv=>hr.tmps t v hv) hw;simp only[wpListIn]
     cases b with
     | false=>
      rw[hwd];simp only[qrn,if_false];refine ⟨fun f hf=>trivial,?_⟩;exact yl l l2 E _ S _ w hl (hr.put hd (.tup (by simp) (fun i v u h=>by simp at h))) h
     | true=>
      rw[hwd];simp only[if_true];generalize hkk:o'.k=k at h hk;by_cases hcall:∃f args,k=.call f args
      ·obtain ⟨f,args,rfl⟩:=hcall;simp only at h;split at h <;> try exact h.elim
       ·rename_i kf fs cs vs hf hvs;obtain ⟨R,hspec,hnext⟩:=h;refine qfq hk hr.tmps hr.sr hf hvs hspec fun r S' E' u w' hR hvr hsr hext hlen=>?_
        have hr':=(hr.step hsr hext hlen).put hd hvr;have:=yl (n:=n) (ro:=ro) (Q:=Q) l l2 E' _ S' _ w' hl hr' (hnext r S' hR);exact qP (fun x a' w'' hq=>hq.back (hext.less hr.base)) this
       ·rename_i ly vs hf hvs;obtain ⟨R,hspec,hnext⟩:=h;refine qjc hk hr.tmps hr.sr hf hvs hspec fun r S' E' u w' hR hvr hsr hext hlen=>?_
        have hr':=(hr.step hsr hext hlen).put hd hvr;have:=yl (n:=n) (ro:=ro) (Q:=Q) l l2 E' _ S' _ w' hl hr' (hnext r S' hR);exact qP (fun x a' w'' hq=>hq.back (hext.less hr.base)) this
      ·have h':match evK e S k with
        | some (r,S')=>yK P l2 (Q .normal) (e.put o.dst r) S'
        | none=>(ndK e k≠[]∧∀v,v∈ndK e k→yK P l2 (Q .normal) (e.put o.dst v) S)∨(ndS e S k≠[]∧∀q,q∈ndS e S k→yK P l2 (Q .normal) (e.put o.dst q.1) q.2):=by
        cases k <;> first|exact h|exact absurd ⟨_,_,rfl⟩ hcall
       cases hev:evK e S k with
       | none=>
        rw[hev] at h';rcases h' with h'|h'
        ·refine qpg hk h'.1 hr.tmps hr.sr fun v u hv hvr=>?_
         exact yl l l2 E _ S _ w hl (hr.put hd hvr) (h'.2 v hv)
        ·refine qoP hk h'.1 hr.tmps hr.sr fun q E' u w' hq hvr hsr hext hlen=>?_
         have hr':=(hr.step hsr hext hlen).put hd hvr;have:=yl (n:=n) (ro:=ro) (Q:=Q) l l2 E' _ q.2 _ w' hl hr' (h'.2 q hq);exact qP (fun x a' w'' hq=>hq.back (hext.less hr.base)) this
       | some rs=>
        obtain ⟨r,S'⟩:=rs;rw[hev] at h';refine qaG hk hr.tmps hr.sr hev fun E' u w' hvr hsr hext hlen=>?_
        have hr':=(hr.step hsr hext hlen).put hd hvr;have:=yl (n:=n) (ro:=ro) (Q:=Q) l l2 E' _ S' _ w' hl hr' h';exact qP (fun x a' w'' hq=>hq.back (hext.less hr.base)) this
theorem SR.phantom{E:En}{S:St}{w:World}(h:SR E S w){z:V}(h0:0<z.size):SR E (S++[.arr [z] z.size 1]) w∧∀n,Ext n E S w E (S++[.arr [z] z.size 1]) w:=by
 have hno:∀st,E.ρ S.length st=none:=fun st=>by
  cases hr:E.ρ S.length st with
  | none=>rfl
  | some x=>exact absurd (h.dom _ _ _ hr) (by omega)
 have hlv:∀l st x,ZP (S++[.arr [z] z.size 1]) l→E.ρ l st=some x→ZP S l:=fun l st x hl hx=>by
  rcases Yc hl with hl|rfl
  ·exact hl
  ·rw[hno] at hx;cases hx
 have hown:∀b,own E (S++[.arr [z] z.size 1]) b→own E S b:=fun b ⟨l,st,x,hl,hx,he⟩=>⟨l,st,x,hlv l st x hl hx,hx,he⟩
 refine ⟨⟨h.gl,h.I,fun l o ho=>?_,fun l st x hx=>by have:=h.dom _ _ _ hx;simp;omega,fun b o hb=>h.apart b o (hown b hb),fun b hb=>h.lt b (hown b hb),fun l l' st st' x x' hl hl' hx hx' he=>h.inj l l' st st' x x' (hlv l st x hl hx) (hlv l' st' x' hl' hx') hx hx' he⟩,
  fun n=>⟨qqY _,fun _ _ _ h=>h,fun _ _ _ _ h=>h,fun _ _ h=>h,fun b hb=>.inl (hown b hb),fun _ _ _ h=>.inl h,fun _ _ _=>rfl,rfl⟩⟩
 rcases qsC l S.length with hl|hl
 ·rw[qqW hl] at ho;exact h.obs l o ho
 ·have hlt:=(qqT.1 ho).1;simp at hlt;have:l=S.length:=by omega
  subst this;simp at ho;subst ho;refine ⟨⟨h0,by simp⟩,fun v hv=>by simp at hv;subst hv;rfl,fun st x hx=>?_⟩;rw[hno] at hx;cases hx
def phs(zs:List V):St:=zs.map fun z=>.arr [z] z.size 1
theorem SR.phantoms{E:En}{w:World}:∀(zs:List V) {S:St},SR E S w→(∀z,z∈zs→0<z.size)→SR E (S++phs zs) w∧∀n,Ext n E S w E (S++phs zs) w
 | [],S,h,_=>by simp[phs];exact ⟨h,fun n=>Ext.refl _ _ _ _⟩
 | z::zs,S,h,h0=>by
  obtain ⟨a,b⟩:=h.phantom (h0 z (by simp));obtain ⟨c,d⟩:=SR.phantoms zs a fun z hz=>h0 z (by simp[hz])
  rw[qrc] at c d;exact ⟨c,fun n=>(b n).trans (d n)⟩
theorem SR.real{E:En}{S:St}{w:World}(h:SR E S w){l:Nat}{ob:Ob}{o:Obj}{st N sz:Nat}(hl:S[l]?=some ob)(hno:∀st,E.ρ l st=none)
  (ho:OR (E.at l st ⟨w.heap.size,N,sz⟩) { w with heap:=w.heap.push o } l ob):
  SR (E.at l st ⟨w.heap.size,N,sz⟩) S { w with heap:=w.heap.push o }∧E.le (E.at l st ⟨w.heap.size,N,sz⟩)∧
  ∀n,n≤l→Ext n E S w (E.at l st ⟨w.heap.size,N,sz⟩) S { w with heap:=w.heap.push o }:=by
 have hle:E.le (E.at l st ⟨w.heap.size,N,sz⟩):=JW (hno st)
 have key:∀l' st' x,ZP S l'→(E.at l st ⟨w.heap.size,N,sz⟩).ρ l' st'=some x→(l'=l∧x.b=w.heap.size)∨(l'≠l∧E.ρ l' st'=some x∧x.b<w.heap.size):=by
  intro l' st' x hl' hx;by_cases hk:l'=l
  ·subst hk;by_cases hs:st'=st
   ·subst hs;rw[zi] at hx;cases hx;exact .inl ⟨rfl,rfl⟩
   ·simp[En.at,hs,hno] at hx
  ·rw[z7 hk] at hx;exact .inr ⟨hk,hx,h.lt _ ⟨l',st',x,hl',hx,rfl⟩⟩
 have hown:∀b,own (E.at l st ⟨w.heap.size,N,sz⟩) S b→own E S b∨b=w.heap.size:=by
  rintro b ⟨l',st',x,hl',hx,rfl⟩;rcases key l' st' x hl' hx with ⟨_,h2⟩|⟨_,h2,_⟩
  ·exact .inr h2
  ·exact .inl ⟨l',st',x,hl',h2,rfl⟩
 refine ⟨⟨h.gl.old hle.1 (fun b _ _ _ hb _=>zw (Zp hb)),?_,?_,?_,?_,?_,?_⟩,hle,fun n hn=>⟨by simp,hle.1,fun l st' x _ hx=>hle.2 l st' x hx,fun l' hl' hx st'=>by rw[z7 (by omega)];exact hx st',fun b hb=>(hown b hb).imp id (fun e=>by omega),fun b o c hc=>.inl hc,fun b hb _=>zw hb,rfl⟩⟩
 ·intro b o' c hc;have:=h.I b o' c hc;rw[cell?_heap (zw (cell?_lt this))];exact this
 ·intro l' o' hl';by_cases hk:l'=l
  ·subst hk;rw[hl] at hl';cases hl';exact ho
  ·by_cases hd:o'=.dead
   ·subst hd;trivial
   exact (h.obs l' o' hl').mono hle (fun st' x hx=>by rw[z7 hk] at hx;exact hx) (fun st' x hx=>zw (h.lt _ ⟨l',st',x,⟨o',hl',hd⟩,hx,rfl⟩))
 ·intro l' st' x hx;by_cases hk:l'=l
  ·subst hk;exact (qqT.1 hl).1
  ·rw[z7 hk] at hx;exact h.dom _ _ _ hx
 ·intro b o' hb;rcases hown b hb with hb|rfl
  ·exact h.apart b o' hb
  ·cases hc:E.I w.heap.size o' with
   | none=>exact hc
   | some c=>exact absurd (cell?_lt (h.I _ _ _ hc)) (by omega)
 ·intro b hb;rcases hown b hb with hb|rfl
  ·have:=h.lt b hb;simp;omega
  ·simp
 ·intro l1 l2 st1 st2 x x' hl1 hl2 hx hx' hb;rcases key l1 st1 x hl1 hx with ⟨h1,h2⟩|⟨h1,h3,h4⟩ <;> rcases key l2 st2 x' hl2 hx' with ⟨g1,g2⟩|⟨g1,g3,g4⟩
  ·omega
  ·omega
  ·omega
  ·exact h.inj l1 l2 st1 st2 x x' hl1 hl2 h3 g3 hb
theorem SR.realBox{E:En}{S:St}{w:World}{l:Nat}{z:V}{d:Value}{t:TypeId}(h:SR E S w)(hl:S[l]?=some (.arr [z] z.size 1))(hno:∀st,E.ρ l st=none)(h0:0<z.size)(hf:(z.cells.all V.flat)=true)(hz:VR E z d):
  ∃E',SR E' S { w with heap:=w.heap.push (.cells d.cells t (0,0)) }∧E.le E'∧(∀n,n≤l→Ext n E S w E' S { w with heap:=w.heap.push (.cells d.cells t (0,0)) })∧(∀l' st,l'≠l→E'.ρ l' st=E.ρ l' st)∧VR E' (.ptr l 0 0 1) (.pointer (some ⟨w.heap.size,0,none⟩)):=by
 obtain ⟨h1,h2⟩:=hz.cells (zd hf)
 obtain ⟨n1,n2,n3⟩:=h.real (o:=.cells d.cells t (0,0)) (st:=1) (N:=d.cells.size) (sz:=z.size) hl hno (by
  refine ⟨⟨h0,by simp⟩,fun v hv=>by simp at hv;subst hv;rfl,fun st y hy hst=>?_⟩;by_cases hs1:st=1
  ·subst hs1;rw[zi] at hy;cases hy;refine ⟨by simp,rfl,d.cells,t,Q5,rfl,by simp[V.size,h1],fun i v hv hi j c hc=>?_⟩;have hi0:i=0:=by omega
   subst hi0;simp at hv;subst hv;obtain ⟨e,he,hr⟩:=hz.cells_ex (zd hf) hc;exact ⟨e,by simpa using he,hr.mono (JW (hno 1))⟩
  ·exfalso;simp only[En.at] at hy;rw[if_neg (by simp;exact hs1),hno] at hy;cases hy)
 refine ⟨_,n1,n2,n3,fun l' st hl'=>z7 hl',?_⟩;have:=VR.ptr (E:=E.at l 1 ⟨w.heap.size,d.cells.size,z.size⟩) (l:=l) (st:=1) 0 0 zi;simpa using this
theorem qeb{P:Program}{o:Oper}{z:V}(h:yi P o=some (.new z)):∃t i zv,o.op=.alloc t∧P.info? t=some i∧i.zero=some zv∧z=vOf zv:=by
 obtain ⟨dst,op,type,pos,after,guard⟩:=o;replace h:=jZ h (fun x=>by simp);by_cases hc:∃t,op=.alloc t
 ·obtain ⟨t,rfl⟩:=hc;simp only[yU] at h;split at h <;> try cases h
  rename_i i hi;split at h <;> cases h;rename_i z hz;exact ⟨t,i,z,rfl,hi,hz,rfl⟩
 ·exfalso;cases op <;> first|(exact hc ⟨_,rfl⟩)|skip
  all_goals (simp only[yU] at h)
  all_goals (first|(cases h;done)|(simp at h;done)|(revert h;repeat' split))
  all_goals (first|contradiction|(intro h;cases h;done)|(intro h;simp at h;done)|skip)
theorem qma{P:Program}{ro:Option Nat}{n:Nat}{o:Oper}{z:V}{E:En}{S:St}{a:Act}{w:World}{next:Act→World→Prop}{Q:Exit→Act→World→Prop}{l:Nat}(hk:yi P o=some (.new z))(hs:SR E S w)(hl:S[l]?=some (.arr [z] z.size 1))(hno:∀st,E.ρ l st=none)(h0:0<z.size)(hf:(z.cells.all V.flat)=true)
  (hn:∀E' u w',VR E' (.ptr l 0 0 1) u→SR E' S w'→E.le E'→(∀n,n≤l→Ext n E S w E' S w')→(∀l' st,l'≠l→E'.ρ l' st=E.ρ l' st)→next (a.put o.dst u) w'):o.wpIn (yL ro) n P a w next Q:=by
 refine ⟨fun f hf=>trivial,?_⟩;rw[show o.semAt (yL ro).round a.eval=execOp a.eval o from yC hk];obtain ⟨t,i,zv,hop,hi,hz,rfl⟩:=qeb hk;obtain ⟨E',b1,b2,b3,b4,b5⟩:=hs.realBox (t:=t) hl hno h0 hf (ZI E zv);obtain ⟨dst,op,type,pos,after,guard⟩:=o;cases hop
 have hrun:(execOp a.eval ⟨dst,.alloc t,type,pos,after,guard⟩).run P w=.ok (.value (.pointer (some ⟨w.heap.size,0,none⟩))) { w with heap:=w.heap.push (.cells zv.cells t (0,0)) }:=by
  have:(Instr.alloc t true (.tuple #[])).run P w=.ok (.pointer (some ⟨w.heap.size,0,none⟩)) { w with heap:=w.heap.push (.cells zv.cells t (0,0)) }:=by
   simp[Instr.alloc,newVar,Sem.run_bind,qT hi hz,Result.andThen,yB]
  simp only[execOp,Sem.run_bind,this,Result.andThen,Sem.run_pure]
 rw[hrun];exact hn E' _ _ b5 b1 b2 b3 b4
def K.tmps:K→List Nat
 | .mv x|.box x|.nck x|.un _ x|.fa _ x|.fld _ _ x|.ext _ x|.len _ x|.conv _ x|.ld _ x=>x.tmps
 | .pick c a b=>c.tmps++a.tmps++b.tmps
 | .new _=>[]
 | .build _ ps=>ps.flatMap fun p=>p.2.2.2.tmps
 | .bsl _ xs=>xs.flatMap Opd.tmps
 | .sto _ a x|.bin _ a x|.eq _ _ a x|.ia _ a x|.idx a x|.app _ _ a x=>a.tmps++x.tmps
 | .slc _ _ x lo hi=>x.tmps++lo.toList.flatMap Opd.tmps++hi.toList.flatMap Opd.tmps
 | .mkf _ fs cs=>fs.flatMap Opd.tmps++cs.flatMap Opd.tmps
 | .call f xs=>f.tmps++xs.flatMap Opd.tmps
 | .ex k=>k.tmps
def Z4(ts:List Nat)(e e':Env):Prop:=∀t,t∈ts→e'.get t=e.get t
theorem Z4.sub{ts us:List Nat}{e e':Env}(h:Z4 ts e e')(hs:∀t,t∈us→t∈ts):Z4 us e e':=fun t ht=>h t (hs t ht)
theorem qm{e e':Env}{x:Opd}(h:Z4 x.tmps e e'):x.ev e'=x.ev e:=by
 cases x with
 | t n=>exact h n (by simp[Opd.tmps])
 | c v=>rfl
 | f k=>rfl
theorem Zv{e e':Env}:∀{xs:List Opd},Z4 (xs.flatMap Opd.tmps) e e'→evs e' xs=evs e xs
 | [],_=>rfl
 | x::xs,h=>by
  simp only[evs]
  rw[qm (x:=x) (fun t ht=>h t (by simp[ht])),Zv (xs:=xs) (fun t ht=>h t (by
   simp only[qrs,qq0];exact .inr ht))]
theorem Yq{e e':Env}:∀{ps:List (Nat×Nat×Nat×Opd)},Z4 (ps.flatMap fun p=>p.2.2.2.tmps) e e'→qB e' ps=qB e ps
 | [],_=>rfl
 | (f,o,n,x)::ps,h=>by
  simp only[qB]
  rw[qm (x:=x) (fun t ht=>h t (by simp[ht])),Yq (ps:=ps) (fun t ht=>h t (by
   simp only[qrs,qq0];exact .inr ht))]
theorem jk{e e':Env}{x:Option Opd}(h:Z4 (x.toList.flatMap Opd.tmps) e e'):JC e' x=JC e x:=by
 cases x with
 | none=>rfl
 | some x=>simp only[JC];rw[qm (x:=x) (fun t ht=>h t (by simpa using ht))]
theorem qbj{e e':Env}{S:St}{k:X}(h:Z4 k.tmps e e'):evX e' S k=evX e S k:=by
 cases k <;> simp only[X.tmps] at h <;> simp only[evX]
 case eqs n s os x y=>rw[qm (h.sub (us:=x.tmps) (by simp;grind)),qm (h.sub (us:=y.tmps) (by simp;grind))]
 case eqn n x=>rw[qm h]
 case lkp kd z ok x y=>rw[qm (h.sub (us:=x.tmps) (by simp;grind)),qm (h.sub (us:=y.tmps) (by simp;grind))]
 case mup kd x y z=>rw[qm (h.sub (us:=x.tmps) (by simp;grind)),qm (h.sub (us:=y.tmps) (by simp;grind)),qm (h.sub (us:=z.tmps) (by simp;grind))]
 case mks sz b z x y=>rw[qm (h.sub (us:=x.tmps) (by simp;grind)),qm (h.sub (us:=y.tmps) (by simp;grind))]
 case iaa n sz x y=>rw[qm (h.sub (us:=x.tmps) (by simp;grind)),qm (h.sub (us:=y.tmps) (by simp;grind))]
 case cts x=>rw[qm h]
 case ctb x=>rw[qm h]
 case rng x=>rw[qm h]
 case ent x=>rw[qm h]
 case wrap n x=>rw[qm h]
 case del kd x y=>rw[qm (h.sub (us:=x.tmps) (by simp;grind)),qm (h.sub (us:=y.tmps) (by simp;grind))]
 case ixa n sz kd x y=>rw[qm (h.sub (us:=x.tmps) (by simp;grind)),qm (h.sub (us:=y.tmps) (by simp;grind))]
 case mm m x y=>rw[qm (h.sub (us:=x.tmps) (by simp;grind)),qm (h.sub (us:=y.tmps) (by simp;grind))]
theorem Yo{e e':Env}{S:St}{k:K}(h:Z4 k.tmps e e'):evK e' S k=evK e S k:=by
 cases k <;> simp only[K.tmps] at h <;> simp only[evK]
 case mv x=>rw[qm h]
 case pick c a b=>
  have ha:=qm (h.sub (us:=a.tmps) (by simp;grind));have hb:=qm (h.sub (us:=b.tmps) (by simp;grind));rw[qm (h.sub (us:=c.tmps) (by simp;grind))];split
  ·rename_i t _;cases t <;> simp[ha,hb]
  ·rfl
 case box x=>rw[qm h]
 case build z ps=>rw[Yq h]
 case bsl sz xs=>rw[Zv h]
 case ld k a=>rw[qm h]
 case sto n a x=>rw[qm (h.sub (us:=a.tmps) (by simp;grind)),qm (h.sub (us:=x.tmps) (by simp;grind))]
 case nck x=>rw[qm h]
 case bin op a x=>rw[qm (h.sub (us:=a.tmps) (by simp;grind)),qm (h.sub (us:=x.tmps) (by simp;grind))]
 case eq kd ng a x=>rw[qm (h.sub (us:=a.tmps) (by simp;grind)),qm (h.sub (us:=x.tmps) (by simp;grind))]
 case un op x=>rw[qm h]
 case fa op x=>rw[qm h]
 case ia sz a x=>rw[qm (h.sub (us:=a.tmps) (by simp;grind)),qm (h.sub (us:=x.tmps) (by simp;grind))]
 case idx a x=>rw[qm (h.sub (us:=a.tmps) (by simp;grind)),qm (h.sub (us:=x.tmps) (by simp;grind))]
 case fld o k x=>rw[qm h]
 case slc s sz x lo hi=>rw[qm (h.sub (us:=x.tmps) (by simp;grind)),jk (h.sub (us:=lo.toList.flatMap Opd.tmps) (by simp;grind)),jk (h.sub (us:=hi.toList.flatMap Opd.tmps) (by simp;grind))]
 case ext i x=>rw[qm h]
 case len s x=>rw[qm h]
 case app sz b a x=>rw[qm (h.sub (us:=a.tmps) (by simp;grind)),qm (h.sub (us:=x.tmps) (by simp;grind))]
 case mkf k fs cs=>rw[Zv (h.sub (us:=fs.flatMap Opd.tmps) (by simp;grind)),Zv (h.sub (us:=cs.flatMap Opd.tmps) (by simp;grind))]
 case conv k x=>rw[qm h]
 case ex k=>exact qbj h
def K.writes:K→Bool
 | .new _|.box _|.sto ..|.app ..|.call ..=>true
 | .ex k=>k.writes
 | _=>false
theorem qdr{e:Env}{S S':St}{k:X}{r:V}(hw:k.writes=false)(h:evX e S k=some (r,S')):S'=S:=by
 cases k <;> simp only[X.writes,Bool.true_eq_false] at hw <;> simp only[evX] at h
 all_goals first
  | (simp only[qrK] at h;obtain ⟨_,_,h⟩:=h)
  | skip
 all_goals (repeat' split at h)
 all_goals first
  | (cases h;done)
  | (simp only[qq3,Prod.mk.injEq] at h;obtain ⟨_,_,_,h⟩:=h;exact h.symm)
  | (simp only[Option.some.injEq,Prod.mk.injEq] at h;exact h.2.symm)
theorem Yn{e:Env}{S S':St}{k:K}{r:V}(hw:k.writes=false)(h:evK e S k=some (r,S')):S'=S:=by
 cases k <;> simp only[K.writes,Bool.true_eq_false] at hw <;> simp only[evK] at h
 case ex k=>exact qdr hw h
 all_goals first
  | (simp only[qq3,Prod.mk.injEq] at h;obtain ⟨_,_,_,h⟩:=h;exact h.symm)
  | skip
 all_goals first
  | (simp only[qrK] at h;obtain ⟨_,_,h⟩:=h)
  | skip
 all_goals (repeat' split at h)
 all_goals first
  | (cases h;done)
  | (simp only[qq3,Prod.mk.injEq] at h;obtain ⟨_,_,_,h⟩:=h;exact h.symm)
  | (simp only[Option.some.injEq,Prod.mk.injEq] at h;exact h.2.symm)
def K.reads:K→Bool
 | .new _|.box _|.sto ..|.app ..|.call ..|.ld ..|.ia ..|.slc ..=>true
 | .ex k=>k.reads
 | _=>false
theorem qcT{e:Env}{S T:St}{k:X}(hr:k.reads=false):evX e T k=(evX e S k).map fun p=>(p.1,T):=by
 cases k <;> simp only[X.reads,Bool.true_eq_false] at hr <;> simp only[evX]
 case wrap n x=>
  cases x.ev e with
  | none=>rfl
  | some v=>simp only[qrh];split <;> rfl
 all_goals ((repeat' split) <;> first|rfl|(simp only[Option.map_map];rfl)|simp)
theorem qiX{e:Env}{S T:St}{k:K}(hr:k.reads=false):evK e T k=(evK e S k).map fun p=>(p.1,T):=by
 cases k <;> simp only[K.reads,Bool.true_eq_false] at hr <;> simp only[evK]
 case ex k=>exact qcT hr
 all_goals first
  | rfl
  | (simp only[Option.map_map];rfl)
  | (simp only[Option.map_bind];congr 1;funext v;simp only[Function.comp];first|rfl|(simp only[Option.map_map];rfl)|(repeat' split) <;> first|rfl|(simp only[Option.map_map];rfl))
  | ((repeat' split) <;> first|rfl|(simp only[Option.map_map];rfl)|simp)
structure D where
 o:O'
 w:Bool
 slot:Option Nat
 chk:Bool
 anc:List Nat
 lo:Nat
 hi:Nat
 deriving Inhabited
def O'.tmps(o:O'):List Nat:=o.k.tmps++(match o.g with|some (t,_)=>[t]|none=>[])
def wix(ds:List D):List Nat:=(List.range ds.length).filter fun i=>(ds[i]?.map D.w).getD false
def pos(ds:List D)(j:Nat):Nat:=(ds.take j).countP fun d=>d.w
def zy(ds:List D)(i:Nat):Option Nat:=ds[i]?.bind fun d=>d.o.dst
def jw(ds:List D)(i:Nat):List Nat:=(ds[i]?.map D.anc).getD []
def Qw(ds:List D)(i:Nat):Option Nat:=ds[i]?.bind fun d=>d.slot
def okD(ds:List D)(aft:List Nat)(j:Nat)(d:D):Bool:=
 (aft.all fun i=>decide (i<j)) &&
 (d.anc.all fun i=>aft.contains i || aft.any fun s=>(jw ds s).contains i) &&
 (d.o.tmps.all fun t=>(List.range ds.length).all fun i=>!(zy ds i==some t) || (d.anc.contains i && decide (i<j)) || (!d.chk && decide (j≤i) && (i==j || (jw ds i).contains j))) &&
 (match d.o.dst with|none=>true|some t=>(List.range ds.length).all fun i=>i==j || !(zy ds i==some t)) &&
 ((List.range d.lo).all fun p=>match (wix ds)[p]? with|some i=>d.anc.contains i|none=>false) &&
 ((List.range (wix ds).length).all fun p=>decide (p<d.hi) || (match (wix ds)[p]? with|some i=>i==j || (jw ds i).contains j|none=>true)) &&
 (if d.w then (wix ds)[pos ds j]?==some j && d.lo==pos ds j else true) &&
 (match d.slot with
  | some s=>!d.w && d.chk && (match d.o.k with|.new _=>true|_=>false) && (List.range ds.length).all fun i=>i==j || !(Qw ds i==some s)
  | none=>d.w || !d.o.k.writes) &&
 (d.w || d.chk || (d.lo==pos ds j && d.hi==pos ds j) || (d.slot.isNone && !d.o.k.reads))
def qo6(P:Program)(base:Nat)(e:Env)(S:St)(d:D)(v:V)(S':St):Prop:=
 (qU e d.o.g=some false∧v=.tup []∧S'=S)∨
 (qU e d.o.g=some true∧((∃s,d.slot=some s∧v=.ptr (base+s) 0 0 1∧S'=S)∨
  (d.slot=none∧((∃f args,d.o.k=.call f args)∨evK e S d.o.k=some (v,S')))))
def dwp(P:Program)(base:Nat):List D→(Env→List St→Prop)→Env→St→List St→Prop
 | [],K,e,_,H=>K e H
 | d::ds,K,e,S,H=>match qU e d.o.g with
  | none=>False
  | some false=>dwp P base ds K (e.put d.o.dst (.tup [])) S (if d.w then H++[S] else H)
  | some true=>match d.slot with
   | some s=>dwp P base ds K (e.put d.o.dst (.ptr (base+s) 0 0 1)) S (if d.w then H++[S] else H)
   | none=>match d.o.k with
    | .call f args=>match f.ev e,evs e args with
     | some (.fn (.func k) fs cs),some vs=>∃R:V→St→Prop,qt P k (fs++vs++cs) S R∧(∃v S',R v S')∧∀v S',R v S'→dwp P base ds K (e.put d.o.dst v) S' (if d.w then H++[S'] else H)
     | _,_=>False
    | k=>match evK e S k with
     | some (r,S')=>dwp P base ds K (e.put d.o.dst r) S' (if d.w then H++[S'] else H)
     | none=>False
def Tr(P:Program)(base:Nat):List D→Env→St→List St→Env→List St→Prop
 | [],e,_,H,ef,Hf=>ef=e∧Hf=H
 | d::ds,e,S,H,ef,Hf=>∃v S',qo6 P base e S d v S'∧Tr P base ds (e.put d.o.dst v) S' (if d.w then H++[S'] else H) ef Hf
theorem Yx{P:Program}{k:Nat}{args:List V}{S:St}{Φ:V→St→Prop}{v:V}{S':St}(h:qt P k args S (fun r T=>r=v∧T=S'))(g:Φ v S'):∃R:V→St→Prop,qt P k args S R∧(∃v S',R v S')∧∀v S',R v S'→Φ v S':=
 ⟨_,h,⟨v,S',rfl,rfl⟩,fun _ _ hh=>by obtain ⟨rfl,rfl⟩:=hh;exact g⟩
theorem jJ{e:Env}{d:Option Nat}{v:V}{t:Nat}:(e.put d v).get t=if d=some t then some v else e.get t:=by
 cases d with
 | none=>simp[Env.put]
 | some d=>simp[Env.put,Env.get]
theorem jM{P:Program}{base:Nat}{t:Nat}:∀(ds:List D) (e:Env) (S:St) (H:List St) (ef:Env) (Hf:List St),Tr P base ds e S H ef Hf→(∀d,d∈ds→d.o.dst≠some t)→ef.get t=e.get t
 | [],e,S,H,ef,Hf,h,_=>by rw[h.1]
 | d::ds,e,S,H,ef,Hf,⟨v,S',h1,h2⟩,hd=>by
  rw[jM ds _ _ _ _ _ h2 fun d' hd'=>hd d' (by simp[hd']),jJ,if_neg (hd d (by simp))]
theorem J8{P:Program}{base:Nat}:∀(ds:List D) (e:Env) (S:St) (H:List St) (ef:Env) (Hf:List St),Tr P base ds e S H ef Hf→∃T,Hf=H++T∧T.length=ds.countP fun d=>d.w
 | [],e,S,H,ef,Hf,h=>⟨[],by simp[h.2],rfl⟩
 | d::ds,e,S,H,ef,Hf,⟨v,S',h1,h2⟩=>by
  obtain ⟨T,ht,hl⟩:=J8 ds _ _ _ _ _ h2;cases hw:d.w
  ·rw[hw] at ht;simp only[qrn,if_false] at ht;exact ⟨T,ht,by rw[hl];simp[qsq,hw]⟩
  ·rw[hw] at ht;simp only[if_true] at ht;exact ⟨S'::T,by rw[ht];simp,by simp[qsq,hw,hl]⟩
theorem yu{e e':Env}{o:O'}(h:Z4 o.tmps e e'):qU e' o.g=qU e o.g:=by
 cases hg:o.g with
 | none=>rfl
 | some p=>
  obtain ⟨t,w⟩:=p;simp only[qU];rw[h t (by simp[O'.tmps,hg])]
structure Ok(ds:List D)(aft:Nat→List Nat)(j:Nat)(d:D):Prop where
 back:∀i,i∈aft j→i<j
 anc:∀i,i∈d.anc→i∈aft j∨∃s,s∈aft j∧i∈jw ds s
 tmps:∀t,t∈d.o.tmps→∀i,zy ds i=some t→(i∈d.anc∧i<j)∨(d.chk=false∧j≤i∧(i=j∨j∈jw ds i))
 dst:∀t,d.o.dst=some t→∀i,i≠j→zy ds i≠some t
 lo:∀p,p<d.lo→∃i,(wix ds)[p]?=some i∧i∈d.anc
 hi:∀p i,d.hi≤p→(wix ds)[p]?=some i→i=j∨j∈jw ds i
 wr:d.w=true→(wix ds)[pos ds j]?=some j∧d.lo=pos ds j
 slot:∀s,d.slot=some s→d.w=false∧d.chk=true∧(∃z,d.o.k=.new z)∧∀i,i≠j→Qw ds i≠some s
 noslot:d.slot=none→d.w=true∨d.o.k.writes=false
 nochk:d.w=true∨d.chk=true∨(d.lo=pos ds j∧d.hi=pos ds j)∨(d.slot=none∧d.o.k.reads=false)
theorem qav{ds:List D}{i t:Nat}(h:zy ds i=some t):i<ds.length:=by
 unfold zy at h
 cases hd:ds[i]? with
 | none=>rw[hd] at h;cases h
 | some d=>exact (qqT.1 hd).1
theorem qa9{ds:List D}{i t:Nat}(h:Qw ds i=some t):i<ds.length:=by
 unfold Qw at h
 cases hd:ds[i]? with
 | none=>rw[hd] at h;cases h
 | some d=>exact (qqT.1 hd).1
theorem qhJ{ds:List D}{aft:Nat→List Nat}{j:Nat}{d:D}(h:okD ds (aft j) j d=true):Ok ds aft j d:=by
 unfold okD at h;simp only[qq5] at h;obtain ⟨⟨⟨⟨⟨⟨⟨⟨h1,h2⟩,h3⟩,h4⟩,h5⟩,h6⟩,h7⟩,h8⟩,h9⟩:=h;simp only[qri,decide_eq_true_eq,qsS,qsL,List.contains_iff_mem,List.any_eq_true,qq5,qsK,beq_eq_false_iff_ne,ne_eq] at h1 h2 h3 h5 h6;refine ⟨h1,h2,fun t ht i hi=>?_,fun t ht i hi hne=>?_,fun p hp=>?_,fun p i hp hi=>?_,fun hw=>?_,fun s hs=>?_,fun hs=>?_,?_⟩
 ·rcases h3 t ht i (qav hi) with (h|h)|⟨⟨h,h'⟩,h''⟩
  ·exact absurd hi h
  ·exact .inl h
  ·exact .inr ⟨h,h',by simpa using h''⟩
 ·rw[ht] at h4;simp only[qri,qsS,qsL,beq_iff_eq,qsK,beq_eq_false_iff_ne,ne_eq] at h4;exact (h4 i (qav hne)).elim (fun h=>hi h) (fun h=>h hne)
 ·have:=h5 p hp;split at this
  ·rename_i i hi;exact ⟨i,hi,by simpa using this⟩
  ·cases this
 ·have hlt:=(qqT.1 hi).1;have:=(h6 p hlt).resolve_left (by omega);rw[hi] at this;simpa using this
 ·rw[if_pos hw] at h7;simp only[qq5,beq_iff_eq] at h7;exact h7
 ·rw[hs] at h8;simp only[qq5,qri,qsS,qsL,beq_iff_eq,qsK,beq_eq_false_iff_ne,ne_eq] at h8;obtain ⟨⟨⟨a,b⟩,c⟩,e⟩:=h8;refine ⟨by simpa using a,b,?_,fun i hi hne=>(e i (qa9 hne)).elim (fun h=>hi h) (fun h=>h hne)⟩;split at c
  ·rename_i z hz;exact ⟨z,hz⟩
  ·cases c
 ·rw[hs] at h8;simpa using h8
 ·simp only[qsL,qq5,beq_iff_eq] at h9;rcases h9 with ((h9|h9)|h9)|h9
  ·exact .inl h9
  ·exact .inr (.inl h9)
  ·exact .inr (.inr (.inl h9))
  ·exact .inr (.inr (.inr (by simpa using h9)))
theorem qdE{P:Program}{base:Nat}{all:List D}{aft:Nat→List Nat}{e0:Env}(ok:∀j d,all[j]?=some d→Ok all aft j d):∀(ds:List D) (k:Nat) (e:Env) (S:St) (H:List St) (ef:Env) (Hf:List St),all.drop k=ds→
  H.length=pos all k+1→H[pos all k]?=some S→Tr P base ds e S H ef Hf→(∀t,(∀i,i<k→zy all i≠some t)→e.get t=e0.get t)→∀j d,k≤j→all[j]?=some d→∃T v T' ej,Hf[pos all j]?=some T∧qo6 P base ej T d v T'∧(∀t,d.o.dst=some t→ef.get t=some v)∧(d.w=true→Hf[pos all j+1]?=some T')∧
   (∀t,t∈d.o.tmps→(∀i,zy all i=some t→i<j)→ej.get t=ef.get t)∧(∀t i,j≤i→zy all i=some t→ej.get t=e0.get t)
 | [],k,e,S,H,ef,Hf,hd,hl,hS,h,he0,j,d,hj,hjd=>by
  have:=(qqT.1 hjd).1;have h0:(all.drop k).length=0:=by rw[hd];rfl
  simp at h0;omega
 | d0::ds,k,e,S,H,ef,Hf,hd,hl,hS,⟨v,S',h1,h2⟩,he0,j,d,hj,hjd=>by
  have hk:all[k]?=some d0:=by
   have:(all.drop k)[0]?=some d0:=by rw[hd];rfl
   simpa using this
  have hk1:all.drop (k+1)=ds:=by
   rw[←List.drop_drop,hd];rfl
  have hdk:=hd
  have hpos:pos all (k+1)=pos all k+if d0.w=true then 1 else 0:=by
   unfold pos;rw[qrj,hk];simp[List.countP_append,qsq]
  have hok:=ok k d0 hk
  have hin:∀d',d'∈ds→∃i,k<i∧all[i]?=some d':=fun d' hd'=>by
   obtain ⟨i,hi⟩:=qrI hd';rw[←hk1,qrB] at hi;exact ⟨k+1+i,by omega,hi⟩
  have hag:∀t,t∈d0.o.tmps→(∀i,zy all i=some t→i<k)→e.get t=ef.get t:=fun t ht hlt=>by
   refine (jM (P:=P) (base:=base) (t:=t) (d0::ds) e S H ef Hf ⟨v,S',h1,h2⟩ fun d' hd' hdd=>?_).symm
   have:∃i,k≤i∧all[i]?=some d':=by
    rcases qrl.1 hd' with rfl|hd'
    ·exact ⟨k,qqY _,hk⟩
    ·obtain ⟨i,hi,hi'⟩:=hin d' hd';exact ⟨i,by omega,hi'⟩
   obtain ⟨i,hi,hi'⟩:=this;have:=hlt i (by simp[zy,hi',hdd]);omega
  have hold:∀t i,k≤i→zy all i=some t→e.get t=e0.get t:=fun t i hi hit=>he0 t fun i' hi' hit'=>by
   obtain ⟨d',hd',hdd⟩:∃d',all[i]?=some d'∧d'.o.dst=some t:=by
    unfold zy at hit
    cases hx:all[i]? with
    | none=>rw[hx] at hit;cases hit
    | some d'=>rw[hx] at hit;exact ⟨d',rfl,hit⟩
   exact (ok i d' hd').dst t hdd i' (by omega) hit'
  have hdst:∀t,d0.o.dst=some t→ef.get t=some v:=fun t ht=>by
   rw[jM ds _ _ _ _ _ h2 fun d' hd' hdd=>by
    obtain ⟨i,hi,hi'⟩:=hin d' hd';exact hok.dst t ht i (by omega) (by simp[zy,hi',hdd]),jJ,if_pos ht]
  obtain ⟨T0,hT0,_⟩:=J8 ds _ _ _ _ _ h2;rcases qsC k j with hlt|hge
  ·refine qdE ok ds (k+1) _ S' _ ef Hf hk1 ?_ ?_ h2 ?_ j d hlt hjd
   ·cases hw:d0.w <;> simp[hw] at hpos ⊢<;> omega
   rotate_left
   ·intro t ht;rw[jJ,if_neg (fun hdd=>ht k (by omega) (by simp[zy,hk,hdd]))];exact he0 t fun i hi=>ht i (by omega)
   ·cases hw:d0.w
    ·simp only[hw,qrn,if_false] at hpos ⊢
     have:S'=S:=by
      rcases h1 with ⟨_,_,h⟩|⟨_,h⟩
      ·exact h
      ·rcases h with ⟨s,_,_,h⟩|⟨hs,h⟩
       ·exact h
       ·have hnw:=(hok.noslot hs).resolve_left (by simp[hw]);rcases h with ⟨f,args,hkk⟩| h
        ·rw[hkk] at hnw;simp[K.writes] at hnw
        ·exact Yn hnw h
     rw[this,hpos];exact hS
    ·simp only[hw,if_true] at hpos ⊢;rw[hpos,qqU (by omega),hl];simp
  ·have hjk:j=k:=by omega
   subst hjk;rw[hk] at hjd;cases hjd;refine ⟨S,v,S',e,?_,h1,hdst,fun hw=>?_,hag,hold⟩
   ·rw[hT0];have:pos all j<H.length:=by omega
    split
    ·rw[qrc,qqW this];exact hS
    ·rw[qqW this];exact hS
   ·rw[hT0,if_pos hw,qrc,qqU (by omega),hl];simp
structure EnvAt(ds:List D)(e0:Env)(i:Nat)(d:D)(ei ef:Env):Prop where
 f5:∀t,t∈d.o.tmps→(∀s,zy ds s=some t→s<i)→ei.get t=ef.get t
 f6:∀t s,i≤s→zy ds s=some t→ei.get t=e0.get t
def qmK(d:D)(q:Nat)(v:V)(S':St)(ef:Env)(Hf:List St):Prop:=(∀t,d.o.dst=some t→ef.get t=some v)∧Hf[q+1]?=some S'
def Det(e:Env)(S:St)(d:D)(v:V)(S':St):Prop:=
 (qU e d.o.g=some false∧v=.tup []∧S'=S)∨(qU e d.o.g=some true∧d.slot=none∧evK e S d.o.k=some (v,S'))
def qaz(P:Program)(ds:List D)(e0:Env):Nat→Nat→(Env→List St→Prop)→Prop
 | 0,_,C=>∃ef Hf,C ef Hf
 | m+1,q,C=>(∃ef Hf,C ef Hf)∧∃i d ei T,(wix ds)[q]?=some i∧ds[i]?=some d∧(∀ef Hf,C ef Hf→Hf[q]?=some T∧EnvAt ds e0 i d ei ef)∧
  ((∃v S',Det ei T d v S'∧(∀ef Hf,C ef Hf→qmK d q v S' ef Hf)∧qaz P ds e0 m (q+1) C)∨
   (∃f args k fs cs vs,∃R:V→St→Prop,qU ei d.o.g=some true∧d.slot=none∧d.o.k=.call f args∧f.ev ei=some (.fn (.func k) fs cs)∧evs ei args=some vs∧qt P k (fs++vs++cs) T R∧
    ∀v S',R v S'→∃C':Env→List St→Prop,(∀ef Hf,C' ef Hf→C ef Hf∧qmK d q v S' ef Hf)∧qaz P ds e0 m (q+1) C'))
theorem qaz.some{P:Program}{ds:List D}{e0:Env}{m q:Nat}{C:Env→List St→Prop}(h:qaz P ds e0 m q C):∃ef Hf,C ef Hf:=by
 cases m with
 | zero=>exact h
 | succ m=>exact h.1
theorem qh1{all:List D}{k:Nat}{d:D}(hk:all[k]?=some d):pos all (k+1)=pos all k+if d.w=true then 1 else 0:=by
 unfold pos;rw[qrj,hk];simp[List.countP_append,qsq]
section
variable {P:Program} {base:Nat} {all:List D} {aft:Nat→List Nat} {e0:Env} (ok:∀j d,all[j]?=some d→Ok all aft j d)
include ok
theorem qjR{d:D}{ds:List D}{k:Nat}{e:Env}{S:St}{H:List St}{ef:Env}{Hf:List St}(hd:all.drop k=d::ds)(h:Tr P base (d::ds) e S H ef Hf)(he0:∀t,(∀i,i<k→zy all i≠some t)→e.get t=e0.get t):EnvAt all e0 k d e ef:=by
 have hk:all[k]?=some d:=by
  have:(all.drop k)[0]?=some d:=by rw[hd];rfl
  simpa using this
 refine ⟨fun t ht hlt=>(jM (P:=P) (base:=base) (t:=t) (d::ds) e S H ef Hf h fun d' hd' hdd=>?_).symm,fun t i hi hit=>he0 t fun i' hi' hit'=>?_⟩
 ·obtain ⟨i,hi⟩:=qrI hd';rw[←hd,qrB] at hi;have:=hlt (k+i) (by simp[zy,hi,hdd]);omega
 ·obtain ⟨d',hd',hdd⟩:∃d',all[i]?=some d'∧d'.o.dst=some t:=by
   unfold zy at hit
   cases hx:all[i]? with
   | none=>rw[hx] at hit;cases hit
   | some d'=>rw[hx] at hit;exact ⟨d',rfl,hit⟩
  exact (ok i d' hd').dst t hdd i' (by omega) hit'
theorem qjS{d:D}{ds:List D}{k:Nat}{e:Env}{S':St}{v:V}{H:List St}{ef:Env}{Hf:List St}(hd:all.drop k=d::ds)(hl:H.length=pos all k+1)(h:Tr P base ds (e.put d.o.dst v) S' (H++[S']) ef Hf):qmK d (pos all k) v S' ef Hf:=by
 have hk:all[k]?=some d:=by
  have:(all.drop k)[0]?=some d:=by rw[hd];rfl
  simpa using this
 have hk1:all.drop (k+1)=ds:=by
  rw[←List.drop_drop,hd];rfl
 constructor
 ·intro t ht
  rw[jM ds _ _ _ _ _ h fun d' hd' hdd=>by
   obtain ⟨i,hi⟩:=qrI hd';rw[←hk1,qrB] at hi;exact (ok k d hk).dst t ht (k+1+i) (by omega) (by simp[zy,hi,hdd]),jJ,if_pos ht]
 ·obtain ⟨T0,hT0,_⟩:=J8 ds _ _ _ _ _ h;rw[hT0,qrc,qqU (by omega),hl];simp
theorem JD{K:Env→List St→Prop}:∀(ds:List D) (k:Nat) (e:Env) (S:St) (H:List St),all.drop k=ds→H.length=pos all k+1→H[pos all k]?=some S→(∀t,(∀i,i<k→zy all i≠some t)→e.get t=e0.get t)→
  dwp P base ds K e S H→∃C:Env→List St→Prop,(∀ef Hf,C ef Hf→K ef Hf∧Tr P base ds e S H ef Hf)∧qaz P all e0 (ds.countP fun d=>d.w) (pos all k) C
 | [],k,e,S,H,_,_,_,_,h=>⟨fun ef Hf=>ef=e∧Hf=H,fun ef Hf hc=>⟨by rw[hc.1,hc.2];exact h,hc⟩,e,H,rfl,rfl⟩
 | d::ds,k,e,S,H,hd,hl,hS,he0,h=>by
  have hk:all[k]?=some d:=by
   have:(all.drop k)[0]?=some d:=by rw[hd];rfl
   simpa using this
  have hk1:all.drop (k+1)=ds:=by
   rw[←List.drop_drop,hd];rfl
  have hpos:=qh1 hk
  have he1:∀v t,(∀i,i<k+1→zy all i≠some t)→(e.put d.o.dst v).get t=e0.get t:=fun v t ht=>by
   rw[jJ,if_neg (fun hdd=>ht k (by omega) (by simp[zy,hk,hdd]))];exact he0 t fun i hi=>ht i (by omega)
  have one:∀(v:V) (S':St),qo6 P base e S d v S'→(d.w=true→Det e S d v S')→(d.w=false→S'=S)→dwp P base ds K (e.put d.o.dst v) S' (if d.w then H++[S'] else H)→
    ∃C:Env→List St→Prop,(∀ef Hf,C ef Hf→K ef Hf∧Tr P base (d::ds) e S H ef Hf)∧qaz P all e0 ((d::ds).countP fun d=>d.w) (pos all k) C:=by
   intro v S' hst hdt hsm h;cases hw:d.w
   ·rw[hw] at h;simp only[qrn,if_false] at h;obtain ⟨C,h1,h2⟩:=JD ds (k+1) _ S' H hk1 (by rw[hpos,hw];simpa using hl) (by rw[hpos,hw,hsm hw];simpa using hS) (he1 v) h;refine ⟨C,fun ef Hf hc=>⟨(h1 ef Hf hc).1,v,S',hst,by rw[hw];exact (h1 ef Hf hc).2⟩,?_⟩;rw[hpos,hw] at h2;rw[qsq,hw];exact h2
   ·rw[hw] at h;simp only[if_true] at h;obtain ⟨C,h1,h2⟩:=JD ds (k+1) _ S' (H++[S']) hk1 (by rw[hpos,hw];simp[hl]) (by rw[hpos,hw];simp[←hl]) (he1 v) h;refine ⟨C,fun ef Hf hc=>⟨(h1 ef Hf hc).1,v,S',hst,by rw[hw];exact (h1 ef Hf hc).2⟩,?_⟩;rw[hpos,hw] at h2;rw[qsq,hw];refine ⟨h2.some,k,d,e,S,(ok k d hk).wr hw |>.1,hk,fun ef Hf hc=>⟨?_,?_⟩,.inl ⟨v,S',hdt hw,fun ef Hf hc=>qjS ok hd hl (h1 ef Hf hc).2,h2⟩⟩
    ·obtain ⟨T0,hT0,_⟩:=J8 ds _ _ _ _ _ (h1 ef Hf hc).2;rw[hT0,qrc,qqW (by omega)];exact hS
    ·exact qjR ok hd (H:=H) ⟨v,S',hst,by rw[hw];exact (h1 ef Hf hc).2⟩ he0
  simp only[dwp] at h;split at h
  ·exact h.elim
  ·rename_i hw;exact one (.tup []) S (.inl ⟨hw,rfl,rfl⟩) (fun _=>.inl ⟨hw,rfl,rfl⟩) (fun _=>rfl) h
  ·rename_i hw;split at h
   ·rename_i s hs;exact one _ S (.inr ⟨hw,.inl ⟨s,hs,rfl,rfl⟩⟩) (fun hdw=>by rw[((ok k d hk).slot s hs).1] at hdw;cases hdw) (fun _=>rfl) h
   ·rename_i hs;split at h
    ·rename_i f args hkc;have hdw:d.w=true:=((ok k d hk).noslot hs).resolve_right (by rw[hkc];simp[Go.Proofs.YtbifpocccfkhhaaGreatDoor.K.writes]);split at h <;> try exact h.elim
     rename_i kf fs cs vs hf hvs;obtain ⟨R,hsp,⟨v0,S0',hR0⟩,h⟩:=h;rw[hdw] at h;simp only[if_true] at h
     have all':∀(v:V) (S':St),R v S'→∃C:Env→List St→Prop,(∀ef Hf,C ef Hf→K ef Hf∧Tr P base ds (e.put d.o.dst v) S' (H++[S']) ef Hf)∧qaz P all e0 (ds.countP fun d=>d.w) (pos all k+1) C:=fun v S' hR=>by
      rw[←show pos all (k+1)=pos all k+1 by rw[hpos,hdw];rfl];exact JD ds (k+1) _ S' (H++[S']) hk1 (by rw[hpos,hdw];simp[hl]) (by rw[hpos,hdw];simp[←hl]) (he1 v) (h v S' hR)
     have tr:∀(v:V) (S':St) (ef:Env) (Hf:List St),Tr P base ds (e.put d.o.dst v) S' (H++[S']) ef Hf→Tr P base (d::ds) e S H ef Hf:=fun v S' ef Hf ht=>
      ⟨v,S',.inr ⟨hw,.inr ⟨hs,.inl ⟨f,args,hkc⟩⟩⟩,by rw[hdw];exact ht⟩
     refine ⟨fun ef Hf=>∃(v:V) (S':St) (hR:R v S'),Classical.choose (all' v S' hR) ef Hf,fun ef Hf ⟨v,S',hR,hc⟩=>?_,?_⟩
     ·have:=(Classical.choose_spec (all' v S' hR)).1 ef Hf hc;exact ⟨this.1,tr _ _ _ _ this.2⟩
     ·rw[qsq,hdw];refine ⟨?_,k,d,e,S,(ok k d hk).wr hdw |>.1,hk,fun ef Hf ⟨v,S',hR,hc⟩=>⟨?_,?_⟩,.inr ⟨f,args,kf,fs,cs,vs,R,hw,hs,hkc,hf,hvs,hsp,fun v S' hR=>⟨Classical.choose (all' v S' hR),fun ef Hf hc=>⟨⟨v,S',hR,hc⟩,?_⟩,?_⟩⟩⟩
      ·obtain ⟨ef,Hf,hc⟩:=(Classical.choose_spec (all' v0 S0' hR0)).2.some;exact ⟨ef,Hf,v0,S0',hR0,hc⟩
      ·have:=(Classical.choose_spec (all' v S' hR)).1 ef Hf hc;obtain ⟨T0,hT0,_⟩:=J8 ds _ _ _ _ _ this.2;rw[hT0,qrc,qqW (by omega)];exact hS
      ·have:=(Classical.choose_spec (all' v S' hR)).1 ef Hf hc;exact qjR ok hd (tr _ _ _ _ this.2) he0
      ·exact qjS ok hd hl ((Classical.choose_spec (all' v S' hR)).1 ef Hf hc).2
      ·exact (Classical.choose_spec (all' v S' hR)).2
    ·split at h <;> try exact h.elim
     rename_i r S' hev;refine one r S' (.inr ⟨hw,.inr ⟨hs,.inr hev⟩⟩) (fun _=>.inr ⟨hw,hs,hev⟩) (fun hdw=>?_) h;exact Yn (((ok k d hk).noslot hs).resolve_left (by simp[hdw])) hev
end
def qqF(base:Nat)(ef:Env)(H:List St)(d:D):Prop:=
 ∀q,d.lo≤q→q≤d.hi→∀T,H[q]?=some T→match d.slot with
  | some s=>match d.o.k with
   | .new z=>T[base+s]?=some (.arr [z] z.size 1)∧0<z.size∧(z.cells.all V.flat)=true
   | _=>False
  | none=>∃v,evK ef T d.o.k=some (v,T)∧∀t,d.o.dst=some t→ef.get t=some v
def qlv(base:Nat)(ef:Env)(H:List St)(ds:List D):Prop:=∀d,d∈ds→d.chk=true→d.w=false→qU ef d.o.g=some true→qqF base ef H d
def qiG(P:Program)(N:Nat)(ops:Array Oper)(ds:List D):Bool:=
 decide (ds.length=ops.size) && (List.range ds.length).all fun j=>match ds[j]?,ops[j]? with
  | some d,some o=>okD ds ((o.after.toList.filter fun e=>Region.binds .any e).map fun e=>e.on) j d
  | _,_=>false
def yP(ops:Array Oper)(j:Nat):List Nat:=match ops[j]? with
 | some o=>(o.after.toList.filter fun e=>Region.binds .any e).map fun e=>e.on
 | none=>[]
theorem qd7{P:Program}{N:Nat}{ops:Array Oper}{ds:List D}(h:qiG P N ops ds=true):ds.length=ops.size∧∀j d,ds[j]?=some d→Ok ds (yP ops) j d:=by
 unfold qiG at h;simp only[qq5,decide_eq_true_eq,qri,qsS] at h;refine ⟨h.1,fun j d hj=>?_⟩;have hlt:=(qqT.1 hj).1;have:=h.2 j hlt;rw[hj] at this
 cases ho:ops[j]? with
 | none=>rw[ho] at this;simp at this
 | some o=>
  rw[ho] at this;refine qhJ (aft:=yP ops) ?_;simpa[yP,ho] using this
structure Inv(ds:List D)(N n0 m0 base:Nat)(e0 ef:Env)(Hf:List St)(E0:En)(S0:St)(w0:World)(listed:Array Bool)(q:Nat)(E:En)(S:St)(a:Act)(w:World):Prop where
 size:listed.size=ds.length
 closed:∀j d,ds[j]?=some d→listed.getD j false=true→∀i,i∈d.anc→listed.getD i false=true
 num:∀p i,(wix ds)[p]?=some i→(listed.getD i false=true↔p<q)
 qle:q≤(wix ds).length
 st:Hf[q]?=some S
 tmps:∀t v,ef.get t=some v→(∀i,zy ds i=some t→listed.getD i false=true)→∃u,a.tmps[t]?=some u∧VR E v u
 tmps0:∀t v,e0.get t=some v→(∀i,zy ds i=some t→listed.getD i false=false)→∃u,a.tmps[t]?=some u∧VR E v u
 slots:∀i s,Qw ds i=some s→listed.getD i true=false→∀st,E.ρ (base+s) st=none
 N:a.tmps.size=N
 defers:YH m0 E S w a.defers
 sr:SR E S w
 len:base≤S.length
 room:∀i s,Qw ds i=some s→base+s<S.length
 ext:Ext n0 E0 S0 w0 E S w
theorem Qn{l:Array Bool}{i:Nat}:l.getD i true=false↔∃h:i<l.size,l[i]=false:=by
 simp only[Array.getD];split
 ·rename_i h;simp[h]
 ·rename_i h;simp[h]
theorem Qi{l:Array Bool}{i:Nat}:l.getD i false=true↔∃h:i<l.size,l[i]=true:=by
 simp only[Array.getD];split
 ·rename_i h;simp[h]
 ·rename_i h;simp[h]
theorem QC{l:Array Bool}{j i:Nat}(hj:j<l.size):(l.setIfInBounds j true).getD i false=true↔i=j∨l.getD i false=true:=by
 by_cases h:j=i
 ·subst h;simp[hj]
 ·rw[getD_set_ne false h];exact ⟨.inr,fun h'=>h'.resolve_left (fun e=>h e.symm)⟩
theorem count_set{l:Array Bool}{j:Nat}(hj:l.getD j true=false):(l.setIfInBounds j true).toList.count false+1=l.toList.count false:=by
 obtain ⟨h,hv⟩:=Qn.1 hj;have:(l.setIfInBounds j true).toList=l.toList.set j true:=by simp
 have hlt:j<l.toList.length:=by simpa using h
 have h1:l.toList[j]=false:=by simpa using hv
 have h2:0<l.toList.count false:=List.count_pos_iff.2 (by rw[←h1];exact qra _);rw[this,List.count_set hlt,h1];rw[show (if (true==false)=true then 1 else 0)=0 from rfl,show (if (false==false)=true then 1 else 0)=1 from rfl];omega
theorem qf1{l:Array Bool}(h:l.toList.count false=0){i:Nat}(hi:i<l.size):l.getD i false=true:=by
 rw[List.count_eq_zero] at h;refine Qi.2 ⟨hi,?_⟩
 cases hb:l[i] with
 | true=>rfl
 | false=>exact absurd (by rw[←hb];simp) h
theorem qaC{ds:List D}{p i:Nat}(h:(wix ds)[p]?=some i):∃d,ds[i]?=some d∧d.w=true:=by
 have:=qq1 h;unfold wix at this;rw[qrR] at this
 cases hd:ds[i]? with
 | none=>rw[hd] at this;simp at this
 | some d=>rw[hd] at this;exact ⟨d,rfl,by simpa using this.2⟩
theorem qkc{ds:List D}{p p' i:Nat}(h:(wix ds)[p]?=some i)(h':(wix ds)[p']?=some i):p=p':=by
 have hn:(wix ds).Nodup:=List.Pairwise.filter _ List.nodup_range;exact (List.getElem?_inj (qqT.1 h).1 hn).1 (h.trans h'.symm)
section
variable {P:Program} {N n0 m0:Nat} {ro:Option Nat} {n:Nat} {ops:Array Oper} {Q:yD} {ds:List D} {base:Nat} {e0 ef:Env} {Hf:List St} {E0:En} {S0:St} {w0:World}
def qp5(P:Program)(ds:List D)(base:Nat)(e0 ef:Env)(Hf:List St)(j:Nat)(d:D):Prop:=
 ∃T v T' ej,Hf[pos ds j]?=some T∧qo6 P base ej T d v T'∧(∀t,d.o.dst=some t→ef.get t=some v)∧(d.w=true→Hf[pos ds j+1]?=some T')∧
  (∀t,t∈d.o.tmps→(∀i,zy ds i=some t→i<j)→ej.get t=ef.get t)∧(∀t i,j≤i→zy ds i=some t→ej.get t=e0.get t)
theorem Inv.range{listed:Array Bool}{q:Nat}{E:En}{S:St}{a:Act}{w:World}(inv:Inv ds N n0 m0 base e0 ef Hf E0 S0 w0 listed q E S a w)(ok:∀j d,ds[j]?=some d→Ok ds (yP ops) j d){j:Nat}{d:D}(hj:ds[j]?=some d)
  (hun:listed.getD j true=false) (hanc:∀i,i∈d.anc→listed.getD i false=true):d.lo≤q∧(d.w=false→q≤d.hi)∧(d.w=true→q=pos ds j):=by
 have hok:=ok j d hj
 have hnl:listed.getD j false≠true:=by
  intro h;obtain ⟨h1,h2⟩:=Qn.1 hun;obtain ⟨h3,h4⟩:=Qi.1 h;rw[h2] at h4;cases h4
 have hlo:d.lo≤q:=by
  rcases qsC q d.lo with h| h
  ·obtain ⟨i,hi,hia⟩:=hok.lo q h;have:=(inv.num q i hi).1 (hanc i hia);omega
  ·exact h
 refine ⟨hlo,fun hw=>?_,fun hw=>?_⟩
 ·rcases qsC d.hi q with h| h
  ·have hlt:d.hi<(wix ds).length:=qry h inv.qle;have hi:(wix ds)[d.hi]?=some (wix ds)[d.hi]:=by simp[hlt]
   rcases hok.hi d.hi _ (qqY _) hi with he|he
   ·obtain ⟨d',hd',hw'⟩:=qaC hi;rw[he,hj] at hd';cases hd';rw[hw] at hw';cases hw'
   ·have hl:=(inv.num d.hi _ hi).2 h;obtain ⟨d',hd',_⟩:=qaC hi;exact absurd (inv.closed _ d' hd' hl j (by simpa[jw,hd'] using he)) hnl
  ·exact h
 ·obtain ⟨h1,h2⟩:=hok.wr hw;have hnq:¬ pos ds j<q:=fun h=>hnl ((inv.num _ j h1).2 h)
  omega
theorem Inv.next{listed:Array Bool}{q:Nat}{E:En}{S:St}{a:Act}{w:World}(inv:Inv ds N n0 m0 base e0 ef Hf E0 S0 w0 listed q E S a w)(ok:∀j d,ds[j]?=some d→Ok ds (yP ops) j d){i:Nat}{d:D}{o:Oper}(hd:ds[i]?=some d)
  (hun:listed.getD i true=false) (hanc:∀s,s∈d.anc→listed.getD s false=true) (hdst:d.o.dst=o.dst) (hdN:qdY N o.dst=true) {v:V} {E':En} {S':St} {u:Value} {w':World}
  (f3:∀t,d.o.dst=some t→ef.get t=some v) (hq:d.w=true→q=pos ds i) (hS':d.w=true→Hf[q+1]?=some S') (hSS:d.w=false→S'=S)
  (hv:∀t,o.dst=some t→VR E' v u) (hle:E.le E') (hsr:SR E' S' w') (hext:Ext n0 E S w E' S' w') (hl:S.length≤S'.length)
  (hsl:∀i' s,Qw ds i'=some s→i'≠i→(∀st,E.ρ (base+s) st=none)→∀st,E'.ρ (base+s) st=none):
  Inv ds N n0 m0 base e0 ef Hf E0 S0 w0 (listed.setIfInBounds i true) (if d.w then q+1 else q) E' S' (a.put o.dst u) w':=by
 have hok:=ok i d hd;have hils:i<listed.size:=by rw[inv.size];exact (qqT.1 hd).1
 refine ⟨by simp[inv.size],?_,?_,?_,?_,?_,?_,?_,?_,?_,hsr,qrt inv.len hl,fun i' s hs=>qry (inv.room i' s hs) hl,inv.ext.trans hext⟩
 ·intro j d' hj hlj s hs;rw[QC hils] at hlj ⊢;rcases hlj with rfl|hlj
  ·rw[hd] at hj;cases hj;exact .inr (hanc s hs)
  ·exact .inr (inv.closed j d' hj hlj s hs)
 ·intro p i' hp;rw[QC hils,inv.num p i' hp]
  cases hw:d.w with
  | true=>
   have hq:=hq hw;simp only[if_true];constructor
   ·rintro (rfl|h)
    ·have:=qkc hp (hok.wr hw).1;omega
    ·omega
   ·intro h;rcases qsC p q with h'|h'
    ·exact .inr h'
    ·have:p=pos ds i:=by omega
     subst this;rw[(hok.wr hw).1] at hp;cases hp;exact .inl rfl
  | false=>
   simp only[qrn,if_false];refine ⟨fun h=>h.resolve_left ?_,.inr⟩;rintro rfl;obtain ⟨d',hd',hw'⟩:=qaC hp;rw[hd] at hd';cases hd';rw[hw] at hw';cases hw'
 ·cases hw:d.w with
  | true=>
   have hq:=hq hw;have:=(qqT.1 (hok.wr hw).1).1;simp only[if_true];omega
  | false=>simpa using inv.qle
 ·cases hw:d.w with
  | true=>
   have hq:=hq hw;simp only[if_true];exact hS' hw
  | false=>
   simp only[qrn,if_false];rw[hSS hw];exact inv.st
 ·intro t vt hvt hall';by_cases ht:o.dst=some t
  ·have h3:=f3 t (by rw[hdst];exact ht);rw[hvt] at h3;cases h3;refine ⟨u,?_,hv t ht⟩;have hlt:t<a.tmps.size:=by rw[inv.N];rw[ht] at hdN;simpa[qdY] using hdN
   rw[ht];show (a.tmps.setIfInBounds t u)[t]?=some u;simp[hlt]
  ·obtain ⟨x,hx,hxr⟩:=inv.tmps t vt hvt fun s hs=>by
    have:=hall' s hs;rw[QC hils] at this;refine this.resolve_left ?_;rintro rfl;simp[zy,hd,hdst] at hs;exact ht hs
   refine ⟨x,?_,hxr.mono hle⟩
   cases hod:o.dst with
   | none=>exact hx
   | some t'=>
    show (a.tmps.setIfInBounds t' u)[t]?=some x;rw[qrm (by rintro rfl;exact ht hod)];exact hx
 ·intro t vt hvt hall'
  have ht:o.dst≠some t:=fun ht=>by
   have:=hall' i (by simp[zy,hd,hdst,ht]);have h2:(listed.setIfInBounds i true).getD i false=true:=(QC hils).2 (.inl rfl);rw[this] at h2;cases h2
  obtain ⟨x,hx,hxr⟩:=inv.tmps0 t vt hvt fun s hs=>by
   have:=hall' s hs
   cases hl':listed.getD s false with
   | false=>rfl
   | true=>rw[(QC hils).2 (.inr hl')] at this;cases this
  refine ⟨x,?_,hxr.mono hle⟩
  cases hod:o.dst with
  | none=>exact hx
  | some t'=>
   show (a.tmps.setIfInBounds t' u)[t]?=some x;rw[qrm (by rintro rfl;exact ht hod)];exact hx
 ·intro i' s hs hl' st;by_cases hii:i'=i
  ·subst hii;rw[Qn] at hl';obtain ⟨h1,h2⟩:=hl';simp at h2
  ·exact hsl i' s hs hii (inv.slots i' s hs (by rw[getD_set_ne true (Ne.symm hii)] at hl';exact hl')) st
 ·cases o.dst <;> simp[Act.put,inv.N]
 ·cases o.dst <;> exact YH.step hext inv.defers
theorem Inv.opnd{listed:Array Bool}{q:Nat}{E:En}{S:St}{a:Act}{w:World}(inv:Inv ds N n0 m0 base e0 ef Hf E0 S0 w0 listed q E S a w)(ok:∀j d,ds[j]?=some d→Ok ds (yP ops) j d){i:Nat}{d:D}(hd:ds[i]?=some d)
  (hun:listed.getD i true=false) (hanc:∀s,s∈d.anc→listed.getD s false=true) {ej:Env} (ev:EnvAt ds e0 i d ej ef):∀t,t∈d.o.tmps→∀v,ej.get t=some v→∃u,a.tmps[t]?=some u∧VR E v u:=by
 have hok:=ok i d hd
 have hnl:∀s,(s=i∨i∈jw ds s)→listed.getD s false=false:=fun s hs=>by
  cases hl:listed.getD s false with
  | false=>rfl
  | true=>
   exfalso
   have:listed.getD i false=true:=by
    rcases hs with rfl|hs
    ·exact hl
    ·cases hds:ds[s]? with
     | none=>simp[jw,hds] at hs
     | some d'=>exact inv.closed s d' hds hl i (by simpa[jw,hds] using hs)
   obtain ⟨h1,h2⟩:=Qn.1 hun;obtain ⟨h3,h4⟩:=Qi.1 this;rw[h2] at h4;cases h4
 intro t ht v hv;by_cases hlate:∃s,i≤s∧zy ds s=some t
 ·obtain ⟨s,hs,hst⟩:=hlate;rw[ev.f6 t s hs hst] at hv;refine inv.tmps0 t v hv fun s' hs'=>?_
  have hss:s'=s:=by
   cases hds:ds[s]? with
   | none=>simp[zy,hds] at hst
   | some d'=>
    have hdd:d'.o.dst=some t:=by simpa[zy,hds] using hst
    by_cases h:s'=s
    ·exact h
    ·exact absurd hs' ((ok s d' hds).dst t hdd s' h)
  subst hss;rcases hok.tmps t ht s' hst with ⟨_,h⟩|⟨_,_,h⟩
  ·omega
  ·exact hnl s' h
 ·rw[ev.f5 t ht fun s hs=>by
   rcases qsC s i with h| h
   ·exact h
   ·exact absurd ⟨s,h,hs⟩ hlate] at hv
  refine inv.tmps t v hv fun s hs=>?_
  rcases hok.tmps t ht s hs with ⟨h,_⟩|⟨_,h,_⟩
  ·exact hanc s h
  ·exact absurd ⟨s,h,hs⟩ hlate
theorem qbz:∀(ts:List Nat) (ej:Env) (t:Nat),t∈ts→(ej.keep ts).get t=ej.get t:=by
 intro ts ej
 induction ts with
 | nil=>intro t h;cases h
 | cons s ts ih=>
  intro t h;simp only[Env.keep];by_cases hst:s=t
  ·subst hst
   cases hs:ej.get s with
   | none=>
    simp only[]
    cases hk:(ej.keep ts).get s with
    | none=>rfl
    | some v=>have:=Env.get_keep hk;rw[hs] at this;cases this
   | some v=>simp[Env.get]
  ·have ht:=(qrl.1 h).resolve_left (fun e=>hst e.symm)
   cases hs:ej.get s with
   | none=>exact ih t ht
   | some v=>simp only[Env.get];rw[if_neg hst];exact ih t ht
theorem qhd:∀(ts:List Nat) (ej:Env) (t:Nat),t∉ts→(ej.keep ts).get t=none:=by
 intro ts ej t
 induction ts with
 | nil=>intro _;rfl
 | cons s ts ih=>
  intro h;simp only[qrl,not_or] at h;simp only[Env.keep];split
  ·simp only[Env.get];rw[if_neg (Ne.symm h.1)];exact ih h.2
  ·exact ih h.2
def qpA(ds:List D)(base:Nat)(e0 ef:Env)(S:St)(i:Nat)(d:D)(ej:Env):Prop:=EnvAt ds e0 i d ej ef∧
 ((qU ej d.o.g=some false∧∀t,d.o.dst=some t→ef.get t=some (.tup []))∨
  (qU ej d.o.g=some true∧∃s z,d.slot=some s∧d.o.k=.new z∧(∀t,d.o.dst=some t→ef.get t=some (.ptr (base+s) 0 0 1))∧S[base+s]?=some (.arr [z] z.size 1)∧0<z.size∧(z.cells.all V.flat)=true)∨
  (qU ej d.o.g=some true∧d.slot=none∧∃v,evK ej S d.o.k=some (v,S)∧∀t,d.o.dst=some t→ef.get t=some v))
theorem Inv.seen{listed:Array Bool}{q:Nat}{E:En}{S:St}{a:Act}{w:World}(inv:Inv ds N n0 m0 base e0 ef Hf E0 S0 w0 listed q E S a w)(ok:∀j d,ds[j]?=some d→Ok ds (yP ops) j d){i:Nat}{d:D}(hd:ds[i]?=some d)
  (hun:listed.getD i true=false) (hanc:∀s,s∈d.anc→listed.getD s false=true) (hw:d.w=false) (fact:qp5 P ds base e0 ef Hf i d) (chks:qlv base ef Hf ds):∃ej,qpA ds base e0 ef S i d ej:=by
 have hok:=ok i d hd;obtain ⟨rlo,rhi,_⟩:=inv.range ok hd hun hanc;obtain ⟨T,v,T',ej,f1,f2,f3,f4,f5,f6⟩:=fact;refine ⟨ej,⟨f5,f6⟩,?_⟩
 have hstrict:d.chk=true→Z4 d.o.tmps ef ej:=fun hc t ht=>f5 t ht fun s hs=>by
  rcases hok.tmps t ht s hs with ⟨_,h⟩|⟨h,_⟩
  ·exact h
  ·rw[hc] at h;cases h
 rcases f2 with ⟨g1,g2,g3⟩|⟨g1,g2⟩
 ·exact .inl ⟨g1,by rw[←g2];exact f3⟩
 rcases g2 with ⟨s,hs,g3,g4⟩|⟨hs,g2⟩
 ·obtain ⟨k1,k2,⟨z,hz⟩,k4⟩:=hok.slot s hs;have hc:=chks d (qq1 hd) k2 k1 (by rw[←yu (hstrict k2)];exact g1) q rlo (rhi k1) S inv.st;rw[hs,hz] at hc;simp only at hc;obtain ⟨c1,c2,c3⟩:=hc;exact .inr (.inl ⟨g1,s,z,hs,hz,by rw[←g3];exact f3,c1,c2,c3⟩)
 refine .inr (.inr ⟨g1,hs,?_⟩);have hnw:=(hok.noslot hs).resolve_left (by simp[hw]);rcases g2 with ⟨f,args,hkc⟩|g2
 ·rw[hkc] at hnw;simp[K.writes] at hnw
 have hT:=Yn hnw g2;subst hT;rcases hok.nochk.resolve_left (by simp[hw]) with hch|⟨hl,hh⟩|⟨_,hch⟩
 ·have hc:=chks d (qq1 hd) hch hw (by rw[←yu (hstrict hch)];exact g1) q rlo (rhi hw) S inv.st;rw[hs] at hc;simp only at hc;obtain ⟨v',c1,c2⟩:=hc;exact ⟨v',by rw[Yo ((hstrict hch).sub fun t ht=>by simp[O'.tmps,ht])];exact c1,c2⟩
 ·have hq:q=pos ds i:=by have:=rhi hw;omega
  have:=inv.st;rw[hq,f1] at this;cases this;exact ⟨v,g2,f3⟩
 ·exact ⟨v,by rw[qiX (S:=T') hch,g2];rfl,f3⟩
structure Cls(P:Program)(ds:List D)(base:Nat)(e0:Env)(Q:yD)(ef:Env)(Hf:List St):Prop where
 facts:∀(j:Nat) (d:D),ds[j]?=some d→qp5 P ds base e0 ef Hf j d
 chks:qlv base ef Hf ds
 last:∀S,Hf.getLast?=some S→Q .normal ef S
 len:Hf.length=(wix ds).length+1
 keep:∀t,(∀i,zy ds i≠some t)→ef.get t=e0.get t
structure InvC(P:Program)(ds:List D)(N n0 m0 base:Nat)(e0:Env)(Q:yD)(E0:En)(S0:St)(w0:World)(C:Env→List St→Prop)(listed:Array Bool)(q:Nat)(E:En)(S:St)(a:Act)(w:World):Prop where
 cls:∀ef Hf,C ef Hf→Cls P ds base e0 Q ef Hf
 inv:∀ef Hf,C ef Hf→Inv ds N n0 m0 base e0 ef Hf E0 S0 w0 listed q E S a w
 good:qaz P ds e0 ((wix ds).length - q) q C
 agree:∀ef Hf ef' Hf',C ef Hf→C ef' Hf'→∀i t,listed.getD i false=true→zy ds i=some t→ef.get t=ef'.get t
theorem qeW{C:Env→List St→Prop}{listed:Array Bool}{q:Nat}{E:En}{S:St}{a:Act}{w:World}{M:Act→World→Prop}(ic:InvC P ds N n0 m0 base e0 Q E0 S0 w0 C listed q E S a w)(ok:∀j d,ds[j]?=some d→Ok ds (yP ops) j d)(hlen:ds.length=ops.size)(hn0:n0≤base)
  (hcomp:∀(j:Nat) (d:D) (o:Oper),ds[j]?=some d→ops[j]?=some o→zM P N ops o=some d.o) {i:Nat} (hi:i∈Region.ready .any ops listed)
  (hK:∀a' w' E' q' S' C',InvC P ds N n0 m0 base e0 Q E0 S0 w0 C' (listed.setIfInBounds i true) q' E' S' a' w'→M a' w'):
  wpOpIn (yL ro) n P ops (Up N n0 m0 E0 S0 w0 Q) i M a w:=by
 obtain ⟨hun,o,ho,hall⟩:=mem_ready.1 hi;have hilt:i<ds.length:=by rw[hlen];exact (qrb.1 ho).1
 have hd:ds[i]?=some ds[i]:=by simp[hilt]
 generalize hdd:ds[i]=d at hd;have hok:=ok i d hd;obtain ⟨hdst,hdN,hk,hg⟩:=jq (hcomp i d o hd ho);obtain ⟨ef,Hf,hc⟩:=ic.good.some;have inv:=ic.inv ef Hf hc;have cl:=ic.cls ef Hf hc;have hils:i<listed.size:=by rw[inv.size];exact hilt
 have haft:∀s,s∈yP ops i→listed.getD s false=true:=fun s hs=>by
  simp only[yP,ho,qrf,qrR] at hs;obtain ⟨e,⟨he,hb⟩,rfl⟩:=hs;exact hall e (by simpa using he) hb
 have hanc:∀s,s∈d.anc→listed.getD s false=true:=fun s hs=>by
  rcases hok.anc s hs with h|⟨r,hr,hrs⟩
  ·exact haft s h
  ·have hrlt:r<ds.length:=by have:=hok.back r hr;omega
   have hrd:ds[r]?=some ds[r]:=by simp[hrlt]
   exact inv.closed r _ hrd (haft r hr) s (by simpa[jw,hrd] using hrs)
 obtain ⟨rlo,rhi,rw'⟩:=inv.range ok hd hun hanc;have extOf:∀{E':En} {S':St} {w':World},Ext S.length E S w E' S' w'→Ext n0 E S w E' S' w':=fun h=>h.less (qrt hn0 inv.len)
 have slotsOf:∀{E':En} {S':St} {w':World},Ext S.length E S w E' S' w'→∀i' s,Qw ds i'=some s→i'≠i→(∀st,E.ρ (base+s) st=none)→∀st,E'.ρ (base+s) st=none:=fun h i' s hs _ hno=>h.no _ (inv.room i' s hs) hno
 have finish:∀(C':Env→List St→Prop),(∀ef Hf,C' ef Hf→C ef Hf)→∀(v:V) (E':En) (S':St) (u:Value) (w':World),(∀ef Hf,C' ef Hf→∀t,d.o.dst=some t→ef.get t=some v)→(∀ef Hf,C' ef Hf→d.w=true→Hf[q+1]?=some S')→(d.w=false→S'=S)→
   qaz P ds e0 ((wix ds).length - (if d.w then q+1 else q)) (if d.w then q+1 else q) C'→(∀t,o.dst=some t→VR E' v u)→E.le E'→SR E' S' w'→Ext n0 E S w E' S' w'→S.length≤S'.length→
   (∀i' s,Qw ds i'=some s→i'≠i→(∀st,E.ρ (base+s) st=none)→∀st,E'.ρ (base+s) st=none)→M (a.put o.dst u) w':=by
  intro C' hsub v E' S' u w' f3 hS' hSS hgood hv hle hsr hext hl hsl;refine hK _ _ E' (if d.w then q+1 else q) S' C' ⟨fun ef Hf h=>ic.cls ef Hf (hsub ef Hf h),fun ef Hf h=>(ic.inv ef Hf (hsub ef Hf h)).next ok hd hun hanc hdst hdN (f3 ef Hf h) rw' (hS' ef Hf h) hSS hv hle hsr hext hl hsl,hgood,?_⟩;intro ef Hf ef' Hf' h h' i' t hli hit;rw[QC hils] at hli;rcases hli with rfl|hli
  ·have ht:d.o.dst=some t:=by simpa[zy,hd] using hit
   rw[f3 ef Hf h t ht,f3 ef' Hf' h' t ht]
  ·exact ic.agree ef Hf ef' Hf' (hsub _ _ h) (hsub _ _ h') i' t hli hit
 unfold wpOpIn;rw[ho];simp only[];have hgd:∀{ej:Env},EnvAt ds e0 i d ej ef→∀b,qU ej d.o.g=some b→Region.wanted o (yielded ops a.tmps)=b:=fun {ej} ev b hb=>
  hg E ej a b (fun t w hg v hv=>inv.opnd ok hd hun hanc ev t (by simp[O'.tmps,hg]) v hv) hb
 have hTm:∀{ej:Env},EnvAt ds e0 i d ej ef→Z5 E (ej.keep d.o.tmps) a.tmps:=fun {ej} ev t v hv=>by
  by_cases ht:t∈d.o.tmps
  ·rw[qbz _ _ t ht] at hv;exact inv.opnd ok hd hun hanc ev t ht v hv
  ·rw[qhd _ _ t ht] at hv;cases hv
 have hag:∀ej:Env,Z4 d.o.k.tmps ej (ej.keep d.o.tmps):=fun ej t ht=>qbz _ _ t (by simp[O'.tmps,ht])
 cases hw:d.w with
 | true=>
  have hqp:=rw' hw;have hwq:=(hok.wr hw).1;rw[←hqp] at hwq;have hqlt:=(qqT.1 hwq).1;obtain ⟨m,hm⟩:∃m,(wix ds).length - q=m+1:=⟨(wix ds).length - q - 1,by omega⟩;have hm1:(wix ds).length - (q+1)=m:=by omega
  have hgood:=ic.good;rw[hm] at hgood;obtain ⟨_,i',d',ei,T,gi,gd,gT,gout⟩:=hgood;rw[hwq] at gi;cases gi;rw[hd] at gd;cases gd;obtain ⟨gT1,gev⟩:=gT ef Hf hc
  have hST:T=S:=by
   have:=inv.st;rw[gT1] at this;cases this;rfl
  subst hST;rw[hw] at finish;simp only[if_true,hm1] at finish;rcases gout with ⟨v,S',hdet,hout,hgd'⟩|⟨f,args,kf,fs,cs,vs,R,g1,hs,g3,g4,g5,g6,g7⟩
  ·have fin:∀(E':En) (u:Value) (w':World),(∀t,o.dst=some t→VR E' v u)→E.le E'→SR E' S' w'→Ext n0 E T w E' S' w'→T.length≤S'.length→
     (∀i' s,Qw ds i'=some s→i'≠i→(∀st,E.ρ (base+s) st=none)→∀st,E'.ρ (base+s) st=none)→M (a.put o.dst u) w':=fun E' u w'=>
    finish C (fun _ _ h=>h) v E' S' u w' (fun ef Hf h=>(hout ef Hf h).1) (fun ef Hf h _=>(hout ef Hf h).2) (fun h=>by cases h) hgd'
   rcases hdet with ⟨g1,g2,g3⟩|⟨g1,hs,g2⟩
   ·rw[hgd gev false g1];simp only[qrn,if_false];refine ⟨fun f hf=>trivial,?_⟩;subst g3;exact fin E undef w (fun _ _=>by rw[g2];exact .tup (by simp) (fun i v u h=>by simp at h)) (En.le_refl E) inv.sr (Ext.refl _ _ _ _) (qqY _) (fun _ _ _ _ h=>h)
   ·rw[hgd gev true g1];simp only[if_true];refine qaG hk (hTm gev) inv.sr (by rw[Yo (hag ei)];exact g2) fun E' u w' hvr hsr hext hl=>?_
    exact fin E' u w' (fun _ _=>hvr) (hext.le inv.sr) hsr (extOf hext) hl (slotsOf hext)
  ·rw[hgd gev true g1];simp only[if_true];have hagk:=hag ei;rw[g3] at hagk;simp only[K.tmps] at hagk;refine qfq (by rw[hk,g3]) (hTm gev) inv.sr (by rw[qm (hagk.sub (us:=f.tmps) (by simp;grind))];exact g4) (by rw[Zv (hagk.sub (us:=args.flatMap Opd.tmps) (by simp;grind))];exact g5) g6 fun r S' E' u w' hR hvr hsr hext hl=>?_
   obtain ⟨C',hsub,hgd'⟩:=g7 r S' hR;exact finish C' (fun _ _ h=>(hsub _ _ h).1) r E' S' u w' (fun ef Hf h=>(hsub ef Hf h).2.1) (fun ef Hf h _=>(hsub ef Hf h).2.2) (fun h=>by cases h) hgd' (fun _ _=>hvr) (hext.le inv.sr) hsr (extOf hext) hl (slotsOf hext)
 | false=>
  have hgood:=ic.good;rw[hw] at finish;simp only[qrn,if_false] at finish;obtain ⟨ej,gev,hseen⟩:=inv.seen ok hd hun hanc hw (cl.facts i d hd) cl.chks
  have agr:∀ef' Hf',C ef' Hf'→∃ej',qpA ds base e0 ef' S i d ej'∧Z4 d.o.tmps ej ej':=fun ef' Hf' hc'=>by
   obtain ⟨ej',hs'⟩:=(ic.inv ef' Hf' hc').seen ok hd hun hanc hw ((ic.cls ef' Hf' hc').facts i d hd) (ic.cls ef' Hf' hc').chks;refine ⟨ej',hs',fun t ht=>?_⟩;by_cases hlate:∃s,i≤s∧zy ds s=some t
   ·obtain ⟨s,hs,hst⟩:=hlate;rw[gev.f6 t s hs hst,hs'.1.f6 t s hs hst]
   ·have hlt:∀s,zy ds s=some t→s<i:=fun s hs=>by
     rcases qsC s i with h| h
     ·exact h
     ·exact absurd ⟨s,h,hs⟩ hlate
    rw[gev.f5 t ht hlt,hs'.1.f5 t ht hlt];by_cases hex:∃s,zy ds s=some t
    ·obtain ⟨s,hs⟩:=hex;refine ic.agree ef' Hf' ef Hf hc' hc s t ?_ hs;rcases hok.tmps t ht s hs with ⟨h,_⟩|⟨_,h,_⟩
     ·exact hanc s h
     ·have:=hlt s hs;omega
    ·rw[cl.keep t fun s hs=>hex ⟨s,hs⟩,(ic.cls ef' Hf' hc').keep t fun s hs=>hex ⟨s,hs⟩]
  have val:∀v:V,(∀ef' Hf' ej',C ef' Hf'→qpA ds base e0 ef' S i d ej'→Z4 d.o.tmps ej ej'→∀t,d.o.dst=some t→ef'.get t=some v)→∀ef' Hf',C ef' Hf'→∀t,d.o.dst=some t→ef'.get t=some v:=fun v h ef' Hf' hc'=>by
   obtain ⟨ej',h1,h2⟩:=agr ef' Hf' hc';exact h ef' Hf' ej' hc' h1 h2
  rcases hseen with ⟨g1,g2⟩|⟨g1,s,z,hs,hz,g2,c1,c2,c3⟩|⟨g1,hs,v,g2,g3⟩
  ·rw[hgd gev false g1];simp only[qrn,if_false];refine ⟨fun f hf=>trivial,?_⟩;refine finish C (fun _ _ h=>h) (.tup []) E S undef w (val _ fun ef' Hf' ej' hc' hs' ha t ht=>?_) (fun _ _ _ h=>by cases h) (fun _=>rfl) hgood (fun _ _=>.tup (by simp) (fun i v u h=>by simp at h)) (En.le_refl E) inv.sr (Ext.refl _ _ _ _) (qqY _) (fun _ _ _ _ h=>h);have hwd:=yu ha;rw[g1] at hwd;rcases hs'.2 with ⟨_,k⟩|⟨k,_⟩|⟨k,_⟩
   ·exact k t ht
   ·rw[hwd] at k;cases k
   ·rw[hwd] at k;cases k
  ·rw[hgd gev true g1];simp only[if_true];have hno:=inv.slots i s (by simp[Qw,hd,hs]) hun;obtain ⟨_,_,_,k4⟩:=hok.slot s hs;refine qma (by rw[hk,hz]) inv.sr c1 hno c2 c3 fun E' u w' b1 b2 b3 b4 b5=>?_
   have h1:=inv.len;refine finish C (fun _ _ h=>h) (.ptr (base+s) 0 0 1) E' S u w' (val _ fun ef' Hf' ej' hc' hs' ha t ht=>?_) (fun _ _ _ h=>by cases h) (fun _=>rfl) hgood (fun _ _=>b1) b3 b2 (b4 n0 (by omega)) (qqY _) (fun i' s' hs' hne hno' st=>?_)
   ·have hwd:=yu ha;rw[g1] at hwd;rcases hs'.2 with ⟨k,_⟩|⟨_,s',z',k1,_,k2,_⟩|⟨_,k,_⟩
    ·rw[hwd] at k;cases k
    ·rw[hs] at k1;cases k1;exact k2 t ht
    ·rw[hs] at k;cases k
   ·rw[b5 _ _ (fun he=>?_)]
    ·exact hno' st
    ·have:s'=s:=by omega
     subst this;exact k4 i' hne hs'
  ·rw[hgd gev true g1];simp only[if_true];refine qaG hk (hTm gev) inv.sr (by rw[Yo (hag ej)];exact g2) fun E' u w' hvr hsr hext hl=>?_
   refine finish C (fun _ _ h=>h) v E' S u w' (val _ fun ef' Hf' ej' hc' hs' ha t ht=>?_) (fun _ _ _ h=>by cases h) (fun _=>rfl) hgood (fun _ _=>hvr) (hext.le inv.sr) hsr (extOf hext) hl (slotsOf hext);have hwd:=yu ha;rw[g1] at hwd;rcases hs'.2 with ⟨k,_⟩|⟨_,s',z',k1,_⟩|⟨_,_,v',k1,k2⟩
   ·rw[hwd] at k;cases k
   ·rw[hs] at k1;cases k1
   ·rw[Yo (ha.sub fun t ht=>by simp[O'.tmps,ht]),g2] at k1;cases k1;exact k2 t ht
theorem qhT(ok:∀j d,ds[j]?=some d→Ok ds (yP ops) j d)(hlen:ds.length=ops.size)(hn0:n0≤base)
  (hcomp:∀(j:Nat) (d:D) (o:Oper),ds[j]?=some d→ops[j]?=some o→zM P N ops o=some d.o):
  ∀(fuel:Nat) (C:Env→List St→Prop) (listed:Array Bool) (q:Nat) (E:En) (S:St) (a:Act) (w:World),InvC P ds N n0 m0 base e0 Q E0 S0 w0 C listed q E S a w→listed.toList.count false≤fuel→
   wpAnyIn (yL ro) n P .any ops (Up N n0 m0 E0 S0 w0 Q) fuel listed a w:=by
 have done:∀(ef:Env) (Hf:List St),Cls P ds base e0 Q ef Hf→∀(listed:Array Bool) (q:Nat) (E:En) (S:St) (a:Act) (w:World),Inv ds N n0 m0 base e0 ef Hf E0 S0 w0 listed q E S a w→(∀i,i<listed.size→listed.getD i false=true)→Up N n0 m0 E0 S0 w0 Q .normal a w:=by
  intro ef Hf cl listed q E S a w inv hall
  have hq:q=(wix ds).length:=by
   rcases qsC q (wix ds).length with h| h
   ·exfalso;have hi:(wix ds)[q]?=some (wix ds)[q]:=by simp[h]
    obtain ⟨d,hd,_⟩:=qaC hi;have:=(inv.num q _ hi).1 (hall _ (by rw[inv.size];exact (qqT.1 hd).1));omega
   ·have:=inv.qle;omega
  refine ⟨E,ef,S,⟨fun t v hv=>inv.tmps t v hv fun i hi=>hall i (by rw[inv.size];exact qav hi),inv.N,inv.defers,qrt hn0 inv.len,inv.sr⟩,inv.ext,cl.last S ?_⟩;rw[List.getLast?_eq_getElem?,cl.len,Nat.add_sub_cancel,←hq];exact inv.st
 have none_ready:∀(ef:Env) (Hf:List St) (listed:Array Bool) (q:Nat) (E:En) (S:St) (a:Act) (w:World),Inv ds N n0 m0 base e0 ef Hf E0 S0 w0 listed q E S a w→Region.ready .any ops listed=[]→∀i,i<listed.size→listed.getD i false=true:=by
  intro ef Hf listed q E S a w inv hr i
  induction i using Nat.strongRecOn with
  | ind i ih=>
   intro hi
   cases hb:listed.getD i false with
   | true=>rfl
   | false=>
    exfalso;have hil:i<ds.length:=by rw[←inv.size];exact hi
    have hd:ds[i]?=some ds[i]:=by simp[hil]
    have ho:ops[i]?=some (ops[i]'(by omega)):=by simp
    have hmem:i∈Region.ready .any ops listed:=by
     refine mem_ready.2 ⟨?_,_,ho,fun e he hbi=>?_⟩
     ·simp only[Array.getD,hi,dif_pos] at hb ⊢;exact hb
     ·have hs:e.on∈yP ops i:=by
       simp only[yP,ho,qrf,qrR];exact ⟨e,⟨by simpa using he,hbi⟩,rfl⟩
      have hlt:=(ok i _ hd).back _ hs;exact ih _ hlt (by omega)
    rw[hr] at hmem;cases hmem
 intro fuel
 induction fuel with
 | zero=>
  intro C listed q E S a w ic hc;obtain ⟨ef,Hf,hC⟩:=ic.good.some;have hall:∀i,i<listed.size→listed.getD i false=true:=fun i hi=>qf1 (by omega) hi
  refine ⟨?_,done ef Hf (ic.cls ef Hf hC) listed q E S a w (ic.inv ef Hf hC) hall⟩
  cases hr:Region.ready .any ops listed with
  | nil=>rfl
  | cons i l=>
   exfalso;have:i∈Region.ready .any ops listed:=by rw[hr];simp
   obtain ⟨h1,_⟩:=mem_ready.1 this;obtain ⟨h2,h3⟩:=Qn.1 h1;obtain ⟨h4,h5⟩:=Qi.1 (hall i h2);rw[h3] at h5;cases h5
 | succ fuel ih=>
  intro C listed q E S a w ic hc;obtain ⟨ef,Hf,hC⟩:=ic.good.some;refine ⟨fun hr=>done ef Hf (ic.cls ef Hf hC) listed q E S a w (ic.inv ef Hf hC) (none_ready ef Hf listed q E S a w (ic.inv ef Hf hC) hr),fun i hi=>?_⟩;refine qeW ic ok hlen hn0 hcomp hi fun a' w' E' q' S' C' ic'=>ih C' _ q' E' S' a' w' ic' ?_
  have:=count_set (mem_ready.1 hi).1;omega
end
def qhP:List Nat→List Nat
 | []=>[]
 | x::xs=>if xs.contains x then qhP xs else x::qhP xs
def qp4:List (List Nat)→List (List Nat)→List (List Nat)
 | [],acc=>acc
 | a::as,acc=>qp4 as (acc++[qhP (a++a.flatMap fun s=>(acc[s]?).getD [])])
def qlo:K→Bool
 | .new _=>true
 | _=>false
def qqM:O'→List V
 | ⟨_,_,.new z⟩=>[z]
 | _=>[]
def qgd:List V→Bool
 | []=>true
 | z::zs=>decide (0<z.size) && qgd zs
theorem jS:∀{zs:List V},qgd zs=true→∀z,z∈zs→0<z.size
 | [],_,z,h=>by cases h
 | z0::zs,h,z,hz=>by
  simp only[qgd,qq5,decide_eq_true_eq] at h;rcases qrl.1 hz with rfl|hz
  ·exact h.1
  ·exact jS h.2 z hz
def qci(ds:List D)(n:Nat):Bool:=(List.range ds.length).all fun i=>match Qw ds i with
 | some s=>decide (s<n)
 | none=>true
theorem qaT{ds:List D}{n:Nat}(h:qci ds n=true):∀i s,Qw ds i=some s→s<n:=fun i s hs=>by
 unfold qci at h;simp only[qri,qsS] at h;have:=h i (qa9 hs);rw[hs] at this;simpa using this
def yG(P:Program)(N:Nat)(ops:Array Oper):Option (List D×List V):=
 match ops.toList.mapM (zM P N ops) with
 | none=>none
 | some os=>
  let as:=qp4 ((List.range ops.size).map (yP ops)) []
  let ws:=os.map fun o=>o.k.writes && !qlo o.k
  let wi:=(List.range os.length).filter fun i=>(ws[i]?).getD false
  let ds:=os.mapIdx fun j o=>
   let anc:=(as[j]?).getD []
   let w:=(ws[j]?).getD false
   let p:=((ws.take j).filter id).length
   let lo:=if w then p else (wi.takeWhile fun i=>anc.contains i).length
   let hi:=if w then p else (wi.takeWhile fun i=>!((as[i]?).getD []).contains j).length
   let slot:=if qlo o.k then some ((os.take j).filter fun o=>qlo o.k).length else none
   { o:=o,w:=w,slot:=slot,chk:=slot.isSome || (!w && o.k.reads && decide (lo<hi)),anc:=anc,lo:=lo,hi:=hi:D }
  let zs:=os.flatMap qqM
  if qiG P N ops ds=true∧P.follows .mixedOrders=true∧qgd zs=true∧qci ds zs.length=true then some (ds,zs) else none
def yp(base:Nat)(ef:Env)(d:D):List St→Prop
 | []=>True
 | T::Ts=>(match d.slot with
  | some s=>match d.o.k with
   | .new z=>T[base+s]?=some (.arr [z] z.size 1)∧0<z.size∧(z.cells.all V.flat)=true
   | _=>False
  | none=>∃v,evK ef T d.o.k=some (v,T)∧∀t,d.o.dst=some t→ef.get t=some v)∧yp base ef d Ts
def zW(base:Nat)(ef:Env)(H:List St):List D→Prop
 | []=>True
 | d::ds=>(if (d.chk && !d.w)=true then match qU ef d.o.g with
   | some true=>yp base ef d ((H.drop d.lo).take (d.hi+1 - d.lo))
   | _=>True
  else True)∧zW base ef H ds
theorem qaS{base:Nat}{ef:Env}{d:D}:∀{Ts:List St},yp base ef d Ts→∀T,T∈Ts→match d.slot with
  | some s=>match d.o.k with
   | .new z=>T[base+s]?=some (.arr [z] z.size 1)∧0<z.size∧(z.cells.all V.flat)=true
   | _=>False
  | none=>∃v,evK ef T d.o.k=some (v,T)∧∀t,d.o.dst=some t→ef.get t=some v
 | [],_,T,h=>by cases h
 | T0::Ts,⟨h1,h2⟩,T,h=>by
  rcases qrl.1 h with rfl| h
  ·exact h1
  ·exact qaS h2 T h
theorem kj{base:Nat}{ef:Env}{H:List St}:∀{ds:List D},zW base ef H ds→qlv base ef H ds
 | [],_,d,h,_,_,_=>by cases h
 | d0::ds,⟨h1,h2⟩,d,h,hc,hw,hg=>by
  rcases qrl.1 h with rfl| h
  ·rw[if_pos (by simp[hc,hw]),hg] at h1;intro q hlo hhi T hT;refine qaS h1 T ?_
   have:((H.drop d.lo).take (d.hi+1 - d.lo))[q - d.lo]?=some T:=by
    rw[qrr (by omega),qrB,show d.lo+(q - d.lo)=q by omega];exact hT
   exact qq1 this
  ·exact kj h2 d h hc hw hg
def QZ(base:Nat)(ds:List D)(Q:Env→St→Prop)(ef:Env)(H:List St):Prop:=
 zW base ef H ds∧match H.getLast? with
  | some S=>Q ef S
  | none=>False
theorem qcv{α β:Type}{f:α→Option β}:∀{l:List α} {r:List β},l.mapM f=some r→r.length=l.length∧∀(i:Nat) (x:α) (y:β),l[i]?=some x→r[i]?=some y→f x=some y
 | [],r,h=>by simp at h;subst h;exact ⟨rfl,fun i x y h=>by simp at h⟩
 | a::l,r,h=>by
  simp only[qsj,qrQ] at h
  cases ha:f a with
  | none=>rw[ha] at h;simp at h
  | some b=>
   rw[ha] at h
   cases hl:l.mapM f with
   | none=>rw[hl] at h;simp at h
   | some bs=>
    rw[hl] at h;simp at h;subst h;obtain ⟨h1,h2⟩:=qcv hl;refine ⟨by simp[h1],fun i x y hx hy=>?_⟩
    cases i with
    | zero=>simp at hx hy;subst hx;subst hy;exact ha
    | succ i=>exact h2 i x y (by simpa using hx) (by simpa using hy)
theorem qf3{ds:List D}:(wix ds).length=ds.countP fun d=>d.w:=by
 unfold wix;rw[←List.countP_eq_length_filter]
 have:∀(l:List D) (k:Nat),List.countP (fun i=>((k+l.length) - (k+l.length)=0) && ((l[i]?.map D.w).getD false)) (List.range l.length)=l.countP fun d=>d.w:=by
  intro l
  induction l with
  | nil=>intro k;rfl
  | cons d l ih=>
   intro k
   have h1:List.range (d::l).length=0::(List.range l.length).map (·+1):=by
    rw[qrk,List.range_succ_eq_map]
   rw[h1,qsq,List.countP_map,qsq];have:=ih 0;simp at this ⊢;rw[←this];rfl
 have h:=this ds 0;simpa using h
theorem Q2{P:Program}{N:Nat}{ops:Array Oper}{ds:List D}{zs:List V}(h:yG P N ops=some (ds,zs)):
  P.follows .mixedOrders=true∧qiG P N ops ds=true∧qgd zs=true∧(∀i s,Qw ds i=some s→s<zs.length)∧∀(j:Nat) (d:D) (o:Oper),ds[j]?=some d→ops[j]?=some o→zM P N ops o=some d.o:=by
 unfold yG at h;split at h
 ·cases h
 ·rename_i os hos;simp only[] at h;split at h
  ·rename_i hc;obtain ⟨hc,hm,hz,hs⟩:=hc;simp only[Option.some.injEq,Prod.mk.injEq] at h;obtain ⟨rfl,rfl⟩:=h;refine ⟨hm,hc,hz,qaT hs,fun j d o hj ho=>?_⟩;rw[List.getElem?_mapIdx] at hj;simp only[qq3] at hj;obtain ⟨o',ho',rfl⟩:=hj;exact (qcv hos).2 j o o' (by simpa using ho) ho'
  ·cases h
theorem ZS{P:Program}{N n0 m0:Nat}{ro:Option Nat}{n:Nat}{ops:Array Oper}{Q:yD}{ds:List D}{zs:List V}{E:En}{e:Env}{S:St}{a:Act}{w:World}
  (hc:yG P N ops=some (ds,zs)) (hr:Rel N n0 m0 E e S a w)
  (h:dwp P S.length ds (QZ S.length ds (Q .normal)) e (S++phs zs) [S++phs zs]):wpAnyIn (yL ro) n P .any ops (Up N n0 m0 E S w Q) ops.size (Array.replicate ops.size false) a { w with drawn:=w.drawn+1 }:=by
 obtain ⟨hm,hcd,hz,hslots,hcomp⟩:=Q2 hc;obtain ⟨hlen,hok⟩:=qd7 hcd;obtain ⟨p1,p2⟩:=(hr.sr.heap (w':={ w with drawn:=w.drawn+1 }) rfl).phantoms zs (jS hz);have hext0:Ext n0 E S w E (S++phs zs) { w with drawn:=w.drawn+1 }:=(Ext.heap (w:=w) (w':={ w with drawn:=w.drawn+1 }) n0 rfl rfl).trans (p2 n0);obtain ⟨C,hC,hgood⟩:=JD (e0:=e) hok ds 0 e (S++phs zs) [S++phs zs] (by simp) (by simp[pos]) (by simp[pos]) (fun _ _=>rfl) h;rw[←qf3,show pos ds 0=0 by simp[pos]] at hgood
 have hfalse:∀i,(Array.replicate ops.size false).getD i false=false:=fun i=>by
  simp only[Array.getD];split <;> simp
 refine qhT (base:=S.length) (e0:=e) hok hlen hr.base hcomp ops.size C (Array.replicate ops.size false) 0 E (S++phs zs) a { w with drawn:=w.drawn+1 } ⟨fun ef Hf hc=>?_,fun ef Hf hc=>?_,hgood,fun ef Hf ef' Hf' _ _ i t hl _=>(by rw[hfalse] at hl;cases hl)⟩ (by simp)
 ·obtain ⟨⟨h1,h2⟩,htr⟩:=hC ef Hf hc;obtain ⟨T,hT1,hT2⟩:=J8 ds _ _ _ _ _ htr;refine ⟨fun j d hj=>qdE (aft:=yP ops) hok ds 0 e (S++phs zs) [S++phs zs] ef Hf (by simp) (by simp[pos]) (by simp[pos]) htr (fun _ _=>rfl) j d (qrA _) hj,kj h1,fun S' hS'=>by rw[hS'] at h2;exact h2,by rw[hT1,qf3];simp[hT2,Nat.add_comm],fun t ht=>?_⟩
  exact jM ds _ _ _ _ _ htr fun d hd hdd=>by
   obtain ⟨i,hi⟩:=qrI hd;exact ht i (by simp[zy,hi,hdd])
 ·obtain ⟨_,htr⟩:=hC ef Hf hc;obtain ⟨T,hT1,hT2⟩:=J8 ds _ _ _ _ _ htr;refine ⟨by simp[hlen],fun j d _ hl=>(by rw[hfalse] at hl;cases hl),fun p i _=>(by rw[hfalse i];simp),qrA _,by rw[hT1];simp,fun t v hv hall=>?_,fun t v hv _=>hr.tmps t v hv,fun i s _ _ st=>?_,hr.size,YH.step hext0 hr.defers,p1,by simp,fun i s hs=>by simp[phs];exact hslots i s hs,hext0⟩
  ·have:ef.get t=e.get t:=jM ds _ _ _ _ _ htr fun d hd hdd=>by
    obtain ⟨i,hi⟩:=qrI hd;have:=hall i (by simp[zy,hi,hdd]);rw[hfalse] at this;cases this
   rw[this] at hv;exact hr.tmps t v hv
  ·cases hx:E.ρ (S.length+s) st with
   | none=>rfl
   | some x=>exact absurd (hr.sr.dom _ _ _ hx) (by omega)
theorem qeq{P:Program}{N n0 m0:Nat}{ro:Option Nat}{n id:Nat}{ops:Array Oper}{Q:yD}{ds:List D}{zs:List V}{E:En}{e:Env}{S:St}{a:Act}{w:World}
  (hc:yG P N ops=some (ds,zs)) (hr:Rel N n0 m0 E e S a w)
  (h:dwp P S.length ds (QZ S.length ds (Q .normal)) e (S++phs zs) [S++phs zs]):(Code.region id ops true).wpIn (yL ro) n P (Up N n0 m0 E S w Q) a w:=
 wpIn_region_any (Q2 hc).1 (ZS hc hr h)
def qbQ(m:Nat)(aft:Nat→List Nat):Nat→List Nat→List Nat
 | 0,S=>S
 | n+1,S=>qbQ m aft n ((List.range m).filter fun i=>S.contains i || S.any fun s=>(aft s).contains i)
theorem Jo{m:Nat}{aft:Nat→List Nat}{C:Np}(hC:∀s,C s→∀r,r∈aft s→C r):∀(n:Nat) (S:List Nat),(∀s,s∈S→C s)→∀s,s∈qbQ m aft n S→C s
 | 0,S,h=>h
 | n+1,S,h=>Jo hC n _ fun s hs=>by
  simp only[qrR,qsL,List.contains_iff_mem,List.any_eq_true] at hs;rcases hs.2 with h1|⟨r,h1,h2⟩
  ·exact h s h1
  ·exact hC r (h r h1) s h2
def jc(ops:Array Oper):Bool:=
 let m:=ops.size - 1
 let S:=qbQ m (yP ops) m (yP ops m)
 (List.range m).all (fun i=>S.contains i) && (yP ops m).all (fun r=>decide (r<m)) && (List.range m).all (fun i=>(yP ops i).all (fun r=>decide (r<i)) && match ops[i]? with
  | some o=>match o.guard with
   | none=>true
   | some (j,_)=>decide (j<m)
  | none=>false)
theorem Oper.wpIn_exit{F:Fence}{n:Nat}{P:Program}{o:Oper}{a:Act}{w:World}{K:Act→World→Prop}{Q Q':Exit→Act→World→Prop}(hq:∀x a w,x≠.normal→Q x a w→Q' x a w)(h:o.wpIn F n P a w K Q):o.wpIn F n P a w K Q':=by
 obtain ⟨h1,h2⟩:=h;have hlet:LetsOut Q→LetsOut Q':=fun ⟨a,w,h⟩=>⟨a,w,hq _ _ _ (by simp) h⟩
 refine ⟨h1,?_⟩;generalize (o.semAt F.round a.eval).run P w=r at h2 ⊢
 cases r with
 | ok nx w'=>
  cases nx <;> simp only[Oper.uponIn] at h2 ⊢
  case value v=>exact h2
  case skip=>exact h2
  case defer d=>exact h2
  case enter f args=>exact ⟨h2.1,h2.2.mono fun e w'' he=>by cases e <;> first|exact he|exact hq _ _ _ (by simp) he|exact hlet he⟩
  case row r args=>exact ⟨h2.1,h2.2.mono fun v w'' he=>he⟩
  case round l f t x y=>exact ⟨h2.1,h2.2.mono fun e w'' he=>by cases e <;> first|exact he|exact hq _ _ _ (by simp) he|exact hlet he⟩
 | halt x w'=>
  cases x <;> simp only[Oper.uponIn] at h2 ⊢
  case panic v=>exact hq _ _ _ (by simp) h2
def qdX(F:Fence)(n:Nat)(P:Program)(ops:Array Oper)(Q:Exit→Act→World→Prop):Exit→Act→World→Prop
 | .normal,a,w=>wpOpIn F n P ops Q (ops.size - 1) (Q .normal) a w
 | x,a,w=>Q x a w
theorem QP{l:Array Bool}{i:Nat}(d:Bool)(hi:i<l.size):(l.push false).getD i d=l.getD i d:=by
 simp only[Array.getD];rw[dif_pos hi,dif_pos (by simp;omega)];simp[Array.getElem_push_lt hi]
theorem qmL{F:Fence}{n:Nat}{P:Program}{ops':Array Oper}{o:Oper}{Q:Exit→Act→World→Prop}(hall:jc (ops'.push o)=true):
  ∀(fuel:Nat) (l:Array Bool) (a:Act) (w:World),l.size=ops'.size→(∀s,l.getD s false=true→∀r,r∈yP (ops'.push o) s→l.getD r false=true)→l.toList.count false≤fuel→
   wpAnyIn F n P .any ops' (qdX F n P (ops'.push o) Q) fuel l a w→wpAnyIn F n P .any (ops'.push o) Q (fuel+1) (l.push false) a w:=by
 have hm:(ops'.push o).size - 1=ops'.size:=by simp
 simp only[jc,hm,qq5,qri,qsS,List.contains_iff_mem,decide_eq_true_eq] at hall;obtain ⟨⟨hcl,hlast⟩,hgd⟩:=hall;have ho:(ops'.push o)[ops'.size]?=some o:=by simp
 have hget:∀i,i<ops'.size→(ops'.push o)[i]?=ops'[i]?:=fun i hi=>by rw[qrZ,if_neg (by omega)]
 have haft:∀i o',(ops'.push o)[i]?=some o'→∀e,e∈o'.after→Region.binds .any e=true→e.on∈yP (ops'.push o) i:=fun i o' ho' e he hb=>by
  simp only[yP,ho',qrf,qrR];exact ⟨e,⟨by simpa using he,hb⟩,rfl⟩
 have hwait:∀l:Array Bool,l.size=ops'.size→(∀s,l.getD s false=true→∀r,r∈yP (ops'.push o) s→l.getD r false=true)→ops'.size∈Region.ready .any (ops'.push o) (l.push false)→∀i,i<ops'.size→l.getD i false=true:=by
  intro l hl hclosed hr i hi;obtain ⟨_,o',ho',hh⟩:=mem_ready.1 hr;rw[ho] at ho';cases ho';refine Jo (C:=fun s=>l.getD s false=true) hclosed ops'.size (yP (ops'.push o) ops'.size) (fun s hs=>?_) i (hcl i hi);have hsl:=hlast s hs;simp only[yP,ho,qrf,qrR] at hs;obtain ⟨e,⟨he,hb⟩,rfl⟩:=hs;have:=hh e (by simpa using he) hb;rw[QP _ (by rw[hl];exact hsl)] at this;exact this
 have hready:∀l:Array Bool,l.size=ops'.size→∀i,i<ops'.size→(i∈Region.ready .any (ops'.push o) (l.push false)↔i∈Region.ready .any ops' l):=by
  intro l hl i hi;rw[mem_ready,mem_ready,hget i hi,QP _ (by omega)]
  have hafter:∀o',ops'[i]?=some o'→∀e∈o'.after,Region.binds .any e=true→e.on<ops'.size:=by
   intro o' ho' e he hb;have:=(hgd i hi).1 e.on (haft i o' (by rw[hget i hi];exact ho') e he hb);omega
  constructor
  ·rintro ⟨h1,o',h2,h3⟩
   exact ⟨h1,o',h2,fun e he hb=>by
    have:=h3 e he hb;rw[QP _ (by rw[hl];exact hafter o' h2 e he hb)] at this;exact this⟩
  ·rintro ⟨h1,o',h2,h3⟩
   exact ⟨h1,o',h2,fun e he hb=>by
    rw[QP _ (by rw[hl];exact hafter o' h2 e he hb)];exact h3 e he hb⟩
 have hrange:∀(l:Array Bool) (i:Nat),i∈Region.ready .any (ops'.push o) (l.push false)→i<ops'.size∨i=ops'.size:=fun l i hi=>by
  obtain ⟨_,o',ho',_⟩:=mem_ready.1 hi;have:=(qrb.1 ho').1;simp at this;omega
 have hnone:∀l:Array Bool,l.size=ops'.size→Region.ready .any ops' l=[]→∀i,i<ops'.size→l.getD i false=true:=by
  intro l hl hr i
  induction i using Nat.strongRecOn with
  | ind i ih=>
   intro hi
   cases hb:l.getD i false with
   | true=>rfl
   | false=>
    exfalso;have hoi:ops'[i]?=some (ops'[i]'hi):=by simp
    have hmem:i∈Region.ready .any ops' l:=by
     refine mem_ready.2 ⟨?_,_,hoi,fun e he hbi=>?_⟩
     ·have hil:i<l.size:=by omega
      simp only[Array.getD,hil,dif_pos] at hb ⊢;exact hb
     ·have hlt:=(hgd i hi).1 e.on (haft i _ (by rw[hget i hi];exact hoi) e he hbi);exact ih _ hlt (by omega)
    rw[hr] at hmem;cases hmem
 have hlastReady:∀l:Array Bool,l.size=ops'.size→(∀i,i<ops'.size→l.getD i false=true)→ops'.size∈Region.ready .any (ops'.push o) (l.push false):=by
  intro l hl hall;refine mem_ready.2 ⟨by simp[Array.getD,hl,Array.getElem_push],o,ho,fun e he hb=>?_⟩;have hlt:=hlast e.on (haft _ o ho e he hb);rw[QP _ (by omega)];exact hall _ hlt
 have hdone:∀(fuel:Nat) (l:Array Bool) (a:Act) (w:World),l.size=ops'.size→(∀i,i<ops'.size→l.getD i false=true)→Q .normal a w→wpAnyIn F n P .any (ops'.push o) Q fuel ((l.push false).setIfInBounds ops'.size true) a w:=by
  intro fuel l a w hl hall hQ
  have hempty:Region.ready .any (ops'.push o) ((l.push false).setIfInBounds ops'.size true)=[]:=by
   cases hr:Region.ready .any (ops'.push o) ((l.push false).setIfInBounds ops'.size true) with
   | nil=>rfl
   | cons i r=>
    exfalso;have hi:i∈Region.ready .any (ops'.push o) ((l.push false).setIfInBounds ops'.size true):=by rw[hr];simp
    obtain ⟨h1,o',ho',_⟩:=mem_ready.1 hi;have hlt:=(qrb.1 ho').1;simp only[Array.size_push] at hlt
    have htrue:((l.push false).setIfInBounds ops'.size true).getD i false=true:=by
     rw[QC (by simp;omega)];by_cases hil:i=ops'.size
     ·exact .inl hil
     ·right;rw[QP _ (by omega)];exact hall i (by omega)
    obtain ⟨h2,h3⟩:=Qn.1 h1;obtain ⟨h4,h5⟩:=Qi.1 htrue;rw[h3] at h5;cases h5
  cases fuel with
  | zero=>exact ⟨hempty,hQ⟩
  | succ f=>exact ⟨fun _=>hQ,fun i hi=>by rw[hempty] at hi;cases hi⟩
 have hopmono:∀{i:Nat} {K K':Act→World→Prop} {a:Act} {w:World},(∀a w,K a w→K' a w)→wpOpIn F n P (ops'.push o) Q i K a w→wpOpIn F n P (ops'.push o) Q i K' a w:=by
  intro i K K' a w hK h;unfold wpOpIn at h ⊢;split
  ·rename_i h1;rw[h1] at h;exact hK _ _ h
  ·rename_i o1 h1;rw[h1] at h;simp only at h;split
   ·rename_i hw;rw[if_pos hw] at h;exact Oper.wpIn_mono hK h
   ·rename_i hw;rw[if_neg hw] at h;exact ⟨h.1,hK _ _ h.2⟩
 have last:∀(fuel:Nat) (l:Array Bool) (a:Act) (w:World),l.size=ops'.size→(∀i,i<ops'.size→l.getD i false=true)→qdX F n P (ops'.push o) Q .normal a w→
   wpOpIn F n P (ops'.push o) Q ops'.size (wpAnyIn F n P .any (ops'.push o) Q fuel ((l.push false).setIfInBounds ops'.size true)) a w:=by
  intro fuel l a w hl hall h;simp only[qdX,hm] at h;exact hopmono (fun a w hq=>hdone fuel l a w hl hall hq) h
 intro fuel
 induction fuel with
 | zero=>
  intro l a w hl hclosed hc h;obtain ⟨h1,h2⟩:=h;have hall:=hnone l hl h1;refine ⟨fun hr=>?_,fun i hi=>?_⟩
  ·have:=hlastReady l hl hall;rw[hr] at this;cases this
  ·rcases hrange l i hi with hlt|rfl
   ·rw[hready l hl i hlt,h1] at hi;cases hi
   ·exact last 0 l a w hl hall h2
 | succ fuel ih=>
  intro l a w hl hclosed hc h;obtain ⟨h1,h2⟩:=h;refine ⟨fun hr=>?_,fun i hi=>?_⟩
  ·have hr':Region.ready .any ops' l=[]:=by
    cases hq:Region.ready .any ops' l with
    | nil=>rfl
    | cons j r=>
     exfalso;have hj:j∈Region.ready .any ops' l:=by rw[hq];simp
     obtain ⟨_,o',ho',_⟩:=mem_ready.1 hj;have hlt:=(qrb.1 ho').1;rw[←hready l hl j hlt,hr] at hj;cases hj
   have:=hlastReady l hl (hnone l hl hr');rw[hr] at this;cases this
  ·rcases hrange l i hi with hlt|rfl
   ·have hi':=(hready l hl i hlt).1 hi;have hop:=h2 i hi';obtain ⟨hun,o1,ho1,_⟩:=mem_ready.1 hi'
    have hset:(l.push false).setIfInBounds i true=(l.setIfInBounds i true).push false:=by
     apply qsE;intro j;rw[Array.getElem?_setIfInBounds,qrZ,qrZ,Array.getElem?_setIfInBounds];simp only[Array.size_push,Array.size_setIfInBounds];by_cases hij:i=j
     ·subst hij;rw[if_pos rfl,if_pos (by omega),if_neg (by omega),if_pos rfl,if_pos (by omega)]
     ·rw[if_neg hij,if_neg hij]
    have hnext:∀a' w',wpAnyIn F n P .any ops' (qdX F n P (ops'.push o) Q) fuel (l.setIfInBounds i true) a' w'→wpAnyIn F n P .any (ops'.push o) Q (fuel+1) ((l.push false).setIfInBounds i true) a' w':=by
     intro a' w' h';rw[hset];refine ih _ a' w' (by simpa using hl) (fun s hs r hr=>?_) ?_ h'
     ·rw[QC (by omega)] at hs ⊢;rcases hs with rfl|hs
      ·right;obtain ⟨_,o2,ho2,hall2⟩:=mem_ready.1 hi';simp only[yP,hget s hlt,ho2,qrf,qrR] at hr;obtain ⟨e,⟨he,hb⟩,rfl⟩:=hr;exact hall2 e (by simpa using he) hb
      ·exact .inr (hclosed s hs r hr)
     ·have:=count_set hun;omega
    unfold wpOpIn at hop ⊢;rw[hget i hlt,ho1];rw[ho1] at hop;simp only at hop ⊢
    have hwd:Region.wanted o1 (yielded (ops'.push o) a.tmps)=Region.wanted o1 (yielded ops' a.tmps):=by
     have hg:=(hgd i hlt).2;rw[hget i hlt,ho1] at hg;simp only at hg;unfold Region.wanted;split
     ·rfl
     ·rename_i j want hgj;rw[hgj] at hg;simp only[decide_eq_true_eq] at hg;simp only[yielded,hget j hg]
    rw[hwd];split
    ·rename_i hw;rw[if_pos hw] at hop;refine Oper.wpIn_exit (fun x a w hx hq=>?_) (Oper.wpIn_mono hnext hop);cases x <;> first|exact absurd rfl hx|exact hq
    ·rename_i hw;rw[if_neg hw] at hop;exact ⟨hop.1,hnext _ _ hop.2⟩
   ·have hall:=hwait l hl hclosed hi
    have hr':Region.ready .any ops' l=[]:=by
     cases hq:Region.ready .any ops' l with
     | nil=>rfl
     | cons j r=>
      exfalso;have hj:j∈Region.ready .any ops' l:=by rw[hq];simp
      obtain ⟨h3,o',ho',_⟩:=mem_ready.1 hj;have hlt:=(qrb.1 ho').1;obtain ⟨h4,h5⟩:=Qn.1 h3;obtain ⟨h6,h7⟩:=Qi.1 (hall j hlt);rw[h5] at h7;cases h7
    exact last (fuel+1) l a w hl hall (h1 hr')
theorem JF{F:Fence}{n:Nat}{P:Program}{ops:Array Oper}{md:Region.Mode}{Q Q':Exit→Act→World→Prop}(hq:∀x a w,Q x a w→Q' x a w):∀(fuel:Nat) (l:Array Bool) (a:Act) (w:World),wpAnyIn F n P md ops Q fuel l a w→wpAnyIn F n P md ops Q' fuel l a w
 | 0,l,a,w,h=>⟨h.1,hq _ _ _ h.2⟩
 | fuel+1,l,a,w,h=>by
  refine ⟨fun hr=>hq _ _ _ (h.1 hr),fun i hi=>?_⟩;have hop:=h.2 i hi;unfold wpOpIn at hop ⊢;split
  ·rename_i h1;rw[h1] at hop;exact JF hq fuel _ _ _ hop
  ·rename_i o1 h1;rw[h1] at hop;simp only at hop;split
   ·rename_i hw;rw[if_pos hw] at hop;exact Oper.wpIn_exit (fun x a w _ hx=>hq x a w hx) (Oper.wpIn_mono (fun a w hx=>JF hq fuel _ _ _ hx) hop)
   ·rename_i hw;rw[if_neg hw] at hop;exact ⟨hop.1,JF hq fuel _ _ _ hop.2⟩
def QX(P:Program)(o':O')(Q:yD):yD
 | .normal,e,S=>yK P [o'] (Q .normal) e S
 | x,e,S=>Q x e S
theorem qbP{P:Program}{N n0 m0:Nat}{ro:Option Nat}{n id:Nat}{ops:Array Oper}{Q:yD}{ds:List D}{zs:List V}{o:Oper}{o':O'}{E:En}{e:Env}{S:St}{a:Act}{w:World}
  (hc:yG P N ops=some (ds,zs)) (hall:jc (ops.push o)=true) (ho:zM P N (ops.push o) o=some o') (hr:Rel N n0 m0 E e S a w)
  (h:dwp P S.length ds (QZ S.length ds (QX P o' Q .normal)) e (S++phs zs) [S++phs zs]):(Code.region id (ops.push o) true).wpIn (yL ro) n P (Up N n0 m0 E S w Q) a w:=by
 refine wpIn_region_any (Q2 hc).1 ?_;have h1:=ZS (ro:=ro) (n:=n) (Q:=QX P o' Q) hc hr h
 have h2:=JF (Q':=qdX (yL ro) n P (ops.push o) (Up N n0 m0 E S w Q)) (fun x a1 w1 hx=>by
  cases x <;> try exact hx
  obtain ⟨E',e',S',r,xt,q⟩:=hx;have hw:=yl (n:=n) (ro:=ro) (Q:=Q) (ops:=ops.push o) [o] [o'] E' e' S' a1 w1 (by simp[ho]) r q;have hw:=qP (Q':=Up N n0 m0 E S w Q) (fun x a' w'' hq=>hq.back xt) hw;simp only[qdX,Array.size_push,Nat.add_sub_cancel];unfold wpOpIn;rw[show (ops.push o)[ops.size]?=some o by simp];exact hw) ops.size _ a _ h1
 have h3:=qmL hall ops.size (Array.replicate ops.size false) a _ (by simp) (fun s hs=>by
  have:(Array.replicate ops.size false).getD s false=false:=by
   simp only[Array.getD];split <;> simp
  rw[this] at hs;cases hs) (by simp) h2
 rw[Array.size_push,Array.replicate_succ];exact h3
end Go.Proofs.YtbifpocccfkhhaaGreatDoor
