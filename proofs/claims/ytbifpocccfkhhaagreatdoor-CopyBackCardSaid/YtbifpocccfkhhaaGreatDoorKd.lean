/- A part. -/
import Derived.Test.YtbifpocccfkhhaaGreatDoorKc
import Derived.Scope
import Derived.RangeFuncLeaves
import Derived.RangeFuncRecord
set_option linter.all false
noncomputable section
namespace Go.Proofs.YtbifpocccfkhhaaGreatDoor
open Go
inductive C' where
 | skip
 | reg (ops:List O')
 | draw (ds:List D) (zs:List V)
 | drawl (ds:List D) (zs:List V) (o:O')
 | seq (a b:C')
 | cond (c:Opd) (a b:C')
 | block (id:Nat) (c:C')
 | scope (c:C')
 | loop (c:C')
 | exit (id:Nat)
 | ret
 | bad
 | rf (g:Opd) (ps:List Nat) (asg body:Code) (ca cb:C') (N:Nat) (ts:List Nat)
 deriving Inhabited
def C'.noRf:C'→Bool
 | .seq a b|.cond _ a b=>a.noRf && b.noRf
 | .block _ c|.scope c|.loop c=>c.noRf
 | .rf ..=>false
 | _=>true
def C'.uses:C'→List Nat
 | .reg ops=>ops.flatMap O'.tmps
 | .draw ds _=>ds.flatMap fun d=>d.o.tmps
 | .drawl ds _ o=>(ds.flatMap fun d=>d.o.tmps)++o.tmps
 | .seq a b=>a.uses++b.uses
 | .cond c a b=>c.tmps++a.uses++b.uses
 | .block _ c|.scope c|.loop c=>c.uses
 | _=>[]
def qpo:K→Bool
 | .call ..=>true
 | .ex (.nxt _)=>true
 | .ex (.eqn ..)=>true
 | _=>false
def JP(P:Program)(N:Nat)(ops:Array Oper):Option (List D×List V×O'):=
 match ops.back? with
 | none=>none
 | some o=>if jc ops=true then match zM P N ops o with
   | some o'=>if qpo o'.k=true then (yG P N ops.pop).map fun p=>(p.1,p.2,o') else none
   | none=>none
  else none
theorem kM{P:Program}{N:Nat}{ops:Array Oper}{ds:List D}{zs:List V}{o':O'}(h:JP P N ops=some (ds,zs,o')):∃ops' o,ops=ops'.push o∧jc (ops'.push o)=true∧zM P N (ops'.push o) o=some o'∧yG P N ops'=some (ds,zs):=by
 unfold JP at h;split at h
 ·cases h
 ·rename_i o ho;split at h <;> try cases h
  rename_i hl;split at h <;> try cases h
  rename_i o1 hc;split at h <;> try cases h
  cases hp:yG P N ops.pop with
  | none=>rw[hp] at h;cases h
  | some p=>
   rw[hp] at h;simp only[qre,Option.some.injEq,Prod.mk.injEq] at h;obtain ⟨h1,h2,h3⟩:=h
   have hpush:ops=ops.pop.push o:=by
    obtain ⟨l⟩:=ops;rw[Array.back?_eq_getElem?] at ho;obtain ⟨hlt,ho⟩:=qrb.1 ho;apply qsE;intro j;rw[qrZ];simp only[Array.size_pop];split
    ·rename_i hj;subst hj;rw[←ho];simp
    ·rename_i hj;rw[Array.getElem?_pop];split
     ·rfl
     ·rw[qsr (by omega)]
   refine ⟨ops.pop,o,hpush,by rw[←hpush];exact hl,by rw[←hpush,←h3];exact hc,by rw[hp,←h1,←h2]⟩
def comp(P:Program)(N:Nat):Code→Option C'
 | .skip=>some .skip
 | .label _=>some .skip
 | .region _ ops draw=>if draw then match JP P N ops with
   | some p=>some (.drawl p.1 p.2.1 p.2.2)
   | none=>match yG P N ops with
    | some p=>some (.draw p.1 p.2)
    | none=>some .bad
  else match ops.toList.mapM (zM P N ops) with
   | some l=>some (.reg l)
   | none=>some .bad
 | .seq a b=>match comp P N a,comp P N b with
  | some a,some b=>some (.seq a b)
  | _,_=>none
 | .cond c a b=>match qj c,comp P N a,comp P N b with
  | some c,some a,some b=>some (.cond c a b)
  | _,_,_=>none
 | .block id c=>(comp P N c).map (.block id)
 | .scope c=>(comp P N c).map .scope
 | .loop c=>(comp P N c).map .loop
 | .exit id=>some (.exit id)
 | .ret=>some .ret
 | .rangeFunc f ps asg body=>match qj f,comp P N asg,comp P N body with
  | some g,some ca,some cb=>if (ca.noRf && cb.noRf && ps.toList.all fun p=>decide (p<N))=true then some (.rf g ps.toList asg body ca cb N (qhP (ca.uses++cb.uses))) else some .bad
  | _,_,_=>some .bad
 | _=>some .bad
def Zi(N:Env→St→Prop)(Q:yD):yD
 | .normal,e,S=>N e S
 | x,e,S=>Q x e S
def Zh(id:Nat)(Q:yD):yD
 | .exit id',e,S=>if id'=id then Q .normal e S else Q (.exit id') e S
 | x,e,S=>Q x e S
def jG(Q:yD):yD
 | .goto _,_,_=>False
 | x,e,S=>Q x e S
theorem yz{P:Program}{b:Frame}{a:Act}{k:List Item}{cs:List Frame}{w:World}{c:Code}:step P (lone (b.atR a (.code (.scope c)::k)) cs w)=.next (lone (b.atR a (.code c::.inScope c::k)) cs w):=
 step_lone_go (by simp[stepG,stepG.exec,Frame.atR])
theorem qad{P:Program}{b:Frame}{a:Act}{k:List Item}{cs:List Frame}{w:World}{c:Code}:step P (lone (b.atR a (.inScope c::k)) cs w)=.next (lone (b.atR a k) cs w):=
 step_lone_go (by simp[stepG,stepG.exec,Frame.atR])
theorem qd2{F:Fence}{n:Nat}{P:Program}{c:Code}{Q:Exit→Act→World→Prop}{a:Act}{w:World}(h:c.wpIn F n P (Exit.noGoto Q) a w):(Code.scope c).wpIn F n P Q a w:=by
 intro b k cs hro hb hr;have h0:(lone (b.atR a (.code (.scope c)::k)) cs w).fenced P F:=fenced_calm hb hr rfl;obtain ⟨e,a₁,w₁,hq,harr⟩:=h b (.inScope c::k) cs hro hb hr
 cases e with
 | normal=>exact ⟨.normal,a₁,w₁,hq,.head h0 yz (StepsIn.trans harr (.one (fenced_calm hb hr rfl) qad))⟩
 | exit id'=>
  have hx:exitTo id' (.inScope c::k)=exitTo id' k:=by simp[exitTo]
  exact ⟨.exit id',a₁,w₁,hq,fun k' hk=>.head h0 yz (harr.1 k' (by rw[hx];exact hk)),
   fun hr' hk=>let ⟨k₁,h1,h2⟩:=harr.2 hr' (by rw[hx];exact hk);⟨k₁,h1,.head h0 yz h2⟩⟩
 | goto l=>exact hq.elim
 | ret=>exact ⟨_,a₁,w₁,hq,.of_steps (.one h0 yz) harr⟩
 | panic ch=>exact ⟨_,a₁,w₁,hq,.of_steps (.one h0 yz) harr⟩
 | outgrown=>exact ⟨_,a₁,w₁,hq,.of_steps (.one h0 yz) harr⟩
def WP(P:Program):C'→yD→Env→St→Prop
 | .skip,Q,e,S=>Q .normal e S
 | .reg ops,Q,e,S=>yK P ops (Q .normal) e S
 | .draw ds zs,Q,e,S=>dwp P S.length ds (QZ S.length ds (Q .normal)) e (S++phs zs) [S++phs zs]
 | .drawl ds zs o,Q,e,S=>dwp P S.length ds (QZ S.length ds (QX P o Q .normal)) e (S++phs zs) [S++phs zs]
 | .seq a b,Q,e,S=>WP P a (Zi (WP P b Q) Q) e S
 | .cond c a b,Q,e,S=>match c.ev e with
  | some (.bool t)=>(t=true→WP P a Q e S)∧(t=false→WP P b Q e S)
  | _=>False
 | .block id c,Q,e,S=>WP P c (Zh id Q) e S
 | .scope c,Q,e,S=>WP P c (jG Q) e S
 | .loop c,Q,e,S=>∃(I:Nat→Env→St→Prop) (n:Nat),(∃e',Env.sub e' e∧I n e' S)∧∀n e S,I n e S→WP P c (Zi (fun e S=>∃n',n'<n∧∃e',Env.sub e' e∧I n' e' S) Q) e S
 | .exit id,Q,e,S=>Q (.exit id) e S
 | .ret,Q,e,S=>Q .ret e S
 | .bad,_,_,_=>False
 | .rf g ps asg body ca cb N ts,Q,e,S=>comp P N asg=some ca→comp P N body=some cb→match g.ev e with
  | some (.fn (.func k) fs cs)=>∃R,qt P k (fs++[.yld S.length]++cs) (S++[.loop ⟨.ready,none,ps,asg,body,e.keep ts,N⟩]) R∧∀r S',R r S'→∃i,S'[S.length]?=some (.loop i)∧i.st≠.busy∧
   match i.pend with
   | none=>Q .normal e (S'.set S.length (.loop { i with st:=.exhausted }))
   | some .ret=>Q .ret e (S'.set S.length (.loop { i with st:=.exhausted }))
   | some (.exit id)=>Q (.exit id) e (S'.set S.length (.loop { i with st:=.exhausted }))
   | some _=>False
  | _=>False
theorem Rel.sub{N n0 m0:Nat}{E:En}{e e':Env}{S:St}{a:Act}{w:World}(h:Rel N n0 m0 E e S a w)(hs:Env.sub e' e):Rel N n0 m0 E e' S a w:=
 ⟨fun t v hv=>h.tmps t v (hs t v hv),h.size,h.defers,h.base,h.sr⟩
theorem Up.then{N n0 m0:Nat}{E:En}{S:St}{w:World}{M:Env→St→Prop}{Q:yD}{x:Exit}{a:Act}{w':World}{next:Act→World→Prop}(h:Up N n0 m0 E S w (Zi M Q) x a w')
  (hn:∀E' e' S',Rel N n0 m0 E' e' S' a w'→Ext n0 E S w E' S' w'→M e' S'→next a w'):Exit.then next (Up N n0 m0 E S w Q) x a w':=by
 obtain ⟨E',e',S',r,ex,q⟩:=h;cases x <;> first|exact hn E' e' S' r ex q|exact ⟨E',e',S',r,ex,q⟩
theorem Ext.push{E:En}{S:St}{w:World}(h:SR E S w)(o:Obj):SR E S { w with heap:=w.heap.push o }∧∀n,Ext n E S w E S { w with heap:=w.heap.push o }:=by
 refine ⟨⟨h.gl.old (fun _ _ _ h=>h) (fun b _ _ _ hb _=>zw (Zp hb)),fun b o' c hc=>?_,fun l ob hl=>?_,h.dom,h.apart,fun b hb=>?_,h.inj⟩,fun n=>⟨by simp,fun _ _ _ h=>h,fun _ _ _ _ h=>h,fun _ _ h=>h,fun _ h=>.inl h,fun _ _ _ h=>.inl h,fun b hb _=>zw hb,rfl⟩⟩
 ·have:=h.I b o' c hc;rw[cell?_heap (zw (cell?_lt this))];exact this
 ·by_cases hd:ob=.dead
  ·subst hd;trivial
  exact (h.obs l ob hl).mono (En.le_refl E) (fun _ _ hx=>hx) (fun st x hx=>zw (h.lt _ ⟨l,st,x,⟨ob,hl,hd⟩,hx,rfl⟩))
 ·have:=h.lt b hb;simp;omega
theorem SR.loopSet{E:En}{S:St}{w:World}(h:SR E S w){l:Nat}{i i':LI}{x:Blk}{r r':Loop}(hl:S[l]?=some (.loop i))(hx:E.ρ l 0=some x)(hr:w.heap[x.b]?=some (.loop r))
  (h1:r'.state=i'.st) (h2:r'.pending=i'.pend) (h3:r'.params.toList=i'.ps) (h4:r'.assign=i'.asg) (h5:r'.body=i'.body) (h6:r'.tmps.size=i'.N) (h7:Z5 E i'.e r'.tmps):
  SR E (S.set l (.loop i')) (w.putObj x.b (.loop r'))∧Ext S.length E S w E (S.set l (.loop i')) (w.putObj x.b (.loop r')):=by
 have hlt:x.b<w.heap.size:=(qrb.1 hr).1;have hlive:ZP S l:=⟨_,hl,by simp⟩;refine h.change (E':=E) (w':=w.putObj x.b (.loop r')) hlive rfl (En.le_refl E) (fun _ _ _=>rfl) (fun st z hz=>.inl ⟨st,z,hz,rfl⟩) (by simp[World.putObj]) (fun b hb' hne=>?_) rfl ⟨x,r',hx,?_,h1,h2,h3,h4,h5,h6,h7⟩
 ·show (w.heap.setIfInBounds x.b _)[b]?=_;rw[qrm (hne 0 x hx)]
 ·show (w.heap.setIfInBounds x.b _)[x.b]?=_;simp[hlt]
theorem qiK{P:Program}{N n0 m0 n:Nat}{f:Operand}{g:Opd}{ps:Array Tmp}{asg body:Code}{ts:List Nat}{Q:yD}{E:En}{e:Env}{S:St}{a:Act}{w:World}(hg:qj f=some g)
  (h:Unit→match g.ev e with
  | some (.fn (.func k) fs cs)=>∃R,qt P k (fs++[.yld S.length]++cs) (S++[.loop ⟨.ready,none,ps.toList,asg,body,e.keep ts,N⟩]) R∧∀r S',R r S'→∃i,S'[S.length]?=some (.loop i)∧i.st≠.busy∧
   match i.pend with
   | none=>Q .normal e (S'.set S.length (.loop { i with st:=.exhausted }))
   | some .ret=>Q .ret e (S'.set S.length (.loop { i with st:=.exhausted }))
   | some (.exit id)=>Q (.exit id) e (S'.set S.length (.loop { i with st:=.exhausted }))
   | some _=>False
  | _=>False) (hr:Rel N n0 m0 E e S a w):(Code.rangeFunc f ps asg body).wpIn (yL none) n P (Up N n0 m0 E S w Q) a w:=by
 have h:=h ();split at h <;> try exact h.elim
 rename_i k fs cs hv;obtain ⟨R,hspec,hnext⟩:=h;have hfv:=qp hr.tmps hg hv;generalize hu:a.eval f=u at hfv
 obtain ⟨us,ws,rfl,b1,b2,b3,b4⟩:∃us ws,u=.func (.func k) us ws∧fs.length=us.size∧cs.length=ws.size∧(∀(i:Nat) (v:V) (u:Value),fs[i]?=some v→us[i]?=some u→VR E v u)∧(∀(i:Nat) (v:V) (u:Value),cs[i]?=some v→ws[i]?=some u→VR E v u):=by
  cases hfv with
  | fn h1 h2 g1 g2=>exact ⟨_,_,rfl,h1,h2,g1,g2⟩
 refine wpIn_rangeFunc fun fn _=>?_
 let w1:World:={ w with heap:=w.heap.push (.deferred (some [])) }
 obtain ⟨p1,p2⟩:=Ext.push hr.sr (.deferred (some []))
 let rec0:Loop:={ state:=.ready,pending:=none,fn,tmps:=a.tmps,params:=ps,assign:=asg,body,defers:=w.heap.size }
 let w2:World:={ w1 with heap:=w1.heap.push (.loop rec0) }
 have hsz1:w1.heap.size=w.heap.size+1:=by simp[w1]
 have hno:E.ρ S.length 0=none:=by
  cases hx:E.ρ S.length 0 with
  | none=>rfl
  | some y=>exact absurd (hr.sr.dom _ _ _ hx) (by omega)
 obtain ⟨q1,q2⟩:=p1.new (o:=.loop rec0) (ob:=.loop ⟨.ready,none,ps.toList,asg,body,e.keep ts,N⟩) (st:=0) (N:=0) (sz:=0) ⟨⟨w1.heap.size,0,0⟩,rec0,zi,Q5,rfl,rfl,rfl,rfl,rfl,hr.size,(hr.tmps.keep ts).mono (JW hno)⟩;have hle:E.le (E.at S.length 0 ⟨w1.heap.size,0,0⟩):=JW hno;have hext:Ext S.length E S w (E.at S.length 0 ⟨w1.heap.size,0,0⟩) _ w2:=(p2 S.length).trans q2
 have hmarks:YH m0 (E.at S.length 0 ⟨w1.heap.size,0,0⟩) (S++[.loop ⟨.ready,none,ps.toList,asg,body,e.keep ts,N⟩]) w2 ([{ target:=.collected w.heap.size,args:=#[] }]++a.defers):=by
  have hm:=YH.step hext hr.defers;refine ⟨hm.1,⟨w.heap.size,rfl,hr.defers.1,?_,fun ho=>?_,fun d' hd' he=>?_⟩,hm.2⟩
  ·show (w1.heap.push _)[w.heap.size]?=_;rw[qrZ,if_neg (by omega)];simp[w1]
  ·rcases q2.own _ ho with ho|ho
   ·exact absurd (hr.sr.lt _ ho) (by omega)
   ·exact absurd (show w1.heap.size≤w.heap.size from ho) (by omega)
  ·have:∀(l:List Deferred),ZR m0 E S w l→∀d,d∈l→∃r,d.target=.collected r∧r<w.heap.size:=by
    intro l
    induction l with
    | nil=>intro _ d hd;cases hd
    | cons d0 l ih=>
     rintro ⟨⟨r,k1,_,k3,_⟩,hl⟩ d hd;rcases qrl.1 hd with rfl|hd
     ·exact ⟨r,k1,(qrb.1 k3).1⟩
     ·exact ih hl d hd
   obtain ⟨r,k1,k2⟩:=this _ hr.defers.2 d' hd';rw[he] at k1;cases k1;omega
 have hyld:VR (E.at S.length 0 ⟨w1.heap.size,0,0⟩) (.yld S.length) (.func (.yield (w.heap.size+1)) #[] #[]):=by
  have:=VR.yld (E:=E.at S.length 0 ⟨w1.heap.size,0,0⟩) (l:=S.length) (x:=⟨w1.heap.size,0,0⟩) zi;rw[hsz1] at this ⊢;exact this
 refine ⟨w.heap.size+1,[{ target:=.collected w.heap.size,args:=#[] }],w2,{ target:=.fn (.func k) ws,args:=us++#[.func (.yield (w.heap.size+1)) #[] #[]] },w2,k,us++#[.func (.yield (w.heap.size+1)) #[] #[]]++ws,w2,?_,?_,fun _ _=>trivial,?_,fun hd=>by simp[yL,Fence.wide] at hd,?_⟩
 ·exact run_enterLoop_outer fn a.tmps ps asg body
 ·simp only[resolve,rangeCall,hu,Deferred.ofValue,Sem.run_bind,Sem.run_pure,Result.andThen];rw[show Array.map a.eval #[Operand.const (Value.func (Fn.yield (w.heap.size+1)) #[] #[])]=#[Value.func (Fn.yield (w.heap.size+1)) #[] #[]] by simp[Act.eval]]
 ·simp only[invoke];exact hspec.1 _ w2
 ·have hargs:VRs (E.at S.length 0 ⟨w1.heap.size,0,0⟩) (fs++[.yld S.length]++cs) (us++#[.func (.yield (w.heap.size+1)) #[] #[]]++ws):=by
   refine ⟨by simp[b1,b2];omega,fun i v u hv hu=>?_⟩;rw[qrc] at hv;rw[Array.append_assoc] at hu;by_cases hi:i<fs.length
   ·rw[qqW hi] at hv;rw[qrW (by omega)] at hu;exact (b3 i v u hv hu).mono hle
   ·rw[qqU (by omega)] at hv;rw[qsn (by omega),←b1] at hu;by_cases hj:i - fs.length=0
    ·rw[hj] at hv hu;rw[qrW (by simp)] at hu;simp at hv hu;subst hv;subst hu;exact hyld
    ·rw[qqU (by simp;omega)] at hv;rw[qsn (by simp;omega)] at hu;exact (b4 _ v u (by simpa using hv) (by simpa using hu)).mono hle
  refine CallsIn.mono (hspec.2 _ w2 _ (n - 1) q1 hargs) ?_;rintro ed w3 ⟨uv,r,E',S',rfl,hR,hvr,hsr,hext',hlen⟩;obtain ⟨i,hi,hst,hq⟩:=hnext r S' hR;obtain ⟨x,rc,r1,r2,r3,r4,r5,r6,r7,r8,r9⟩:=hsr.obs _ _ hi
  have hx:x.b=w.heap.size+1:=by
   have hlt:S.length<(S++[Ob.loop ⟨.ready,none,ps.toList,asg,body,e.keep ts,N⟩]).length:=by simp
   have:=hext'.ρ S.length 0 _ hlt zi;rw[r1] at this;cases this;exact hsz1
  rw[hx] at r2;have hnb:rc.state≠.busy:=by rw[r3];exact hst
  obtain ⟨s1,s2⟩:=hsr.loopSet (i':={ i with st:=.exhausted }) (r':={ rc with state:=.exhausted }) hi r1 (by rw[hx];exact r2) rfl r4 r5 r6 r7 r8 r9;rw[hx] at s1 s2;have hbase:S.length≤S'.length:=by simp at hlen;omega
  have hrel:Rel N n0 m0 E' e (S'.set S.length (.loop { i with st:=.exhausted })) { a with defers:=[{ target:=.collected w.heap.size,args:=#[] }]++a.defers } (w3.putObj (w.heap.size+1) (.loop { rc with state:=.exhausted })):=by
   refine ⟨(hr.tmps.mono hle).mono (hext'.le q1),hr.size,?_,by simp;exact qrt hr.base hbase,s1⟩;exact YH.step s2 (YH.step hext' hmarks)
  have hxx:Ext n0 E S w E' (S'.set S.length (.loop { i with st:=.exhausted })) (w3.putObj (w.heap.size+1) (.loop { rc with state:=.exhausted })):=
   (hext.less hr.base).trans ((hext'.less (qrt hr.base (by simp))).trans (s2.less (qrt hr.base hbase)))
  refine ⟨rc.pending,_,run_endLoop r2 hnb,?_⟩;generalize hpd:rc.pending=pd;rw[hpd] at r4;have hrel':=hrel;have hxx':=hxx;rw[hpd] at hrel' hxx';split at hq
  ·rename_i hp;rw[hp] at r4;subst r4;exact ⟨E',e,_,hrel',hxx',hq⟩
  ·rename_i hp;rw[hp] at r4;subst r4;exact wpIn_ret ⟨E',e,_,hrel',hxx',hq⟩
  ·rename_i id hp;rw[hp] at r4;subst r4;exact wpIn_exit ⟨E',e,_,hrel',hxx',hq⟩
  ·exact hq.elim
theorem qaD{P:Program}{N n0 m0:Nat}{ro:Option Nat}{n:Nat}:∀(c:Code) (c':C') (Q:yD) (E:En) (e:Env) (S:St) (a:Act) (w:World),
  comp P N c=some c'→Rel N n0 m0 E e S a w→WP P c' Q e S→(ro=none∨c'.noRf=true)→c.wpIn (yL ro) n P (Up N n0 m0 E S w Q) a w:=by
 intro c
 induction c with
 | skip=>
  intro c' Q E e S a w hc hr h hro;simp only[comp] at hc;cases hc;exact wpIn_skip ⟨E,e,S,hr,Ext.refl _ _ _ _,h⟩
 | label l=>
  intro c' Q E e S a w hc hr h hro;simp only[comp] at hc;cases hc;exact wpIn_label ⟨E,e,S,hr,Ext.refl _ _ _ _,h⟩
 | region id ops draw=>
  intro c' Q E e S a w hc hr h hro;simp only[comp] at hc;split at hc
  ·rename_i hd;subst hd
   cases hd:JP P N ops with
   | some p=>
    obtain ⟨ds,zs,o'⟩:=p;rw[hd] at hc;cases hc;obtain ⟨ops',o,rfl,h1,h2,h3⟩:=kM hd;exact qbP h3 h1 h2 hr h
   | none=>
   rw[hd] at hc;simp only at hc
   cases hl:yG P N ops with
   | none=>rw[hl] at hc;cases hc;exact h.elim
   | some p=>
    rw[hl] at hc;cases hc;exact qeq hl hr h
  ·rename_i hd;have:draw=false:=by simpa using hd
   subst this
   cases hl:ops.toList.mapM (zM P N ops) with
   | none=>rw[hl] at hc;cases hc;exact h.elim
   | some l'=>
    rw[hl] at hc;cases hc;exact wpIn_region_list (yl ops.toList l' E e S a w hl hr h)
 | seq x y ihx ihy=>
  intro c' Q E e S a w hc hr h hro;simp only[comp] at hc;split at hc <;> cases hc;rename_i x' y' hx hy;refine wpIn_seq (wpIn_mono (ihx x' _ E e S a w hx hr h (hro.imp (fun h=>h) fun h=>by simp[C'.noRf] at h;exact h.1)) fun ex a' w' hq=>?_);exact hq.then fun E' e' S' r x q=>wpIn_mono (ihy y' Q E' e' S' a' w' hy r q (hro.imp (fun h=>h) fun h=>by simp[C'.noRf] at h;exact h.2)) fun ex a'' w'' g=>g.back x
 | cond c x y ihx ihy=>
  intro c' Q E e S a w hc hr h hro;simp only[comp] at hc;split at hc <;> cases hc;rename_i c' x' y' hcc hx hy;simp only[WP] at h;split at h
  ·rename_i t ht;have hv:=qp hr.tmps hcc ht;generalize hu:a.eval c=u at hv;cases hv;refine wpIn_cond_split hu (fun ht=>ihx x' Q E e S a w hx hr (h.1 ht) (hro.imp (fun h=>h) fun h=>by simp[C'.noRf] at h;exact h.1)) (fun ht=>ihy y' Q E e S a w hy hr (h.2 ht) (hro.imp (fun h=>h) fun h=>by simp[C'.noRf] at h;exact h.2))
  ·exact h.elim
 | block id c ih=>
  intro c' Q E e S a w hc hr h hro;simp only[comp] at hc
  cases hx:comp P N c with
  | none=>rw[hx] at hc;cases hc
  | some x'=>
   rw[hx] at hc;cases hc;refine wpIn_block (wpIn_mono (ih x' _ E e S a w hx hr h (hro.imp (fun h=>h) fun h=>by simp[C'.noRf] at h;exact h)) fun ex a' w' hq=>?_);obtain ⟨E',e',S',r,x,q⟩:=hq;cases ex <;> simp only[Exit.inBlock,Zh] at q ⊢<;> try exact ⟨E',e',S',r,x,q⟩
   split
   ·rename_i hid;rw[if_pos hid] at q;exact ⟨E',e',S',r,x,q⟩
   ·rename_i hid;rw[if_neg hid] at q;exact ⟨E',e',S',r,x,q⟩
 | scope c ih=>
  intro c' Q E e S a w hc hr h hro;simp only[comp] at hc
  cases hx:comp P N c with
  | none=>rw[hx] at hc;cases hc
  | some x'=>
   rw[hx] at hc;cases hc;refine qd2 (wpIn_mono (ih x' _ E e S a w hx hr h (hro.imp (fun h=>h) fun h=>by simp[C'.noRf] at h;exact h)) fun ex a' w' hq=>?_);obtain ⟨E',e',S',r,x,q⟩:=hq;cases ex <;> simp only[Exit.noGoto,jG] at q ⊢<;> exact ⟨E',e',S',r,x,q⟩
 | loop c ih=>
  intro c' Q E e S a w hc hr h hro;simp only[comp] at hc
  cases hx:comp P N c with
  | none=>rw[hx] at hc;cases hc
  | some x'=>
   rw[hx] at hc;cases hc;obtain ⟨I,k,⟨e0,hsub,h0⟩,hround⟩:=h
   let J:Nat→Act→World→Prop:=fun k a' w'=>∃E' e' S',Rel N n0 m0 E' e' S' a' w'∧Ext n0 E S w E' S' w'∧I k e' S'
   refine wpIn_loop (fun a' w'=>∃k,J k a' w') (fun a' w'=>leastOf fun k=>J k a' w') ⟨k,E,e0,S,hr.sub hsub,Ext.refl _ _ _ _,h0⟩ ?_;intro a1 w1 hI;obtain ⟨E1,e1,S1,r1,x1,i1⟩:=(leastOf_spec hI).1;refine wpIn_mono (ih x' _ E1 e1 S1 a1 w1 hx r1 (hround _ e1 S1 i1) (hro.imp (fun h=>h) fun h=>by simp[C'.noRf] at h;exact h)) fun ex a' w' hq=>?_
   obtain ⟨E',e',S',r,x,q⟩:=hq;cases ex
   case normal=>
    obtain ⟨k',hlt,e2,hs2,hi2⟩:=q;have hJ:J k' a' w':=⟨E',e2,S',r.sub hs2,x1.trans x,hi2⟩;exact ⟨⟨k',hJ⟩,Nat.lt_of_le_of_lt ((leastOf_spec ⟨k',hJ⟩).2 k' hJ) hlt⟩
   all_goals exact ⟨E',e',S',r,x1.trans x,q⟩
 | exit id=>
  intro c' Q E e S a w hc hr h hro;simp only[comp] at hc;cases hc;exact wpIn_exit ⟨E,e,S,hr,Ext.refl _ _ _ _,h⟩
 | ret=>
  intro c' Q E e S a w hc hr h hro;simp only[comp] at hc;cases hc;exact wpIn_ret ⟨E,e,S,hr,Ext.refl _ _ _ _,h⟩
 | rangeFunc f ps asg body iha ihb=>
  intro c' Q E e S a w hc hr h hro;simp only[comp] at hc;split at hc
  case h_2=>cases hc;exact h.elim
  rename_i g ca cb hg hca hcb;split at hc
  case isFalse=>cases hc;exact h.elim
  cases hc;rename_i hst;have hro':ro=none:=hro.resolve_right (by simp[C'.noRf]);subst hro';exact qiK hg (fun _=>h hca hcb) hr
 | _=>intro c' Q E e S a w hc hr h hro;simp only[comp,Option.some.injEq] at hc;subst hc;exact h.elim
inductive RV where
 | t (t:Nat)
 | cell (t:Nat) (k:Option Nat)
 deriving Inhabited
structure F' where
 N:Nat
 rs:List RV
 body:C'
 deriving Inhabited
def J0(P:Program):ResultVar→Option RV
 | .tmp t=>some (.t t)
 | .cell a t=>(zf P t).map (.cell a)
def ZW(P:Program)(fn:Func):Option F':=
 match fn.body,fn.results.toList.mapM (J0 P) with
 | some c, some rs => if fn.name = "runtime.NumGoroutine" then none else (comp P fn.ntmps c).map fun c' => ⟨fn.ntmps, rs, c'⟩
 | _,_=>none
def rvs(e:Env)(S:St):List RV→Option (List V)
 | []=>some []
 | .t t::rs=>match e.get t,rvs e S rs with
  | some v,some vs=>some (v::vs)
  | _,_=>none
 | .cell t k::rs=>match e.get t,rvs e S rs with
  | some p,some vs=>(ldS S p k).map fun v=>v::vs
  | _,_=>none
def qo:List V→V
 | [v]=>v
 | vs=>.tup vs
def zp(n:Nat)(r:V)(S:St)(r':V)(S':St):Prop:=
 ∀(E:En) (w:World) (u:Value),SR E S w→VR E r u→n≤S.length→∃E',VR E' r' u∧SR E' S' w∧Ext n E S w E' S' w∧n≤S'.length
theorem zp.refl(n:Nat)(r:V)(S:St):zp n r S r S:=fun E w u hs hr hn=>⟨E,hr,hs,Ext.refl _ _ _ _,hn⟩
theorem zp.trans{n:Nat}{r r1 r2:V}{S S1 S2:St}(h:zp n r S r1 S1)(g:zp n r1 S1 r2 S2):zp n r S r2 S2:=fun E w u hs hr hn=>by
 obtain ⟨E1,a1,a2,a3,a4⟩:=h E w u hs hr hn;obtain ⟨E2,b1,b2,b3,b4⟩:=g E1 w u a2 a1 a4;exact ⟨E2,b1,b2,a3.trans b3,b4⟩
theorem zp.cut{n m:Nat}{r:V}{S:St}(hr:r.under m=true)(hS:∀o,o∈S.take m→o.under m=true)(hn:n≤m)(hm:m≤S.length):zp n r S r (S.take m):=fun E w u hs hv hn'=>by
 obtain ⟨h1,h2⟩:=hs.cut hS hm;exact ⟨E.cut m,hv.cut hr,h1,h2 n hn,by simp;omega⟩
theorem zp.freeze{n l off len st sz wr:Nat}{S:St}{xs:List V}(ho:S[l]?=some (.arr xs sz wr))(hw:wr≤st)(hle:off+len≤st):zp n (.arr l off len st) S (.sl false ((xs.drop off).take len)) (S.set l .dead):=fun E w u hs hv hn=>by
 obtain ⟨E',h1,h2,_,h3⟩:=hs.freeze ho hw hv hle;exact ⟨E',h3,h1,h2 n,by simpa using hn⟩
def JQ(rs:List RV)(n:Nat)(R:V→St→Prop):yD
 | .normal,e,S|.ret,e,S=>∃vs,rvs e S rs=some vs∧∃r' S',zp n (qo vs) S r' S'∧R r' S'
 | _,_,_=>False
def yo:Nat→List V→Env
 | _,[]=>[]
 | k,v::vs=>(k,v)::yo (k+1) vs
theorem YX:∀(vs:List V) (k t:Nat) (v:V),(yo k vs).get t=some v→k≤t∧vs[t - k]?=some v
 | [],k,t,v,h=>by simp[yo,Env.get] at h
 | x::vs,k,t,v,h=>by
  simp only[yo,Env.get] at h;split at h
  ·rename_i hk;subst hk;cases h;simp
  ·obtain ⟨h1,h2⟩:=YX vs (k+1) t v h;refine ⟨by omega,?_⟩;obtain ⟨d,rfl⟩:∃d,t=k+1+d:=⟨t - (k+1),by omega⟩;rw[show k+1+d - (k+1)=d by omega] at h2;rw[show k+1+d - k=d+1 by omega,qsh];exact h2
def qm4(tmps:Array Value):ResultVar→Sem Value
 | .tmp t=>Pure.pure (tmps.getD t undef)
 | .cell a t=>do loadVar t (←asAddr (tmps.getD a undef))
theorem qga{P:Program}{E:En}{e:Env}{S:St}{w:World}{tmps:Array Value}(ht:Z5 E e tmps)(hs:SR E S w):∀(l:List ResultVar) (rs:List RV) (vs:List V),l.mapM (J0 P)=some rs→rvs e S rs=some vs→
  ∃us:List Value,us.length=vs.length∧(∀(i:Nat) (v:V) (u:Value),vs[i]?=some v→us[i]?=some u→VR E v u)∧
   ∀acc:Array Value,(l.foldlM (fun (acc:Array Value) r=>do let b ←qm4 tmps r;Pure.pure (acc.push b)) acc:Sem (Array Value)).run P w=.ok (acc++us.toArray) w
 | [],rs,vs,h1,h2=>by
  simp at h1;subst h1;simp only[rvs] at h2;cases h2;exact ⟨[],rfl,fun i v u h=>by simp at h,fun acc=>by simp⟩
 | r::l,rs,vs,h1,h2=>by
  simp only[qsj,qrQ] at h1
  cases hc:J0 P r with
  | none=>rw[hc] at h1;simp at h1
  | some r'=>
   rw[hc] at h1
   cases hl:l.mapM (J0 P) with
   | none=>rw[hl] at h1;simp at h1
   | some rs'=>
    rw[hl] at h1;simp at h1;subst h1
    have one:∃v vs' u,vs=v::vs'∧rvs e S rs'=some vs'∧VR E v u∧(qm4 tmps r).run P w=.ok u w:=by
     cases r with
     | tmp t=>
      simp only[J0] at hc;cases hc;simp only[rvs] at h2;split at h2 <;> cases h2;rename_i v vs' hv hvs;obtain ⟨u,hu,hr⟩:=ht _ _ hv;exact ⟨v,vs',u,rfl,hvs,hr,by simp[qm4,hu]⟩
     | cell a t=>
      simp only[J0] at hc
      cases hk:zf P t with
      | none=>rw[hk] at hc;cases hc
      | some k=>
       rw[hk] at hc;cases hc;simp only[rvs] at h2;split at h2 <;> try cases h2
       rename_i p vs' hv hvs
       cases hd:ldS S p k with
       | none=>rw[hd] at h2;cases h2
       | some v=>
        rw[hd] at h2;cases h2;obtain ⟨u,hu,hr⟩:=ht _ _ hv;obtain ⟨d,h3,h4⟩:=qdk (P:=P) hs hr hk hd;refine ⟨v,vs',d,rfl,hvs,h4,?_⟩;have hg:tmps.getD a undef=u:=by simp[hu]
        simp only[qm4,hg];cases hr <;> simp[ldS] at hd <;> simpa[Instr.loadAt,Instr.sureAddr,asAddr,Result.andThen] using h3
    obtain ⟨v,vs',u,rfl,hvs,hr,hrun⟩:=one;obtain ⟨us,i1,i2,i3⟩:=qga ht hs l rs' vs' hl hvs;refine ⟨u::us,by simp[i1],fun i v' u' h h'=>?_,fun acc=>?_⟩
    ·cases i with
     | zero=>simp at h h';subst h;subst h';exact hr
     | succ i=>exact i2 i v' u' (by simpa using h) (by simpa using h')
    ·simp only[List.foldlM_cons,Sem.run_bind,hrun,Result.andThen,Sem.run_pure];rw[i3];simp
theorem qb8{P:Program}{E:En}{e:Env}{S:St}{w:World}{tmps:Array Value}{fn:Func}{rs:List RV}{vs:List V}(ht:Z5 E e tmps)(hs:SR E S w)(hc:fn.results.toList.mapM (J0 P)=some rs)(h:rvs e S rs=some vs):
  ∃u,(results fn tmps).run P w=.ok u w∧VR E (qo vs) u:=by
 obtain ⟨us,i1,i2,i3⟩:=qga (P:=P) ht hs fn.results.toList rs vs hc h
 have hm:(fn.results.mapM (qm4 tmps)).run P w=.ok us.toArray w:=by
  rw[Array.mapM_eq_foldlM_push,←Array.foldlM_toList,i3];simp
 refine ⟨if h:us.toArray.size=1 then us.toArray[0] else .tuple us.toArray,?_,?_⟩
 ·have hres:results fn tmps=(do let vs ←fn.results.mapM (qm4 tmps);Pure.pure (if h:vs.size=1 then vs[0] else .tuple vs)):=by
   unfold results;congr 1
  rw[hres];simp only[Sem.run_bind,hm,Result.andThen,Sem.run_pure]
 ·by_cases h1:us.length=1
  ·match us,vs,h1,i1 with
   | [u],[v],_,_=>simpa[qo] using i2 0 v u rfl rfl
  ·rw[dif_neg (by simpa using h1)]
   have:qo vs=.tup vs:=by
    match vs,i1 with
    | [],_=>rfl
    | [v],h=>simp at h;exact absurd h h1
    | _::_::_,_=>rfl
   rw[this];exact .tup (by simp[i1]) (fun i v u hv hu=>i2 i v u hv (by simpa using hu))
def qqh(m:Nat)(w w':World):Prop:=w'.heap.size=w.heap.size∧(∀b,b<m→w'.heap[b]?=w.heap[b]?)∧(w'.output,w'.os)=(w.output,w.os)
theorem Ext.same{n:Nat}{E E':En}{S S':St}{w w' w'':World}(h:Ext n E S w E' S' w')(g:qqh w.heap.size w' w''):Ext n E S w E' S' w'':=
 { h with size:=by rw[g.1];exact h.size,frame:=fun b hb hn=>(g.2.1 b hb).trans (h.frame b hb hn),out:=g.2.2.trans h.out }
theorem SR.shut{E:En}{S:St}{w:World}(h:SR E S w){r:Nat}{ds:Option (List Deferred)}{o:Obj}(hr:w.heap[r]?=some (.deferred ds))(hno:¬ own E S r):SR E S { w with heap:=w.heap.setIfInBounds r o }:=by
 have hlt:r<w.heap.size:=(qrb.1 hr).1
 have other:∀b,b≠r→({ w with heap:=w.heap.setIfInBounds r o }:World).heap[b]?=w.heap[b]?:=fun b hb=>by
  show (w.heap.setIfInBounds r o)[b]?=_;rw[qrm (Ne.symm hb)]
 refine ⟨h.gl.old (fun _ _ _ h=>h) (fun b _ _ _ hb _=>other b fun he=>by subst he;rw[hr] at hb;cases hb),fun b o' c hc=>?_,fun l ob hl=>?_,h.dom,h.apart,fun b hb=>?_,h.inj⟩
 ·have h1:=h.I b o' c hc
  have hne:b≠r:=by
   rintro rfl;unfold World.cell? at h1;simp[hr] at h1
  rw[cell?_heap (other b hne)];exact h1
 ·by_cases hd:ob=.dead
  ·subst hd;trivial
  exact (h.obs l ob hl).mono (En.le_refl E) (fun _ _ hx=>hx) fun st x hx=>other _ fun he=>hno ⟨l,st,x,⟨ob,hl,hd⟩,hx,he⟩
 ·show b<(w.heap.setIfInBounds r o).size;simp;exact h.lt b hb
theorem J5{P:Program}{n m:Nat}{fn:Func}{tmps:Array Value}{R:Ending→World→Prop}{E:En}{S:St}:∀{ds:List Deferred} {w:World},SR E S w→ZR m E S w ds→
  (∀w',SR E S w'→qqh m w w'→∃v,(results fn tmps).run P w'=.ok v w'∧R (.returned v) w')→LeavesInM Fence.wide n P fn tmps R ds .returning w
 | [],w,hs,_,h=>h w hs ⟨rfl,fun _ _=>rfl,rfl⟩
 | d::ds,w,hs,⟨⟨r,h1,h2,h3,h4,h5⟩,hd⟩,h=>by
  refine ⟨by simp,.inl ⟨r,_,h1,run_takeDeferred h3,?_⟩⟩;have hs':=hs.shut (o:=.deferred none) h3 h4;refine J5 (m:=m) hs' ?_ fun w' hs'' hsame=>h w' hs'' ?_
  ·have hne:∀b,b≠r→({ w with heap:=w.heap.setIfInBounds r (.deferred none) }:World).heap[b]?=w.heap[b]?:=fun b hb=>by
    show (w.heap.setIfInBounds r _)[b]?=_;rw[qrm (Ne.symm hb)]
   have:∀(l:List Deferred),(∀d',d'∈l→d'.target≠.collected r)→ZR m E S w l→ZR m E S { w with heap:=w.heap.setIfInBounds r (.deferred none) } l:=by
    intro l
    induction l with
    | nil=>intro _ _;trivial
    | cons d' l ih=>
     rintro hne' ⟨⟨r',k1,k2,k3,k4,k5⟩,hl⟩;have hrr:r'≠r:=fun he=>hne' d' (by simp) (by rw[k1,he])
     exact ⟨⟨r',k1,k2,(hne r' hrr).trans k3,k4,k5⟩,ih (fun d'' hd''=>hne' d'' (by simp[hd''])) hl⟩
   exact this ds h5 hd
  ·refine ⟨hsame.1.trans (by simp),fun b hb=>(hsame.2.1 b hb).trans ?_,hsame.2.2⟩;show (w.heap.setIfInBounds r _)[b]?=_;rw[qrm (by omega)]
theorem qt.intro{P:Program}{f:FuncId}{fn:Func}{f':F'}{args:List V}{S:St}{R:V→St→Prop}(hf:P.funcs[f]?=some fn)(hc:ZW P fn=some f')(ha:args.length≤f'.N)
  (h:WP P f'.body (JQ f'.rs S.length R) (yo 0 args) S):qt P f args S R:=by
 unfold ZW at hc;split at hc
 ·rename_i c rs hb hrs;split at hc
  ·cases hc
  ·rename_i hname
   cases hx:comp P fn.ntmps c with
   | none=>rw[hx] at hc;cases hc
   | some c'=>
    rw[hx] at hc;cases hc;refine ⟨fun as w=>?_,fun E w us n hs hv=>?_⟩
    ·simp[callFunc,program,Sem.run,Result.andThen,hf,hname,hb]
    ·refine callsIn_of_wp_marks hf hb trivial ?_;simp only at ha h;obtain ⟨v1,v2⟩:=hv
     have hrel:Rel fn.ntmps S.length w.heap.size E (yo 0 args) S { tmps:=us++Array.replicate (fn.ntmps - us.size) undef,defers:=[] } w:=by
      refine ⟨fun t v ht=>?_,by simp;omega,⟨qqY _,trivial⟩,qqY _,hs⟩;obtain ⟨_,h2⟩:=YX args 0 t v ht;simp only[Nat.sub_zero] at h2;have hlt:=(qqT.1 h2).1;have hu:us[t]?=some (us[t]'(by omega)):=by simp
      exact ⟨_,by rw[qrW (by omega)];exact hu,v2 t v _ h2 hu⟩
     have hwp:=qaD (ro:=none) (n:=n) c c' _ E _ S _ w hx hrel h (.inl rfl);refine wpIn_mono (show c.wpIn Fence.wide n P _ _ w from hwp) ?_;rintro ex a' w' ⟨E',e',S',r,x,q⟩;cases ex <;> simp only[JQ] at q
     all_goals
      obtain ⟨vs,h1,r',S2,hg,hR⟩:=q
      refine J5 r.sr r.defers.2 fun w'' hs'' hsame=>?_
      obtain ⟨u,h3,h4⟩:=qb8 (P:=P) r.tmps hs'' hrs h1
      obtain ⟨E2,g1,g2,g3,g4⟩:=hg E' w'' u hs'' h4 r.base
      exact ⟨u,h3,u,r',E2,S2,rfl,hR,g1,g2,(x.same hsame).trans g3,g4⟩
 ·cases hc
theorem qt.ib{P:Program}{f:FuncId}{fn:Func}{f':F'}{args:List V}{S:St}{R:V→St→Prop}(hf:P.funcs[f]?=some fn)(hc:ZW P fn=some f')(h:WP P f'.body (JQ f'.rs S.length R) (yo 0 args) S)(ha:Nat.ble args.length f'.N=true:=by rfl):qt P f args S R:=qt.intro hf hc (Nat.le_of_ble_eq_true ha) h
def QL:List Nat→List V→Env→Env
 | p::ps,v::vs,e=>QL ps vs (e.put (some p) v)
 | _,_,e=>e
theorem j9{E:En}:∀(ps:List Nat) (vs:List V) (us:List Value) (e:Env) (T:Array Value),Z5 E e T→(∀p,p∈ps→p<T.size)→vs.length=us.length→(∀(i:Nat) (v:V) (u:Value),vs[i]?=some v→us[i]?=some u→VR E v u)→
  Z5 E (QL ps vs e) ((ps.zip us).foldl (fun T p=>T.setIfInBounds p.1 p.2) T)∧((ps.zip us).foldl (fun T p=>T.setIfInBounds p.1 p.2) T).size=T.size
 | [],vs,us,e,T,h,_,_,_=>by cases vs <;> exact ⟨h,rfl⟩
 | p::ps,[],us,e,T,h,_,hl,_=>by
  have:us=[]:=qrq (by simpa using hl.symm);subst this;exact ⟨h,rfl⟩
 | p::ps,v::vs,[],e,T,h,_,hl,_=>by simp at hl
 | p::ps,v::vs,u::us,e,T,h,hp,hl,hv=>by
  have:=j9 ps vs us (e.put (some p) v) (T.setIfInBounds p u) (h.put (hp p (by simp)) (hv 0 v u rfl rfl)) (fun q hq=>by simp;exact hp q (by simp[hq])) (by simpa using hl) (fun i v' u' h1 h2=>hv (i+1) v' u' (by simpa using h1) (by simpa using h2));simp only[List.zip_cons_cons,qsD,QL];exact ⟨this.1,by rw[this.2];simp⟩
def Jp(l:Nat)(R:V→St→Prop):yD
 | .normal,_,S=>∃i,S[l]?=some (.loop i)∧R (.bool true) (S.set l (.loop { i with st:=.ready,pend:=none }))
 | .ret,_,S=>∃i,S[l]?=some (.loop i)∧R (.bool false) (S.set l (.loop { i with st:=.done,pend:=some .ret }))
 | .exit id,_,S=>∃i,S[l]?=some (.loop i)∧R (.bool false) (S.set l (.loop { i with st:=.done,pend:=some (.exit id) }))
 | _,_,_=>False
def qa6(P:Program)(l:Nat)(cb:C')(R:V→St→Prop):yD
 | .normal,e,S=>∃i,S[l]?=some (.loop i)∧i.st=.ready∧WP P cb (Jp l R) e (S.set l (.loop { i with st:=.busy }))
 | _,_,_=>False
theorem ye.intro{P:Program}{l:Nat}{args:List V}{S:St}{R:V→St→Prop}{i:LI}{ca cb:C'}(hl:S[l]?=some (.loop i))(hca:comp P i.N i.asg=some ca)(hcb:comp P i.N i.body=some cb)(hst:i.st=.ready)
  (na:ca.noRf=true) (nb:cb.noRf=true) (hlen:args.length=i.ps.length) (hps:i.ps.all (fun p=>decide (p<i.N))=true)
  (h:WP P ca (qa6 P l cb R) (QL i.ps args i.e) S):ye P l args S R:=by
 intro E w us n x hs hv hx;obtain ⟨x',rc,r1,r2,r3,r4,r5,r6,r7,r8,r9⟩:=hs.obs _ _ hl;rw[hx] at r1;cases r1;obtain ⟨v1,v2⟩:=hv;refine ⟨rc.fn,_,rc.assign,rc.body,run_yield r2 (by rw[←v1,hlen,←r5];simp),?_⟩;simp only[qri,decide_eq_true_eq] at hps;obtain ⟨t1,t2⟩:=j9 i.ps args us.toList i.e rc.tmps r9 (fun p hp=>by rw[r8];exact hps p hp) (by simpa using v1) (fun j v u h1 h2=>v2 j v u h1 (by simpa using h2))
 have hT:(rc.params.zip us).foldl (fun tmps (t,a)=>tmps.setIfInBounds t a) rc.tmps=(i.ps.zip us.toList).foldl (fun T p=>T.setIfInBounds p.1 p.2) rc.tmps:=by
  rw[←Array.foldl_toList,Array.toList_zip,r5]
 rw[hT];generalize (i.ps.zip us.toList).foldl (fun T p=>T.setIfInBounds p.1 p.2) rc.tmps=T at t1 t2;rw[r6,r7];have hrel:Rel i.N S.length w.heap.size E (QL i.ps args i.e) S { tmps:=T,defers:=[] } w:=⟨t1,by rw[t2,r8],⟨qqY _,trivial⟩,qqY _,hs⟩;have hwp:=qaD (ro:=some x.b) (n:=n) i.asg ca _ E _ S _ w hca hrel h (.inr na);refine roundIn_of_wpIn trivial (wpIn_mono (show i.asg.wpIn (Fence.wide.inRound x.b) n P _ _ w from hwp) ?_);rintro ex a' w' ⟨E',e',S',r,xt,q⟩;cases ex <;> simp only[qa6] at q;obtain ⟨i',hi',hst',hb⟩:=q;obtain ⟨x',rc',q1,q2,q3,q4,q5,q6,q7,q8,q9⟩:=r.sr.obs _ _ hi';have hlt:l<S.length:=(qqT.1 hl).1;have hx':=xt.ρ l 0 _ hlt hx;rw[hx'] at q1;cases q1;refine ⟨_,run_beginRound q2 (by rw[q3];exact hst'),?_⟩;obtain ⟨s1,s2⟩:=r.sr.loopSet (i':={ i' with st:=.busy }) (r':={ rc' with state:=.busy }) hi' hx' q2 rfl q4 q5 q6 q7 q8 q9;have hrel':Rel i.N S.length w.heap.size E' e' (S'.set l (.loop { i' with st:=.busy })) a' (w'.putObj x.b (.loop { rc' with state:=.busy })):=
  ⟨r.tmps,r.size,YH.step s2 r.defers,by simp;exact r.base,s1⟩
 have hext:Ext S.length E S w E' (S'.set l (.loop { i' with st:=.busy })) (w'.putObj x.b (.loop { rc' with state:=.busy })):=xt.trans (s2.less r.base);have hwp2:=qaD (ro:=some x.b) (n:=n) i.body cb _ E' _ _ _ _ hcb hrel' hb (.inr nb);refine wpIn_mono (show i.body.wpIn (Fence.wide.inRound x.b) n P _ _ _ from hwp2) ?_;rintro ex a2 w2 ⟨E2,e2,S2,r2',xt2,q2'⟩;have hxx:=hext.trans xt2;have hx2:=hxx.ρ l 0 _ hlt hx;have fin:∀(j:Option Code) (i2:LI),S2[l]?=some (.loop i2)→R (.bool j.isNone) (S2.set l (.loop { i2 with st:=if j.isNone then .ready else .done,pend:=j }))→
   ∃v w',(Instr.endRound x.b j).run P w2=.ok v w'∧∃u r E' S',(Ending.returned v)=.returned u∧R r S'∧VR E' r u∧SR E' S' w'∧Ext S.length E S w E' S' w'∧S.length≤S'.length:=by
  intro j i2 hi2 hR;obtain ⟨x',rc2,p1,p2,p3,p4,p5,p6,p7,p8,p9⟩:=r2'.sr.obs _ _ hi2;rw[hx2] at p1;cases p1;obtain ⟨s1,s2⟩:=r2'.sr.loopSet (i':={ i2 with st:=if j.isNone then .ready else .done,pend:=j }) (r':={ rc2 with state:=if j.isNone then .ready else .done,pending:=j }) hi2 hx2 p2 rfl rfl p5 p6 p7 p8 p9;exact ⟨_,_,run_endRound j p2,_,_,E2,_,rfl,hR,.bool _,s1,hxx.trans (s2.less r2'.base),by simp;exact r2'.base⟩
 cases ex <;> simp only[Jp] at q2'
 ·obtain ⟨i2,hi2,hR⟩:=q2';exact fin none i2 hi2 hR
 ·obtain ⟨i2,hi2,hR⟩:=q2';exact fin (some (.exit _)) i2 hi2 hR
 ·obtain ⟨i2,hi2,hR⟩:=q2';exact fin (some .ret) i2 hi2 hR
def rfs:Code→List (Code×Code)
 | .rangeFunc _ _ a b=>[(a,b)]
 | .seq a b|.cond _ a b=>rfs a++rfs b
 | .block _ c|.loop c|.scope c=>rfs c
 | _=>[]
def QB(f:Func)(k:Nat):Code×Code:=match f.body with
 | some c=>((rfs c)[k]?).getD (.skip,.skip)
 | none=>(.skip,.skip)
mutual
def V.frz(l:Nat)(xs:List V)(wr:Nat):V→V
 | .arr l' off len st=>if l'=l∧wr≤st∧off+len≤st then .sl false ((xs.drop off).take len) else .arr l' off len st
 | .sl x ys=>.sl x (V.frzL l xs wr ys)
 | .iface t v=>.iface t (V.frz l xs wr v)
 | .agg cs=>.agg (V.frzL l xs wr cs)
 | .tup cs=>.tup (V.frzL l xs wr cs)
 | v=>v
def V.frzL(l:Nat)(xs:List V)(wr:Nat):List V→List V
 | []=>[]
 | v::vs=>V.frz l xs wr v::V.frzL l xs wr vs
end
theorem QA{l wr:Nat}{xs:List V}:∀(vs:List V),V.frzL l xs wr vs=vs.map (V.frz l xs wr)
 | []=>rfl
 | v::vs=>by simp only[V.frzL,qq8,QA vs]
theorem qbt{l wr:Nat}{xs:List V}(v:V):(v.frz l xs wr).cells=v.cells.map (V.frz l xs wr):=by
 cases v
 case arr l' off len st=>
  show (V.frz l xs wr (.arr l' off len st)).cells=[V.frz l xs wr (.arr l' off len st)];simp only[V.frz];by_cases hc:l'=l∧wr≤st∧off+len≤st
  ·rw[if_pos hc];rfl
  ·rw[if_neg hc];rfl
 all_goals simp only[V.frz,V.cells,qq8,qrY,QA]
theorem SR.freezeV{E:En}{S:St}{w:World}(h:SR E S w){l sz wr:Nat}{xs:List V}(ho:S[l]?=some (.arr xs sz wr)):
  ∃E',SR E' (S.set l .dead) w∧(∀n,Ext n E S w E' (S.set l .dead) w)∧∀v u,VR E v u→VR E' (v.frz l xs wr) u:=by
 obtain ⟨h0,h1,h2⟩:=h.obs l _ ho;have hlive:ZP S l:=⟨_,ho,by simp⟩
 open Classical in
 let mine:Np:=fun b=>∃st x,E.ρ l st=some x∧x.b=b
 open Classical in
 let E':En:={ E with I:=fun b o=>if mine b then w.cell? ⟨b,o,none⟩ else E.I b o }
 have hmo:∀b,mine b→own E S b:=fun b ⟨st,x,hx,hb⟩=>⟨l,st,x,hlive,hx,hb⟩
 have hle':E.le E':=⟨fun b o c hc=>by
  simp only[E'];split
  ·rename_i hm;rw[h.apart b o (hmo b hm)] at hc;cases hc
  ·exact hc,fun _ _ _ h=>h⟩
 have hρ:E'.ρ=E.ρ:=rfl
 have hnot:∀b,own E' (S.set l .dead) b→own E S b∧¬ mine b:=by
  rintro b ⟨l',st,x,hl',hx,rfl⟩;rw[hρ] at hx
  have hne:l'≠l:=by
   rintro rfl;obtain ⟨o,ho',hd⟩:=hl';rw[qqV (Jb hlive)] at ho';cases ho';exact hd rfl
  have hlv:ZP S l':=Qc hl' hlive;refine ⟨⟨l',st,x,hlv,hx,rfl⟩,?_⟩;rintro ⟨st',y,hy,he⟩;exact hne (h.inj l' l st st' x y hlv hlive hx hy he.symm)
 refine ⟨E',⟨h.gl.old hle'.1 (fun _ _ _ _ _ _=>rfl),?_,?_,?_,?_,?_,?_⟩,fun n=>⟨qqY _,hle'.1,fun l st x _ hx=>hx,fun _ _ hx=>hx,fun b hb=>.inl (hnot b hb).1,?_,fun _ _ _=>rfl,rfl⟩,?_⟩
 ·intro b o c hc;simp only[E'] at hc;split at hc
  ·exact hc
  ·exact h.I b o c hc
 ·intro l' o' hl';by_cases hk:l'=l
  ·subst hk;rw[qqV (Jb hlive)] at hl';cases hl';trivial
  ·rw[qqX (Ne.symm hk)] at hl';exact (h.obs l' o' hl').mono hle' (fun _ _ hx=>hx) (fun _ _ _=>rfl)
 ·intro l' st' x' hx';simpa using h.dom l' st' x' hx'
 ·intro b o hb;obtain ⟨hb1,hb2⟩:=hnot b hb;simp only[E'];rw[if_neg hb2];exact h.apart b o hb1
 ·intro b hb;exact h.lt b (hnot b hb).1
 ·intro l1 l2 st1 st2 x1 x2 hl1 hl2 hx1 hx2 he;exact h.inj l1 l2 st1 st2 x1 x2 (Qc hl1 hlive) (Qc hl2 hlive) hx1 hx2 he
 ·intro b o c hc;simp only[E'] at hc;split at hc
  ·rename_i hm;exact .inr (.inl (hmo b hm))
  ·exact .inl hc
 ·intro v u hv
  induction hv with
  | top u=>exact .top u
  | bool b=>exact .bool b
  | int k n=>exact .int k n
  | str s=>exact .str s
  | nilp=>exact .nilp
  | ptr i off hr=>exact VR.ptr (E:=E') i off hr
  | iptr off hI hv _=>exact (VR.iptr off hI hv).mono hle'
  | glob g off=>exact .glob g off
  | slnil x=>exact .slnil x
  | slz x a=>exact .slz x a
  | sl hc hx hs hI hv ih=>
   rename_i x ys b o cap sz';simp only[V.frz,QA];have hlen:(ys.map (V.frz l xs wr)).length=ys.length:=by simp
   have hcl:∀v:V,(v.frz l xs wr).cells.length=v.cells.length:=fun v=>by rw[qbt];simp
   have:=VR.sl (E:=E') (x:=x) (xs:=ys.map (V.frz l xs wr)) (b:=b) (o:=o) (cap:=cap) (sz:=sz') (by rw[hlen];exact hc) (fun he=>by rw[hlen];exact hx he)
    (fun v hv=>by
     rw[qrf] at hv;obtain ⟨v0,hv0,rfl⟩:=hv;rw[hcl];exact hs v0 hv0)
    (fun i j hi hj=>Z8 hle' (hI i j (by rw[←hlen];exact hi) hj))
    (fun i v j c' c hv hcc hi=>by
     rw[qq7,qq3] at hv;obtain ⟨v0,hv0,rfl⟩:=hv;rw[qbt,qq7,qq3] at hcc;obtain ⟨c0,hc0,rfl⟩:=hcc;have h1:=(qqT.1 hv0).1;have h2:=(qqT.1 hc0).1;rw[hs v0 (qq1 hv0)] at h2;exact ih i v0 j c0 c hv0 hc0 (qgQ hle' (hI i j h1 h2) hi))
   rw[hlen] at this;exact this
  | arr hr hN hc=>
   rename_i l' off len cap st x;simp only[V.frz];split
   ·rename_i hk;obtain ⟨rfl,hwr,hle⟩:=hk;obtain ⟨g1,g2,C,t,g3,g4,g5,g6⟩:=h2 st x hr hwr;have hm:mine x.b:=⟨st,x,hr,rfl⟩;have hlen:((xs.drop off).take len).length=len:=by simp;omega
    have hget:∀(i:Nat) (v:V),((xs.drop off).take len)[i]?=some v→xs[off+i]?=some v∧i<len:=fun i v hv=>by
     have hi:=(qqT.1 hv).1;rw[hlen] at hi;rw[qrr hi,qrB] at hv;exact ⟨hv,hi⟩
    have hmem:∀v,v∈(xs.drop off).take len→v.cells.length=x.sz:=fun v hv=>by rw[g2];exact h1 v (List.mem_of_mem_drop (List.mem_of_mem_take hv))
    have hcell:∀(i j:Nat) (v c':V),xs[off+i]?=some v→off+i<st→v.cells[j]?=some c'→∃c,E'.I x.b (off * x.sz+i * x.sz+j)=some c∧VR E c' c:=by
     intro i j v c' hv hi hc';obtain ⟨c,hc1,hc2⟩:=g6 (off+i) v hv hi j c' hc';refine ⟨c,?_,hc2⟩;simp only[E'];rw[if_pos hm,cell?_of g3,show off * x.sz+i * x.sz+j=(off+i) * x.sz+j by rw[qrJ]];exact hc1
    have:=VR.sl (E:=E') (x:=false) (xs:=(xs.drop off).take len) (b:=x.b) (o:=off * x.sz) (cap:=cap) (sz:=x.sz) (by rw[hlen];exact hc) (fun h=>by cases h) hmem
     (fun i j hi hj=>by
      rw[hlen] at hi;have hx:xs[off+i]?=some (xs[off+i]'(by omega)):=by simp
      have hcl:(xs[off+i]'(by omega)).cells.length=x.sz:=by rw[g2];exact h1 _ (qra _)
      obtain ⟨c,hc1,_⟩:=hcell i j _ ((xs[off+i]'(by omega)).cells[j]'(by omega)) hx (by omega) (by simp);rw[hc1];rfl)
     (fun i v j c' c hv hcc hi=>by
      obtain ⟨hv',hi'⟩:=hget i v hv;obtain ⟨d,hd1,hd2⟩:=hcell i j v c' hv' (by omega) hcc;rw[hd1] at hi;cases hi;exact hd2.mono hle')
    rw[hlen] at this;exact this
   ·exact VR.arr (E:=E') hr hN hc
  | nilmap=>exact .nilmap
  | map hr=>exact VR.map (E:=E') hr
  | fn h1 h2 g1 g2 _ _=>exact (VR.fn h1 h2 g1 g2).mono hle'
  | nilfn=>exact .nilfn
  | iface t _ ih=>exact .iface t ih
  | niliface=>exact .niliface
  | yld hr=>exact VR.yld (E:=E') hr
  | agg hl g ih=>
   simp only[V.frz,QA];refine .agg (by simpa using hl) fun i v u hv hu=>?_
   rw[qq7,qq3] at hv;obtain ⟨v0,hv0,rfl⟩:=hv;exact ih i v0 u hv0 hu
  | tup hl g ih=>
   simp only[V.frz,QA];refine .tup (by simpa using hl) fun i v u hv hu=>?_
   rw[qq7,qq3] at hv;obtain ⟨v0,hv0,rfl⟩:=hv;exact ih i v0 u hv0 hu
theorem zp.freezeV{n l sz wr:Nat}{r:V}{S:St}{xs:List V}(ho:S[l]?=some (.arr xs sz wr)):zp n r S (r.frz l xs wr) (S.set l .dead):=fun E w u hs hv hn=>by
 obtain ⟨E',h1,h2,h3⟩:=hs.freezeV ho;exact ⟨E',h3 _ _ hv,h1,h2 n,by simpa using hn⟩
def V.arrs:Nat→V→List Nat
 | 0,_=>[]
 | n+1,v=>match v with
  | .arr l _ _ _=>[l]
  | .sl _ ys=>ys.flatMap (V.arrs n)
  | .iface _ v=>V.arrs n v
  | .agg cs=>cs.flatMap (V.arrs n)
  | .tup cs=>cs.flatMap (V.arrs n)
  | _=>[]
mutual
def V.same:V→V→Bool
 | .bool a,.bool b=>a==b
 | .int k a,.int k' b=>k==k' && a==b
 | .str a,.str b=>a.data.toList==b.data.toList
 | .nilp,.nilp=>true
 | .ptr a b c d,.ptr a' b' c' d'=>a==a' && b==b' && c==c' && d==d'
 | .glob a b,.glob a' b'=>a==a' && b==b'
 | .sl x xs,.sl y ys=>x==y && V.sames xs ys
 | .arr a b c d,.arr a' b' c' d'=>a==a' && b==b' && c==c' && d==d'
 | .nilmap,.nilmap=>true
 | .map l,.map l'=>l==l'
 | .nilfn,.nilfn=>true
 | .niliface,.niliface=>true
 | .iptr v o,.iptr v' o'=>V.same v v' && o==o'
 | .agg xs,.agg ys=>V.sames xs ys
 | .tup xs,.tup ys=>V.sames xs ys
 | _,_=>false
def V.sames:List V→List V→Bool
 | [],[]=>true
 | x::xs,y::ys=>V.same x y && V.sames xs ys
 | _,_=>false
end
theorem qaf{a b:Bz}(h:(a.data.toList==b.data.toList)=true):a=b:=by
 obtain ⟨x⟩:=a;obtain ⟨y⟩:=b;simp at h;rw[h]
mutual
theorem Zw:∀(a b:V),V.same a b=true→a=b
 | .bool a,.bool b,h=>by simp only[V.same,beq_iff_eq] at h;rw[h]
 | .int k a,.int k' b,h=>by simp only[V.same,qq5,beq_iff_eq] at h;rw[h.1,h.2]
 | .str a,.str b,h=>by simp only[V.same] at h;rw[qaf h]
 | .nilp,.nilp,_=>rfl
 | .glob a b,.glob a' b',h=>by simp only[V.same,qq5,beq_iff_eq] at h;obtain ⟨rfl,rfl⟩:=h;rfl
 | .ptr a b c d,.ptr a' b' c' d',h=>by simp only[V.same,qq5,beq_iff_eq] at h;obtain ⟨⟨⟨rfl,rfl⟩,rfl⟩,rfl⟩:=h;rfl
 | .sl x xs,.sl y ys,h=>by simp only[V.same,qq5,beq_iff_eq] at h;rw[h.1,QI xs ys h.2]
 | .arr a b c d,.arr a' b' c' d',h=>by simp only[V.same,qq5,beq_iff_eq] at h;obtain ⟨⟨⟨rfl,rfl⟩,rfl⟩,rfl⟩:=h;rfl
 | .nilmap,.nilmap,_=>rfl
 | .map l,.map l',h=>by simp only[V.same,beq_iff_eq] at h;rw[h]
 | .nilfn,.nilfn,_=>rfl
 | .niliface,.niliface,_=>rfl
 | .iptr v o,.iptr v' o',h=>by simp only[V.same,qq5,beq_iff_eq] at h;rw[Zw v v' h.1,h.2]
 | .agg xs,.agg ys,h=>by simp only[V.same] at h;rw[QI xs ys h]
 | .tup xs,.tup ys,h=>by simp only[V.same] at h;rw[QI xs ys h]
 | .top,b,h=>by cases b <;> simp[V.same] at h
 | .fn _ _ _,b,h=>by cases b <;> simp[V.same] at h
 | .iface _ _,b,h=>by cases b <;> simp[V.same] at h
 | .yld _,b,h=>by cases b <;> simp[V.same] at h
 | .glob ..,.top,h|.glob ..,.bool _,h|.glob ..,.int _ _,h|.glob ..,.str _,h|.glob ..,.nilp,h|.glob ..,.ptr ..,h|.glob ..,.iptr ..,h|.glob ..,.sl ..,h|.glob ..,.arr ..,h|.glob ..,.nilmap,h|.glob ..,.map _,h|.glob ..,.fn ..,h|.glob ..,.nilfn,h|.glob ..,.iface ..,h|.glob ..,.niliface,h|.glob ..,.yld _,h|.glob ..,.agg _,h|.glob ..,.tup _,h=>by simp[V.same] at h
 | .bool _,.top,h|.bool _,.int _ _,h|.bool _,.str _,h|.bool _,.nilp,h|.bool _,.ptr ..,h|.bool _,.iptr ..,h|.bool _,.sl ..,h|.bool _,.arr ..,h|.bool _,.nilmap,h|.bool _,.map _,h|.bool _,.fn ..,h|.bool _,.nilfn,h|.bool _,.iface ..,h|.bool _,.niliface,h|.bool _,.yld _,h|.bool _,.agg _,h|.bool _,.tup _,h|.bool _,.glob ..,h=>by simp[V.same] at h
 | .int _ _,.top,h|.int _ _,.bool _,h|.int _ _,.str _,h|.int _ _,.nilp,h|.int _ _,.ptr ..,h|.int _ _,.iptr ..,h|.int _ _,.sl ..,h|.int _ _,.arr ..,h|.int _ _,.nilmap,h|.int _ _,.map _,h|.int _ _,.fn ..,h|.int _ _,.nilfn,h|.int _ _,.iface ..,h|.int _ _,.niliface,h|.int _ _,.yld _,h|.int _ _,.agg _,h|.int _ _,.tup _,h|.int _ _,.glob ..,h=>by simp[V.same] at h
 | .str _,.top,h|.str _,.bool _,h|.str _,.int _ _,h|.str _,.nilp,h|.str _,.ptr ..,h|.str _,.iptr ..,h|.str _,.sl ..,h|.str _,.arr ..,h|.str _,.nilmap,h|.str _,.map _,h|.str _,.fn ..,h|.str _,.nilfn,h|.str _,.iface ..,h|.str _,.niliface,h|.str _,.yld _,h|.str _,.agg _,h|.str _,.tup _,h|.str _,.glob ..,h=>by simp[V.same] at h
 | .nilp,.top,h|.nilp,.bool _,h|.nilp,.int _ _,h|.nilp,.str _,h|.nilp,.ptr ..,h|.nilp,.iptr ..,h|.nilp,.sl ..,h|.nilp,.arr ..,h|.nilp,.nilmap,h|.nilp,.map _,h|.nilp,.fn ..,h|.nilp,.nilfn,h|.nilp,.iface ..,h|.nilp,.niliface,h|.nilp,.yld _,h|.nilp,.agg _,h|.nilp,.tup _,h|.nilp,.glob ..,h=>by simp[V.same] at h
 | .ptr ..,.top,h|.ptr ..,.bool _,h|.ptr ..,.int _ _,h|.ptr ..,.str _,h|.ptr ..,.nilp,h|.ptr ..,.iptr ..,h|.ptr ..,.sl ..,h|.ptr ..,.arr ..,h|.ptr ..,.nilmap,h|.ptr ..,.map _,h|.ptr ..,.fn ..,h|.ptr ..,.nilfn,h|.ptr ..,.iface ..,h|.ptr ..,.niliface,h|.ptr ..,.yld _,h|.ptr ..,.agg _,h|.ptr ..,.tup _,h|.ptr ..,.glob ..,h=>by simp[V.same] at h
 | .sl ..,.top,h|.sl ..,.bool _,h|.sl ..,.int _ _,h|.sl ..,.str _,h|.sl ..,.nilp,h|.sl ..,.ptr ..,h|.sl ..,.iptr ..,h|.sl ..,.arr ..,h|.sl ..,.nilmap,h|.sl ..,.map _,h|.sl ..,.fn ..,h|.sl ..,.nilfn,h|.sl ..,.iface ..,h|.sl ..,.niliface,h|.sl ..,.yld _,h|.sl ..,.agg _,h|.sl ..,.tup _,h|.sl ..,.glob ..,h=>by simp[V.same] at h
 | .arr ..,.top,h|.arr ..,.bool _,h|.arr ..,.int _ _,h|.arr ..,.str _,h|.arr ..,.nilp,h|.arr ..,.ptr ..,h|.arr ..,.iptr ..,h|.arr ..,.sl ..,h|.arr ..,.nilmap,h|.arr ..,.map _,h|.arr ..,.fn ..,h|.arr ..,.nilfn,h|.arr ..,.iface ..,h|.arr ..,.niliface,h|.arr ..,.yld _,h|.arr ..,.agg _,h|.arr ..,.tup _,h|.arr ..,.glob ..,h=>by simp[V.same] at h
 | .nilmap,.top,h|.nilmap,.bool _,h|.nilmap,.int _ _,h|.nilmap,.str _,h|.nilmap,.nilp,h|.nilmap,.ptr ..,h|.nilmap,.iptr ..,h|.nilmap,.sl ..,h|.nilmap,.arr ..,h|.nilmap,.map _,h|.nilmap,.fn ..,h|.nilmap,.nilfn,h|.nilmap,.iface ..,h|.nilmap,.niliface,h|.nilmap,.yld _,h|.nilmap,.agg _,h|.nilmap,.tup _,h|.nilmap,.glob ..,h=>by simp[V.same] at h
 | .map _,.top,h|.map _,.bool _,h|.map _,.int _ _,h|.map _,.str _,h|.map _,.nilp,h|.map _,.ptr ..,h|.map _,.iptr ..,h|.map _,.sl ..,h|.map _,.arr ..,h|.map _,.nilmap,h|.map _,.fn ..,h|.map _,.nilfn,h|.map _,.iface ..,h|.map _,.niliface,h|.map _,.yld _,h|.map _,.agg _,h|.map _,.tup _,h|.map _,.glob ..,h=>by simp[V.same] at h
 | .nilfn,.top,h|.nilfn,.bool _,h|.nilfn,.int _ _,h|.nilfn,.str _,h|.nilfn,.nilp,h|.nilfn,.ptr ..,h|.nilfn,.iptr ..,h|.nilfn,.sl ..,h|.nilfn,.arr ..,h|.nilfn,.nilmap,h|.nilfn,.map _,h|.nilfn,.fn ..,h|.nilfn,.iface ..,h|.nilfn,.niliface,h|.nilfn,.yld _,h|.nilfn,.agg _,h|.nilfn,.tup _,h|.nilfn,.glob ..,h=>by simp[V.same] at h
 | .niliface,.top,h|.niliface,.bool _,h|.niliface,.int _ _,h|.niliface,.str _,h|.niliface,.nilp,h|.niliface,.ptr ..,h|.niliface,.iptr ..,h|.niliface,.sl ..,h|.niliface,.arr ..,h|.niliface,.nilmap,h|.niliface,.map _,h|.niliface,.fn ..,h|.niliface,.nilfn,h|.niliface,.iface ..,h|.niliface,.yld _,h|.niliface,.agg _,h|.niliface,.tup _,h|.niliface,.glob ..,h=>by simp[V.same] at h
 | .iptr ..,.top,h|.iptr ..,.bool _,h|.iptr ..,.int _ _,h|.iptr ..,.str _,h|.iptr ..,.nilp,h|.iptr ..,.ptr ..,h|.iptr ..,.sl ..,h|.iptr ..,.arr ..,h|.iptr ..,.nilmap,h|.iptr ..,.map _,h|.iptr ..,.fn ..,h|.iptr ..,.nilfn,h|.iptr ..,.iface ..,h|.iptr ..,.niliface,h|.iptr ..,.yld _,h|.iptr ..,.agg _,h|.iptr ..,.tup _,h|.iptr ..,.glob ..,h=>by simp[V.same] at h
 | .agg _,.top,h|.agg _,.bool _,h|.agg _,.int _ _,h|.agg _,.str _,h|.agg _,.nilp,h|.agg _,.ptr ..,h|.agg _,.iptr ..,h|.agg _,.sl ..,h|.agg _,.arr ..,h|.agg _,.nilmap,h|.agg _,.map _,h|.agg _,.fn ..,h|.agg _,.nilfn,h|.agg _,.iface ..,h|.agg _,.niliface,h|.agg _,.yld _,h|.agg _,.tup _,h|.agg _,.glob ..,h=>by simp[V.same] at h
 | .tup _,.top,h|.tup _,.bool _,h|.tup _,.int _ _,h|.tup _,.str _,h|.tup _,.nilp,h|.tup _,.ptr ..,h|.tup _,.iptr ..,h|.tup _,.sl ..,h|.tup _,.arr ..,h|.tup _,.nilmap,h|.tup _,.map _,h|.tup _,.fn ..,h|.tup _,.nilfn,h|.tup _,.iface ..,h|.tup _,.niliface,h|.tup _,.yld _,h|.tup _,.agg _,h|.tup _,.glob ..,h=>by simp[V.same] at h
theorem QI:∀(a b:List V),V.sames a b=true→a=b
 | [],[],_=>rfl
 | x::xs,y::ys,h=>by simp only[V.sames,qq5] at h;rw[Zw x y h.1,QI xs ys h.2]
 | [],_::_,h=>by simp[V.sames] at h
 | _::_,[],h=>by simp[V.sames] at h
end
end Go.Proofs.YtbifpocccfkhhaaGreatDoor

namespace Go.Proofs.YtbifpocccfkhhaaGreatDoor
open Go
def qjv{α:Type}(l:List α):Nat→Option α:=List.rec (motive:=fun _=>Nat→Option α) (fun _=>none) (fun x _ ih n=>Nat.rec (some x) (fun m _=>ih m) n) l
theorem Z0{α:Type}:∀(l:List α) (n:Nat),qjv l n=l[n]?
 | [],n=>by simp[qjv]
 | x::xs,0=>rfl
 | x::xs,n+1=>by rw[qsh,←Z0 xs n];rfl
def Yd{α:Type}(l:List α):Nat:=List.rec (motive:=fun _=>Nat→Nat) (fun n=>n) (fun _ _ ih n=>ih (Nat.succ n)) l 0
theorem qht{α:Type}:∀(l:List α) (n:Nat),(List.rec (motive:=fun _=>Nat→Nat) (fun n=>n) (fun _ _ ih n=>ih (Nat.succ n)) l n:Nat)=l.length+n
 | [],n=>by simp
 | x::xs,n=>by
  show (List.rec (motive:=fun _=>Nat→Nat) (fun n=>n) (fun _ _ ih n=>ih (Nat.succ n)) xs (Nat.succ n):Nat)=_;rw[qht xs];simp;omega
theorem zV{α:Type}(l:List α):Yd l=l.length:=by unfold Yd;rw[qht];rfl
def qpa{α:Type}(x:α)(l:List α):Nat→List α:=List.rec (motive:=fun _=>Nat→List α) (fun _=>[]) (fun y ys ih n=>Nat.rec (x::ys) (fun m _=>y::ih m) n) l
theorem qcq{α:Type}(x:α):∀(l:List α) (n:Nat),qpa x l n=l.set n x
 | [],n=>by simp[qpa]
 | y::ys,0=>rfl
 | y::ys,n+1=>by rw[List.set_cons_succ,←qcq x ys n];rfl
def Z6{α:Type}(l m:List α):List α:=List.rec m (fun x _ ih=>x::ih) l
theorem zz{α:Type}:∀(l m:List α),Z6 l m=l++m
 | [],m=>rfl
 | x::xs,m=>by rw[qrp,←zz xs m];rfl
def k9{α:Type}(l:List α):Nat→List α:=List.rec (motive:=fun _=>Nat→List α) (fun _=>[]) (fun y _ ih n=>Nat.rec [] (fun m _=>y::ih m) n) l
theorem QS{α:Type}:∀(l:List α) (n:Nat),k9 l n=l.take n
 | [],n=>by simp[k9]
 | y::ys,0=>rfl
 | y::ys,n+1=>by rw[List.take_succ_cons,←QS ys n];rfl
def qab{α:Type}(l:List α):Nat→List α:=List.rec (motive:=fun _=>Nat→List α) (fun _=>[]) (fun y ys ih n=>Nat.rec (y::ys) (fun m _=>ih m) n) l
theorem Q7{α:Type}:∀(l:List α) (n:Nat),qab l n=l.drop n
 | [],n=>by simp[qab]
 | y::ys,0=>rfl
 | y::ys,n+1=>by rw[List.drop_succ_cons,←Q7 ys n];rfl
def yy(a b:Bool):Bool:=Bool.rec false b a
theorem YO(a b:Bool):yy a b=(a && b):=by cases a <;> rfl
def qX{α:Type}(c:Bool)(a b:α):α:=Bool.rec b a c
theorem qY{α:Type}(c:Bool)(a b:α):qX c a b=if c=true then a else b:=by cases c <;> rfl
def qf6{α:Type}(f:α→Bool)(l:List α):Bool:=List.rec true (fun x _ ih=>Bool.rec false ih (f x)) l
theorem Zc{α:Type}(f:α→Bool):∀(l:List α),qf6 f l=l.all f
 | []=>rfl
 | x::xs=>by
  rw[qsY,←Zc f xs];show (Bool.rec false (qf6 f xs) (f x):Bool)=_;cases f x <;> rfl
def qbO(f:Nat):Nat→List Bool:=Nat.rec (motive:=fun _=>Nat→List Bool) (fun _=>[]) (fun _ ih n=>Nat.rec [] (fun m _=>Nat.beq (Nat.mod m 2) 1::ih (Nat.div m 2)) n) f
def Q8(n:Nat):List Bool:=qbO n n
theorem qaN:∀(f g n m:Nat),n≤f→m≤g→qbO f n=qbO g m→n=m
 | f,g,0,0,_,_,_=>rfl
 | f,g+1,0,m+1,_,_,h=>by
  have h1:qbO f 0=[]:=by cases f <;> rfl
  rw[h1] at h;exact absurd h (by show []≠_::_;simp)
 | f+1,g,n+1,0,_,_,h=>by
  have h1:qbO g 0=[]:=by cases g <;> rfl
  rw[h1] at h;exact absurd h (by show _::_≠[];simp)
 | f+1,g+1,n+1,m+1,hn,hm,h=>by
  have h':(Nat.beq (Nat.mod n 2) 1::qbO f (Nat.div n 2))=(Nat.beq (Nat.mod m 2) 1::qbO g (Nat.div m 2)):=h;simp only[List.cons.injEq] at h';obtain ⟨h1,h2⟩:=h';have h3:n / 2=m / 2:=qaN f g (n / 2) (m / 2) (by omega) (by omega) h2
  have h4:(n % 2=1↔m % 2=1):=by
   have:(Nat.beq (n % 2) 1=true↔Nat.beq (m % 2) 1=true):=by
    show (Nat.beq (Nat.mod n 2) 1=true↔Nat.beq (Nat.mod m 2) 1=true);rw[h1]
   simpa using this
  omega
theorem YA{n m:Nat}(h:Q8 n=Q8 m):n=m:=qaN n m n m (qqY _) (qqY _) h
inductive Tx(α:Type) where
 | nil
 | node (v:Option α) (l r:Tx α)
def Tx.get{α:Type}(p:List Bool):Tx α→Option α:=List.rec (motive:=fun _=>Tx α→Option α) (fun t=>Tx.rec none (fun v _ _ _ _=>v) t) (fun b _ ih t=>Tx.rec none (fun _ l r _ _=>ih (Bool.rec l r b)) t) p
def Tx.put{α:Type}(x:α)(p:List Bool):Tx α→Tx α:=List.rec (motive:=fun _=>Tx α→Tx α) (fun t=>Tx.rec (.node (some x) .nil .nil) (fun _ l r _ _=>.node (some x) l r) t)
 (fun b _ ih t=>Tx.rec (Bool.rec (.node none (ih .nil) .nil) (.node none .nil (ih .nil)) b) (fun v l r _ _=>Bool.rec (.node v (ih l) r) (.node v l (ih r)) b) t) p
theorem Tx.get_put_same{α:Type}(x:α):∀(p:List Bool) (t:Tx α),(Tx.put x p t).get p=some x
 | [],t=>by cases t <;> rfl
 | b::p,t=>by
  cases t with
  | nil=>cases b <;> exact Tx.get_put_same x p .nil
  | node v l r=>cases b <;> first|exact Tx.get_put_same x p l|exact Tx.get_put_same x p r
theorem Tx.get_nil{α:Type}:∀(p:List Bool),(Tx.nil:Tx α).get p=none
 | []=>rfl
 | b::p=>rfl
theorem Tx.get_put_ne{α:Type}(x:α):∀(p q:List Bool) (t:Tx α),p≠q→(Tx.put x p t).get q=t.get q
 | [],[],t,h=>absurd rfl h
 | [],b::q,t,_=>by cases t <;> cases b <;> first|rfl|exact Tx.get_nil q
 | b::p,[],t,_=>by cases t <;> cases b <;> rfl
 | b::p,c::q,t,h=>by
  have hn:b=c→p≠q:=fun hb hp=>h (by rw[hb,hp])
  cases t with
  | nil=>cases b <;> cases c <;> first
   | exact (Tx.get_put_ne x p q .nil (hn rfl)).trans (Tx.get_nil q)
   | exact Tx.get_nil q
  | node v l r=>cases b <;> cases c <;> first
   | exact Tx.get_put_ne x p q l (hn rfl)
   | exact Tx.get_put_ne x p q r (hn rfl)
   | rfl
abbrev TE:=Tx V
def TE.sub(t:TE)(e:Env):Prop:=∀k v,Tx.get (Q8 k) t=some v→e.get k=some v
def TE.put(t:TE)(d:Option Nat)(v:V):TE:=Option.rec t (fun k=>Tx.put v (Q8 k) t) d
theorem TE.sub_put{t:TE}{e:Env}(h:t.sub e)(d:Option Nat)(v:V):(TE.put t d v).sub (e.put d v):=by
 cases d with
 | none=>exact h
 | some k=>
  intro j w hj;simp only[Env.put,Env.get];by_cases hk:k=j
  ·subst hk;rw[if_pos rfl];have:=hj.symm.trans (Tx.get_put_same v (Q8 k) t);exact this.symm
  ·rw[if_neg hk];exact h j w ((Tx.get_put_ne v (Q8 k) (Q8 j) t (fun hp=>hk (YA hp))).symm.trans hj)
structure TS where
 len:Nat
 tr:Tx Ob
def Ob.sk:Ob→Ob
 | .loop i=>.loop ⟨i.st,i.pend,[],.skip,.skip,[],0⟩
 | o=>o
theorem Js{S:St}{l sz wr:Nat}{xs:List V}(h:(S[l]?).map Ob.sk=some (.arr xs sz wr)):S[l]?=some (.arr xs sz wr):=by
 cases ho:S[l]? with
 | none=>rw[ho] at h;cases h
 | some o=>rw[ho] at h;cases o <;> simp only[qre,Ob.sk,Option.some.injEq,reduceCtorEq] at h;rw[h]
theorem j0{S:St}{l ck:Nat}{es:List (V×V)}{bs:List Nat}(h:(S[l]?).map Ob.sk=some (.map es bs ck)):S[l]?=some (.map es bs ck):=by
 cases ho:S[l]? with
 | none=>rw[ho] at h;cases h
 | some o=>rw[ho] at h;cases o <;> simp only[qre,Ob.sk,Option.some.injEq,reduceCtorEq] at h;rw[h]
theorem qgw{S:St}{l lm since last:Nat}{seen:List Nat}(h:(S[l]?).map Ob.sk=some (.iter lm since seen last)):S[l]?=some (.iter lm since seen last):=by
 cases ho:S[l]? with
 | none=>rw[ho] at h;cases h
 | some o=>rw[ho] at h;cases o <;> simp only[qre,Ob.sk,Option.some.injEq,reduceCtorEq] at h;rw[h]
theorem Zm{S:St}{l:Nat}{i:LI}(h:(S[l]?).map Ob.sk=some (.loop i)):∃j,S[l]?=some (.loop j)∧j.st=i.st∧j.pend=i.pend:=by
 cases ho:S[l]? with
 | none=>rw[ho] at h;cases h
 | some o=>
  rw[ho] at h;cases o <;> simp only[qre,Ob.sk,Option.some.injEq,reduceCtorEq,Ob.loop.injEq] at h;exact ⟨_,rfl,by rw[←h],by rw[←h]⟩
def TS.Abs(t:TS)(S:St):Prop:=S.length=t.len∧∀l,l<t.len→t.tr.get (Q8 l)=(S[l]?).map Ob.sk
def TS.get(t:TS)(l:Nat)(c:Ob→Bool):Bool:=Bool.rec false (Option.rec false c (t.tr.get (Q8 l))) (Nat.ble (Nat.succ l) t.len)
theorem TS.get_spec{t:TS}{S:St}{l:Nat}{c:Ob→Bool}(h:t.Abs S)(hc:t.get l c=true):∃o,(S[l]?).map Ob.sk=some o∧c o=true:=by
 unfold TS.get at hc
 cases hb:Nat.ble (Nat.succ l) t.len with
 | false=>rw[hb] at hc;cases hc
 | true=>
  rw[hb] at hc;have hlt:l<t.len:=Nat.le_of_ble_eq_true hb
  cases hg:t.tr.get (Q8 l) with
  | none=>rw[hg] at hc;cases hc
  | some o=>rw[hg] at hc;exact ⟨o,(h.2 l hlt).symm.trans hg,hc⟩
def TS.set(t:TS)(l:Nat)(o:Ob):TS:=⟨t.len,t.tr.put o (Q8 l)⟩
theorem TS.set_abs'{t:TS}{S:St}{l:Nat}{o o' o1:Ob}(h:t.Abs S)(hl:S[l]?=some o')(hk:o1.sk=o):(t.set l o).Abs (S.set l o1):=by
 subst hk;have hlt:l<S.length:=(qqT.1 hl).1;refine ⟨by simp[TS.set,h.1],fun j hj=>?_⟩;simp only[TS.set] at hj ⊢;by_cases hk:l=j
 ·subst hk;rw[Tx.get_put_same,qqV hlt];rfl
 ·rw[Tx.get_put_ne _ _ _ _ (fun hp=>hk (YA hp)),qqX hk];exact h.2 j hj
def yN(m:Nat)(c:Nat→Bool):Bool:=Nat.rec (c 0) (fun k _=>c (Nat.succ k)) m
theorem zO(m:Nat)(c:Nat→Bool):yN m c=c m:=by cases m <;> rfl
def TS.push(t:TS)(o:Ob):TS:=⟨Nat.succ t.len,t.tr.put o (Q8 t.len)⟩
theorem TS.push_abs'{t:TS}{S:St}{o o1:Ob}(h:t.Abs S)(hk:o1.sk=o):(t.push o).Abs (S++[o1]):=by
 subst hk;refine ⟨by simp[TS.push,h.1],fun j hj=>?_⟩;simp only[TS.push] at hj ⊢;by_cases hk:t.len=j
 ·subst hk;rw[Tx.get_put_same,←h.1];simp
 ·rw[Tx.get_put_ne _ _ _ _ (fun hp=>hk (YA hp)),h.2 j (by omega),qqW (by rw[h.1];omega)]
theorem TS.set_abs{t:TS}{S:St}{l:Nat}{o o':Ob}(h:t.Abs S)(hl:S[l]?=some o')(hk:o.sk=o:=by rfl):(t.set l o).Abs (S.set l o):=TS.set_abs' h hl hk
theorem TS.push_abs{t:TS}{S:St}{o:Ob}(h:t.Abs S)(hk:o.sk=o:=by rfl):(t.push o).Abs (S++[o]):=TS.push_abs' h hk
def ZN(v:V):Nat:=Yd v.cells
theorem yH(v:V):ZN v=v.size:=zV _
def kG(l:List V):Bool:=qf6 V.flat l
theorem Zd(l:List V):kG l=l.all V.flat:=Zc _ _
def qaj(a:List UInt8):List UInt8→Bool:=List.rec (motive:=fun _=>List UInt8→Bool) (fun b=>List.rec true (fun _ _ _=>false) b) (fun x _ ih b=>List.rec false (fun y ys _=>Bool.rec false (ih ys) (Nat.beq x.toNat y.toNat)) b) a
theorem qjC(x y:UInt8):Nat.beq x.toNat y.toNat=(x==y):=by
 rw[qrz];simp;exact ⟨fun h=>UInt8.toNat_inj.1 h,fun h=>by rw[h]⟩
theorem Yf:∀(a b:List UInt8),qaj a b=(a==b)
 | [],[]=>rfl
 | [],_::_=>rfl
 | _::_,[]=>rfl
 | x::xs,y::ys=>by
  show (Bool.rec false (qaj xs ys) (Nat.beq x.toNat y.toNat):Bool)=_;rw[Yf xs ys,qjC];rw[List.cons_beq_cons];cases (x==y) <;> rfl
def Zo(a b:Bz):Bool:=qaj a.data.toList b.data.toList
theorem J7(bs:Bz):∀(k i:Nat) (r:List UInt8),bs.size - i≤k→ByteArray.toList.loop bs i r=r.reverse++bs.data.toList.drop i
 | k,i,r,hk=>by
  unfold ByteArray.toList.loop;split
  ·rename_i hi
   cases k with
   | zero=>omega
   | succ k=>
    rw[J7 bs k (i+1) _ (by omega)];have hi':i<bs.data.toList.length:=by simpa using hi
    rw[List.reverse_cons,qrc,qst hi'];congr 1;simp only[List.singleton_append,List.cons.injEq,and_true];have hi2:i<bs.data.size:=hi;show bs.data[i]! =bs.data.toList[i];rw[getElem!_pos bs.data i hi2];simp
  ·rename_i hi;rw[qss (by simpa using Nat.le_of_not_lt hi)];simp
theorem yE(bs:Bz):bs.toList=bs.data.toList:=by
 unfold ByteArray.toList;rw[J7 bs _ 0 [] (qqY _)];simp
theorem qiY(a b:Bz):(a.data.toList==b.data.toList)=qae a b:=by
 unfold qae;rw[yE,yE]
theorem qaQ(a b:Bz):Zo a b=qae a b:=by unfold Zo;rw[Yf,qiY]
def Qt{α:Type}(o:Option α)(c:α→Bool):Bool:=Option.rec false c o
theorem qy{α:Type}{o:Option α}{c:α→Bool}(h:Qt o c=true):∃v,o=some v∧c v=true:=by
 cases o with
 | none=>cases h
 | some v=>exact ⟨v,rfl,h⟩
theorem qr{a b:Bool}(h:yy a b=true):a=true∧b=true:=by rw[YO,qq5] at h;exact h
theorem ql{a b:Bool}(h:qX a b false=true):a=true∧b=true:=by cases a <;> first|exact ⟨rfl,h⟩|cases h
theorem qN{a b:Nat}(h:Nat.ble a b=true):a≤b:=Nat.le_of_ble_eq_true h
theorem qM{a b:Nat}(h:Nat.beq a b=true):a=b:=Nat.eq_of_beq_eq_true h
def opd(x:Opd)(tr:TE)(c:V→Bool):Bool:=Opd.rec (fun n=>Qt (Tx.get (Q8 n) tr) c) (fun v=>c v) (fun f=>c (.fn (.func f) [] [])) x
theorem qn{x:Opd}{tr:TE}{e:Env}{c:V→Bool}(ht:tr.sub e)(h:opd x tr c=true):∃v,x.ev e=some v∧c v=true:=by
 cases x with
 | t n=>
  obtain ⟨v,h1,h2⟩:=qy (show Qt (Tx.get (Q8 n) tr) c=true from h);exact ⟨v,ht n v h1,h2⟩
 | c v=>exact ⟨v,rfl,h⟩
 | f k=>exact ⟨_,rfl,h⟩
def qjp(xs:List Opd)(tr:TE):(List V→Bool)→Bool:=List.rec (motive:=fun _=>(List V→Bool)→Bool) (fun c=>c []) (fun x _ ih c=>opd x tr fun v=>ih fun vs=>c (v::vs)) xs
theorem yq{tr:TE}{e:Env}(ht:tr.sub e):∀{xs:List Opd} {c:List V→Bool},qjp xs tr c=true→∃vs,evs e xs=some vs∧c vs=true
 | [],c,h=>⟨[],rfl,h⟩
 | x::xs,c,h=>by
  obtain ⟨v,h1,h2⟩:=qn (c:=fun v=>qjp xs tr fun vs=>c (v::vs)) ht h;obtain ⟨vs,h3,h4⟩:=yq ht h2;exact ⟨v::vs,by simp only[evs,h1,h3],h4⟩
def qpc(e:Env)(S:St)(k:K)(c:V→TS→Bool):Prop:=∃r S' ts',evK e S k=some (r,S')∧ts'.Abs S'∧c r ts'=true
def qd6(k:IntKind)(x:Int):Int:=Int.rec (fun m=>IntKind.rec (k.wrap (Int.ofNat m)) (k.wrap (Int.ofNat m)) (k.wrap (Int.ofNat m)) (qX (Nat.ble m 9223372036854775807) (Int.ofNat m) (k.wrap (Int.ofNat m))) (k.wrap (Int.ofNat m)) (k.wrap (Int.ofNat m)) (k.wrap (Int.ofNat m)) (k.wrap (Int.ofNat m)) k) (fun m=>k.wrap (Int.negSucc m)) x
theorem qcX(k:IntKind)(x:Int):qd6 k x=k.wrap x:=by
 cases x with
 | negSucc m=>rfl
 | ofNat m=>
  cases k <;> try rfl
  show qX (Nat.ble m 9223372036854775807) (Int.ofNat m) (IntKind.i64.wrap (Int.ofNat m))=_;rw[qY];split
  ·rename_i h;have:=qN h;have h1:(Int.ofNat m) % (2 ^ IntKind.i64.bits:Int)=Int.ofNat m:=Int.emod_eq_of_lt (by simp) (by show (m:Int)<2 ^ 64;omega);have h2:¬ ((m:Int)≥2 ^ 63):=by omega
   unfold IntKind.wrap;simp only[h1];rw[if_neg];intro hh;rw[qq5,decide_eq_true_iff] at hh;exact h2 hh.2
  ·rfl
def qqn(a b:Int):Int:=Int.rec (fun m=>Int.rec (fun n=>Int.ofNat (Nat.add m n)) (fun _=>a+b) b) (fun _=>a+b) a
theorem qlx(a b:Int):qqn a b=a+b:=by cases a <;> cases b <;> rfl
def qqz(a b:Int):Int:=Int.rec (fun m=>Int.rec (fun n=>qX (Nat.ble n m) (Int.ofNat (Nat.sub m n)) (a - b)) (fun _=>a - b) b) (fun _=>a - b) a
theorem qli(a b:Int):qqz a b=a - b:=by
 cases a <;> cases b <;> try rfl
 rename_i m n;show qX (Nat.ble n m) (Int.ofNat (Nat.sub m n)) (Int.ofNat m - Int.ofNat n)=_;rw[qY];split
 ·rename_i h;have:=qN h;show ((m - n:Nat):Int)=(m:Int) - (n:Int);omega
 ·rfl
def qqs(a b:Int):Int:=Int.rec (fun m=>Int.rec (fun n=>Int.ofNat (Nat.mul m n)) (fun _=>a * b) b) (fun _=>a * b) a
theorem qmx(a b:Int):qqs a b=a * b:=by cases a <;> cases b <;> rfl
def ltR(a b:Int):Bool:=Int.rec (fun m=>Int.rec (fun n=>Nat.ble (Nat.succ m) n) (fun _=>false) b) (fun m=>Int.rec (fun _=>true) (fun n=>Nat.ble (Nat.succ n) m) b) a
theorem YG{a b:Nat}:Nat.ble a b=true↔a≤b:=⟨qN,fun h=>Nat.ble_eq_true_of_le h⟩
theorem qnz(a b:Int):ltR a b=decide (a<b):=by
 rw[qrz,decide_eq_true_iff]
 cases a with
 | ofNat m=>cases b with
  | ofNat n=>show Nat.ble (Nat.succ m) n=true↔_;rw[YG];simp;omega
  | negSucc n=>show false=true↔_;simp;omega
 | negSucc m=>cases b with
  | ofNat n=>show true=true↔_;simp;omega
  | negSucc n=>show Nat.ble (Nat.succ n) m=true↔_;rw[YG];simp[Int.negSucc_eq];omega
def eqR(a b:Int):Bool:=Int.rec (fun m=>Int.rec (fun n=>Nat.beq m n) (fun _=>false) b) (fun m=>Int.rec (fun _=>false) (fun n=>Nat.beq m n) b) a
theorem qnt(a b:Int):eqR a b=decide (a=b):=by
 rw[qrz,decide_eq_true_iff]
 cases a with
 | ofNat m=>cases b with
  | ofNat n=>show Nat.beq m n=true↔_;rw[Nat.beq_eq];exact ⟨fun h=>by rw[h],fun h=>Int.ofNat.inj h⟩
  | negSucc n=>show false=true↔_;simp
 | negSucc m=>cases b with
  | ofNat n=>show false=true↔_;simp
  | negSucc n=>show Nat.beq m n=true↔_;simp
def qqv(a b:Int):Int:=Int.rec (fun m=>Int.rec (fun n=>Int.ofNat (Nat.div m n)) (fun _=>a.tdiv b) b) (fun _=>a.tdiv b) a
theorem qmC(a b:Int):qqv a b=a.tdiv b:=by cases a <;> cases b <;> rfl
def qqt(a b:Int):Int:=Int.rec (fun m=>Int.rec (fun n=>Int.ofNat (Nat.mod m n)) (fun _=>a.tmod b) b) (fun _=>a.tmod b) a
theorem qkO(a b:Int):qqt a b=a.tmod b:=by cases a <;> cases b <;> rfl
def qbU(b:Bool):Bool:=Bool.rec true false b
theorem YK(b:Bool):qbU b=!b:=by cases b <;> rfl
def qi5(op:BinOp)(k:IntKind)(a b:Int):Option V:=
 match op with
 | .add=>some (.int k (qd6 k (qqn a b)))
 | .sub=>some (.int k (qd6 k (qqz a b)))
 | .mul=>some (.int k (qd6 k (qqs a b)))
 | .quo=>qX (eqR b 0) none (some (.int k (qd6 k (qqv a b))))
 | .rem=>qX (eqR b 0) none (some (.int k (qqt a b)))
 | .eql=>some (.bool (eqR a b))
 | .neq=>some (.bool (qbU (eqR a b)))
 | .lss=>some (.bool (ltR a b))
 | .leq=>some (.bool (qbU (ltR b a)))
 | .gtr=>some (.bool (ltR b a))
 | .geq=>some (.bool (qbU (ltR a b)))
 | op=>qlu op k a b
theorem qiq(op:BinOp)(k:IntKind)(a b:Int):qi5 op k a b=qlu op k a b:=by
 cases op <;> simp only[qi5,qlu,qcX,qlx,qli,qmx,qnt,qnz,YK,qmC,qkO,qY,decide_eq_true_eq]
 all_goals first
  | rfl
  | (congr 2;rw[←decide_not];congr 1;simp)
def qlE(op:BinOp)(a b:Bz):Option V:=
 match op with
 | .eql=>some (.bool (Zo a b))
 | .neq=>some (.bool (qbU (Zo a b)))
 | op=>qcp op a b
theorem qdL(op:BinOp)(a b:Bz):qlE op a b=qcp op a b:=by
 cases op <;> simp only[qlE,qcp,qaQ,YK]
def qfL(k k':IntKind):Bool:=Nat.beq (IntKind.rec 0 1 2 3 4 5 6 7 k) (IntKind.rec 0 1 2 3 4 5 6 7 k')
theorem qbV{k k':IntKind}(h:qfL k k'=true):k=k':=by cases k <;> cases k' <;> first|rfl|cases h
def qo8(op:BinOp):Bool:=match op with|.shl=>true|.shr=>true|_=>false
def qps(op:BinOp)(x y:V)(c:V→Bool):Bool:=
 match x with
 | .int k a=>match y with
  | .int k' b=>qX (qo8 op) (Qt (shV op k a b) c) (qX (qfL k k') (Qt (qi5 op k a b) c) false)
  | _=>false
 | .str a=>match y with
  | .str b=>Qt (qlE op a b) c
  | _=>false
 | _=>false
theorem qhe{op:BinOp}{x y:V}{c:V→Bool}(h:qps op x y c=true):∃r,qjy op x y=some r∧c r=true:=by
 unfold qps at h;split at h
 ·split at h
  ·rename_i k a k' b;rw[qY] at h;simp only[qjy];split at h
   ·rename_i hs;rw[if_pos (by cases op <;> simp[qo8] at hs ⊢)];exact qy h
   ·rename_i hs;obtain ⟨h1,h2⟩:=ql h;rw[if_neg (by cases op <;> simp[qo8] at hs ⊢),if_pos (qbV h1)];rw[qiq] at h2;exact qy h2
  ·cases h
 ·split at h
  ·rw[qdL] at h;exact qy h
  ·cases h
 ·cases h
def qem(v:V)(off:Nat)(k:Option Nat):Option V:=
 Option.rec (qjv v.cells off) (fun n=>qX (yy (Nat.beq off 0) (yy (Nat.beq n (ZN v)) v.isAgg)) (some v) (match v with
  | .agg cs=>qX (Nat.ble (Nat.add off n) (Yd cs)) (some (.agg (k9 (qab cs off) n))) none
  | _=>none)) k
theorem ZM{a b:Nat}:Nat.beq a b=true↔a=b:=⟨qM,fun h=>by subst h;simp⟩
theorem Yv(v:V)(off:Nat)(k:Option Nat):qem v off k=v.part off k:=by
 cases k with
 | none=>exact Z0 _ _
 | some n=>
  show qX (yy (Nat.beq off 0) (yy (Nat.beq n (ZN v)) v.isAgg)) (some v) _=_;simp only[V.part,qY,YO,qq5,ZM,yH];split
  ·rfl
  ·split
   ·rename_i cs;rw[zV,QS,Q7];simp only[YG];rfl
   ·rename_i hne;cases v <;> first|rfl|exact absurd rfl (hne _)
def qoc(v:V)(off n:Nat)(x:V):Option V:=
 qX (yy (Nat.beq (ZN x) n) (kG x.cells)) (qX (yy (Nat.beq off 0) (Nat.beq n (ZN v))) (some x) (match v with
  | .agg cs=>qX (Nat.ble (Nat.add off n) (Yd cs)) (some (.agg (Z6 (k9 cs off) (Z6 x.cells (qab cs (Nat.add off n)))))) none
  | _=>none)) none
theorem qgj(v:V)(off n:Nat)(x:V):qoc v off n x=v.upd off n x:=by
 simp only[qoc,V.upd,qY,YO,qq5,ZM,yH,Zd];split
 ·split
  ·rfl
  ·split
   ·rename_i cs;rw[zV,QS,Q7,zz,zz];simp only[YG,qrc];rfl
   ·rename_i hne;cases v <;> first|rfl|exact absurd rfl (hne _)
 ·rfl
def ldR(p:V)(k:Option Nat)(ts:TS)(c:V→Bool):Bool:=
 match p with
 | .iptr v off=>Qt (qem v off k) c
 | .ptr l i off st=>ts.get l fun o=>match o with
  | .arr xs _ wr=>qX (yy (Nat.ble wr st) (Nat.ble (Nat.succ i) st)) (Qt (qjv xs i) fun v=>Qt (qem v off k) c) false
  | _=>false
 | .glob g off=>Qt (qeo g off) fun q=>Qt (qem (.int q.1 q.2) 0 k) c
 | _=>false
theorem qcN{p:V}{k:Option Nat}{ts:TS}{S:St}{c:V→Bool}(hs:ts.Abs S)(h:ldR p k ts c=true):∃v,ldS S p k=some v∧c v=true:=by
 unfold ldR at h;split at h
 ·rw[Yv] at h;exact qy h
 ·obtain ⟨o,h1,h2⟩:=TS.get_spec hs h;split at h2 <;> try cases h2
  have h1:=Js h1;obtain ⟨h3,h4⟩:=ql h2;obtain ⟨h5,h6⟩:=qr h3;obtain ⟨v,h7,h8⟩:=qy h4;rw[Z0] at h7;rw[Yv] at h8;obtain ⟨r,h9,h10⟩:=qy h8;simp only[ldS,h1];exact ⟨r,by rw[if_pos ⟨qN h5,qN h6⟩,h7];exact h9,h10⟩
 ·obtain ⟨q,h1,h2⟩:=qy h;obtain ⟨r,h3,h4⟩:=qy h2;rw[Yv] at h3;exact ⟨r,by simp only[ldS,h1];exact h3,h4⟩
 ·cases h
def stR(p:V)(n:Nat)(x:V)(ts:TS)(c:TS→Bool):Bool:=
 match p with
 | .ptr l i off st=>ts.get l fun o=>match o with
  | .arr xs sz _=>qX (Nat.beq st (Yd xs)) (Qt (qjv xs i) fun v=>Qt (qoc v off n x) fun v'=>c (ts.set l (.arr (qpa v' xs i) sz st))) false
  | _=>false
 | _=>false
theorem qiL{p x:V}{n:Nat}{ts:TS}{S:St}{c:TS→Bool}(hs:ts.Abs S)(h:stR p n x ts c=true):∃S' ts',stS S p n x=some S'∧ts'.Abs S'∧c ts'=true:=by
 unfold stR at h;split at h <;> try cases h
 obtain ⟨o,h1,h2⟩:=TS.get_spec hs h;split at h2 <;> try cases h2
 have h1:=Js h1;obtain ⟨h3,h4⟩:=ql h2;obtain ⟨v,h5,h6⟩:=qy h4;obtain ⟨v',h7,h8⟩:=qy h6;rw[zV] at h3;rw[Z0] at h5;rw[qgj] at h7;rw[qcq] at h8;refine ⟨_,_,?_,TS.set_abs hs h1,h8⟩;simp only[stS,h1];rw[if_pos (qM h3),h5];simp only[qrh,h7,qre]
def qpb(x:V)(ts:TS)(c:V→TS→Bool):Bool:=
 qX (yy (kG x.cells) (Nat.ble 1 (ZN x))) (yN ts.len fun n=>c (.ptr n 0 0 1) (TS.push ⟨n,ts.tr⟩ (.arr [x] (ZN x) 1))) false
theorem qbo{x:V}{ts:TS}{S:St}{c:V→TS→Bool}(hs:ts.Abs S)(h:qpb x ts c=true):∃r S' ts',qG S x=some (r,S')∧ts'.Abs S'∧c r ts'=true:=by
 unfold qpb at h;obtain ⟨h1,h2⟩:=ql h;obtain ⟨h3,h4⟩:=qr h1;rw[zO] at h2;rw[Zd] at h3;rw[yH] at h4 h2;refine ⟨_,_,_,?_,TS.push_abs (o:=.arr [x] x.size 1) hs,h2⟩;simp only[qG];rw[if_pos ⟨h3,qN h4⟩,hs.1]
def qdb(v:V)(ts:TS)(c:List V→Bool):Bool:=
 match v with
 | .sl _ xs=>c xs
 | .arr l off len st=>ts.get l fun o=>match o with
  | .arr xs _ wr=>qX (yy (Nat.ble wr st) (Nat.ble (Nat.add off len) st)) (c (k9 (qab xs off) len)) false
  | _=>false
 | _=>false
theorem JY{v:V}{ts:TS}{S:St}{c:List V→Bool}(hs:ts.Abs S)(h:qdb v ts c=true):∃xs,elems S v=some xs∧c xs=true:=by
 unfold qdb at h;split at h
 ·exact ⟨_,rfl,h⟩
 ·obtain ⟨o,h1,h2⟩:=TS.get_spec hs h;split at h2 <;> try cases h2
  have h1:=Js h1;obtain ⟨h3,h4⟩:=ql h2;obtain ⟨h5,h6⟩:=qr h3;rw[QS,Q7] at h4;simp only[elems,h1];exact ⟨_,if_pos ⟨qN h5,qN h6⟩,h4⟩
 ·cases h
def qff(sz:Nat)(ys:List V):Bool:=qf6 (fun y=>yy (Nat.beq (ZN y) sz) (kG y.cells)) ys
theorem Jh(a b:Nat):Nat.beq a b=(a==b):=by rw[qrz,Nat.beq_eq];simp
theorem qaF(sz:Nat)(ys:List V):qff sz ys=fits sz ys:=by
 simp only[qff,fits,Zc,YO,yH,Zd,Jh]
def J6{α:Type}(l:List α):Bool:=List.rec true (fun _ _ _=>false) l
theorem jh{α:Type}(l:List α):J6 l=l.isEmpty:=by cases l <;> rfl
def qku(sz bytes:Nat)(d x:V)(ts:TS)(c:V→TS→Bool):Bool:=
 qdb x ts fun ys=>match d with
  | .sl e xs=>qX (J6 ys) (c d ts) (qX (yy e (yy (qff sz ys) (yy (qf6 (fun v=>Nat.beq (ZN v) sz) xs) (Nat.ble (Nat.mul (Nat.add (Yd xs) (Yd ys)) bytes) 140737488355328))))
    (yN ts.len fun n=>yN (Nat.add (Yd xs) (Yd ys)) fun m=>c (.arr n 0 m m) (TS.push ⟨n,ts.tr⟩ (.arr (Z6 xs ys) sz m))) false)
  | .arr l off len st=>ts.get l fun o=>match o with
   | .arr zs s wr=>yN (Yd zs) fun lz=>qX (yy (Nat.beq off 0) (yy (Nat.beq len lz) (yy (Nat.beq st lz) (yy (Nat.beq s sz) (yy (qff sz ys) (Nat.ble (Nat.mul (Nat.add lz (Yd ys)) bytes) 140737488355328))))))
     (yN (Nat.add lz (Yd ys)) fun m=>c (.arr l 0 m m) (ts.set l (.arr (Z6 zs ys) sz wr))) false
   | _=>false
  | _=>false
theorem qej{sz bytes:Nat}{d x:V}{ts:TS}{S:St}{c:V→TS→Bool}(hs:ts.Abs S)(h:qku sz bytes d x ts c=true):∃r S' ts',Jz S sz bytes d x=some (r,S')∧ts'.Abs S'∧c r ts'=true:=by
 unfold qku at h;obtain ⟨ys,h1,h2⟩:=JY hs h;simp only[Jz,h1];split at h2
 ·rw[qY,jh] at h2;split at h2
  ·rename_i hy;exact ⟨_,_,ts,if_pos hy,hs,h2⟩
  ·rename_i hy;obtain ⟨g1,g2⟩:=ql h2;obtain ⟨q1,g3⟩:=qr g1;obtain ⟨q2,g4⟩:=qr g3;obtain ⟨q3,q4⟩:=qr g4;rw[qaF] at q2;rw[Zc] at q3;simp only[zV,zO,zz] at g2 q4;have q4:=qN q4;refine ⟨_,_,_,?_,TS.push_abs hs,g2⟩;show (if ys.isEmpty=true then _ else _)=_;rw[if_neg hy,if_pos ⟨q1,q2,by simpa only[yH,Jh] using q3,q4⟩,hs.1];rfl
 ·obtain ⟨o,k1,k2⟩:=TS.get_spec hs h2;split at k2 <;> try cases k2
  have k1:=Js k1;simp only[zO] at k2;obtain ⟨g1,g2⟩:=ql k2;obtain ⟨q1,g3⟩:=qr g1;obtain ⟨q2,g4⟩:=qr g3;obtain ⟨q3,g5⟩:=qr g4;obtain ⟨q4,g6⟩:=qr g5;obtain ⟨q5,q6⟩:=qr g6;rw[qaF] at q5;simp only[zV,zz] at g2 q2 q3 q6;have q4':=qM q4;subst q4';have q6:=qN q6;simp only[k1];refine ⟨_,_,_,if_pos ⟨qM q1,qM q2,qM q3,trivial,q5,q6⟩,TS.set_abs hs k1,?_⟩;exact g2
 ·cases h2
def qg7(a b:Bz):Bz:=⟨⟨Z6 a.data.toList b.data.toList⟩⟩
theorem qhb(a b:Bz):qg7 a b=a++b:=by
 apply qaf;simp[qg7,zz]
def qe4(s:Bz)(a b:Nat):Bz:=⟨⟨qab (k9 s.data.toList b) a⟩⟩
theorem qhr(s:Bz)(a b:Nat):qe4 s a b=s.extract a b:=by
 apply qaf;simp[qe4,QS,Q7,List.drop_take,List.extract_eq_take_drop]
def qb7(s:Bz):Nat:=Yd s.data.toList
theorem qar(s:Bz):qb7 s=s.size:=by rw[qb7,zV];rfl
def ltS(a:List UInt8):List UInt8→Bool:=List.rec (motive:=fun _=>List UInt8→Bool) (fun b=>List.rec false (fun _ _ _=>true) b)
 (fun x _ ih b=>List.rec false (fun y ys _=>Bool.rec (Bool.rec false (ih ys) (Nat.beq x.toNat y.toNat)) true (Nat.ble (Nat.succ x.toNat) y.toNat)) b) a
theorem qjg:∀(a b:List UInt8),ltS a b=Op.bytesLess a b
 | [],[]=>rfl
 | [],_::_=>rfl
 | _::_,[]=>rfl
 | x::xs,y::ys=>by
  show (Bool.rec (Bool.rec false (ltS xs ys) (Nat.beq x.toNat y.toNat)) true (Nat.ble (Nat.succ x.toNat) y.toNat):Bool)=_;rw[qjg xs ys,qjC];simp only[Op.bytesLess]
  have hd:Nat.ble (Nat.succ x.toNat) y.toNat=decide (x<y):=by
   rw[qrz,decide_eq_true_iff,YG];exact UInt8.lt_iff_toNat_lt.symm
  rw[hd];cases decide (x<y) <;> cases (x==y) <;> rfl
def kx(a b:Bz):Bool:=ltS a.data.toList b.data.toList
theorem qhh(a b:Bz):kx a b=qcf a b:=by rw[kx,qjg,qcf,yE,yE]
def qfD(op:BinOp)(a b:Bz):Option V:=
 match op with
 | .eql=>some (.bool (Zo a b))
 | .neq=>some (.bool (qbU (Zo a b)))
 | .add=>qX (Nat.ble (Nat.add (qb7 a) (qb7 b)) 9223372036854775807) (some (.str (qg7 a b))) none
 | .lss=>some (.bool (kx a b))
 | .leq=>some (.bool (qX (kx a b) true (Zo a b)))
 | .gtr=>some (.bool (qbU (qX (kx a b) true (Zo a b))))
 | .geq=>some (.bool (qbU (kx a b)))
 | _=>none
theorem qgB(op:BinOp)(a b:Bz):qfD op a b=qcp op a b:=by
 cases op <;> simp only[qfD,qcp,qaQ,YK,qhh,qhb,qar,qY]
 ·have:(Nat.ble (Nat.add a.size b.size) 9223372036854775807=true)↔(((a.size+b.size:Nat):Int)≤IntKind.i64.max):=by
   rw[YG];show a.size+b.size≤_↔((a.size+b.size:Nat):Int)≤9223372036854775807;omega
  simp only[this]
 all_goals (congr 2;first|rfl|(cases qcf a b <;> simp))
def qmo(op:BinOp)(x y:V)(c:V→Bool):Bool:=
 match x with
 | .int k a=>match y with
  | .int k' b=>qX (qo8 op) (Qt (shV op k a b) c) (qX (qfL k k') (Qt (qi5 op k a b) c) false)
  | _=>false
 | .str a=>match y with
  | .str b=>Qt (qfD op a b) c
  | _=>false
 | _=>false
theorem qee{op:BinOp}{x y:V}{c:V→Bool}(h:qmo op x y c=true):∃r,qjy op x y=some r∧c r=true:=by
 refine qhe (op:=op) (x:=x) (y:=y) (c:=c) ?_;unfold qmo at h;unfold qps;split at h
 ·exact h
 ·split at h
  ·rw[qgB,←qdL] at h;exact h
  ·cases h
 ·cases h
def qfC(ps:List (Nat×Nat×Nat×Opd))(tr:TE):V→(V→Bool)→Bool:=List.rec (motive:=fun _=>V→(V→Bool)→Bool) (fun z c=>c z) (fun p _ ih z c=>opd p.2.2.2 tr fun v=>Qt (qoc z p.2.1 p.2.2.1 v) fun z'=>ih z' c) ps
theorem js{tr:TE}{e:Env}(ht:tr.sub e):∀{ps:List (Nat×Nat×Nat×Opd)} {z:V} {c:V→Bool},qfC ps tr z c=true→∃l r,qB e ps=some l∧qF z (l.map fun p=>p.2)=some r∧c r=true
 | [],z,c,h=>⟨[],z,rfl,rfl,h⟩
 | (f,o,n,x)::ps,z,c,h=>by
  obtain ⟨v,h1,h2⟩:=qn (x:=x) (c:=fun v=>Qt (qoc z o n v) fun z'=>qfC ps tr z' c) ht h;obtain ⟨z',h3,h4⟩:=qy h2;obtain ⟨l,r,h5,h6,h7⟩:=js ht h4;rw[qgj] at h3;exact ⟨(f,o,n,v)::l,r,by simp only[qB,h1,h5],by simp only[qq8,qF,h3,qrh,h6],h7⟩
def qhz(v:V)(c:Int→Bool):Bool:=match v with|.int _ n=>c n|_=>false
theorem Qp{v:V}{c:Int→Bool}(h:qhz v c=true):∃k n,v=.int k n∧c n=true:=by
 unfold qhz at h;split at h
 ·exact ⟨_,_,rfl,h⟩
 ·cases h
def qjO(i:Int)(c:Nat→Bool):Bool:=Int.rec c (fun _=>false) i
theorem QQ{i:Int}{c:Nat→Bool}(h:qjO i c=true):∃m:Nat,i=(m:Int)∧c m=true:=by
 cases i with
 | ofNat m=>exact ⟨m,rfl,h⟩
 | negSucc m=>cases h
def qcg(v:V)(c:Bool→Bool):Bool:=match v with|.bool b=>c b|_=>false
theorem YS{v:V}{c:Bool→Bool}(h:qcg v c=true):∃b,v=.bool b∧c b=true:=by
 unfold qcg at h;split at h
 ·exact ⟨_,rfl,h⟩
 ·cases h
def iaR(sz:Nat)(p:V)(i:Int)(ts:TS)(c:V→Bool):Bool:=
 match p with
 | .sl _ xs=>qjO i fun m=>Qt (qjv xs m) fun v=>qX (Nat.beq (ZN v) sz) (c (.iptr v 0)) false
 | .arr l off len st=>ts.get l fun o=>match o with
  | .arr _ s wr=>qjO i fun m=>qX (yy (Nat.ble wr st) (yy (Nat.beq s sz) (Nat.ble (Nat.succ m) len))) (yN (Nat.add off m) fun j=>c (.ptr l j 0 st)) false
  | _=>false
 | _=>false
theorem qim{sz:Nat}{p:V}{i:Int}{ts:TS}{S:St}{c:V→Bool}(hs:ts.Abs S)(h:iaR sz p i ts c=true):∃r,iaS S sz p i=some r∧c r=true:=by
 unfold iaR at h;split at h
 ·obtain ⟨m,rfl,h1⟩:=QQ h;obtain ⟨v,h2,h3⟩:=qy h1;obtain ⟨h4,h5⟩:=ql h3;rw[Z0] at h2;rw[yH] at h4;refine ⟨_,?_,h5⟩;simp only[iaS];rw[if_pos (Int.natCast_nonneg m),qsM,h2];exact if_pos (qM h4)
 ·obtain ⟨o,h1,h2⟩:=TS.get_spec hs h;split at h2 <;> try cases h2
  have h1:=Js h1;obtain ⟨m,rfl,h3⟩:=QQ h2;obtain ⟨h4,h5⟩:=ql h3;obtain ⟨q1,h6⟩:=qr h4;obtain ⟨q2,q3⟩:=qr h6;rw[zO] at h5;have q3:=qN q3;refine ⟨_,?_,h5⟩;simp only[iaS,h1,qsM];exact if_pos ⟨qN q1,qM q2,Int.natCast_nonneg m,by omega⟩
 ·cases h
def qpj(v:V)(i:Int)(c:V→Bool):Bool:=
 match v with
 | .str s=>qjO i fun m=>Qt (qjv s.data.toList m) fun b=>c (.int .u8 (Int.ofNat b.toNat))
 | _=>false
theorem qg4{v:V}{i:Int}{c:V→Bool}(h:qpj v i c=true):∃s r,v=.str s∧qhw s i=some r∧c r=true:=by
 unfold qpj at h;split at h <;> try cases h
 obtain ⟨m,rfl,h1⟩:=QQ h;obtain ⟨b,h2,h3⟩:=qy h1;rw[Z0] at h2;refine ⟨_,_,rfl,?_,h3⟩;simp only[qhw];rw[if_pos (Int.natCast_nonneg m),qsM];rename_i s
 have hb:s[m]?=some b:=by
  obtain ⟨hm,hg⟩:=qqT.1 h2;have hm':m<s.size:=by simpa using hm
  rw[getElem?_pos s m hm'];congr 1
 rw[hb];rfl
def JT(o:Option Int)(d:Nat)(c:Nat→Bool):Bool:=Option.rec (c d) (fun i=>qjO i c) o
theorem yF{o:Option Int}{d:Nat}{c:Nat→Bool}(h:JT o d c=true):∃m:Nat,o.getD (d:Int)=(m:Int)∧c m=true:=by
 cases o with
 | none=>exact ⟨d,rfl,h⟩
 | some i=>
  obtain ⟨m,rfl,h1⟩:=QQ (show qjO i c=true from h);exact ⟨m,rfl,h1⟩
def qpe(s:Bool)(sz:Nat)(d:V)(lo hi:Option Int)(ts:TS)(c:V→Bool):Bool:=
 match d with
 | .str b=>qX s (JT lo 0 fun l=>JT hi (qb7 b) fun h=>qX (yy (Nat.ble l h) (Nat.ble h (qb7 b))) (c (.str (qe4 b l h))) false) false
 | .sl x xs=>qX s false (JT lo 0 fun l=>JT hi (Yd xs) fun h=>qX (yy (Nat.ble l h) (yy (Nat.ble h (Yd xs)) (qf6 (fun v=>Nat.beq (ZN v) sz) xs))) (c (.sl (yy x (Nat.beq h (Yd xs))) (qab (k9 xs h) l))) false)
 | .arr a off len st=>qX s false (JT lo 0 fun l=>JT hi len fun h=>qX (yy (Nat.ble l h) (Nat.ble h len)) (qX (Nat.beq l 0) (c (.arr a off h st)) (qX (Nat.beq l h) (c (.sl false [])) (ts.get a fun o=>match o with
  | .arr _ s wr=>qX (yy (Nat.ble wr st) (Nat.beq s sz)) (yN (Nat.add off l) fun j=>yN (Nat.sub h l) fun n=>c (.arr a j n st)) false
  | _=>false))) false)
 | _=>false
theorem qgi{s:Bool}{sz:Nat}{d:V}{lo hi:Option Int}{ts:TS}{S:St}{c:V→Bool}(hs:ts.Abs S)(h:qpe s sz d lo hi ts c=true):
  ∃r,(match s,d with
   | true,.str b=>(zU S sz (.str b) lo hi).map fun r=>(r,S)
   | false,.sl ..|false,.arr ..=>(zU S sz d lo hi).map fun r=>(r,S)
   | _,_=>none)=some (r,S)∧c r=true:=by
 unfold qpe at h;split at h
 ·obtain ⟨rfl,h0⟩:=ql h;obtain ⟨l,h1,h2⟩:=yF h0;obtain ⟨r,h3,h4⟩:=yF h2;obtain ⟨h5,h6⟩:=ql h4;obtain ⟨q1,q2⟩:=qr h5;rw[qar] at h3 q2;have q1:=qN q1;have q2:=qN q2;rw[qhr] at h6;refine ⟨_,?_,h6⟩;simp only[zU];simp only[Int.ofNat_zero] at h1;rw[show (lo.getD 0)=(l:Int) from h1,h3,if_pos ⟨by omega,by omega,by omega⟩];simp
 ·rw[qY] at h;split at h
  ·cases h
  rename_i hs';simp only[qsz] at hs';subst hs';obtain ⟨l,h1,h2⟩:=yF h;obtain ⟨r,h3,h4⟩:=yF h2;obtain ⟨h5,h6⟩:=ql h4;obtain ⟨q1,h7⟩:=qr h5;obtain ⟨q2,q3⟩:=qr h7;rw[zV] at h3 q2 h6;rw[Zc] at q3;rw[Q7,QS,YO] at h6;have q1:=qN q1;have q2:=qN q2;refine ⟨_,?_,h6⟩;simp only[zU];simp only[Int.ofNat_zero] at h1;rw[show (lo.getD 0)=(l:Int) from h1,h3,if_pos ⟨by omega,by omega,by omega,by simpa only[yH,Jh] using q3⟩];simp only[qre,qsM,Jh];congr 4;rw[qrz];simp;omega
 ·rw[qY] at h;split at h
  ·cases h
  rename_i hs';simp only[qsz] at hs';subst hs';obtain ⟨l,h1,h2⟩:=yF h;obtain ⟨r,h3,h4⟩:=yF h2;obtain ⟨h5,h6⟩:=ql h4;obtain ⟨q1,q2⟩:=qr h5;have q1:=qN q1;have q2:=qN q2;simp only[Int.ofNat_zero] at h1;simp only[zU];rw[show (lo.getD 0)=(l:Int) from h1,h3,if_pos ⟨by omega,by omega,by omega⟩];rw[qY] at h6;split at h6
  ·rename_i hz;have:=qM hz;subst this;exact ⟨_,by rw[if_pos (by simp)];simp,h6⟩
  ·rename_i hz;rw[if_neg (by intro hh;apply hz;rw[ZM];omega)];rw[qY] at h6;split at h6
   ·rename_i he;have:=qM he;subst this;exact ⟨_,by rw[if_pos rfl];rfl,h6⟩
   ·rename_i he;rw[if_neg (by intro hh;apply he;rw[ZM];omega)];obtain ⟨o,k1,k2⟩:=TS.get_spec hs h6;split at k2 <;> try cases k2
    have k1:=Js k1;obtain ⟨k3,k4⟩:=ql k2;obtain ⟨k5,k6⟩:=qr k3;simp only[zO] at k4;refine ⟨_,?_,k4⟩;simp only[k1];rw[if_pos ⟨qN k5,qM k6⟩];simp
 ·cases h
def qbX(o:Option Opd)(tr:TE)(c:Option Int→Bool):Bool:=Option.rec (c none) (fun x=>opd x tr fun v=>qhz v fun n=>c (some n)) o
theorem Jn{tr:TE}{e:Env}(ht:tr.sub e){o:Option Opd}{c:Option Int→Bool}(h:qbX o tr c=true):∃r,JC e o=some r∧c r=true:=by
 cases o with
 | none=>exact ⟨none,rfl,h⟩
 | some x=>
  obtain ⟨v,h1,h2⟩:=qn (x:=x) (c:=fun v=>qhz v fun n=>c (some n)) ht h;obtain ⟨k,n,rfl,h3⟩:=Qp h2;exact ⟨some n,by simp only[JC,h1],h3⟩
def qnk(s:Bool)(v:V)(c:V→Bool):Bool:=
 match v with
 | .str b=>qX s (c (.int .i64 (Int.ofNat (qb7 b)))) false
 | .sl _ xs=>qX s false (c (.int .i64 (Int.ofNat (Yd xs))))
 | .arr _ _ n _=>qX s false (c (.int .i64 (Int.ofNat n)))
 | _=>false
def qcx(kd:KeyKd)(a b:V):Option Bool:=
 match a with
 | .str x=>match b with
  | .str y=>KeyKd.rec (some (Zo x y)) (fun _=>none) kd
  | _=>none
 | a=>YU kd a b
theorem qgK(kd:KeyKd)(a b:V):qcx kd a b=YU kd a b:=by
 unfold qcx;split
 ·split
  ·cases kd
   ·show some (Zo _ _)=_;rw[Zo,Yf];rfl
   ·rfl
  ·rename_i hb;cases kd <;> cases b <;> first|rfl|exact absurd rfl (hb _)
 ·rfl
def ZE(kd:KeyKd)(k:V)(es:List (V×V)):Nat→Option (Option (Nat×V)):=List.rec (motive:=fun _=>Nat→Option (Option (Nat×V))) (fun _=>some none)
 (fun p _ ih i=>Option.rec none (fun b=>Bool.rec (ih (Nat.succ i)) (some (some (i,p.2))) b) (qcx kd k p.1)) es
theorem Q0(kd:KeyKd)(k:V):∀(es:List (V×V)) (i:Nat),ZE kd k es i=zG kd k es i
 | [],i=>rfl
 | (k',v)::es,i=>by
  show (Option.rec none (fun b=>Bool.rec (ZE kd k es (Nat.succ i)) (some (some (i,v))) b) (qcx kd k k'):Option (Option (Nat×V)))=_;rw[qgK,Q0 kd k es];simp only[zG]
  cases YU kd k k' with
  | none=>rfl
  | some b=>cases b <;> rfl
def qmX(kd:KeyKd)(z:V)(ok:Bool)(x k:V)(ts:TS)(c:V→Bool):Bool:=
 let fin (es:List (V×V)):Bool:=Qt (ZE kd k es 0) fun r=>Option.rec (c (qX ok (.tup [z,.bool false]) z)) (fun p=>c (qX ok (.tup [p.2,.bool true]) p.2)) r
 qX (jQ kd k) (match x with
  | .nilmap=>fin []
  | .map l=>ts.get l fun o=>match o with
   | .map es _ _=>fin es
   | _=>false
  | _=>false) false
theorem qey{kd:KeyKd}{z:V}{ok:Bool}{x k:V}{ts:TS}{S:St}{c:V→Bool}(hs:ts.Abs S)(h:qmX kd z ok x k ts c=true):∃r,qbT S kd z ok x k=some r∧c r=true:=by
 unfold qmX at h;obtain ⟨h1,h2⟩:=ql h
 have fin:∀es,qbA S x=some es→(Qt (ZE kd k es 0) fun r=>Option.rec (c (qX ok (.tup [z,.bool false]) z)) (fun p=>c (qX ok (.tup [p.2,.bool true]) p.2)) r)=true→∃r,qbT S kd z ok x k=some r∧c r=true:=by
  intro es hm hf;obtain ⟨r,g1,g2⟩:=qy hf;rw[Q0] at g1;simp only[qbT];rw[if_pos h1,hm];simp only[g1]
  cases r with
  | none=>exact ⟨_,rfl,by rw[←qY];exact g2⟩
  | some p=>exact ⟨_,rfl,by rw[←qY];exact g2⟩
 split at h2
 ·exact fin [] rfl h2
 ·obtain ⟨o,k1,k2⟩:=TS.get_spec hs h2;split at k2 <;> try cases k2
  have k1:=j0 k1;exact fin _ (by simp only[qbA,k1]) k2
 ·cases h2
def ql4(kd:KeyKd)(x k v:V)(ts:TS)(c:TS→Bool):Bool:=
 qX (jQ kd k) (match x with
  | .map l=>ts.get l fun o=>match o with
   | .map es bs ck=>Qt (ZE kd k es 0) fun r=>Option.rec (c (ts.set l (.map (Z6 es [(k,v)]) (Z6 bs [ck]) (Nat.succ ck)))) (fun p=>c (ts.set l (.map (qpa (k,v) es p.1) bs ck))) r
   | _=>false
  | _=>false) false
theorem qeA{kd:KeyKd}{x k v:V}{ts:TS}{S:St}{c:TS→Bool}(hs:ts.Abs S)(h:ql4 kd x k v ts c=true):∃S' ts',qaV S kd x k v=some S'∧ts'.Abs S'∧c ts'=true:=by
 unfold ql4 at h;obtain ⟨h1,h2⟩:=ql h;split at h2 <;> try cases h2
 obtain ⟨o,k1,k2⟩:=TS.get_spec hs h2;split at k2 <;> try cases k2
 have k1:=j0 k1;obtain ⟨r,g1,g2⟩:=qy k2;rw[Q0] at g1;simp only[qaV];rw[if_pos h1];simp only[k1,g1]
 cases r with
 | none=>exact ⟨_,_,rfl,TS.set_abs hs k1,by rw[←zz,←zz];exact g2⟩
 | some p=>exact ⟨_,_,rfl,TS.set_abs hs k1,by rw[←qcq];exact g2⟩
def qjX(x:V)(ts:TS)(c:V→TS→Bool):Bool:=
 match x with
 | .map lm=>ts.get lm fun o=>match o with
  | .map _ _ ck=>yN ts.len fun n=>c (.ptr n 0 0 0) (TS.push ⟨n,ts.tr⟩ (.iter lm ck [] ck))
  | _=>false
 | _=>false
theorem qeL{x:V}{ts:TS}{S:St}{c:V→TS→Bool}(hs:ts.Abs S)(h:qjX x ts c=true):∃r S' ts',qju S x=some (r,S')∧ts'.Abs S'∧c r ts'=true:=by
 unfold qjX at h;split at h <;> try cases h
 obtain ⟨o,k1,k2⟩:=TS.get_spec hs h;split at k2 <;> try cases k2
 have k1:=j0 k1;rw[zO] at k2;exact ⟨_,_,_,by simp only[qju,k1];rw[hs.1],TS.push_abs hs,k2⟩
def qlF(b:Nat)(l:List Nat):Bool:=List.rec false (fun x _ ih=>Bool.rec ih true (Nat.beq b x)) l
theorem qb2(b:Nat):∀l:List Nat,qlF b l=l.contains b
 | []=>rfl
 | x::l=>by
  show (Bool.rec (qlF b l) true (Nat.beq b x):Bool)=_;rw[qb2 b l,List.contains_cons,Jh];cases (b==x) <;> rfl
def qpz{α β:Type}(l:List α):List β→List (α×β):=List.rec (motive:=fun _=>List β→List (α×β)) (fun _=>[]) (fun x _ ih m=>List.rec [] (fun y ys _=>(x,y)::ih ys) m) l
theorem qca{α β:Type}:∀(l:List α) (m:List β),qpz l m=l.zip m
 | [],m=>rfl
 | x::l,[]=>rfl
 | x::l,y::m=>by rw[List.zip_cons_cons,←qca l m];rfl
def qaa{α:Type}(f:α→Bool)(l:List α):List α:=List.rec [] (fun x _ ih=>Bool.rec ih (x::ih) (f x)) l
theorem kJ{α:Type}(f:α→Bool):∀l:List α,qaa f l=l.filter f
 | []=>rfl
 | x::l=>by
  show (Bool.rec (qaa f l) (x::qaa f l) (f x):List α)=_;rw[kJ f l];cases hf:f x
  ·rw[List.filter_cons_of_neg (by simp[hf])]
  ·rw[List.filter_cons_of_pos hf]
def qiO(p:V)(ts:TS)(c:V→TS→Bool):Bool:=
 match p with
 | .ptr l i off st=>qX (yy (Nat.beq i 0) (yy (Nat.beq off 0) (Nat.beq st 0))) (ts.get l fun o=>match o with
  | .iter lm since seen last=>ts.get lm fun m=>match m with
   | .map es bs ck=>qX (yy (qf6 (fun b=>Nat.ble (Nat.succ b) since) bs) (Nat.ble since last)) (List.rec (c (.tup [.bool false]) ts)
    (fun q qs _=>qf6 (fun q=>c (.tup [.bool true,q.1.1,q.1.2]) (ts.set l (.iter lm since (Z6 seen [q.2]) ck))) (q::qs)) (qaa (fun q=>qbU (qlF q.2 seen)) (qpz es bs))) false
   | _=>false
  | _=>false) false
 | _=>false
theorem qeC{p:V}{ts:TS}{S:St}{c:V→TS→Bool}(hs:ts.Abs S)(h:qiO p ts c=true):qeQ S p≠[]∧∀q,q∈qeQ S p→∃ts',ts'.Abs q.2∧c q.1 ts'=true:=by
 unfold qiO at h;split at h <;> try cases h
 rename_i l i off st;obtain ⟨h0,h⟩:=ql h;obtain ⟨z1,h0⟩:=qr h0;obtain ⟨z2,z3⟩:=qr h0;have z1:=qM z1;have z2:=qM z2;have z3:=qM z3;subst z1;subst z2;subst z3;obtain ⟨o,k1,k2⟩:=TS.get_spec hs h;split at k2 <;> try cases k2
 rename_i lm since seen last;have k1:=qgw k1;obtain ⟨m,g1,g2⟩:=TS.get_spec hs k2;split at g2 <;> try cases g2
 rename_i es bs ck;have g1:=j0 g1;obtain ⟨e1,e2⟩:=ql g2;obtain ⟨e3,e4⟩:=qr e1;rw[Zc] at e3;have e4:=qN e4
 have hall:(bs.all fun b=>decide (b<since))=true:=by
  simp only[qri,decide_eq_true_eq] at e3 ⊢;exact fun b hb=>qN (e3 b hb)
 have hf:(fun q:(V×V)×Nat=>qbU (qlF q.2 seen))=fun q=>!seen.contains q.2:=by
  funext q;rw[YK,qb2]
 rw[kJ,qca,hf] at e2;simp only[qeQ,k1,g1];rw[if_pos ⟨hall,e4⟩]
 cases hq:(es.zip bs).filter fun q=>!seen.contains q.2 with
 | nil=>
  rw[hq] at e2;exact ⟨by simp,fun q hq=>by rw[qrN] at hq;subst hq;exact ⟨ts,hs,e2⟩⟩
 | cons q0 qs=>
  rw[hq] at e2;have e2:qf6 (fun q:(V×V)×Nat=>c (.tup [.bool true,q.1.1,q.1.2]) (ts.set l (.iter lm since (Z6 seen [q.2]) ck))) (q0::qs)=true:=e2;rw[Zc,qri] at e2;refine ⟨by simp,fun q hq=>?_⟩;obtain ⟨q',hq',rfl⟩:=qrf.1 hq;have:=e2 q' hq';rw[zz] at this;exact ⟨_,TS.set_abs hs k1,this⟩
def qkt{α:Type}(f:α→Bool)(l:List α):Option α:=List.rec none (fun x _ ih=>Bool.rec ih (some x) (f x)) l
theorem qcM{α:Type}(f:α→Bool):∀l:List α,qkt f l=l.find? f
 | []=>rfl
 | x::l=>by
  show (Bool.rec (qkt f l) (some x) (f x):Option α)=_;rw[qcM f l,List.find?_cons];cases f x <;> rfl
def qgl(l:List Nat):Bool:=List.rec true (fun x xs ih=>Bool.rec ih false (qlF x xs)) l
theorem jr:∀{l:List Nat},qgl l=true→l.Nodup
 | [],_=>List.nodup_nil
 | x::xs,h=>by
  have h':(Bool.rec (qgl xs) false (qlF x xs):Bool)=true:=h
  cases hm:qlF x xs with
  | true=>rw[hm] at h';cases h'
  | false=>
   rw[hm] at h';rw[qb2] at hm;exact List.nodup_cons.2 ⟨by simpa using hm,jr h'⟩
def qkz(l:List Nat):Option Nat:=List.rec (motive:=fun _=>Option Nat→Option Nat) (fun d=>d) (fun x _ ih _=>ih (some x)) l none
theorem qcy:∀(l:List Nat) (d:Option Nat),(List.rec (motive:=fun _=>Option Nat→Option Nat) (fun d=>d) (fun x _ ih _=>ih (some x)) l d:Option Nat)=match l.getLast? with|some x=>some x|none=>d
 | [],d=>rfl
 | [x],d=>rfl
 | x::y::l,d=>by
  show (List.rec (motive:=fun _=>Option Nat→Option Nat) (fun d=>d) (fun x _ ih _=>ih (some x)) (y::l) (some x):Option Nat)=_;rw[qcy (y::l),qsP]
theorem qjb(l:List Nat):qkz l=l.getLast?:=by
 unfold qkz;rw[qcy];cases l.getLast? <;> rfl
def qjU(p:V)(ts:TS)(c:V→Bool):Bool:=
 match p with
 | .ptr l i off st=>qX (yy (Nat.beq i 0) (yy (Nat.beq off 0) (Nat.beq st 0))) (ts.get l fun o=>match o with
  | .iter lm _ seen last=>ts.get lm fun m=>match m with
   | .map es bs ck=>qX (yy (Nat.beq ck last) (qgl bs)) (Qt (qkz seen) fun b=>Qt (qkt (fun q=>Nat.beq q.2 b) (qpz es bs)) fun q=>c (.tup [q.1.1,q.1.2])) false
   | _=>false
  | _=>false) false
 | _=>false
theorem qeI{p:V}{ts:TS}{S:St}{c:V→Bool}(hs:ts.Abs S)(h:qjU p ts c=true):∃r,qjN S p=some r∧c r=true:=by
 unfold qjU at h;split at h <;> try cases h
 rename_i l i off st;obtain ⟨h0,h⟩:=ql h;obtain ⟨z1,h0⟩:=qr h0;obtain ⟨z2,z3⟩:=qr h0;have z1:=qM z1;have z2:=qM z2;have z3:=qM z3;subst z1;subst z2;subst z3;obtain ⟨o,k1,k2⟩:=TS.get_spec hs h;split at k2 <;> try cases k2
 have k1:=qgw k1;obtain ⟨m,g1,g2⟩:=TS.get_spec hs k2;split at g2 <;> try cases g2
 have g1:=j0 g1;obtain ⟨e1,e2⟩:=ql g2;obtain ⟨e3,e4⟩:=qr e1;have e3:=qM e3;obtain ⟨b,e5,e6⟩:=qy e2;obtain ⟨q,e7,e8⟩:=qy e6;rw[qjb] at e5;rw[qcM,qca] at e7;have hf:∀b:Nat,(fun q:(V×V)×Nat=>Nat.beq q.2 b)=fun q=>q.2==b:=fun b=>by funext q;exact Jh _ _
 rw[hf] at e7;refine ⟨_,?_,e8⟩;simp only[qjN,k1,g1];rw[if_pos ⟨e3,jr e4⟩];simp only[e5,e7]
def qdH{α:Type}(l:List α):Nat→List α:=List.rec (motive:=fun _=>Nat→List α) (fun _=>[]) (fun x xs ih n=>Nat.rec xs (fun m _=>x::ih m) n) l
theorem jd{α:Type}:∀(l:List α) (n:Nat),qdH l n=l.eraseIdx n
 | [],n=>by simp[qdH]
 | x::xs,0=>rfl
 | x::xs,n+1=>by rw[List.eraseIdx_cons_succ,←jd xs n];rfl
def qkZ(kd:KeyKd)(x k:V)(ts:TS)(c:TS→Bool):Bool:=
 qX (jQ kd k) (match x with
  | .map l=>ts.get l fun o=>match o with
   | .map es bs ck=>Qt (ZE kd k es 0) fun r=>Option.rec (c (ts.set l (.map es bs ck))) (fun p=>c (ts.set l (.map (qdH es p.1) (qdH bs p.1) ck))) r
   | _=>false
  | _=>false) false
theorem qed{kd:KeyKd}{x k:V}{ts:TS}{S:St}{c:TS→Bool}(hs:ts.Abs S)(h:qkZ kd x k ts c=true):∃S' ts',qmp S kd x k=some S'∧ts'.Abs S'∧c ts'=true:=by
 unfold qkZ at h;obtain ⟨h1,h2⟩:=ql h;split at h2 <;> try cases h2
 obtain ⟨o,k1,k2⟩:=TS.get_spec hs h2;split at k2 <;> try cases k2
 have k1:=j0 k1;obtain ⟨r,g1,g2⟩:=qy k2;rw[Q0] at g1;simp only[qmp];rw[if_pos h1];simp only[k1,g1]
 cases r with
 | none=>exact ⟨_,_,rfl,TS.set_abs hs k1,g2⟩
 | some p=>exact ⟨_,_,rfl,TS.set_abs hs k1,by rw[←jd,←jd];exact g2⟩
def zl(S S':St):Prop:=∀(l:Nat) (i:LI),S[l]?=some (Ob.loop i)→∃st pend,S'[l]?=some (Ob.loop { i with st:=st,pend:=pend })
theorem zl.refl(S:St):zl S S:=fun l i h=>⟨i.st,i.pend,h⟩
theorem zl.trans{S S1 S2:St}(h:zl S S1)(g:zl S1 S2):zl S S2:=fun l i hl=>by
 obtain ⟨st,p,h1⟩:=h l i hl;obtain ⟨st',p',h2⟩:=g l _ h1;exact ⟨st',p',h2⟩
theorem zl.app(S T:St):zl S (S++T):=fun l i h=>⟨i.st,i.pend,by rw[qqW (qqT.1 h).1];exact h⟩
theorem zl.set{S:St}{l:Nat}{o o':Ob}(h:S[l]?=some o)(hn:∀i:LI,o≠Ob.loop i):zl S (S.set l o'):=fun j i hj=>by
 by_cases hk:l=j
 ·subst hk;rw[h] at hj;cases hj;exact absurd rfl (hn i)
 ·exact ⟨i.st,i.pend,by rw[qqX hk];exact hj⟩
theorem qiJ{e:Env}{S S':St}{k:X}{r:V}(h:evX e S k=some (r,S')):zl S S':=by
 by_cases hw:k.writes=true
 ·cases k <;> simp only[X.writes,qrn] at hw <;> simp only[evX] at h
  case mup kd x y z=>
   split at h <;> try cases h
   rename_i m key val _ _ _;simp only[qq3,Prod.mk.injEq] at h;obtain ⟨S1,h1,_,rfl⟩:=h;unfold qaV at h1;split at h1 <;> try cases h1
   split at h1 <;> try cases h1
   split at h1 <;> try cases h1
   rename_i hl;split at h1 <;> cases h1 <;> exact zl.set hl (fun i=>by simp)
  case mkm=>cases h;exact zl.app _ _
  case mks sz b z l c=>
   split at h <;> try cases h
   unfold qm5 at h;split at h <;> cases h;exact zl.app _ _
  case rng x=>
   simp only[qrK] at h;obtain ⟨v,_,h⟩:=h;unfold qju at h;split at h <;> try cases h
   split at h <;> cases h;exact zl.app _ _
  case nxt x=>cases h
  case del kd x y=>
   split at h <;> try cases h
   simp only[qq3,Prod.mk.injEq] at h;obtain ⟨S1,h1,_,rfl⟩:=h;unfold qmp at h1;split at h1 <;> try cases h1
   split at h1 <;> try cases h1
   split at h1 <;> try cases h1
   rename_i hl;split at h1 <;> cases h1 <;> exact zl.set hl (fun i=>by simp)
 ·have:=qdr (by simpa using hw) h;subst this;exact zl.refl _
theorem JN{e:Env}{S S':St}{k:K}{r:V}(h:evK e S k=some (r,S')):zl S S':=by
 by_cases hw:k.writes=true
 ·cases k <;> simp only[K.writes,qrn] at hw <;> simp only[evK] at h
  case new z=>
   unfold qG at h;split at h <;> cases h;exact zl.app _ _
  case box x=>
   simp only[qrK] at h;obtain ⟨v,_,h⟩:=h;unfold qG at h;split at h <;> cases h;exact zl.app _ _
  case sto n a x=>
   split at h <;> try cases h
   simp only[qq3,Prod.mk.injEq] at h;obtain ⟨S1,h1,_,rfl⟩:=h;unfold stS at h1;split at h1 <;> try cases h1
   split at h1 <;> try cases h1
   rename_i hl;split at h1 <;> try cases h1
   simp only[qrK,qq3] at h1;obtain ⟨_,_,_,_,rfl⟩:=h1;exact zl.set hl (fun i=>by simp)
  case app sz b d x=>
   split at h <;> try cases h
   unfold Jz at h;split at h
   ·cases h
   ·split at h
    ·split at h
     ·cases h;exact zl.refl _
     ·split at h <;> cases h;exact zl.app _ _
    ·split at h <;> try cases h
     rename_i hl;split at h <;> cases h;exact zl.set hl (fun i=>by simp)
    ·cases h
  case call=>cases h
  case ex k=>exact qiJ h
 ·have:=Yn (by simpa using hw) h;subst this;exact zl.refl _
theorem qfJ{S:St}{p:V}{q:V×St}(h:q∈qeQ S p):zl S q.2:=by
 unfold qeQ at h;split at h <;> try cases h
 split at h <;> try cases h
 rename_i hl;split at h <;> try cases h
 split at h <;> try cases h
 split at h
 ·rw[qrN] at h;subst h;exact zl.refl _
 ·obtain ⟨q',_,rfl⟩:=qrf.1 h;exact zl.set hl (fun i=>by simp)
def qlc(ts:List Nat)(tr:TE):(Env→Bool)→Bool:=List.rec (motive:=fun _=>(Env→Bool)→Bool) (fun c=>c []) (fun t _ ih c=>Qt (Tx.get (Q8 t) tr) fun v=>ih fun e=>c ((t,v)::e)) ts
theorem kp{tr:TE}{e:Env}(ht:tr.sub e):∀{ts:List Nat} {c:Env→Bool},qlc ts tr c=true→∃e0,Z4 ts e0 e∧c e0=true
 | [],c,h=>⟨[],fun t h=>(by cases h),h⟩
 | t::ts,c,h=>by
  obtain ⟨v,h1,h2⟩:=qy (show (Qt (Tx.get (Q8 t) tr) fun v=>qlc ts tr fun e=>c ((t,v)::e))=true from h);obtain ⟨e0,h3,h4⟩:=kp ht h2;refine ⟨_,fun s hs=>?_,h4⟩;simp only[Env.get];by_cases hst:t=s
  ·subst hst;rw[if_pos rfl];exact ht t v h1
  ·rw[if_neg hst];rcases qrl.1 hs with rfl|hs
   ·exact absurd rfl hst
   ·exact h3 s hs
def qfK(x:X)(tr:TE)(ts:TS)(c:V→TS→Bool):Bool:=qX x.reads false (qlc x.tmps tr fun e=>Qt (evX e [] x) fun p=>c p.1 ts)
theorem qcl{x:X}{tr:TE}{e:Env}{ts:TS}{S:St}{c:V→TS→Bool}(ht:tr.sub e)(hs:ts.Abs S)(h:qfK x tr ts c=true):qpc e S (.ex x) c:=by
 unfold qfK at h;rw[qY] at h;split at h
 ·cases h
 ·rename_i hr;simp only[qsz] at hr;obtain ⟨e0,h1,h2⟩:=kp ht h;obtain ⟨p,h3,h4⟩:=qy h2;refine ⟨p.1,S,ts,?_,hs,h4⟩;simp only[evK];rw[qbj h1,qcT (S:=[]) hr,h3];rfl
def opX(x:X):TE→TS→(V→TS→Bool)→Bool:=
 match x with
 | .lkp kd z ok x k=>fun tr ts c=>opd x tr fun m=>opd k tr fun key=>qmX kd z ok m key ts fun r=>c r ts
 | .mup kd x k v=>fun tr ts c=>opd x tr fun m=>opd k tr fun key=>opd v tr fun val=>ql4 kd m key val ts fun ts'=>c (.tup []) ts'
 | .mkm=>fun _ ts c=>yN ts.len fun n=>c (.map n) (TS.push ⟨n,ts.tr⟩ (.map [] [] 0))
 | .mks sz bytes z l cp=>fun tr ts c=>opd l tr fun lv=>opd cp tr fun cv=>qhz lv fun li=>qhz cv fun ci=>
  qX (qm5 [] sz bytes z li ci).isSome (yN ts.len fun n=>qjO li fun m=>c (.arr n 0 m m) (TS.push ⟨n,ts.tr⟩ (.arr (List.replicate m z) sz m))) false
 | .cts x=>fun tr ts c=>opd x tr fun p=>qdb p ts fun xs=>Qt (bytesOf xs) fun bs=>c (.str ⟨⟨bs⟩⟩) ts
 | .rng x=>fun tr ts c=>opd x tr fun v=>qjX v ts c
 | .ent x=>fun tr ts c=>opd x tr fun v=>qjU v ts fun r=>c r ts
 | .del kd x k=>fun tr ts c=>opd x tr fun m=>opd k tr fun key=>qkZ kd m key ts fun ts'=>c (.tup []) ts'
 | .wrap n x=>fun tr ts c=>opd x tr fun v=>qX (yy (Nat.beq (ZN v) n) (kG v.cells)) (c (.agg v.cells) ts) false
 | .ixa n sz kd x i=>fun tr ts c=>opd x tr fun v=>opd i tr fun iv=>qhz iv fun ix=>qjO ix fun m=>qX (yy v.isAgg (Nat.ble (Nat.succ m) n)) (Qt (qem v (Nat.mul m sz) kd) fun r=>c r ts) false
 | x=>qfK x
theorem qhU{x:X}{tr:TE}{e:Env}{ts:TS}{S:St}{c:V→TS→Bool}(ht:tr.sub e)(hs:ts.Abs S)(h:opX x tr ts c=true):qpc e S (.ex x) c:=by
 unfold opX at h;split at h
 ·obtain ⟨m,h1,h2⟩:=qn ht h;obtain ⟨key,h3,h4⟩:=qn ht h2;obtain ⟨r,h5,h6⟩:=qey hs h4;exact ⟨r,S,ts,by simp only[evK,evX,h1,h3,h5,qre],hs,h6⟩
 ·obtain ⟨m,h1,h2⟩:=qn ht h;obtain ⟨key,h3,h4⟩:=qn ht h2;obtain ⟨val,h5,h6⟩:=qn ht h4;obtain ⟨S',ts',h7,h8,h9⟩:=qeA hs h6;exact ⟨_,S',ts',by simp only[evK,evX,h1,h3,h5,h7,qre],h8,h9⟩
 ·rw[zO] at h;exact ⟨_,_,_,by simp only[evK,evX];rw[hs.1],TS.push_abs hs,h⟩
 ·obtain ⟨lv,h1,h2⟩:=qn ht h;obtain ⟨cv,h3,h4⟩:=qn ht h2;obtain ⟨kl,li,rfl,h5⟩:=Qp h4;obtain ⟨kc,ci,rfl,h6⟩:=Qp h5;obtain ⟨h7,h8⟩:=ql h6;rw[zO] at h8;obtain ⟨m,rfl,h9⟩:=QQ h8;refine ⟨_,_,_,?_,TS.push_abs hs,h9⟩;simp only[evK,evX,h1,h3];unfold qm5 at h7 ⊢;split at h7
  ·rename_i hc;rw[if_pos hc,hs.1,qsM]
  ·cases h7
 ·obtain ⟨p,h1,h2⟩:=qn ht h;obtain ⟨xs,h3,h4⟩:=JY hs h2;obtain ⟨bs,h5,h6⟩:=qy h4;exact ⟨_,S,ts,by simp only[evK,evX,h1,qrh,qnJ,h3,h5,qre],hs,h6⟩
 ·obtain ⟨v,h1,h2⟩:=qn ht h;obtain ⟨r,S',ts',h3,h4,h5⟩:=qeL hs h2;exact ⟨r,S',ts',by simp only[evK,evX,h1,qrh,h3],h4,h5⟩
 ·obtain ⟨v,h1,h2⟩:=qn ht h;obtain ⟨r,h3,h4⟩:=qeI hs h2;exact ⟨r,S,ts,by simp only[evK,evX,h1,qrh,h3,qre],hs,h4⟩
 ·obtain ⟨m,h1,h2⟩:=qn ht h;obtain ⟨key,h3,h4⟩:=qn ht h2;obtain ⟨S',ts',h5,h6,h7⟩:=qed hs h4;exact ⟨_,S',ts',by simp only[evK,evX,h1,h3,h5,qre],h6,h7⟩
 ·obtain ⟨v,h1,h2⟩:=qn ht h;obtain ⟨h3,h4⟩:=ql h2;obtain ⟨h5,h6⟩:=qr h3;rw[yH] at h5;rw[Zd] at h6;exact ⟨_,S,ts,by simp only[evK,evX,h1,qrh];exact if_pos ⟨qM h5,h6⟩,hs,h4⟩
 ·obtain ⟨v,h1,h2⟩:=qn ht h;obtain ⟨iv,h3,h4⟩:=qn ht h2;obtain ⟨kk,ix,rfl,h5⟩:=Qp h4;obtain ⟨m,rfl,h6⟩:=QQ h5;obtain ⟨h7,h8⟩:=ql h6;obtain ⟨h9,h10⟩:=qr h7;obtain ⟨r,h11,h12⟩:=qy h8;rw[Yv] at h11;have h10:=qN h10;refine ⟨r,S,ts,?_,hs,h12⟩;simp only[evK,evX,h1,h3];rw[if_pos ⟨h9,by omega,by omega⟩,qsM,show m * _=Nat.mul m _ from rfl,h11];rfl
 ·exact qcl ht hs h
abbrev qaI:=Nat→List V→TS→(V→TS→Bool)→Bool
def opK(k:K):TE→TS→(V→TS→Bool)→Bool:=
 match k with
 | .mv x=>fun tr ts c=>opd x tr fun v=>c v ts
 | .pick x a b=>fun tr ts c=>opd x tr fun v=>qcg v fun t=>qX t (opd a tr fun v=>c v ts) (opd b tr fun v=>c v ts)
 | .new z=>fun _ ts c=>qpb z ts c
 | .box x=>fun tr ts c=>opd x tr fun v=>qpb v ts c
 | .build z ps=>fun tr ts c=>qfC ps tr z fun v=>c v ts
 | .bsl sz xs=>fun tr ts c=>qjp xs tr fun l=>qX (yy (qff sz l) (Nat.ble (Nat.mul (Yd l) sz) 16777216)) (c (.sl true l) ts) false
 | .ld k a=>fun tr ts c=>opd a tr fun p=>ldR p k ts fun v=>c v ts
 | .sto n a x=>fun tr ts c=>opd a tr fun p=>opd x tr fun v=>stR p n v ts fun ts'=>c (.tup []) ts'
 | .nck x=>fun tr ts c=>opd x tr fun v=>qX (zY v) (c v ts) false
 | .bin op x y=>fun tr ts c=>opd x tr fun u=>opd y tr fun v=>qmo op u v fun r=>c r ts
 | .eq kd neg x y=>fun tr ts c=>opd x tr fun u=>opd y tr fun v=>qX (zT kd u v) (Qt (eqV u v) fun b=>c (.bool (qX neg (qbU b) b)) ts) false
 | .un op x=>fun tr ts c=>opd x tr fun v=>Qt (unV op v) fun r=>c r ts
 | .fa off x=>fun tr ts c=>opd x tr fun v=>Qt (faV v off) fun r=>c r ts
 | .ia sz x i=>fun tr ts c=>opd x tr fun p=>opd i tr fun iv=>qhz iv fun ix=>iaR sz p ix ts fun r=>c r ts
 | .idx x i=>fun tr ts c=>opd x tr fun p=>opd i tr fun iv=>qhz iv fun ix=>qpj p ix fun r=>c r ts
 | .fld off k x=>fun tr ts c=>opd x tr fun v=>qX v.isAgg (Qt (qem v off k) fun r=>c r ts) false
 | .slc s sz x lo hi=>fun tr ts c=>opd x tr fun d=>qbX lo tr fun l=>qbX hi tr fun h=>qpe s sz d l h ts fun r=>c r ts
 | .ext i x=>fun tr ts c=>opd x tr fun v=>match v with
  | .tup vs=>Qt (qjv vs i) fun r=>c r ts
  | _=>false
 | .len s x=>fun tr ts c=>opd x tr fun v=>qnk s v fun r=>c r ts
 | .app sz bytes d x=>fun tr ts c=>opd d tr fun u=>opd x tr fun v=>qku sz bytes u v ts c
 | .mkf k fs cs=>fun tr ts c=>qjp fs tr fun us=>qjp cs tr fun vs=>c (.fn (.func k) us vs) ts
 | .conv k x=>fun tr ts c=>opd x tr fun v=>qhz v fun n=>c (.int k (qd6 k n)) ts
 | .call _ _=>fun _ _ _=>false
 | .ex x=>opX x
theorem Yt{k:K}{tr:TE}{e:Env}{ts:TS}{S:St}{c:V→TS→Bool}(ht:tr.sub e)(hs:ts.Abs S)(h:opK k tr ts c=true):qpc e S k c:=by
 cases k <;> simp only[opK] at h
 case mv x=>
  obtain ⟨v,h1,h2⟩:=qn ht h;exact ⟨v,S,ts,by simp only[evK,h1,qre],hs,h2⟩
 case pick x a b=>
  obtain ⟨v,h1,h2⟩:=qn ht h;obtain ⟨t,rfl,h3⟩:=YS h2;rw[qY] at h3;cases t
  ·obtain ⟨r,h4,h5⟩:=qn ht (by simpa using h3);exact ⟨r,S,ts,by simp only[evK,h1];simp[h4],hs,h5⟩
  ·obtain ⟨r,h4,h5⟩:=qn ht (by simpa using h3);exact ⟨r,S,ts,by simp only[evK,h1];simp[h4],hs,h5⟩
 case new z=>exact qbo hs h
 case box x=>
  obtain ⟨v,h1,h2⟩:=qn ht h;obtain ⟨r,S',ts',h3,h4,h5⟩:=qbo hs h2;exact ⟨r,S',ts',by simp only[evK,h1,qrh,h3],h4,h5⟩
 case build z ps=>
  obtain ⟨l,r,h1,h2,h3⟩:=js ht h;exact ⟨r,S,ts,by simp only[evK,h1,qrh,h2,qre],hs,h3⟩
 case bsl sz xs=>
  obtain ⟨l,h1,h2⟩:=yq ht h;obtain ⟨h3,h4⟩:=ql h2;obtain ⟨h5,h6⟩:=qr h3;rw[qaF] at h5;rw[zV] at h6;exact ⟨_,S,ts,by simp only[evK,h1,qrh];exact if_pos ⟨h5,qN h6⟩,hs,h4⟩
 case ld k a=>
  obtain ⟨p,h1,h2⟩:=qn ht h;obtain ⟨v,h3,h4⟩:=qcN hs h2;exact ⟨v,S,ts,by simp only[evK,h1,qrh,h3,qre],hs,h4⟩
 case sto n a x=>
  obtain ⟨p,h1,h2⟩:=qn ht h;obtain ⟨v,h3,h4⟩:=qn ht h2;obtain ⟨S',ts',h5,h6,h7⟩:=qiL hs h4;exact ⟨_,S',ts',by simp only[evK,h1,h3,h5,qre],h6,h7⟩
 case nck x=>
  obtain ⟨v,h1,h2⟩:=qn ht h;obtain ⟨h3,h4⟩:=ql h2;exact ⟨v,S,ts,by simp only[evK,h1,qrh];exact if_pos h3,hs,h4⟩
 case bin op x y=>
  obtain ⟨u,h1,h2⟩:=qn ht h;obtain ⟨v,h3,h4⟩:=qn ht h2;obtain ⟨r,h5,h6⟩:=qee h4;exact ⟨r,S,ts,by simp only[evK,h1,h3,h5,qre],hs,h6⟩
 case eq kd neg x y=>
  obtain ⟨u,h1,h2⟩:=qn ht h;obtain ⟨v,h3,h4⟩:=qn ht h2;obtain ⟨h5,h6⟩:=ql h4;obtain ⟨b,h7,h8⟩:=qy h6;rw[qY,YK] at h8;exact ⟨_,S,ts,by simp only[evK,h1,h3];rw[if_pos h5,h7];rfl,hs,h8⟩
 case un op x=>
  obtain ⟨v,h1,h2⟩:=qn ht h;obtain ⟨r,h3,h4⟩:=qy h2;exact ⟨r,S,ts,by simp only[evK,h1,qrh,h3,qre],hs,h4⟩
 case fa off x=>
  obtain ⟨v,h1,h2⟩:=qn ht h;obtain ⟨r,h3,h4⟩:=qy h2;exact ⟨r,S,ts,by simp only[evK,h1,qrh,h3,qre],hs,h4⟩
 case ia sz x i=>
  obtain ⟨p,h1,h2⟩:=qn ht h;obtain ⟨v,h3,h4⟩:=qn ht h2;obtain ⟨k,n,rfl,h5⟩:=Qp h4;obtain ⟨r,h6,h7⟩:=qim hs h5;exact ⟨r,S,ts,by simp only[evK,h1,h3,h6,qre],hs,h7⟩
 case idx x i=>
  obtain ⟨p,h1,h2⟩:=qn ht h;obtain ⟨v,h3,h4⟩:=qn ht h2;obtain ⟨k,n,rfl,h5⟩:=Qp h4;obtain ⟨s,r,rfl,h6,h7⟩:=qg4 h5;exact ⟨r,S,ts,by simp only[evK,h1,h3,h6,qre],hs,h7⟩
 case fld off k x=>
  obtain ⟨v,h1,h2⟩:=qn ht h;obtain ⟨h3,h4⟩:=ql h2;obtain ⟨r,h5,h6⟩:=qy h4;rw[Yv] at h5;exact ⟨r,S,ts,by simp only[evK,h1,qrh];rw[if_pos h3,h5];rfl,hs,h6⟩
 case slc s sz x lo hi=>
  obtain ⟨d,h1,h2⟩:=qn ht h;obtain ⟨l,h3,h4⟩:=Jn ht h2;obtain ⟨r,h5,h6⟩:=Jn ht h4;obtain ⟨w,h7,h8⟩:=qgi hs h6;exact ⟨w,S,ts,by simp only[evK,h1,h3,h5];exact h7,hs,h8⟩
 case ext i x=>
  obtain ⟨v,h1,h2⟩:=qn ht h;split at h2 <;> try cases h2
  obtain ⟨r,h3,h4⟩:=qy h2;rw[Z0] at h3;exact ⟨r,S,ts,by simp only[evK,h1,h3,qre],hs,h4⟩
 case len s x=>
  obtain ⟨v,h1,h2⟩:=qn ht h;unfold qnk at h2;split at h2
  ·obtain ⟨rfl,h3⟩:=ql h2;rw[qar] at h3;exact ⟨_,S,ts,by simp only[evK,h1,qrh];rfl,hs,h3⟩
  ·rw[qY] at h2;split at h2
   ·cases h2
   ·rename_i hb;simp only[qsz] at hb;subst hb;rw[zV] at h2;exact ⟨_,S,ts,by simp only[evK,h1,qrh];rfl,hs,h2⟩
  ·rw[qY] at h2;split at h2
   ·cases h2
   ·rename_i hb;simp only[qsz] at hb;subst hb;exact ⟨_,S,ts,by simp only[evK,h1,qrh];rfl,hs,h2⟩
  ·cases h2
 case app sz bytes d x=>
  obtain ⟨u,h1,h2⟩:=qn ht h;obtain ⟨v,h3,h4⟩:=qn ht h2;obtain ⟨r,S',ts',h5,h6,h7⟩:=qej hs h4;exact ⟨r,S',ts',by simp only[evK,h1,h3,h5],h6,h7⟩
 case mkf k fs cs=>
  obtain ⟨us,h1,h2⟩:=yq ht h;obtain ⟨vs,h3,h4⟩:=yq ht h2;exact ⟨_,S,ts,by simp only[evK,h1,h3],hs,h4⟩
 case conv k x=>
  obtain ⟨v,h1,h2⟩:=qn ht h;obtain ⟨k',n,rfl,h3⟩:=Qp h2;rw[qcX] at h3;exact ⟨_,S,ts,by simp only[evK,h1],hs,h3⟩
 case call=>cases h
 case ex x=>exact qhU ht hs h
def qdJ(P:Program)(call:qaI):Prop:=∀(k:Nat) (args:List V) (ts:TS) (S:St) (c:V→TS→Bool),ts.Abs S→call k args ts c=true→
 ∃r S' ts',qt P k args S (fun v U=>v=r∧U=S')∧zl S S'∧ts'.Abs S'∧c r ts'=true
def qin(call:qaI)(f:Opd)(args:List Opd)(tr:TE)(ts:TS)(c:V→TS→Bool):Bool:=
 opd f tr fun fv=>match fv with
  | .fn (.func k) fs cs=>qjp args tr fun vs=>call k (Z6 (Z6 fs vs) cs) ts c
  | _=>false
def opR(call:qaI)(k:K):TE→TS→(V→TS→Bool)→Bool:=
 match k with
 | .call f args=>qin call f args
 | k=>opK k
theorem qex{P:Program}{call:qaI}(ok:qdJ P call){f:Opd}{args:List Opd}{tr:TE}{e:Env}{ts:TS}{S:St}{c:V→TS→Bool}(ht:tr.sub e)(hs:ts.Abs S)(h:qin call f args tr ts c=true):
  ∃k fs cs vs,f.ev e=some (.fn (.func k) fs cs)∧evs e args=some vs∧∃r S' ts',qt P k (fs++vs++cs) S (fun v U=>v=r∧U=S')∧zl S S'∧ts'.Abs S'∧c r ts'=true:=by
 unfold qin at h;obtain ⟨fv,h1,h2⟩:=qn ht h;split at h2 <;> try cases h2
 obtain ⟨vs,h3,h4⟩:=yq ht h2;rw[zz,zz] at h4;exact ⟨_,_,_,vs,h1,h3,ok _ _ _ _ _ hs h4⟩
def qaE(g:Option (Nat×Bool))(tr:TE)(no yes:Bool):Bool:=
 Option.rec yes (fun p=>Qt (Tx.get (Q8 p.1) tr) fun v=>match v with
  | .bool b=>qX (qX b p.2 (qbU p.2)) yes no
  | .tup vs=>qX (J6 vs) no false
  | _=>false) g
theorem ZB{g:Option (Nat×Bool)}{tr:TE}{e:Env}{no yes:Bool}(ht:tr.sub e)(h:qaE g tr no yes=true):(qU e g=some true∧yes=true)∨(qU e g=some false∧no=true):=by
  cases g with
  | none=>exact .inl ⟨rfl,h⟩
  | some p=>
    obtain ⟨t,want⟩:=p
    obtain ⟨v,h1,h2⟩:=qy (show (Qt (Tx.get (Q8 t) tr) fun v=>match v with
      | .bool b=>qX (qX b want (qbU want)) yes no
      | .tup vs=>qX (J6 vs) no false
      | _=>false)=true from h)
    have hg:=ht t v h1;split at h2
    · rename_i b;simp only[qU,hg];cases b <;> cases want <;> first|exact .inl ⟨rfl,h2⟩|exact .inr ⟨rfl,h2⟩
    · rename_i vs;obtain ⟨h3,h4⟩:=ql (show qX (J6 vs) no false=true from h2);rw[jh,List.isEmpty_iff] at h3;subst h3;exact .inr ⟨by simp only[qU,hg],h4⟩
    · cases h2
def rdR(base:Nat)(tr:TE)(d:D)(T:TS):Bool:=
 match d.slot with
 | some s=>match d.o.k with
  | .new z=>T.get (base+s) fun o=>match o with
   | .arr [y] sz 1=>yy (V.same y z) (yy (Nat.beq sz (ZN z)) (yy (Nat.ble 1 (ZN z)) (kG z.cells)))
   | _=>false
  | _=>false
 | none=>qX d.o.k.writes false (opK d.o.k tr T fun v _=>Option.rec true (fun t=>Qt (Tx.get (Q8 t) tr) fun u=>V.same u v) d.o.dst)
theorem qi0{base:Nat}{tr:TE}{ef:Env}{d:D}{T:TS}{U:St}(ht:tr.sub ef)(hs:T.Abs U)(h:rdR base tr d T=true):match d.slot with
  | some s=>match d.o.k with
   | .new z=>U[base+s]?=some (.arr [z] z.size 1)∧0<z.size∧(z.cells.all V.flat)=true
   | _=>False
  | none=>∃v,evK ef U d.o.k=some (v,U)∧∀t,d.o.dst=some t→ef.get t=some v:=by
 unfold rdR at h;split at h
 ·rename_i s hsl;split at h <;> try cases h
  rename_i z hz;obtain ⟨o,h1,h2⟩:=TS.get_spec hs h;split at h2 <;> try cases h2
  have h1:=Js h1;obtain ⟨q1,h3⟩:=qr h2;obtain ⟨q2,h4⟩:=qr h3;obtain ⟨q3,q4⟩:=qr h4;rw[yH] at q2 q3;rw[Zd] at q4;rw[Zw _ _ q1,qM q2] at h1;exact ⟨h1,qN q3,q4⟩
 ·rename_i hsl;rw[qY] at h;split at h
  ·cases h
  rename_i hw;simp only[qsz] at hw;obtain ⟨r,S',ts',g1,g2,g3⟩:=Yt ht hs h;have:=Yn hw g1;subst this;refine ⟨r,g1,fun t hd=>?_⟩;rw[hd] at g3;obtain ⟨u,k1,k2⟩:=qy (show (Qt (Tx.get (Q8 t) tr) fun u=>V.same u r)=true from g3);rw[ht t u k1,Zw _ _ k2]
def qog(base:Nat)(tr:TE)(H:List TS)(ds:List D):Bool:=List.rec true (fun d _ ih=>qX (yy d.chk (qbU d.w)) (yy (qaE d.o.g tr true (qf6 (rdR base tr d) (k9 (qab H d.lo) (Nat.sub (Nat.succ d.hi) d.lo)))) ih) ih) ds
inductive HAbs:List TS→List St→Prop
 | nil:HAbs [] []
 | cons {T:TS} {U:St} {Ts:List TS} {Us:List St} (h:T.Abs U) (t:HAbs Ts Us):HAbs (T::Ts) (U::Us)
theorem HAbs.app{Ts:List TS}{Us:List St}{T:TS}{U:St}(h:HAbs Ts Us)(g:T.Abs U):HAbs (Ts++[T]) (Us++[U]):=by
 induction h with
 | nil=>exact .cons g .nil
 | cons h _ ih=>exact .cons h ih
theorem HAbs.drop{Ts:List TS}{Us:List St}(h:HAbs Ts Us):∀n,HAbs (Ts.drop n) (Us.drop n):=by
 induction h with
 | nil=>intro n;simp;exact .nil
 | cons h t ih=>intro n;cases n with
  | zero=>exact .cons h t
  | succ n=>simpa using ih n
theorem HAbs.take{Ts:List TS}{Us:List St}(h:HAbs Ts Us):∀n,HAbs (Ts.take n) (Us.take n):=by
 induction h with
 | nil=>intro n;simp;exact .nil
 | cons h t ih=>intro n;cases n with
  | zero=>exact .nil
  | succ n=>simpa using .cons h (ih n)
theorem qms{base:Nat}{tr:TE}{ef:Env}{d:D}(ht:tr.sub ef){Ts:List TS}{Us:List St}(h:HAbs Ts Us):Ts.all (rdR base tr d)=true→yp base ef d Us:=by
 induction h with
 | nil=>intro _;trivial
 | cons h t ih=>
  intro ha;rw[qsY,qq5] at ha;exact ⟨qi0 ht h ha.1,ih ha.2⟩
theorem JV{base:Nat}{tr:TE}{ef:Env}(ht:tr.sub ef){Ts:List TS}{Us:List St}(hh:HAbs Ts Us):∀{ds:List D},qog base tr Ts ds=true→zW base ef Us ds
 | [],_=>trivial
 | d::ds,h=>by
  have h0:qX (yy d.chk (qbU d.w)) (yy (qaE d.o.g tr true (qf6 (rdR base tr d) (k9 (qab Ts d.lo) (Nat.sub (Nat.succ d.hi) d.lo)))) (qog base tr Ts ds)) (qog base tr Ts ds)=true:=h;rw[qY,YO,YK] at h0;unfold zW;split at h0
  ·rename_i hc;obtain ⟨h1,h2⟩:=qr h0;refine ⟨?_,JV ht hh h2⟩;rw[if_pos hc];rcases ZB ht h1 with ⟨hw,h3⟩|⟨hw,_⟩
   ·rw[hw];rw[Zc,QS,Q7] at h3;exact qms ht ((hh.drop _).take _) h3
   ·rw[hw];trivial
  ·rename_i hc;exact ⟨by rw[if_neg hc];trivial,JV ht hh h0⟩
def ql3(H:List TS)(d:TS→Bool):Bool:=List.rec (motive:=fun _=>(Bool→Bool)) (fun b=>b) (fun t _ ih _=>ih (d t)) H false
theorem qcC(d:TS→Bool):∀(H:List TS) (b:Bool),(List.rec (motive:=fun _=>(Bool→Bool)) (fun b=>b) (fun t _ ih _=>ih (d t)) H b:Bool)=match H.getLast? with|some t=>d t|none=>b
 | [],b=>rfl
 | [t],b=>rfl
 | t::u::H,b=>by
  show (List.rec (motive:=fun _=>(Bool→Bool)) (fun b=>b) (fun t _ ih _=>ih (d t)) (u::H) (d t):Bool)=_;rw[qcC d (u::H),qsP]
theorem HAbs.last{Ts:List TS}{Us:List St}(h:HAbs Ts Us):∀{t:TS},Ts.getLast?=some t→∃U,Us.getLast?=some U∧t.Abs U:=by
 induction h with
 | nil=>intro t ht;cases ht
 | cons h t ih=>
  rename_i T U Ts Us;intro t' ht
  cases t with
  | nil=>simp at ht;subst ht;exact ⟨U,rfl,h⟩
  | cons h' t''=>
   rw[qsP] at ht;obtain ⟨W,g1,g2⟩:=ih ht;exact ⟨W,by rw[qsP];exact g1,g2⟩
def fD(call:qaI)(base:Nat)(all:List D)(ds:List D):TE→TS→List TS→(TE→TS→Bool)→Bool:=List.rec (motive:=fun _=>TE→TS→List TS→(TE→TS→Bool)→Bool)
 (fun tr _ H k=>qX (qog base tr H all) (ql3 H fun ts=>k tr ts) false)
 (fun d _ ih tr ts H k=>qaE d.o.g tr (ih (TE.put tr d.o.dst (.tup [])) ts (qX d.w (Z6 H [ts]) H) k)
  (Option.rec (opR call d.o.k tr ts fun v ts'=>ih (TE.put tr d.o.dst v) ts' (qX d.w (Z6 H [ts']) H) k) (fun s=>ih (TE.put tr d.o.dst (.ptr (Nat.add base s) 0 0 1)) ts (qX d.w (Z6 H [ts]) H) k) d.slot)) ds
theorem HAbs.wapp{Ts:List TS}{Us:List St}{T:TS}{U:St}(h:HAbs Ts Us)(g:T.Abs U)(w:Bool):HAbs (qX w (Z6 Ts [T]) Ts) (if w then Us++[U] else Us):=by
 cases w
 ·exact h
 ·show HAbs (Z6 Ts [T]) _;rw[zz];exact h.app g
theorem Zx{P:Program}{call:qaI}(ok:qdJ P call){base:Nat}{all:List D}:∀{ds:List D} {tr:TE} {e:Env} {ts:TS} {S S0:St} {Ts:List TS} {Us:List St} {k:TE→TS→Bool},tr.sub e→ts.Abs S→HAbs Ts Us→(zl S0 S∧∀U,U∈Us→zl S0 U)→fD call base all ds tr ts Ts k=true→
    ∃tr' ts' S' e',(zl S0 S'∧ts'.Abs S')∧tr'.sub e'∧k tr' ts'=true∧∀Q:Env→St→Prop,Q e' S'→dwp P base ds (QZ base all Q) e S Us
  | [],tr,e,ts,S,S0,Ts,Us,k,ht,hs,hh,hK,h=>by
    obtain ⟨h1,h2⟩:=ql (show qX (qog base tr Ts all) (ql3 Ts fun ts=>k tr ts) false=true from h);unfold ql3 at h2;rw[qcC] at h2
    cases hl:Ts.getLast? with
    | none=>rw[hl] at h2;cases h2
    | some t=>
      rw[hl] at h2;obtain ⟨U,g1,g2⟩:=hh.last hl;refine ⟨tr,t,U,e,⟨hK.2 U (List.mem_of_getLast? g1),g2⟩,ht,h2,fun Q hQ=>?_⟩;simp only[dwp,QZ];exact ⟨JV ht hh h1,by rw[g1];exact hQ⟩
  | d::ds,tr,e,ts,S,S0,Ts,Us,k,ht,hs,hh,hK,h=>by
    have up:∀{S1:St} (w:Bool),zl S0 S1→(zl S0 S1∧∀U,U∈(if w then Us++[S1] else Us)→zl S0 U):=fun {S1} w h1=>⟨h1,fun U hU=>by
      cases w
      · exact hK.2 U (by simpa using hU)
      · have hU:U∈Us++[S1]:=by simpa using hU
        rcases qq0.1 hU with hU|hU
        · exact hK.2 U hU
        · rw[qrN] at hU;subst hU;exact h1⟩
    rcases ZB ht (show qaE d.o.g tr (fD call base all ds (TE.put tr d.o.dst (.tup [])) ts (qX d.w (Z6 Ts [ts]) Ts) k)
      (Option.rec (opR call d.o.k tr ts fun v ts'=>fD call base all ds (TE.put tr d.o.dst v) ts' (qX d.w (Z6 Ts [ts']) Ts) k) (fun s=>fD call base all ds (TE.put tr d.o.dst (.ptr (Nat.add base s) 0 0 1)) ts (qX d.w (Z6 Ts [ts]) Ts) k) d.slot)=true from h) with ⟨hw,h1⟩|⟨hw,h1⟩
    · cases hsl:d.slot with
      | some s=>
        rw[hsl] at h1;obtain ⟨tr',ts',S',e',k1,k4,k2,k3⟩:=Zx ok (TE.sub_put ht d.o.dst (.ptr (base+s) 0 0 1)) hs (hh.wapp hs d.w) (up d.w hK.1) (show fD call base all ds (TE.put tr d.o.dst (.ptr (base+s) 0 0 1)) ts (qX d.w (Z6 Ts [ts]) Ts) k=true from h1);exact ⟨tr',ts',S',e',k1,k4,k2,fun Q hQ=>by simp only[dwp,hw,hsl];exact k3 Q hQ⟩
      | none=>
        rw[hsl] at h1;have h1:opR call d.o.k tr ts (fun v ts'=>fD call base all ds (TE.put tr d.o.dst v) ts' (qX d.w (Z6 Ts [ts']) Ts) k)=true:=h1;by_cases hc:∃f args,d.o.k=.call f args
        · obtain ⟨f,args,hk⟩:=hc;rw[hk] at h1;obtain ⟨kf,fs,cs,vs,g1,g2,r,S1,ts1,g3,g6,g4,g5⟩:=qex ok ht hs (show qin call f args tr ts _=true from h1);obtain ⟨tr',ts',S',e',k1,k4,k2,k3⟩:=Zx ok (TE.sub_put ht d.o.dst r) g4 (hh.wapp g4 d.w) (up d.w (hK.1.trans g6)) g5;refine ⟨tr',ts',S',e',k1,k4,k2,fun Q hQ=>?_⟩;simp only[dwp,hw,hsl,hk,g1,g2];exact Yx g3 (k3 Q hQ)
        · have h2:opK d.o.k tr ts (fun v ts'=>fD call base all ds (TE.put tr d.o.dst v) ts' (qX d.w (Z6 Ts [ts']) Ts) k)=true:=by
            revert h1 hc;generalize d.o.k=kk;intro h1 hc;cases kk <;> first|exact h1|exact absurd ⟨_,_,rfl⟩ hc
          obtain ⟨r,S1,ts1,g1,g2,g3⟩:=Yt ht hs h2;obtain ⟨tr',ts',S',e',k1,k4,k2,k3⟩:=Zx ok (TE.sub_put ht d.o.dst r) g2 (hh.wapp g2 d.w) (up d.w (hK.1.trans (JN g1))) g3;refine ⟨tr',ts',S',e',k1,k4,k2,fun Q hQ=>?_⟩;simp only[dwp,hw,hsl];revert g1 hc;generalize d.o.k=kk;intro hc g1;cases kk <;> first
            | (exfalso;exact hc ⟨_,_,rfl⟩)
            | (simp only[g1];exact k3 Q hQ)
    · obtain ⟨tr',ts',S',e',k1,k4,k2,k3⟩:=Zx ok (TE.sub_put ht d.o.dst (.tup [])) hs (hh.wapp hs d.w) (up d.w hK.1) h1;exact ⟨tr',ts',S',e',k1,k4,k2,fun Q hQ=>by simp only[dwp,hw];exact k3 Q hQ⟩
abbrev KC:=Exit→TE→TS→Bool
def qk9(k:KC)(next:TE→TS→Bool):KC:=fun x tr ts=>match x with
 | .normal=>next tr ts
 | x=>k x tr ts
def kE(id:Nat)(k:KC):KC:=fun x tr ts=>match x with
 | .exit i=>qX (Nat.beq i id) (k .normal tr ts) (k (.exit i) tr ts)
 | x=>k x tr ts
def qcG(k:KC):KC:=fun x tr ts=>match x with
 | .goto _=>false
 | x=>k x tr ts
def jP(zs:List V):TS→(TS→Bool)→Bool:=List.rec (motive:=fun _=>TS→(TS→Bool)→Bool) (fun ts c=>c ts) (fun z _ ih ts c=>yN ts.len fun n=>ih (TS.push ⟨n,ts.tr⟩ (.arr [z] (ZN z) 1)) c) zs
theorem QJ:∀{zs:List V} {ts:TS} {S:St} {c:TS→Bool},ts.Abs S→jP zs ts c=true→∃ts',ts'.Abs (S++phs zs)∧c ts'=true
 | [],ts,S,c,hs,h=>⟨ts,by simpa[phs] using hs,h⟩
 | z::zs,ts,S,c,hs,h=>by
  have h1:(yN ts.len fun n=>jP zs (TS.push ⟨n,ts.tr⟩ (.arr [z] (ZN z) 1)) c)=true:=h;rw[zO,yH] at h1;obtain ⟨ts',h2,h3⟩:=QJ (TS.push_abs hs) h1;exact ⟨ts',by simpa[phs] using h2,h3⟩
def qau(f:TE→TS→KC→Bool)(k:KC)(n:Nat):TE→TS→Bool:=Nat.rec (motive:=fun _=>TE→TS→Bool) (fun _ _=>false) (fun _ again tr ts=>f tr ts (qk9 k again)) n
def Je:Nat:=1000000
def qfy(P:Program)(c:C')(Q:yD):Nat→Env→St→Prop
 | 0,_,_=>False
 | n+1,e,S=>∀R:Env→St→Prop,(∀e S,qfy P c Q n e S→R e S)→WP P c (Zi R Q) e S
theorem qc5{P:Program}{c:C'}{Q:yD}{n:Nat}{e:Env}{S:St}(h:qfy P c Q n e S):WP P (.loop c) Q e S:=by
 simp only[WP];refine ⟨qfy P c Q,n,⟨e,fun _ _ h=>h,h⟩,fun m e S hm=>?_⟩
 cases m with
 | zero=>exact hm.elim
 | succ m=>exact hm _ fun e' S' hl=>⟨m,Nat.lt_succ_self m,e',fun _ _ h=>h,hl⟩
def qpt(P:Program)(c:C')(tr:TE)(e:Env)(ts:TS)(S:St)(k:KC):Prop:=
 ∃x tr' ts' S' e',(zl S S'∧ts'.Abs S')∧tr'.sub e'∧k x tr' ts'=true∧∀Q:yD,Q x e' S'→WP P c Q e S
structure Tb where
 fn:Nat→Option F'
 pr:Nat→List V→Option V
structure Tb.Ok(P:Program)(T:Tb):Prop where
 fn:∀k f',T.fn k=some f'→∃f,P.funcs[k]?=some f∧ZW P f=some f'
 pr:∀k args r,T.pr k args=some r→∀S,qt P k args S (fun v U=>v=r∧U=S)
def qal(args:List V):Nat→TE→TE:=List.rec (motive:=fun _=>Nat→TE→TE) (fun _ t=>t) (fun v _ ih k t=>ih (Nat.succ k) (Tx.put v (Q8 k) t)) args
theorem jj:∀(args:List V) (k:Nat) (t:TE) (e:Env),t.sub e→(∀j v,e.get j=some v→j<k)→(qal args k t).sub (yo k args++e)
 | [],k,t,e,h,_=>h
 | v::vs,k,t,e,h,hk=>by
  have h1:=jj vs (k+1) (Tx.put v (Q8 k) t) ((k,v)::e) (TE.sub_put h (some k) v) (fun j w hj=>by
   simp only[Env.get] at hj;split at hj
   ·omega
   ·have:=hk j w hj;omega)
  intro j w hj;have h2:=h1 j w hj;show Env.get ((k,v)::(yo (k+1) vs++e)) j=some w
  have app:∀(a b:Env) (j:Nat),Env.get (a++b) j=match Env.get a j with|some x=>some x|none=>Env.get b j:=by
   intro a b j
   induction a with
   | nil=>rfl
   | cons p a ih=>
    obtain ⟨q,u⟩:=p;simp only[qrp,Env.get];split
    ·rfl
    ·exact ih
  simp only[Env.get];rw[app] at h2 ⊢
  cases ha:Env.get (yo (k+1) vs) j with
  | some x=>
   rw[ha] at h2;have:=(YX vs (k+1) j x ha).1;rw[if_neg (by omega)];exact h2
  | none=>
   rw[ha] at h2;simp only[Env.get] at h2;exact h2
def qlN(rs:List RV)(tr:TE)(ts:TS):(List V→Bool)→Bool:=List.rec (motive:=fun _=>(List V→Bool)→Bool) (fun c=>c []) (fun r _ ih c=>RV.rec (fun t=>Qt (Tx.get (Q8 t) tr) fun v=>ih fun vs=>c (v::vs)) (fun t k=>Qt (Tx.get (Q8 t) tr) fun p=>ldR p k ts fun v=>ih fun vs=>c (v::vs)) r) rs
theorem Yy{tr:TE}{e:Env}{ts:TS}{S:St}(ht:tr.sub e)(hs:ts.Abs S):∀{rs:List RV} {c:List V→Bool},qlN rs tr ts c=true→∃vs,rvs e S rs=some vs∧c vs=true
 | [],c,h=>⟨[],rfl,h⟩
 | .t t::rs,c,h=>by
  obtain ⟨v,h1,h2⟩:=qy (show (Qt (Tx.get (Q8 t) tr) fun v=>qlN rs tr ts fun vs=>c (v::vs))=true from h);obtain ⟨vs,h3,h4⟩:=Yy ht hs h2;exact ⟨v::vs,by simp only[rvs,ht t v h1,h3],h4⟩
 | .cell t k::rs,c,h=>by
  obtain ⟨p,h1,h2⟩:=qy (show (Qt (Tx.get (Q8 t) tr) fun p=>ldR p k ts fun v=>qlN rs tr ts fun vs=>c (v::vs))=true from h);obtain ⟨v,h3,h4⟩:=qcN hs h2;obtain ⟨vs,h5,h6⟩:=Yy ht hs h4;exact ⟨v::vs,by simp only[rvs,ht t p h1,h5,h3,qre],h6⟩
def qol(vs:List V)(c:V→Bool):Bool:=List.rec (c (.tup [])) (fun v t _=>qX (J6 t) (c v) (c (.tup (v::t)))) vs
theorem qge(vs:List V)(c:V→Bool):qol vs c=c (qo vs):=by
 cases vs with
 | nil=>rfl
 | cons v t=>cases t <;> rfl
def qm6(rs:List RV)(c:V→TS→Bool):KC:=fun x tr ts=>match x with
 | .normal=>qlN rs tr ts fun vs=>qol vs fun v=>c v ts
 | .ret=>qlN rs tr ts fun vs=>qol vs fun v=>c v ts
 | _=>false
end Go.Proofs.YtbifpocccfkhhaaGreatDoor
end
