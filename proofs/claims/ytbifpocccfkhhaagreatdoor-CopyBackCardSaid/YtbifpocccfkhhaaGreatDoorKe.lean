/- A part. -/
import Derived.Test.YtbifpocccfkhhaaGreatDoorKd
import Derived.Lib.ItoaMem
import Derived.Shelf.Small.Bits
import Derived.Shelf.Strconv.Itoa0
import Derived.Shelf.Strconv.Itoa1
import Derived.Shelf.LaysM
import Derived.Shelf.Strconv.Itoa2
import Derived.Shelf.Strconv.Itoa3
import Derived.Test.YtbifpocccfkhhaaGreatDoorProg
set_option linter.all false
noncomputable section
namespace Go.Proofs.YtbifpocccfkhhaaGreatDoor
open Go
theorem yO{P:Program}:∀{os:List O'} {Q Q':Env→St→Prop} {e:Env} {S:St},(∀e S,Q e S→Q' e S)→yK P os Q e S→yK P os Q' e S
 | [],_,_,_,_,hq,h=>hq _ _ h
 | o::os,Q,Q',e,S,hq,h=>by
  simp only[yK] at h ⊢;split at h
  ·exact h.elim
  ·exact yO hq h
  ·generalize o.k=k at h ⊢;cases k
   case call f args=>
    simp only at h ⊢;split at h
    ·obtain ⟨R,h1,h2⟩:=h;exact ⟨R,h1,fun r S' hr=>yO hq (h2 r S' hr)⟩
    ·obtain ⟨R,h1,h2⟩:=h;exact ⟨R,h1,fun r S' hr=>yO hq (h2 r S' hr)⟩
    ·exact h.elim
   all_goals
    simp only at h ⊢
    split at h
    ·exact yO hq h
    ·rcases h with ⟨h1,h2⟩|⟨h1,h2⟩
     ·exact .inl ⟨h1,fun v hv=>yO hq (h2 v hv)⟩
     ·exact .inr ⟨h1,fun q hv=>yO hq (h2 q hv)⟩
theorem ZC{P:Program}{base:Nat}:∀{ds:List D} {K K':Env→List St→Prop} {e:Env} {S:St} {H:List St},(∀e H,K e H→K' e H)→dwp P base ds K e S H→dwp P base ds K' e S H
 | [],_,_,_,_,_,hq,h=>hq _ _ h
 | d::ds,K,K',e,S,H,hq,h=>by
  simp only[dwp] at h ⊢;split at h
  ·exact h.elim
  ·exact ZC hq h
  ·split at h
   ·exact ZC hq h
   ·generalize d.o.k=k at h ⊢;cases k
    case call f args=>
     simp only at h ⊢;split at h
     ·obtain ⟨R,h1,h2,h3⟩:=h;exact ⟨R,h1,h2,fun v S' hR=>ZC hq (h3 v S' hR)⟩
     ·exact h.elim
    all_goals
     simp only at h ⊢
     split at h
     ·exact ZC hq h
     ·exact h.elim
theorem QD{P:Program}:∀{c:C'} {Q Q':yD} {e:Env} {S:St},(∀x e S,Q x e S→Q' x e S)→WP P c Q e S→WP P c Q' e S:=by
 intro c
 induction c with
 | skip=>intro Q Q' e S hq h;exact hq _ _ _ h
 | reg ops=>intro Q Q' e S hq h;exact yO (hq .normal) h
 | draw ds zs=>
  intro Q Q' e S hq h;refine ZC (fun e H hd=>?_) h;simp only[QZ] at hd ⊢;refine ⟨hd.1,?_⟩;have h2:=hd.2;split at h2
  ·exact hq _ _ _ h2
  ·exact h2.elim
 | drawl ds zs o=>
  intro Q Q' e S hq h;refine ZC (fun e H hd=>?_) h;simp only[QZ] at hd ⊢;refine ⟨hd.1,?_⟩;have h2:=hd.2;split at h2
  ·exact yO (hq .normal) h2
  ·exact h2.elim
 | seq a b iha ihb=>
  intro Q Q' e S hq h;refine iha (fun x e S hx=>?_) h;cases x <;> first|exact hq _ _ _ hx|exact ihb hq hx
 | cond c a b iha ihb=>
  intro Q Q' e S hq h;simp only[WP] at h ⊢;split at h
  ·exact ⟨fun ht=>iha hq (h.1 ht),fun ht=>ihb hq (h.2 ht)⟩
  ·exact h.elim
 | block id c ih=>
  intro Q Q' e S hq h;refine ih (fun x e S hx=>?_) h;cases x <;> simp only[Zh] at hx ⊢<;> try exact hq _ _ _ hx
  split at hx
  ·rename_i hi;rw[if_pos hi];exact hq _ _ _ hx
  ·rename_i hi;rw[if_neg hi];exact hq _ _ _ hx
 | scope c ih=>
  intro Q Q' e S hq h;refine ih (fun x e S hx=>?_) h;cases x <;> simp only[jG] at hx ⊢<;> exact hq _ _ _ hx
 | loop c ih=>
  intro Q Q' e S hq h;obtain ⟨I,n,h0,h1⟩:=h;refine ⟨I,n,h0,fun n e S hi=>ih (fun x e S hx=>?_) (h1 n e S hi)⟩;cases x <;> first|exact hq _ _ _ hx|exact hx
 | exit id=>intro Q Q' e S hq h;exact hq _ _ _ h
 | ret=>intro Q Q' e S hq h;exact hq _ _ _ h
 | bad=>intro Q Q' e S hq h;exact h
 | rf g ps asg body ca cb N ts iha ihb=>
  intro Q Q' e S hq h;simp only[WP] at h ⊢;intro h1 h2;have h:=h h1 h2;split at h
  ·obtain ⟨R,g1,g2⟩:=h;refine ⟨R,g1,fun r S' hr=>?_⟩;obtain ⟨i,k1,k2,k3⟩:=g2 r S' hr;refine ⟨i,k1,k2,?_⟩;split at k3 <;> first|exact hq _ _ _ k3|exact k3.elim
  ·exact h.elim
abbrev qbm:=List V→TS→(V→TS→Bool)→Bool
abbrev Ctx:=List (Nat×qbm)
abbrev QF:=Ctx→Nat→List V→TS→(V→TS→Bool)→Bool
def Out(S:St)(c:V→TS→Bool)(r:V)(S':St):Prop:=zl S S'∧∃ts',ts'.Abs S'∧c r ts'=true
def qh8(i0:LI)(l:Nat)(S:St):Prop:=∃st pend,S[l]?=some (Ob.loop { i0 with st:=st,pend:=pend })
theorem qh8.kept{i0:LI}{l:Nat}{S S':St}(h:qh8 i0 l S)(g:zl S S'):qh8 i0 l S':=by
 obtain ⟨st,p,h⟩:=h;obtain ⟨st',p',h'⟩:=g l _ h;exact ⟨st',p',h'⟩
def YL(P:Program):Ctx→St→Prop
 | [],_=>True
 | (l,rnd)::ctx,S=>YL P ctx S∧∃i0:LI,qh8 i0 l S∧∀(args:List V) (ts:TS) (U:St) (c:V→TS→Bool),YL P ctx U→qh8 i0 l U→ts.Abs U→rnd args ts c=true→ye P l args U (Out U c)
theorem YL.kept{P:Program}:∀{ctx:Ctx} {S S':St},YL P ctx S→zl S S'→YL P ctx S'
 | [],_,_,_,_=>trivial
 | (l,rnd)::ctx,S,S',⟨h1,i0,h2,h3⟩,hk=>⟨YL.kept h1 hk,i0,h2.kept hk,h3⟩
def qnd(l:Nat)(ctx:Ctx):Option qbm:=List.rec none (fun p _ ih=>qX (Nat.beq p.1 l) (some p.2) ih) ctx
theorem qaZ{P:Program}{l:Nat}{rnd:qbm}{args:List V}{ts:TS}{S:St}{c:V→TS→Bool}:∀{ctx:Ctx},YL P ctx S→qnd l ctx=some rnd→ts.Abs S→rnd args ts c=true→ye P l args S (Out S c)
 | [],_,h,_,_=>by cases h
 | (l',r')::ctx,⟨h1,i0,h2,h3⟩,h,hs,hr=>by
  have h':qX (Nat.beq l' l) (some r') (qnd l ctx)=some rnd:=h;rw[qY] at h';split at h'
  ·rename_i hb;have:=qM hb;subst this;cases h';exact h3 args ts S c h1 h2 hs hr
  ·exact qaZ h1 h' hs hr
def GOk(P:Program)(call:QF):Prop:=∀(ctx:Ctx) (k:Nat) (args:List V) (ts:TS) (S:St) (c:V→TS→Bool),YL P ctx S→ts.Abs S→call ctx k args ts c=true→qt P k args S (Out S c)
def qix(call:QF)(ctx:Ctx)(f:Opd)(args:List Opd)(tr:TE)(ts:TS)(c:V→TS→Bool):Bool:=
 opd f tr fun fv=>match fv with
  | .fn (.func k) fs cs=>qjp args tr fun vs=>call ctx k (Z6 (Z6 fs vs) cs) ts c
  | .yld l=>qjp args tr fun vs=>Qt (qnd l ctx) fun rnd=>rnd vs ts c
  | _=>false
def qmY(neg:Bool)(v:V)(ts:TS)(c:V→TS→Bool):Bool:=
 match v with
 | .sl _ xs=>qX (J6 xs) (yy (c (.bool true) ts) (c (.bool false) ts)) (c (.bool neg) ts)
 | .arr _ _ _ _=>c (.bool neg) ts
 | _=>false
def qqJ(x:X):TE→TS→(V→TS→Bool)→Bool:=
 match x with
 | .nxt x=>fun tr ts c=>opd x tr fun p=>qiO p ts c
 | .eqn neg x=>fun tr ts c=>opd x tr fun v=>qmY neg v ts c
 | x=>opX x
def opG(call:QF)(ctx:Ctx)(k:K):TE→TS→(V→TS→Bool)→Bool:=
 match k with
 | .call f args=>qix call ctx f args
 | .ex x=>qqJ x
 | k=>opK k
theorem qh0{P:Program}{call:QF}{ctx:Ctx}{o:O'}{os:List O'}{tr:TE}{e:Env}{ts:TS}{S:St}{c:V→TS→Bool}{Q:Env→St→Prop}(hw:qU e o.g=some true)(hc:∀f args,o.k≠.call f args)(ht:tr.sub e)(hs:ts.Abs S)
  (h:opG call ctx o.k tr ts c=true) (hn:∀r S' ts',zl S S'→ts'.Abs S'→c r ts'=true→yK P os Q (e.put o.dst r) S'):yK P (o::os) Q e S:=by
 have main:∀{kk:K},o.k=kk→qpc e S kk c→yK P (o::os) Q e S:=by
  intro kk hk ⟨r,S1,ts1,g1,g2,g3⟩;have h3:=hn r S1 ts1 (JN g1) g2 g3;simp only[yK,hw];rw[hk] at hc ⊢;cases kk <;> first
   | (exfalso;exact hc _ _ rfl)
   | (simp only[g1];exact h3)
 generalize hk:o.k=kk at h;cases kk <;> try exact main hk (Yt ht hs h)
 case call f args=>exact absurd hk (hc f args)
 case ex x=>
  cases x <;> try exact main hk (Yt (k:=.ex _) ht hs h)
  case nxt x=>
   obtain ⟨p,h1,h2⟩:=qn (x:=x) (c:=fun p=>qiO p ts c) ht h;obtain ⟨h3,h4⟩:=qeC hs h2;simp only[yK,hw,hk,evK,evX];refine .inr ⟨?_,fun q hq=>?_⟩
   ·simp only[ndS,h1];exact h3
   ·simp only[ndS,h1] at hq;obtain ⟨ts',g1,g2⟩:=h4 q hq;exact hn q.1 q.2 ts' (qfJ hq) g1 g2
  case eqn neg x=>
   obtain ⟨v,h1,h2⟩:=qn (x:=x) (c:=fun v=>qmY neg v ts c) ht h;unfold qmY at h2;split at h2
   ·rename_i b xs;rw[qY,jh] at h2
    cases xs with
    | nil=>
     obtain ⟨h3,h4⟩:=qr (show yy (c (.bool true) ts) (c (.bool false) ts)=true from h2);simp only[yK,hw,hk,evK,evX,h1];refine .inl ⟨by simp[ndK,ndX,h1],fun v hv=>?_⟩;simp only[ndK,ndX,h1,qrl,List.not_mem_nil,or_false] at hv;rcases hv with rfl|rfl
     ·exact hn _ _ ts (zl.refl _) hs h3
     ·exact hn _ _ ts (zl.refl _) hs h4
    | cons y ys=>
     simp only[yK,hw,hk,evK,evX,h1];exact hn _ _ ts (zl.refl _) hs (by simpa using h2)
   ·simp only[yK,hw,hk,evK,evX,h1];exact hn _ _ ts (zl.refl _) hs h2
   ·cases h2
def gO(call:QF)(ctx:Ctx)(os:List O'):TE→TS→(TE→TS→Bool)→Bool:=List.rec (motive:=fun _=>TE→TS→(TE→TS→Bool)→Bool) (fun tr ts k=>k tr ts)
 (fun o _ ih tr ts k=>qaE o.g tr (ih (TE.put tr o.dst (.tup [])) ts k) (opG call ctx o.k tr ts fun v ts'=>ih (TE.put tr o.dst v) ts' k)) os
theorem YV{P:Program}{call:QF}(ok:GOk P call){ctx:Ctx}{S0:St}(hctx:YL P ctx S0):∀{os:List O'} {tr:TE} {e:Env} {ts:TS} {S:St} {k:TE→TS→Bool},zl S0 S→tr.sub e→ts.Abs S→gO call ctx os tr ts k=true→
  yK P os (fun e' S'=>zl S0 S'∧∃tr' ts',tr'.sub e'∧ts'.Abs S'∧k tr' ts'=true) e S
 | [],tr,e,ts,S,k,hK,ht,hs,h=>⟨hK,tr,ts,ht,hs,h⟩
 | o::os,tr,e,ts,S,k,hK,ht,hs,h=>by
  rcases ZB ht (show qaE o.g tr (gO call ctx os (TE.put tr o.dst (.tup [])) ts k) (opG call ctx o.k tr ts fun v ts'=>gO call ctx os (TE.put tr o.dst v) ts' k)=true from h) with ⟨hw,h1⟩|⟨hw,h1⟩
  ·by_cases hc:∃f args,o.k=.call f args
   ·obtain ⟨f,args,hk⟩:=hc;rw[hk] at h1;obtain ⟨fv,h2,h3⟩:=qn (x:=f) ht (show qix call ctx f args tr ts _=true from h1);simp only[yK,hw,hk,h2];split at h3
    ·obtain ⟨vs,h4,h5⟩:=yq ht h3;rw[zz,zz] at h5;simp only[h4];refine ⟨_,ok ctx _ _ ts S _ (hctx.kept hK) hs h5,fun r S' hr=>?_⟩;obtain ⟨hk',ts',h6,h7⟩:=hr;exact YV ok hctx (hK.trans hk') (TE.sub_put ht o.dst r) h6 h7
    ·obtain ⟨vs,h4,h5⟩:=yq ht h3;obtain ⟨rnd,h6,h7⟩:=qy h5;simp only[h4];refine ⟨_,qaZ (hctx.kept hK) h6 hs h7,fun r S' hr=>?_⟩;obtain ⟨hk',ts',h8,h9⟩:=hr;exact YV ok hctx (hK.trans hk') (TE.sub_put ht o.dst r) h8 h9
    ·cases h3
   ·refine qh0 hw (fun f args hk=>hc ⟨f,args,hk⟩) ht hs h1 fun r S' ts' hk' ha hcc=>?_
    exact YV ok hctx (hK.trans hk') (TE.sub_put ht o.dst r) ha hcc
  ·simp only[yK,hw];exact YV ok hctx hK (TE.sub_put ht o.dst (.tup [])) hs h1
def jg(s:LoopState):Bool:=match s with|.ready=>true|_=>false
def qeV(s:LoopState):Bool:=match s with|.busy=>false|_=>true
def kQ(ps:List Nat):List V→TE→TE:=List.rec (motive:=fun _=>List V→TE→TE) (fun _ t=>t) (fun p _ ih vs t=>List.rec t (fun v vs _=>ih vs (Tx.put v (Q8 p) t)) vs) ps
theorem Ye:∀(ps:List Nat) (vs:List V) {t:TE} {e:Env},t.sub e→(kQ ps vs t).sub (QL ps vs e)
 | [],vs,t,e,h=>by cases vs <;> exact h
 | p::ps,[],t,e,h=>h
 | p::ps,v::vs,t,e,h=>by
  simp only[QL];exact Ye ps vs (TE.sub_put h (some p) v)
def Zs(ts:List Nat)(tr:TE):TE:=List.rec .nil (fun t _ ih=>Option.rec ih (fun v=>Tx.put v (Q8 t) ih) (Tx.get (Q8 t) tr)) ts
theorem jE{tr:TE}{e:Env}(h:tr.sub e):∀(ts:List Nat),(Zs ts tr).sub (e.keep ts)∧∀k v,Tx.get (Q8 k) (Zs ts tr)=some v→Tx.get (Q8 k) tr=some v
 | []=>⟨fun k v hk=>(by rw[show Zs [] tr=.nil from rfl,Tx.get_nil] at hk;cases hk),fun k v hk=>(by rw[show Zs [] tr=.nil from rfl,Tx.get_nil] at hk;cases hk)⟩
 | t::ts=>by
  obtain ⟨ih1,ih2⟩:=jE h ts
  cases hg:Tx.get (Q8 t) tr with
  | none=>
   have he:Zs (t::ts) tr=Zs ts tr:=by
    show (Option.rec (Zs ts tr) (fun v=>Tx.put v (Q8 t) (Zs ts tr)) (Tx.get (Q8 t) tr):TE)=_;rw[hg]
   rw[he];refine ⟨fun k v hk=>?_,ih2⟩;have h1:=ih1 k v hk;simp only[Env.keep];split
   ·simp only[Env.get];split
    ·rename_i hkt;subst hkt;have:=ih2 _ v hk;rw[hg] at this;cases this
    ·exact h1
   ·exact h1
  | some w=>
   have he:Zs (t::ts) tr=Tx.put w (Q8 t) (Zs ts tr):=by
    show (Option.rec (Zs ts tr) (fun v=>Tx.put v (Q8 t) (Zs ts tr)) (Tx.get (Q8 t) tr):TE)=_;rw[hg]
   rw[he];have hew:=h t w hg;refine ⟨fun k v hk=>?_,fun k v hk=>?_⟩
   ·simp only[Env.keep,hew,Env.get];by_cases hkt:t=k
    ·subst hkt;rw[Tx.get_put_same] at hk;cases hk;rw[if_pos rfl]
    ·rw[Tx.get_put_ne _ _ _ _ (fun hp=>hkt (YA hp))] at hk;rw[if_neg hkt];exact ih1 k v hk
   ·by_cases hkt:t=k
    ·subst hkt;rw[Tx.get_put_same] at hk;cases hk;exact hg
    ·rw[Tx.get_put_ne _ _ _ _ (fun hp=>hkt (YA hp))] at hk;exact ih2 k v hk
def skL(st:LoopState)(p:Option Code):Ob:=.loop ⟨st,p,[],.skip,.skip,[],0⟩
def qj1(l:Nat)(c:V→TS→Bool):KC:=fun x _ ts=>match x with
 | .normal=>ts.get l fun o=>match o with
  | .loop _=>c (.bool true) (ts.set l (skL .ready none))
  | _=>false
 | .ret=>ts.get l fun o=>match o with
  | .loop _=>c (.bool false) (ts.set l (skL .done (some .ret)))
  | _=>false
 | .exit id=>ts.get l fun o=>match o with
  | .loop _=>c (.bool false) (ts.set l (skL .done (some (.exit id))))
  | _=>false
 | _=>false
def qbH(fb:TE→TS→KC→Bool)(l:Nat)(c:V→TS→Bool):KC:=fun x tr ts=>match x with
 | .normal=>ts.get l fun o=>match o with
  | .loop i=>qX (jg i.st) (fb tr (ts.set l (skL .busy i.pend)) (qj1 l c)) false
  | _=>false
 | _=>false
def jt(fa fb:TE→TS→KC→Bool)(ps:List Nat)(trk:TE)(l:Nat):qbm:=fun args ts c=>
 qX (Nat.beq (Yd args) (Yd ps)) (ts.get l fun o=>match o with
  | .loop i=>qX (jg i.st) (fa (kQ ps args trk) ts (qbH fb l c)) false
  | _=>false) false
def qiB(S0:St)(k:KC):yD:=fun x e' S'=>zl S0 S'∧∃tr' ts',tr'.sub e'∧ts'.Abs S'∧k x tr' ts'=true
def qij(P:Program)(ctx:Ctx)(c:C')(f:TE→TS→KC→Bool):Prop:=∀{S0:St} {tr:TE} {e:Env} {ts:TS} {S:St} {k:KC},YL P ctx S0→zl S0 S→tr.sub e→ts.Abs S→f tr ts k=true→WP P c (qiB S0 k) e S
theorem Qy{s:LoopState}(h:jg s=true):s=.ready:=by cases s <;> first|rfl|cases h
theorem Jw{s:LoopState}(h:qeV s=true):s≠.busy:=by cases s <;> first|(cases h;done)|(intro hh;cases hh)
theorem zl.setLoop{S:St}{l:Nat}{i:LI}(h:S[l]?=some (Ob.loop i))(st:LoopState)(p:Option Code):zl S (S.set l (Ob.loop { i with st:=st,pend:=p })):=fun j i' hj=>by
 by_cases hk:l=j
 ·subst hk;rw[h] at hj;cases hj;exact ⟨st,p,by rw[qqV (qqT.1 h).1]⟩
 ·exact ⟨i'.st,i'.pend,by rw[qqX hk];exact hj⟩
theorem qb6{P:Program}{ctx:Ctx}{ca cb:C'}{fa fb:TE→TS→KC→Bool}(ha:qij P ctx ca fa)(hb:qij P ctx cb fb){i0:LI}{l:Nat}{trk:TE}(htk:trk.sub i0.e)(hca:comp P i0.N i0.asg=some ca)(hcb:comp P i0.N i0.body=some cb)
    (na:ca.noRf=true) (nb:cb.noRf=true) (hps:i0.ps.all (fun p=>decide (p<i0.N))=true) {args:List V} {ts:TS} {U:St} {c:V→TS→Bool} (hctx:YL P ctx U) (hl:qh8 i0 l U) (hs:ts.Abs U) (h:jt fa fb i0.ps trk l args ts c=true):ye P l args U (Out U c):=by
  obtain ⟨h1,h2⟩:=ql (show qX (Nat.beq (Yd args) (Yd i0.ps)) (ts.get l fun o=>match o with
    | .loop i=>qX (jg i.st) (fa (kQ i0.ps args trk) ts (qbH fb l c)) false
    | _=>false) false=true from h)
  rw[zV,zV] at h1;have h1:=qM h1;obtain ⟨st,pd,hl⟩:=hl;obtain ⟨o,k1,k2⟩:=TS.get_spec hs h2;split at k2 <;> try cases k2
  obtain ⟨j,j1,j2,j3⟩:=Zm k1;rw[hl] at j1;cases j1;obtain ⟨k3,k4⟩:=ql k2;have k3:=Qy k3;refine ye.intro (ca:=ca) (cb:=cb) hl hca hcb (j2.trans k3) na nb h1 hps ?_;refine QD (fun x e1 S1 hx=>?_) (ha hctx (zl.refl U) (Ye i0.ps args htk) hs k4);obtain ⟨hK1,tr1,ts1,m1,m2,m3⟩:=hx;cases x <;> try (cases m3)
  simp only[qbH] at m3;obtain ⟨o1,n1,n2⟩:=TS.get_spec m2 m3;split at n2 <;> try cases n2
  obtain ⟨i1,q1,q2,q3⟩:=Zm n1;obtain ⟨n3,n4⟩:=ql n2;have n3:=Qy n3;refine ⟨i1,q1,q2.trans n3,?_⟩;have hK2:zl S1 (S1.set l (Ob.loop { i1 with st:=.busy })):=zl.setLoop q1 .busy i1.pend;have hs2:=TS.set_abs' (o:=skL .busy _) (o1:=.loop { i1 with st:=.busy }) m2 q1 (by rw[show Ob.sk (.loop { i1 with st:=.busy })=skL .busy i1.pend from rfl,q3]);refine QD (fun x e2 S2 hx=>?_) (hb hctx (hK1.trans hK2) m1 hs2 n4);obtain ⟨hK3,tr2,ts2,p1,p2,p3⟩:=hx;cases x <;> try (cases p3)
  all_goals
    simp only[qj1] at p3
    obtain ⟨o2,r1,r2⟩:=TS.get_spec p2 p3
    split at r2 <;> try cases r2
    obtain ⟨i2,s1,s2,s3⟩:=Zm r1
    exact ⟨i2,s1,hK3.trans (zl.setLoop s1 _ _),_,TS.set_abs' p2 s1 rfl,r2⟩
def QN(P:Program):Ctx→St→Prop
 | [],_=>True
 | (l,rnd)::ctx,S=>QN P ctx S∧∃i0:LI,qh8 i0 l S∧∀(args:List V) (ts:TS) (U:St) (c:V→TS→Bool),QN P ctx U→qh8 i0 l U→ts.Abs U→rnd args ts c=true→
  ∃r S' ts',ye P l args U (fun v W=>v=r∧W=S')∧zl U S'∧ts'.Abs S'∧c r ts'=true
theorem QN.kept{P:Program}:∀{ctx:Ctx} {S S':St},QN P ctx S→zl S S'→QN P ctx S'
 | [],_,_,_,_=>trivial
 | (l,rnd)::ctx,S,S',⟨h1,i0,h2,h3⟩,hk=>⟨QN.kept h1 hk,i0,h2.kept hk,h3⟩
theorem kF{P:Program}{l:Nat}{rnd:qbm}{args:List V}{ts:TS}{S:St}{c:V→TS→Bool}:∀{ctx:Ctx},QN P ctx S→qnd l ctx=some rnd→ts.Abs S→rnd args ts c=true→
  ∃r S' ts',ye P l args S (fun v W=>v=r∧W=S')∧zl S S'∧ts'.Abs S'∧c r ts'=true
 | [],_,h,_,_=>by cases h
 | (l',r')::ctx,⟨h1,i0,h2,h3⟩,h,hs,hr=>by
  have h':qX (Nat.beq l' l) (some r') (qnd l ctx)=some rnd:=h;rw[qY] at h';split at h'
  ·rename_i hb;have:=qM hb;subst this;cases h';exact h3 args ts S c h1 h2 hs hr
  ·exact kF h1 h' hs hr
def DOk(P:Program)(call:QF):Prop:=∀(ctx:Ctx) (k:Nat) (args:List V) (ts:TS) (S:St) (c:V→TS→Bool),QN P ctx S→ts.Abs S→call ctx k args ts c=true→
 ∃r S' ts',qt P k args S (fun v U=>v=r∧U=S')∧zl S S'∧ts'.Abs S'∧c r ts'=true
def qbl(call:QF):qaI:=fun k args ts c=>call [] k args ts c
theorem qai{P:Program}{call:QF}(ok:DOk P call):qdJ P (qbl call):=fun k args ts S c hs h=>ok [] k args ts S c trivial hs h
def qqg(call:QF)(ctx:Ctx)(k:K):TE→TS→(V→TS→Bool)→Bool:=
 match k with
 | .call f args=>qix call ctx f args
 | k=>opK k
def dO(call:QF)(ctx:Ctx)(os:List O'):TE→TS→(TE→TS→Bool)→Bool:=List.rec (motive:=fun _=>TE→TS→(TE→TS→Bool)→Bool) (fun tr ts k=>k tr ts)
 (fun o _ ih tr ts k=>qaE o.g tr (ih (TE.put tr o.dst (.tup [])) ts k) (qqg call ctx o.k tr ts fun v ts'=>ih (TE.put tr o.dst v) ts' k)) os
theorem YF{P:Program}{call:QF}(ok:DOk P call){ctx:Ctx}:∀{os:List O'} {tr:TE} {e:Env} {ts:TS} {S:St} {k:TE→TS→Bool},QN P ctx S→tr.sub e→ts.Abs S→dO call ctx os tr ts k=true→
  ∃tr' ts' S' e',(zl S S'∧ts'.Abs S')∧tr'.sub e'∧k tr' ts'=true∧∀Q:Env→St→Prop,Q e' S'→yK P os Q e S
 | [],tr,e,ts,S,k,_,ht,hs,h=>⟨tr,ts,S,e,⟨zl.refl _,hs⟩,ht,h,fun Q hQ=>hQ⟩
 | o::os,tr,e,ts,S,k,hctx,ht,hs,h=>by
  rcases ZB ht (show qaE o.g tr (dO call ctx os (TE.put tr o.dst (.tup [])) ts k) (qqg call ctx o.k tr ts fun v ts'=>dO call ctx os (TE.put tr o.dst v) ts' k)=true from h) with ⟨hw,h1⟩|⟨hw,h1⟩
  ·by_cases hc:∃f args,o.k=.call f args
   ·obtain ⟨f,args,hk⟩:=hc;rw[hk] at h1;obtain ⟨fv,h2,h3⟩:=qn (x:=f) ht (show qix call ctx f args tr ts _=true from h1);split at h3
    ·obtain ⟨vs,h4,h5⟩:=yq ht h3;rw[zz,zz] at h5;obtain ⟨r,S1,ts1,g3,g6,g4,g5⟩:=ok ctx _ _ ts S _ hctx hs h5;obtain ⟨tr',ts',S',e',k1,k4,k2,k3⟩:=YF ok (hctx.kept g6) (TE.sub_put ht o.dst r) g4 g5;refine ⟨tr',ts',S',e',⟨g6.trans k1.1,k1.2⟩,k4,k2,fun Q hQ=>?_⟩;simp only[yK,hw,hk,h2,h4];exact ⟨_,g3,fun r' U hr=>by obtain ⟨rfl,rfl⟩:=hr;exact k3 Q hQ⟩
    ·obtain ⟨vs,h4,h5⟩:=yq ht h3;obtain ⟨rnd,h6,h7⟩:=qy h5;obtain ⟨r,S1,ts1,g3,g6,g4,g5⟩:=kF hctx h6 hs h7;obtain ⟨tr',ts',S',e',k1,k4,k2,k3⟩:=YF ok (hctx.kept g6) (TE.sub_put ht o.dst r) g4 g5;refine ⟨tr',ts',S',e',⟨g6.trans k1.1,k1.2⟩,k4,k2,fun Q hQ=>?_⟩;simp only[yK,hw,hk,h2,h4];exact ⟨_,g3,fun r' U hr=>by obtain ⟨rfl,rfl⟩:=hr;exact k3 Q hQ⟩
    ·cases h3
   ·have h2:opK o.k tr ts (fun v ts'=>dO call ctx os (TE.put tr o.dst v) ts' k)=true:=by
     revert h1 hc;generalize o.k=kk;intro h1 hc;cases kk <;> first|exact h1|exact absurd ⟨_,_,rfl⟩ hc
    obtain ⟨r,S1,ts1,g1,g2,g3⟩:=Yt ht hs h2;obtain ⟨tr',ts',S',e',k1,k4,k2,k3⟩:=YF ok (hctx.kept (JN g1)) (TE.sub_put ht o.dst r) g2 g3;refine ⟨tr',ts',S',e',⟨(JN g1).trans k1.1,k1.2⟩,k4,k2,fun Q hQ=>?_⟩;simp only[yK,hw];revert g1 hc;generalize o.k=kk;intro hc g1;cases kk <;> first
     | (exfalso;exact hc ⟨_,_,rfl⟩)
     | (simp only[g1];exact k3 Q hQ)
  ·obtain ⟨tr',ts',S',e',k1,k4,k2,k3⟩:=YF ok hctx (TE.sub_put ht o.dst (.tup [])) hs h1;exact ⟨tr',ts',S',e',k1,k4,k2,fun Q hQ=>by simp only[yK,hw];exact k3 Q hQ⟩
def qhR(P:Program)(ctx:Ctx)(c:C')(f:TE→TS→KC→Bool):Prop:=∀{tr:TE} {e:Env} {ts:TS} {S:St} {k:KC},QN P ctx S→tr.sub e→ts.Abs S→f tr ts k=true→qpt P c tr e ts S k
theorem qck{P:Program}{ctx:Ctx}{ca cb:C'}{fa fb:TE→TS→KC→Bool}(ha:qhR P ctx ca fa)(hb:qhR P ctx cb fb){i0:LI}{l:Nat}{trk:TE}(htk:trk.sub i0.e)(hca:comp P i0.N i0.asg=some ca)(hcb:comp P i0.N i0.body=some cb)
    (na:ca.noRf=true) (nb:cb.noRf=true) (hps:i0.ps.all (fun p=>decide (p<i0.N))=true) {args:List V} {ts:TS} {U:St} {c:V→TS→Bool} (hctx:QN P ctx U) (hl:qh8 i0 l U) (hs:ts.Abs U) (h:jt fa fb i0.ps trk l args ts c=true):
    ∃r S' ts',ye P l args U (fun v W=>v=r∧W=S')∧zl U S'∧ts'.Abs S'∧c r ts'=true:=by
  obtain ⟨h1,h2⟩:=ql (show qX (Nat.beq (Yd args) (Yd i0.ps)) (ts.get l fun o=>match o with
    | .loop i=>qX (jg i.st) (fa (kQ i0.ps args trk) ts (qbH fb l c)) false
    | _=>false) false=true from h)
  rw[zV,zV] at h1;have h1:=qM h1;obtain ⟨st,pd,hl⟩:=hl;obtain ⟨o,k1,k2⟩:=TS.get_spec hs h2;split at k2 <;> try cases k2
  obtain ⟨j,j1,j2,j3⟩:=Zm k1;rw[hl] at j1;cases j1;obtain ⟨k3,k4⟩:=ql k2;have k3:=Qy k3;obtain ⟨x1,tr1,ts1,S1,e1,⟨hK1,m2⟩,m1,m3,w1⟩:=ha hctx (Ye i0.ps args htk) hs k4;cases x1 <;> try (cases m3)
  simp only[qbH] at m3;obtain ⟨o1,n1,n2⟩:=TS.get_spec m2 m3;split at n2 <;> try cases n2
  obtain ⟨i1,q1,q2,q3⟩:=Zm n1;obtain ⟨n3,n4⟩:=ql n2;have n3:=Qy n3;have hK2:zl S1 (S1.set l (Ob.loop { i1 with st:=.busy })):=zl.setLoop q1 .busy i1.pend;have hs2:=TS.set_abs' (o:=skL .busy _) (o1:=.loop { i1 with st:=.busy }) m2 q1 (by rw[show Ob.sk (.loop { i1 with st:=.busy })=skL .busy i1.pend from rfl,q3]);obtain ⟨x2,tr2,ts2,S2,e2,⟨hK3,p2⟩,p1,p3,w2⟩:=hb (hctx.kept (hK1.trans hK2)) m1 hs2 n4;have intro:∀r S',Jp l (fun v W=>v=r∧W=S') x2 e2 S2→ye P l args U (fun v W=>v=r∧W=S'):=fun r S' hr=>
    ye.intro (ca:=ca) (cb:=cb) hl hca hcb (j2.trans k3) na nb h1 hps (w1 _ ⟨i1,q1,q2.trans n3,w2 _ hr⟩)
  cases x2 <;> try (cases p3)
  all_goals
    simp only[qj1] at p3
    obtain ⟨o2,r1,r2⟩:=TS.get_spec p2 p3
    split at r2 <;> try cases r2
    obtain ⟨i2,s1,s2,s3⟩:=Zm r1
    exact ⟨_,_,_,intro _ _ ⟨i2,s1,rfl,rfl⟩,(hK1.trans hK2).trans (hK3.trans (zl.setLoop s1 _ _)),TS.set_abs' p2 s1 rfl,r2⟩
def C'.wf(P:Program):C'→Prop
 | .seq a b|.cond _ a b=>a.wf P∧b.wf P
 | .block _ c|.scope c|.loop c=>c.wf P
 | .rf _ _ asg body ca cb N _=>comp P N asg=some ca∧comp P N body=some cb∧ca.wf P∧cb.wf P
 | _=>True
theorem qmh{P:Program}{N:Nat}:∀(c:Code) {c':C'},comp P N c=some c'→c'.wf P:=by
 intro c
 induction c with
 | region id ops draw=>
  intro c' h;simp only[comp] at h;split at h
  ·split at h
   ·cases h;trivial
   ·split at h <;> cases h <;> trivial
  ·split at h <;> cases h <;> trivial
 | seq x y ihx ihy=>
  intro c' h;simp only[comp] at h;split at h <;> cases h;rename_i hx hy;exact ⟨ihx hx,ihy hy⟩
 | cond o x y ihx ihy=>
  intro c' h;simp only[comp] at h;split at h <;> cases h;rename_i hx hy;exact ⟨ihx hx,ihy hy⟩
 | block id x ih=>
  intro c' h;simp only[comp] at h
  cases hx:comp P N x with
  | none=>rw[hx] at h;cases h
  | some x'=>rw[hx] at h;cases h;exact (show x'.wf P from ih hx)
 | scope x ih=>
  intro c' h;simp only[comp] at h
  cases hx:comp P N x with
  | none=>rw[hx] at h;cases h
  | some x'=>rw[hx] at h;cases h;exact (show x'.wf P from ih hx)
 | loop x ih=>
  intro c' h;simp only[comp] at h
  cases hx:comp P N x with
  | none=>rw[hx] at h;cases h
  | some x'=>rw[hx] at h;cases h;exact (show x'.wf P from ih hx)
 | rangeFunc f ps asg body iha ihb=>
  intro c' h;simp only[comp] at h;split at h
  ·rename_i hca hcb;split at h
   ·cases h;exact ⟨hca,hcb,iha hca,ihb hcb⟩
   ·cases h;trivial
  ·cases h;trivial
 | _=>intro c' h;simp only[comp,Option.some.injEq] at h;subst h;trivial
theorem qhQ{P:Program}{fn:Func}{f:F'}(h:ZW P fn=some f):f.body.wf P:=by
 unfold ZW at h;split at h
 ·split at h
  ·cases h
  ·rename_i c rs hb hrs hn
   cases hx:comp P fn.ntmps c with
   | none=>rw[hx] at h;cases h
   | some c'=>rw[hx] at h;cases h;exact qmh c hx
 ·cases h
def qbJ(l:Nat)(tr:TE)(k:KC):V→TS→Bool:=fun _ ts=>ts.get l fun o=>match o with
 | .loop i=>qX (qeV i.st) (match i.pend with
  | none=>k .normal tr (ts.set l (skL .exhausted none))
  | some .ret=>k .ret tr (ts.set l (skL .exhausted (some .ret)))
  | some (.exit id)=>k (.exit id) tr (ts.set l (skL .exhausted (some (.exit id))))
  | _=>false) false
 | _=>false
def rfG(call:QF)(ctx:Ctx)(g:Opd)(ps:List Nat)(na nb:Bool)(N:Nat)(tsl:List Nat)(fa fb:TE→TS→KC→Bool)(tr:TE)(ts:TS)(k:KC):Bool:=
 qX (yy na (yy nb (ps.all fun p=>decide (p<N)))) (opd g tr fun gv=>match gv with
  | .fn (.func kf) fs cs=>yN ts.len fun l=>call ((l,jt fa fb ps (Zs tsl tr) l)::ctx) kf (Z6 (Z6 fs [.yld l]) cs) (TS.push ⟨l,ts.tr⟩ (skL .ready none)) (qbJ l tr k)
  | _=>false) false
def dC(call:QF)(ctx:Ctx)(c:C'):TE→TS→KC→Bool:=C'.rec (motive:=fun _=>TE→TS→KC→Bool)
 (fun tr ts k=>k .normal tr ts)
 (fun ops tr ts k=>dO call ctx ops tr ts fun tr' ts'=>k .normal tr' ts')
 (fun ds zs tr ts k=>jP zs ts fun ts1=>fD (qbl call) ts.len ds ds tr ts1 [ts1] fun tr' ts'=>k .normal tr' ts')
 (fun ds zs o tr ts k=>jP zs ts fun ts1=>fD (qbl call) ts.len ds ds tr ts1 [ts1] fun tr' ts'=>dO call ctx [o] tr' ts' fun tr' ts'=>k .normal tr' ts')
 (fun _ _ iha ihb tr ts k=>iha tr ts (qk9 k fun tr' ts'=>ihb tr' ts' k))
 (fun c _ _ iha ihb tr ts k=>opd c tr fun v=>qcg v fun b=>qX b (iha tr ts k) (ihb tr ts k))
 (fun id _ ih tr ts k=>ih tr ts (kE id k))
 (fun _ ih tr ts k=>ih tr ts (qcG k))
 (fun _ ih tr ts k=>qau ih k Je tr ts)
 (fun id tr ts k=>k (.exit id) tr ts)
 (fun tr ts k=>k .ret tr ts)
 (fun _ _ _=>false)
 (fun g ps _ _ ca cb N tsl iha ihb tr ts k=>rfG call ctx g ps ca.noRf cb.noRf N tsl iha ihb tr ts k) c
theorem kr{P:Program}{ctx:Ctx}{c:C'}{f:TE→TS→KC→Bool}(ih:qhR P ctx c f):
  ∀(n:Nat) {tr:TE} {e:Env} {ts:TS} {S:St} {k:KC},QN P ctx S→tr.sub e→ts.Abs S→qau f k n tr ts=true→
  ∃x tr' ts' S' e',(zl S S'∧ts'.Abs S')∧tr'.sub e'∧k x tr' ts'=true∧∀Q:yD,Q x e' S'→qfy P c Q n e S
 | 0,tr,e,ts,S,k,_,ht,hs,h=>by cases h
 | n+1,tr,e,ts,S,k,hctx,ht,hs,h=>by
  obtain ⟨x1,tr1,ts1,S1,e1,a1,a2,a3,a4⟩:=ih hctx ht hs (show f tr ts (qk9 k (qau f k n))=true from h);by_cases hx:x1=.normal
  ·subst hx;obtain ⟨x,tr',ts',S',e',b1,b2,b3,b4⟩:=kr ih n (hctx.kept a1.1) a2 a1.2 (show qau f k n tr1 ts1=true from a3);exact ⟨x,tr',ts',S',e',⟨a1.1.trans b1.1,b1.2⟩,b2,b3,fun Q hQ R hR=>a4 _ (hR _ _ (b4 Q hQ))⟩
  ·have a5:k x1 tr1 ts1=true:=by
    cases x1 <;> first|exact absurd rfl hx|exact a3
   refine ⟨x1,tr1,ts1,S1,e1,a1,a2,a5,fun Q hQ R hR=>a4 _ ?_⟩;cases x1 <;> first|exact absurd rfl hx|exact hQ
theorem qlI{P:Program}{call:QF}(ok:DOk P call){ctx:Ctx}:∀(c:C'),c.wf P→qhR P ctx c (dC call ctx c):=by
  intro c
  induction c with
  | skip=>intro hwf tr e ts S k hctx ht hs h;exact ⟨_,tr,ts,S,e,⟨zl.refl _,hs⟩,ht,h,fun Q hQ=>hQ⟩
  | reg ops=>
    intro hwf tr e ts S k hctx ht hs h;obtain ⟨tr',ts',S',e',h1,h2,h3,h4⟩:=YF ok hctx ht hs (show dO call ctx ops tr ts (fun tr' ts'=>k .normal tr' ts')=true from h);exact ⟨_,tr',ts',S',e',h1,h2,h3,fun Q hQ=>h4 (Q .normal) hQ⟩
  | draw ds zs=>
    intro hwf tr e ts S k hctx ht hs h;obtain ⟨ts1,g1,g2⟩:=QJ hs (show (jP zs ts fun ts1=>fD (qbl call) ts.len ds ds tr ts1 [ts1] fun tr' ts'=>k .normal tr' ts')=true from h);obtain ⟨tr',ts',S',e',h1,h2,h3,h4⟩:=Zx (S0:=S) (qai ok) ht g1 (.cons g1 .nil) ⟨zl.app _ _,fun U hU=>by rw[qrN] at hU;subst hU;exact zl.app _ _⟩ g2
    exact ⟨_,tr',ts',S',e',h1,h2,h3,fun Q hQ=>by
      simp only[WP];rw[hs.1];exact h4 (Q .normal) hQ⟩
  | drawl ds zs o=>
    intro hwf tr e ts S k hctx ht hs h;obtain ⟨ts1,g1,g2⟩:=QJ hs (show (jP zs ts fun ts1=>fD (qbl call) ts.len ds ds tr ts1 [ts1] fun tr' ts'=>dO call ctx [o] tr' ts' fun tr' ts'=>k .normal tr' ts')=true from h);obtain ⟨tr1,ts1',S1,e1,h1,h2,h3,h4⟩:=Zx (S0:=S) (qai ok) ht g1 (.cons g1 .nil) ⟨zl.app _ _,fun U hU=>by rw[qrN] at hU;subst hU;exact zl.app _ _⟩ g2;obtain ⟨tr',ts',S',e',k1,k2,k3,k4⟩:=YF ok (hctx.kept h1.1) h2 h1.2 h3
    exact ⟨_,tr',ts',S',e',⟨h1.1.trans k1.1,k1.2⟩,k2,k3,fun Q hQ=>by
      simp only[WP];rw[hs.1];exact h4 (QX P o Q .normal) (k4 (Q .normal) hQ)⟩
  | seq a b iha ihb=>
    intro hwf tr e ts S k hctx ht hs h;obtain ⟨x1,tr1,ts1,S1,e1,a1,a2,a3,a4⟩:=iha hwf.1 hctx ht hs (show dC call ctx a tr ts (qk9 k fun tr' ts'=>dC call ctx b tr' ts' k)=true from h);by_cases hx:x1=.normal
    · subst hx;obtain ⟨x,tr',ts',S',e',b1,b2,b3,b4⟩:=ihb hwf.2 (hctx.kept a1.1) a2 a1.2 (show dC call ctx b tr1 ts1 k=true from a3);exact ⟨x,tr',ts',S',e',⟨a1.1.trans b1.1,b1.2⟩,b2,b3,fun Q hQ=>a4 _ (b4 Q hQ)⟩
    · have a5:k x1 tr1 ts1=true:=by
        cases x1 <;> first|exact absurd rfl hx|exact a3
      refine ⟨x1,tr1,ts1,S1,e1,a1,a2,a5,fun Q hQ=>a4 _ ?_⟩;cases x1 <;> first|exact absurd rfl hx|exact hQ
  | cond c a b iha ihb=>
    intro hwf tr e ts S k hctx ht hs h;obtain ⟨v,h1,h2⟩:=qn (x:=c) (c:=fun v=>qcg v fun t=>qX t (dC call ctx a tr ts k) (dC call ctx b tr ts k)) ht h;obtain ⟨t,rfl,h3⟩:=YS h2;cases t
    · obtain ⟨x,tr',ts',S',e',b1,b2,b3,b4⟩:=ihb hwf.2 hctx ht hs (show dC call ctx b tr ts k=true from h3);exact ⟨x,tr',ts',S',e',b1,b2,b3,fun Q hQ=>by simp only[WP,h1];exact ⟨fun h=>(by cases h),fun _=>b4 Q hQ⟩⟩
    · obtain ⟨x,tr',ts',S',e',b1,b2,b3,b4⟩:=iha hwf.1 hctx ht hs (show dC call ctx a tr ts k=true from h3);exact ⟨x,tr',ts',S',e',b1,b2,b3,fun Q hQ=>by simp only[WP,h1];exact ⟨fun _=>b4 Q hQ,fun h=>(by cases h)⟩⟩
  | block id c ih=>
    intro hwf tr e ts S k hctx ht hs h;obtain ⟨x1,tr1,ts1,S1,e1,a1,a2,a3,a4⟩:=ih hwf hctx ht hs (show dC call ctx c tr ts (kE id k)=true from h);by_cases hx:∃i,x1=.exit i
    · obtain ⟨i,rfl⟩:=hx;simp only[kE,qY] at a3;split at a3
      · rename_i hi;have hi:=qM hi;exact ⟨_,tr1,ts1,S1,e1,a1,a2,a3,fun Q hQ=>a4 _ (by simp only[Zh];rw[if_pos hi];exact hQ)⟩
      · rename_i hi;have hi:¬ i=id:=fun hh=>hi (ZM.2 hh)
        exact ⟨_,tr1,ts1,S1,e1,a1,a2,a3,fun Q hQ=>a4 _ (by simp only[Zh];rw[if_neg hi];exact hQ)⟩
    · have a5:k x1 tr1 ts1=true:=by
        cases x1 <;> first|exact absurd ⟨_,rfl⟩ hx|exact a3
      refine ⟨x1,tr1,ts1,S1,e1,a1,a2,a5,fun Q hQ=>a4 _ ?_⟩;cases x1 <;> first|exact absurd ⟨_,rfl⟩ hx|exact hQ
  | scope c ih=>
    intro hwf tr e ts S k hctx ht hs h;obtain ⟨x1,tr1,ts1,S1,e1,a1,a2,a3,a4⟩:=ih hwf hctx ht hs (show dC call ctx c tr ts (qcG k)=true from h);cases x1 <;> first
      | (exact (by cases a3))
      | exact ⟨_,tr1,ts1,S1,e1,a1,a2,a3,fun Q hQ=>a4 _ hQ⟩
  | loop c ih=>
    intro hwf tr e ts S k hctx ht hs h;obtain ⟨x,tr',ts',S',e',b1,b2,b3,b4⟩:=kr (ih hwf) Je hctx ht hs (show qau (dC call ctx c) k Je tr ts=true from h);exact ⟨x,tr',ts',S',e',b1,b2,b3,fun Q hQ=>qc5 (b4 Q hQ)⟩
  | exit id=>intro hwf tr e ts S k hctx ht hs h;exact ⟨_,tr,ts,S,e,⟨zl.refl _,hs⟩,ht,h,fun Q hQ=>hQ⟩
  | ret=>intro hwf tr e ts S k hctx ht hs h;exact ⟨_,tr,ts,S,e,⟨zl.refl _,hs⟩,ht,h,fun Q hQ=>hQ⟩
  | bad=>intro hwf tr e ts S k hctx ht hs h;cases h
  | rf g ps asg body ca cb N tsl iha ihb=>
    intro hwf tr e ts S k hctx ht hs h
    obtain ⟨h1,h2⟩:=ql (show qX (yy ca.noRf (yy cb.noRf (ps.all fun p=>decide (p<N)))) (opd g tr fun gv=>match gv with
      | .fn (.func kf) fs cs=>yN ts.len fun l=>call ((l,jt (dC call ctx ca) (dC call ctx cb) ps (Zs tsl tr) l)::ctx) kf (Z6 (Z6 fs [.yld l]) cs) (TS.push ⟨l,ts.tr⟩ (skL .ready none)) (qbJ l tr k)
      | _=>false) false=true from h)
    obtain ⟨na,h3⟩:=qr h1;obtain ⟨nb,hps⟩:=qr h3;obtain ⟨gv,h4,h5⟩:=qn ht h2;split at h5 <;> try cases h5
    rename_i kf fs cs;rw[zO,zz,zz] at h5;have hlen:=hs.1;obtain ⟨hca,hcb,wa,wb⟩:=hwf
    let i0:LI:=⟨.ready,none,ps,asg,body,e.keep tsl,N⟩
    have hs1:(TS.push ⟨ts.len,ts.tr⟩ (skL .ready none)).Abs (S++[Ob.loop i0]):=TS.push_abs' hs rfl;have hl0:(S++[Ob.loop i0])[S.length]?=some (Ob.loop i0):=by simp
    have hctx1:QN P ((ts.len,jt (dC call ctx ca) (dC call ctx cb) ps (Zs tsl tr) ts.len)::ctx) (S++[Ob.loop i0]):=by
      refine ⟨hctx.kept (zl.app _ _),i0,⟨.ready,none,by rw[←hlen];exact hl0⟩,fun args ts2 U c hU hl hs2 hr=>?_⟩;exact qck (i0:=i0) (iha wa) (ihb wb) (jE ht tsl).1 hca hcb na nb hps hU hl hs2 hr
    obtain ⟨r,S1,ts1,hspec,hK1,g1,g2⟩:=ok _ _ _ _ _ _ hctx1 hs1 h5;rw[←hlen] at hspec;unfold qbJ at g2;obtain ⟨o,k1,k2⟩:=TS.get_spec g1 g2;split at k2 <;> try cases k2
    rename_i i;rw[←hlen] at k1;obtain ⟨j,j1,j2,j3⟩:=Zm k1;obtain ⟨k3,k4⟩:=ql k2;have hKK:∀st p,zl S (S1.set S.length (Ob.loop { j with st:=st,pend:=p })):=fun st p=>(zl.app S _).trans (hK1.trans (zl.setLoop j1 st p))
    have fin:∀x,(∀Q:yD,Q x e (S1.set S.length (Ob.loop { j with st:=.exhausted }))→match j.pend with
        | none=>Q .normal e (S1.set S.length (Ob.loop { j with st:=.exhausted }))
        | some .ret=>Q .ret e (S1.set S.length (Ob.loop { j with st:=.exhausted }))
        | some (.exit id)=>Q (.exit id) e (S1.set S.length (Ob.loop { j with st:=.exhausted }))
        | some _=>False)→∀Q:yD,Q x e (S1.set S.length (Ob.loop { j with st:=.exhausted }))→WP P (.rf g ps asg body ca cb N tsl) Q e S:=by
      intro x hx Q hQ;simp only[WP];intro _ _;rw[h4];refine ⟨_,hspec,fun r' U hr=>?_⟩;obtain ⟨rfl,rfl⟩:=hr;exact ⟨j,j1,by rw[j2];exact Jw k3,hx Q hQ⟩
    split at k4
    · rename_i hp;rw[hp] at j3;refine ⟨_,tr,ts1.set S.length (skL .exhausted none),_,e,⟨hKK .exhausted j.pend,TS.set_abs' g1 j1 (by cases j;simp only at j3;subst j3;rfl)⟩,ht,by rw[←hlen] at k4;exact k4,fin .normal fun Q hQ=>by cases j;simp only at j3;subst j3;exact hQ⟩
    · rename_i hp;rw[hp] at j3;refine ⟨_,tr,ts1.set S.length (skL .exhausted (some .ret)),_,e,⟨hKK .exhausted j.pend,TS.set_abs' g1 j1 (by cases j;simp only at j3;subst j3;rfl)⟩,ht,by rw[←hlen] at k4;exact k4,fin .ret fun Q hQ=>by cases j;simp only at j3;subst j3;exact hQ⟩
    · rename_i id hp;rw[hp] at j3;refine ⟨_,tr,ts1.set S.length (skL .exhausted (some (.exit id))),_,e,⟨hKK .exhausted j.pend,TS.set_abs' g1 j1 (by cases j;simp only at j3;subst j3;rfl)⟩,ht,by rw[←hlen] at k4;exact k4,fin (.exit id) fun Q hQ=>by cases j;simp only at j3;subst j3;exact hQ⟩
    · cases k4
def dF(T:Tb)(n:Nat):QF:=Nat.rec (motive:=fun _=>QF) (fun _ _ _ _ _=>false)
 (fun _ ih ctx k args ts c=>Option.rec (Option.rec false (fun f=>qX (Nat.ble (Yd args) f.N) (dC ih ctx f.body (qal args 0 .nil) ts (qm6 f.rs c)) false) (T.fn k)) (fun r=>c r ts) (T.pr k args)) n
theorem qni{P:Program}{T:Tb}(ok:T.Ok P):∀n,DOk P (dF T n)
 | 0=>fun ctx k args ts S c _ hs h=>by cases h
 | n+1=>fun ctx k args ts S c hctx hs h=>by
  have h0:(Option.rec (Option.rec false (fun f=>qX (Nat.ble (Yd args) f.N) (dC (dF T n) ctx f.body (qal args 0 .nil) ts (qm6 f.rs c)) false) (T.fn k)) (fun r=>c r ts) (T.pr k args):Bool)=true:=h
  cases hp:T.pr k args with
  | some r=>
   rw[hp] at h0;exact ⟨r,S,ts,ok.pr _ _ _ hp S,zl.refl _,hs,h0⟩
  | none=>
   rw[hp] at h0
   cases hf:T.fn k with
   | none=>rw[hf] at h0;cases h0
   | some f=>
    rw[hf] at h0;obtain ⟨h1,h2⟩:=ql (show qX (Nat.ble (Yd args) f.N) (dC (dF T n) ctx f.body (qal args 0 .nil) ts (qm6 f.rs c)) false=true from h0);rw[zV] at h1;obtain ⟨fn,g1,g2⟩:=ok.fn _ _ hf
    have hsub:(qal args 0 .nil).sub (yo 0 args):=by
     have:=jj args 0 .nil [] (fun j v hj=>by rw[Tx.get_nil] at hj;cases hj) (fun j v hj=>by cases hj);simpa using this
    obtain ⟨x,tr',ts',S',e',a1,a2,a3,a4⟩:=qlI (qni ok n) f.body (qhQ g2) hctx hsub hs h2
    have fin:(x=.normal∨x=.ret)→(qlN f.rs tr' ts' fun vs=>qol vs fun v=>c v ts')=true→∃r S' ts',qt P k args S (fun v U=>v=r∧U=S')∧zl S S'∧ts'.Abs S'∧c r ts'=true:=by
     intro hx hr;obtain ⟨vs,b1,b2⟩:=Yy a2 a1.2 hr;rw[qge] at b2;refine ⟨qo vs,S',ts',qt.intro g1 g2 (qN h1) (a4 _ ?_),a1.1,a1.2,b2⟩;rcases hx with rfl|rfl <;> exact ⟨vs,b1,qo vs,S',zp.refl _ _ _,rfl,rfl⟩
    cases x <;> first
     | exact fin (.inl rfl) a3
     | exact fin (.inr rfl) a3
     | (cases a3)
def gC(det:qaI)(call:QF)(ctx:Ctx)(c:C'):TE→TS→KC→Bool:=C'.rec (motive:=fun _=>TE→TS→KC→Bool)
 (fun tr ts k=>k .normal tr ts)
 (fun ops tr ts k=>gO call ctx ops tr ts fun tr' ts'=>k .normal tr' ts')
 (fun ds zs tr ts k=>jP zs ts fun ts1=>fD det ts.len ds ds tr ts1 [ts1] fun tr' ts'=>k .normal tr' ts')
 (fun ds zs o tr ts k=>jP zs ts fun ts1=>fD det ts.len ds ds tr ts1 [ts1] fun tr' ts'=>gO call ctx [o] tr' ts' fun tr' ts'=>k .normal tr' ts')
 (fun _ _ iha ihb tr ts k=>iha tr ts (qk9 k fun tr' ts'=>ihb tr' ts' k))
 (fun c _ _ iha ihb tr ts k=>opd c tr fun v=>qcg v fun b=>qX b (iha tr ts k) (ihb tr ts k))
 (fun id _ ih tr ts k=>ih tr ts (kE id k))
 (fun _ ih tr ts k=>ih tr ts (qcG k))
 (fun _ ih tr ts k=>qau ih k Je tr ts)
 (fun id tr ts k=>k (.exit id) tr ts)
 (fun tr ts k=>k .ret tr ts)
 (fun _ _ _=>false)
 (fun g ps _ _ ca cb N tsl iha ihb tr ts k=>rfG call ctx g ps ca.noRf cb.noRf N tsl iha ihb tr ts k) c
theorem kA{P:Program}{ctx:Ctx}{c:C'}{f:TE→TS→KC→Bool}(ih:qij P ctx c f){S0:St}(hctx:YL P ctx S0):
  ∀(n:Nat) {tr:TE} {e:Env} {ts:TS} {S:St} {k:KC},zl S0 S→tr.sub e→ts.Abs S→qau f k n tr ts=true→qfy P c (qiB S0 k) n e S
 | 0,tr,e,ts,S,k,_,_,_,h=>by cases h
 | n+1,tr,e,ts,S,k,hK,ht,hs,h=>by
  intro R hR;refine QD (fun x e' S' hx=>?_) (ih hctx hK ht hs (show f tr ts (qk9 k (qau f k n))=true from h));obtain ⟨hK',tr',ts',h1,h2,h3⟩:=hx;cases x <;> first
   | exact hR _ _ (kA ih hctx n hK' h1 h2 h3)
   | exact ⟨hK',tr',ts',h1,h2,h3⟩
theorem qkq{P:Program}{det:qaI}(dok:qdJ P det){call:QF}(ok:GOk P call){ctx:Ctx}:∀(c:C'),qij P ctx c (gC det call ctx c):=by
  intro c
  induction c with
  | skip=>intro S0 tr e ts S k hctx hK ht hs h;exact ⟨hK,tr,ts,ht,hs,h⟩
  | reg ops=>
    intro S0 tr e ts S k hctx hK ht hs h;exact YV ok hctx hK ht hs (show gO call ctx ops tr ts (fun tr' ts'=>k .normal tr' ts')=true from h)
  | draw ds zs=>
    intro S0 tr e ts S k hctx hK ht hs h;obtain ⟨ts1,g1,g2⟩:=QJ hs (show (jP zs ts fun ts1=>fD det ts.len ds ds tr ts1 [ts1] fun tr' ts'=>k .normal tr' ts')=true from h);obtain ⟨tr',ts',S',e',h1,h2,h3,h4⟩:=Zx (S0:=S) dok ht g1 (.cons g1 .nil) ⟨zl.app _ _,fun U hU=>by rw[qrN] at hU;subst hU;exact zl.app _ _⟩ g2;simp only[WP];rw[hs.1];exact h4 (qiB S0 k .normal) ⟨hK.trans h1.1,tr',ts',h2,h1.2,h3⟩
  | drawl ds zs o=>
    intro S0 tr e ts S k hctx hK ht hs h;obtain ⟨ts1,g1,g2⟩:=QJ hs (show (jP zs ts fun ts1=>fD det ts.len ds ds tr ts1 [ts1] fun tr' ts'=>gO call ctx [o] tr' ts' fun tr' ts'=>k .normal tr' ts')=true from h);obtain ⟨tr1,ts1',S1,e1,h1,h2,h3,h4⟩:=Zx (S0:=S) dok ht g1 (.cons g1 .nil) ⟨zl.app _ _,fun U hU=>by rw[qrN] at hU;subst hU;exact zl.app _ _⟩ g2;simp only[WP];rw[hs.1];exact h4 (QX P o (qiB S0 k) .normal) (YV ok hctx (hK.trans h1.1) h2 h1.2 h3)
  | seq a b iha ihb=>
    intro S0 tr e ts S k hctx hK ht hs h;simp only[WP];refine QD (fun x e1 S1 hx=>?_) (iha hctx hK ht hs (show gC det call ctx a tr ts (qk9 k fun tr' ts'=>gC det call ctx b tr' ts' k)=true from h));obtain ⟨hK',tr',ts',h1,h2,h3⟩:=hx;cases x <;> first
      | exact ihb hctx hK' h1 h2 h3
      | exact ⟨hK',tr',ts',h1,h2,h3⟩
  | cond c a b iha ihb=>
    intro S0 tr e ts S k hctx hK ht hs h;obtain ⟨v,h1,h2⟩:=qn (x:=c) (c:=fun v=>qcg v fun t=>qX t (gC det call ctx a tr ts k) (gC det call ctx b tr ts k)) ht h;obtain ⟨t,rfl,h3⟩:=YS h2;simp only[WP,h1];cases t
    · exact ⟨fun h=>(by cases h),fun _=>ihb hctx hK ht hs h3⟩
    · exact ⟨fun _=>iha hctx hK ht hs h3,fun h=>(by cases h)⟩
  | block id c ih=>
    intro S0 tr e ts S k hctx hK ht hs h;simp only[WP];refine QD (fun x e1 S1 hx=>?_) (ih hctx hK ht hs (show gC det call ctx c tr ts (kE id k)=true from h));obtain ⟨hK',tr',ts',h1,h2,h3⟩:=hx;cases x <;> simp only[Zh] <;> try exact ⟨hK',tr',ts',h1,h2,h3⟩
    rename_i i;simp only[kE,qY] at h3;split at h3
    · rename_i hi;rw[if_pos (qM hi)];exact ⟨hK',tr',ts',h1,h2,h3⟩
    · rename_i hi;rw[if_neg (fun hh=>hi (ZM.2 hh))];exact ⟨hK',tr',ts',h1,h2,h3⟩
  | scope c ih=>
    intro S0 tr e ts S k hctx hK ht hs h;simp only[WP];refine QD (fun x e1 S1 hx=>?_) (ih hctx hK ht hs (show gC det call ctx c tr ts (qcG k)=true from h));obtain ⟨hK',tr',ts',h1,h2,h3⟩:=hx;cases x <;> first
      | (exact (by cases h3))
      | exact ⟨hK',tr',ts',h1,h2,h3⟩
  | loop c ih=>
    intro S0 tr e ts S k hctx hK ht hs h;exact qc5 (kA ih hctx Je hK ht hs (show qau (gC det call ctx c) k Je tr ts=true from h))
  | exit id=>intro S0 tr e ts S k hctx hK ht hs h;exact ⟨hK,tr,ts,ht,hs,h⟩
  | ret=>intro S0 tr e ts S k hctx hK ht hs h;exact ⟨hK,tr,ts,ht,hs,h⟩
  | bad=>intro S0 tr e ts S k hctx hK ht hs h;cases h
  | rf g ps asg body ca cb N tsl iha ihb=>
    intro S0 tr e ts S k hctx hK ht hs h
    obtain ⟨h1,h2⟩:=ql (show qX (yy ca.noRf (yy cb.noRf (ps.all fun p=>decide (p<N)))) (opd g tr fun gv=>match gv with
      | .fn (.func kf) fs cs=>yN ts.len fun l=>call ((l,jt (gC det call ctx ca) (gC det call ctx cb) ps (Zs tsl tr) l)::ctx) kf (Z6 (Z6 fs [.yld l]) cs) (TS.push ⟨l,ts.tr⟩ (skL .ready none)) (qbJ l tr k)
      | _=>false) false=true from h)
    obtain ⟨na,h3⟩:=qr h1;obtain ⟨nb,hps⟩:=qr h3;obtain ⟨gv,h4,h5⟩:=qn ht h2;simp only[WP];intro hca hcb;rw[h4];split at h5 <;> try cases h5
    rename_i kf fs cs;rw[zO,zz,zz] at h5;have hlen:=hs.1
    let i0:LI:=⟨.ready,none,ps,asg,body,e.keep tsl,N⟩
    have hs1:(TS.push ⟨ts.len,ts.tr⟩ (skL .ready none)).Abs (S++[Ob.loop i0]):=TS.push_abs' hs rfl;have hl0:(S++[Ob.loop i0])[S.length]?=some (Ob.loop i0):=by simp
    have hctx1:YL P ((ts.len,jt (gC det call ctx ca) (gC det call ctx cb) ps (Zs tsl tr) ts.len)::ctx) (S++[Ob.loop i0]):=by
      refine ⟨hctx.kept (hK.trans (zl.app _ _)),i0,⟨.ready,none,by rw[←hlen];exact hl0⟩,fun args ts2 U c hU hl hs2 hr=>?_⟩;exact qb6 (i0:=i0) iha ihb (jE ht tsl).1 hca hcb na nb hps hU hl hs2 hr
    have hspec:=ok _ _ _ _ _ _ hctx1 hs1 h5;rw[←hlen] at hspec;refine ⟨_,hspec,fun r S' hr=>?_⟩;obtain ⟨hK',ts',g1,g2⟩:=hr;unfold qbJ at g2;obtain ⟨o,k1,k2⟩:=TS.get_spec g1 g2;split at k2 <;> try cases k2
    rename_i i;obtain ⟨j,j1,j2,j3⟩:=Zm k1;obtain ⟨k3,k4⟩:=ql k2;have hKK:∀st p,zl S0 (S'.set S.length (Ob.loop { j with st:=st,pend:=p })):=fun st p=>hK.trans ((zl.app S _).trans (hK'.trans (zl.setLoop j1 st p)))
    refine ⟨j,j1,by rw[j2];exact Jw k3,?_⟩;rw[j3];split at k4
    · rename_i hp;rw[hp] at j3 ⊢;exact ⟨hKK _ _,tr,_,ht,TS.set_abs' g1 j1 rfl,k4⟩
    · rename_i hp;rw[hp] at j3 ⊢;exact ⟨hKK _ _,tr,_,ht,TS.set_abs' g1 j1 rfl,k4⟩
    · rename_i id hp;rw[hp] at j3 ⊢;exact ⟨hKK _ _,tr,_,ht,TS.set_abs' g1 j1 rfl,k4⟩
    · cases k4
def gF(T:Tb)(n:Nat):QF:=Nat.rec (motive:=fun _=>QF) (fun _ _ _ _ _=>false)
 (fun n ih ctx k args ts c=>Option.rec (Option.rec false (fun f=>qX (Nat.ble (Yd args) f.N) (gC (qbl (dF T n)) ih ctx f.body (qal args 0 .nil) ts (qm6 f.rs c)) false) (T.fn k)) (fun r=>c r ts) (T.pr k args)) n
theorem qoR{P:Program}{T:Tb}(ok:T.Ok P):∀n,GOk P (gF T n)
  | 0=>fun ctx k args ts S c _ hs h=>by cases h
  | n+1=>fun ctx k args ts S c hctx hs h=>by
    have h0:(Option.rec (Option.rec false (fun f=>qX (Nat.ble (Yd args) f.N) (gC (qbl (dF T n)) (gF T n) ctx f.body (qal args 0 .nil) ts (qm6 f.rs c)) false) (T.fn k)) (fun r=>c r ts) (T.pr k args):Bool)=true:=h
    cases hp:T.pr k args with
    | some r=>
      rw[hp] at h0
      exact (ok.pr _ _ _ hp S).mono fun r' S' hr=>by
        obtain ⟨rfl,rfl⟩:=hr;exact ⟨zl.refl _,ts,hs,h0⟩
    | none=>
      rw[hp] at h0
      cases hf:T.fn k with
      | none=>rw[hf] at h0;cases h0
      | some f=>
        rw[hf] at h0;obtain ⟨h1,h2⟩:=ql (show qX (Nat.ble (Yd args) f.N) (gC (qbl (dF T n)) (gF T n) ctx f.body (qal args 0 .nil) ts (qm6 f.rs c)) false=true from h0);rw[zV] at h1;obtain ⟨fn,g1,g2⟩:=ok.fn _ _ hf
        have hsub:(qal args 0 .nil).sub (yo 0 args):=by
          have:=jj args 0 .nil [] (fun j v hj=>by rw[Tx.get_nil] at hj;cases hj) (fun j v hj=>by cases hj);simpa using this
        refine qt.intro g1 g2 (qN h1) (QD (fun x e' S' hx=>?_) (qkq (qai (qni ok n)) (qoR ok n) f.body hctx (zl.refl S) hsub hs h2));obtain ⟨hK,tr',ts',a1,a2,a3⟩:=hx;cases x <;> first
          | (cases a3;done)
          | (obtain ⟨vs,b1,b2⟩:=Yy a1 a2 (show (qlN f.rs tr' ts' fun vs=>qol vs fun v=>c v ts')=true from a3)
             rw[qge] at b2
             exact ⟨vs,b1,qo vs,S',zp.refl _ _ _,hK,ts',a2,b2⟩)
theorem qk8{P:Program}{T:Tb}(ok:T.Ok P){n k:Nat}{args:List V}{ts:TS}{S:St}{c:V→TS→Bool}(hs:ts.Abs S)(h:gF T n [] k args ts c=true):qt P k args S (Out S c):=qoR ok n [] k args ts S c trivial hs h
theorem qt.ghost{P:Program}{f:FuncId}{args:List V}{R:V→St→Prop}{r:V}(h:qt P f args [] R)(hg:∀v U,R v U→zp 0 v U r []):qt P f args [] (fun v U=>v=r∧U=[]):=
 ⟨h.1,fun E w us n hs hv=>(h.2 E w us n hs hv).mono fun e w' ⟨u,r0,E1,S1,h1,h2,h3,h4,h5,h6⟩=>by
  obtain ⟨E2,g1,g2,g3,g4⟩:=hg r0 S1 h2 E1 w' u h4 h3 (qrA _);exact ⟨u,r,E2,[],h1,⟨rfl,rfl⟩,g1,g2,h5.trans g3,qrA _⟩⟩
theorem qt.frame{P:Program}{f:FuncId}{args:List V}{r:V}(h:qt P f args [] (fun v U=>v=r∧U=[]))(ha:∀v,v∈args→v.under 0=true)(hr:r.under 0=true)(S:St):qt P f args S (fun v U=>v=r∧U=S):=by
 refine ⟨h.1,fun E w us n hs hv=>?_⟩;obtain ⟨c1,c2⟩:=hs.cut (m:=0) (fun o ho=>by simp at ho) (qrA _);have c1:SR (E.cut 0) [] w:=by simpa using c1
 have hv0:VRs (E.cut 0) args us:=⟨hv.1,fun i v u h1 h2=>(hv.2 i v u h1 h2).cut (ha v (qq1 h1))⟩;refine (h.2 (E.cut 0) w us n c1 hv0).mono ?_;rintro e w' ⟨u,r0,E1,S1,h1,⟨rfl,rfl⟩,h3,h4,h5,h6⟩
 have hno:∀{E:En} {b:Nat},¬ own E [] b:=by
  rintro E b ⟨l,st,x,⟨o,ho,_⟩,_⟩;simp at ho
 let E':En:={ I:=E1.I,ρ:=E.ρ }
 have hle:E.le E':=⟨fun b o c hc=>h5.I b o c hc,fun _ _ _ hx=>hx⟩;have hle1:En.le (E1.cut 0) E':=⟨fun b o c hc=>hc,fun l st x hx=>by simp[En.cut] at hx⟩;have hown:∀b,own E' S b→own E S b:=fun b ⟨l,st,x,hl,hx,he⟩=>⟨l,st,x,hl,hx,he⟩
 have hI:∀b o c,E1.I b o=some c→E.I b o=some c∨w.heap.size≤b:=fun b o c hc=>by
  rcases h5.newI b o c hc with hc|hc|hc
  ·exact .inl hc
  ·exact absurd hc hno
  ·exact .inr hc
 refine ⟨u,r0,E',S,h1,⟨rfl,rfl⟩,(h3.cut hr).mono hle1,⟨⟨h4.gl.1,h4.gl.2⟩,h4.I,fun l o hl=>?_,hs.dom,fun b o hb=>?_,fun b hb=>?_,fun l l' st st' x x' hl hl' hx hx' he=>hs.inj l l' st st' x x' hl hl' hx hx' he⟩,
  ⟨h5.size,hle.1,fun _ _ _ _ hx=>hx,fun _ _ hx=>hx,fun b hb=>.inl (hown b hb),fun b o c hc=>(hI b o c hc).imp id .inr,fun b hb _=>h5.frame b hb hno,h5.out⟩,qqY _⟩
 ·by_cases hd:o=.dead
  ·subst hd;trivial
  ·exact (hs.obs l o hl).mono hle (fun _ _ hx=>hx) fun st x hx=>h5.frame _ (hs.lt _ ⟨l,st,x,⟨o,hl,hd⟩,hx,rfl⟩) hno
 ·cases hc:E'.I b o with
  | none=>rfl
  | some c=>
   exfalso;rcases hI b o c hc with h| h
   ·rw[hs.apart b o (hown b hb)] at h;cases h
   ·have:=hs.lt b (hown b hb);omega
 ·exact qry (hs.lt b (hown b hb)) h5.size
def qpE(r:V)(n:Nat):V→TS→Bool:=Nat.rec (motive:=fun _=>V→TS→Bool) (fun _ _=>false)
 (fun _ ih v ts=>match V.arrs 100 v with
  | []=>yy (V.same v r) (r.under 0)
  | l::_=>ts.get l fun o=>match o with
   | .arr xs _ wr=>ih (v.frz l xs wr) (ts.set l .dead)
   | _=>false) n
theorem qa2{r:V}:∀(n:Nat) {v:V} {ts:TS} {S:St},ts.Abs S→qpE r n v ts=true→zp 0 v S r []∧r.under 0=true
 | 0,v,ts,S,_,h=>by cases h
 | n+1,v,ts,S,hs,h=>by
  have h:(match V.arrs 100 v with
   | []=>yy (V.same v r) (r.under 0)
   | l::_=>ts.get l fun o=>match o with
    | .arr xs _ wr=>qpE r n (v.frz l xs wr) (ts.set l .dead)
    | _=>false)=true:=h
  split at h
  ·obtain ⟨h1,h2⟩:=qr h;have:=Zw _ _ h1;subst this;exact ⟨by simpa using zp.cut (n:=0) (m:=0) (S:=S) h2 (fun o ho=>by simp at ho) (qqY _) (qrA _),h2⟩
  ·obtain ⟨o,h1,h2⟩:=TS.get_spec hs h;split at h2 <;> try cases h2
   have h1:=Js h1;obtain ⟨g1,g2⟩:=qa2 n (TS.set_abs hs h1) h2;exact ⟨(zp.freezeV h1).trans g1,g2⟩
def qfe:TS:=⟨0,.nil⟩
theorem qbY:qfe.Abs []:=⟨rfl,fun l hl=>(Nat.not_lt_zero _ hl).elim⟩
structure Pr where
 k:Nat
 args:List V
 r:V
def Pr.ok(P:Program)(p:Pr):Prop:=∀S,qt P p.k p.args S (fun v U=>v=p.r∧U=S)
def Pr.find(k:Nat)(args:List V)(l:List Pr):Option V:=List.rec none (fun p _ ih=>qX (Nat.beq p.k k) (qX (V.sames p.args args) (some p.r) ih) ih) l
theorem Pr.find_spec{P:Program}{k:Nat}{args:List V}{r:V}:∀{l:List Pr},(∀p,p∈l→p.ok P)→Pr.find k args l=some r→∀S,qt P k args S (fun v U=>v=r∧U=S)
 | [],_,h=>by cases h
 | p::l,ok,h=>by
  have h:qX (Nat.beq p.k k) (qX (V.sames p.args args) (some p.r) (Pr.find k args l)) (Pr.find k args l)=some r:=h;rw[qY] at h;split at h
  ·rename_i hk;rw[qY] at h;split at h
   ·rename_i ha;cases h;have h1:=qM hk;have h2:=QI _ _ ha;subst h1;subst h2;exact ok p (by simp)
   ·exact Pr.find_spec (fun q hq=>ok q (by simp[hq])) h
  ·exact Pr.find_spec (fun q hq=>ok q (by simp[hq])) h
theorem Pr.run{P:Program}{T:Tb}(ok:T.Ok P)(n:Nat){p:Pr}(h:yy (yy (p.args.all fun v=>v.under 0) (p.r.under 0)) (gF T n [] p.k p.args qfe (qpE p.r 1000))=true):p.ok P:=by
 obtain ⟨h1,h2⟩:=qr h;obtain ⟨h1,hr⟩:=qr h1;have hs:=qk8 (P:=P) ok (S:=[]) qbY h2;simp only[qri] at h1;exact (hs.ghost fun v U ⟨_,ts',g1,g2⟩=>(qa2 1000 g1 g2).1).frame h1 hr
@[simp] def O'.o(d:Nat)(k:K):O':=⟨some d,none,k⟩
@[simp] def O'.n(k:K):O':=⟨none,none,k⟩
@[simp] def O'.v(d m:Nat)(b:Bool)(k:K):O':=⟨some d,some (m,b),k⟩
@[simp] def O'.m(d a:Nat):O':=⟨some d,none,.mv (.t a)⟩
@[simp] def O'.l(d a:Nat):O':=⟨some d,none,.ld none (.t a)⟩
@[simp] def O'.j(d k a:Nat):O':=⟨some d,none,.ld (some k) (.t a)⟩
@[simp] def O'.f(d k a:Nat):O':=⟨some d,none,.fa k (.t a)⟩
@[simp] def O'.i(d k a b:Nat):O':=⟨some d,none,.ia k (.t a) (.t b)⟩
@[simp] def O'.e(d k a:Nat):O':=⟨some d,none,.ext k (.t a)⟩
@[simp] def O'.h(d a:Nat):O':=⟨some d,none,.nck (.t a)⟩
@[simp] def O'.b(d:Nat)(o:BinOp)(a b:Nat):O':=⟨some d,none,.bin o (.t a) (.t b)⟩
@[simp] def O'.u(d:Nat)(o:BinOp)(a:Nat)(n:Int):O':=⟨some d,none,.bin o (.t a) (.c (.int .i64 n))⟩
@[simp] def O'.s(k a b:Nat):O':=⟨none,none,.sto k (.t a) (.t b)⟩
@[simp] def O'.y(d a m:Nat):O':=⟨some d,none,.pick (.t a) (.t m) (.c (.bool false))⟩
@[simp] def O'.z(d a m:Nat):O':=⟨some d,none,.pick (.t a) (.c (.bool true)) (.t m)⟩
@[simp] def O'.a(d:Nat)(v:V):O':=⟨some d,none,.mv (.c v)⟩
@[simp] def O'.c(d k a:Nat):O':=⟨some d,none,.call (.f k) [.t a]⟩
@[simp] def O'.w(d k a b:Nat):O':=⟨some d,none,.call (.f k) [.t a,.t b]⟩
@[simp] def O'.x(d k a b c:Nat):O':=⟨some d,none,.call (.f k) [.t a,.t b,.t c]⟩
@[simp] def D.p(o:O')(a:List Nat):D:=⟨o,false,none,false,a,0,0⟩
@[simp] def D.q(o:O')(w c:Bool)(a:List Nat)(l h:Nat):D:=⟨o,w,none,c,a,l,h⟩
@[simp] def O'.G(d:Nat)(n:Int):O':=⟨some d,none,.mv (.c (.int .i64 n))⟩
@[simp] def O'.F(d:Nat):O':=⟨some d,none,.mv (.c (.bool false))⟩
@[simp] def O'.T(d:Nat):O':=⟨some d,none,.mv (.c (.bool true))⟩
@[simp] def O'.B(d a:Nat):O':=⟨some d,none,.box (.t a)⟩
@[simp] def O'.L(d a:Nat):O':=⟨some d,none,.len false (.t a)⟩
@[simp] def O'.V(d m:Nat)(b:Bool)(a:Nat):O':=⟨some d,some (m,b),.mv (.t a)⟩
@[simp] def O'.N(d m:Nat)(b:Bool)(o:BinOp)(x y:Nat):O':=⟨some d,some (m,b),.bin o (.t x) (.t y)⟩
@[simp] def O'.M(d m:Nat)(b:Bool)(a:Nat):O':=⟨some d,some (m,b),.ld none (.t a)⟩
@[simp] def C'.d(n:Nat)(a b:C'):C':=.cond (.t n) a b
@[simp] def C'.k(l:List O')(c:C'):C':=.seq (.reg l) c
@[simp] def z0:V:=.int .i64 0
@[simp] def sN:V:=.sl true []
@[simp] def zS:V:=(.agg [(.sl true []),(.int .i64 0),(.str ⟨⟨[]⟩⟩),(.sl true []),(.sl true []),(.sl true []),(.sl true []),(.sl true [])])
@[simp] def zD:V:=(.agg [(.int .i64 0),(.bool false),(.int .i64 0),(.sl true []),(.sl true []),(.sl true []),(.sl true [])])
@[simp] def zX:V:=(.agg [(.int .i64 0),(.int .i64 0),(.int .i64 0),(.int .i64 0),(.int .i64 0),(.str ⟨⟨[]⟩⟩),(.sl true [])])
@[simp] def zE:V:=(.agg [(.int .i64 0),(.sl true [])])
@[simp] def zF:V:=(.agg [(.str ⟨⟨[]⟩⟩),(.bool false),(.int .i64 0),(.int .i64 0)])
@[simp] def zP:V:=(.agg [(.int .i64 0),(.sl true []),(.int .i64 0),(.str ⟨⟨[]⟩⟩),(.sl true []),(.sl true []),(.sl true []),(.sl true []),(.sl true []),(.int .i64 0),(.bool false),(.int .i64 0),(.sl true []),(.sl true []),(.sl true []),(.sl true []),(.int .i64 0),(.sl true []),(.int .i64 0),(.int .i64 0),(.int .i64 0),(.int .i64 0),(.int .i64 0),(.str ⟨⟨[]⟩⟩),(.sl true [])])
theorem qgN{α:Type}[DecidableEq α]:∀(l:List α) (m:Nat) (f:Nat→α),(∀i j,i<m→j<m→f i=f j→i=j)→(∀i,i<m→f i∈l)→m≤l.length
 | [],m,f,_,h=>by
  cases m with
  | zero=>exact qqY _
  | succ m=>exact absurd (h 0 (by omega)) (by simp)
 | a::l,m,f,hinj,h=>by
  by_cases ha:∃i,i<m∧f i=a
  ·obtain ⟨i0,hi,he⟩:=ha;have hm:0<m:=by omega
   have:=qgN l (m - 1) (fun j=>if j<i0 then f j else f (j+1)) (fun i j hi' hj' hf=>by
    split at hf <;> split at hf
    ·exact hinj i j (by omega) (by omega) hf
    ·have:=hinj i (j+1) (by omega) (by omega) hf;omega
    ·have:=hinj (i+1) j (by omega) (by omega) hf;omega
    ·have:=hinj (i+1) (j+1) (by omega) (by omega) hf;omega) (fun j hj=>by
    split
    ·rename_i hlt;rcases qrl.1 (h j (by omega)) with h1|h1
     ·have:=hinj j i0 (by omega) hi (h1.trans he.symm);omega
     ·exact h1
    ·rename_i hge;rcases qrl.1 (h (j+1) (by omega)) with h1|h1
     ·have:=hinj (j+1) i0 (by omega) hi (h1.trans he.symm);omega
     ·exact h1)
   simp;omega
  ·have:=qgN l m f hinj fun i hi=>by
    rcases qrl.1 (h i hi) with h1|h1
    ·exact absurd ⟨i,hi,h1⟩ ha
    ·exact h1
   simp;omega
def dig(n:Nat):List UInt8:=Lib.decDigits n
theorem z6{n:Nat}(h:n<10):dig n=[UInt8.ofNat (48+n)]:=by unfold dig;rw[Lib.decDigits];rw[dif_pos h]
theorem Qa{n:Nat}(h:¬ n<10):dig n=dig (n / 10)++[UInt8.ofNat (48+n % 10)]:=by unfold dig;rw[Lib.decDigits];rw[dif_neg h]
theorem qhj{n:Nat}(h:n<10000):1≤(dig n).length∧(dig n).length≤4:=by
 by_cases h1:n<10
 ·rw[z6 h1];simp
 rw[Qa h1];by_cases h2:n / 10<10
 ·rw[z6 h2];simp
 rw[Qa h2];by_cases h3:n / 10 / 10<10
 ·rw[z6 h3];simp
 rw[Qa h3,z6 (by omega)];simp
theorem qbu{n:Nat}(h:n<900):dig (100+n)=[UInt8.ofNat (48+(100+n) / 10 / 10),UInt8.ofNat (48+(100+n) / 10 % 10),UInt8.ofNat (48+(100+n) % 10)]:=by
 rw[Qa (by omega),Qa (by omega),z6 (by omega)];rfl
def YB(s:Bz)(n:Nat):Bz:=⟨(s.data.toList.take (min s.size (16 - (dig n).length))++dig n).toArray⟩
theorem qhf{a b:Nat}(ha:a<256)(hb:b<256)(h:UInt8.ofNat a=UInt8.ofNat b):a=b:=by
 have:=congrArg UInt8.toNat h;simpa[Nat.mod_eq_of_lt ha,Nat.mod_eq_of_lt hb] using this
theorem qhK{s:Bz}{i j:Nat}(hi:i<900)(hj:j<900)(h:YB s (100+i)=YB s (100+j)):i=j:=by
 unfold YB at h;rw[qbu hi,qbu hj] at h;simp only[ByteArray.mk.injEq,qrk,qrX] at h;have h:=congrArg Array.toList h;simp only[List.append_cancel_left_eq,List.cons.injEq,and_true] at h;obtain ⟨h1,h2,h3⟩:=h;have h1:=qhf (by omega) (by omega) h1;have h2:=qhf (by omega) (by omega) h2;have h3:=qhf (by omega) (by omega) h3;omega
end Go.Proofs.YtbifpocccfkhhaaGreatDoor
namespace Go.Proofs
open Go.Shelf
open Go.Lib in
open Go.Lib in
open Go.Lib in
open Go.Lib in
open Go.RowKit Go.Sort Go.Lib in
open Go.RowKit Go.Sort Go.Lib in
open Go.RowKit Go.Sort Go.Lib in
open Go.RowKit Go.Sort Go.Lib in
open Go.RowKit Go.Sort Go.Lib in
def Tryz.laysM171_ren:Go.Shelf.Ren:=⟨fun|171=>129|243=>167|246=>196|283=>234|284=>235|285=>236|286=>237|129=>248|317=>259|318=>260|319=>261|320=>262|337=>274|338=>275|n=>n,fun|3=>3|9=>9|2=>2|4=>4|171=>238|0=>0|53=>239|37=>141|5=>5|173=>242|212=>264|51=>254|20=>20|213=>265|46=>213|232=>290|233=>291|n=>n,fun|17=>2|18=>3|19=>4|n=>n⟩
theorem Tryz.laysM171:Go.Proofs.LaysM.n171 Tryz.prog Tryz.laysM171_ren:={
 mixed:=by kernel_rfl
 f129:=Tryz.func248.trans (congrArg some (by kernel_rfl))
 f171:=Tryz.func129.trans (congrArg some (by kernel_rfl))
 f243:=Tryz.func167.trans (congrArg some (by kernel_rfl))
 f246:=Tryz.func196.trans (congrArg some (by kernel_rfl))
 f283:=Tryz.func234.trans (congrArg some (by kernel_rfl))
 f284:=Tryz.func235.trans (congrArg some (by kernel_rfl))
 f285:=Tryz.func236.trans (congrArg some (by kernel_rfl))
 f286:=Tryz.func237.trans (congrArg some (by kernel_rfl))
 f317:=Tryz.func259.trans (congrArg some (by kernel_rfl))
 f318:=Tryz.func260.trans (congrArg some (by kernel_rfl))
 f319:=Tryz.func261.trans (congrArg some (by kernel_rfl))
 f320:=Tryz.func262.trans (congrArg some (by kernel_rfl))
 f337:=Tryz.func274.trans (congrArg some (by kernel_rfl))
 f338:=Tryz.func275.trans (congrArg some (by kernel_rfl))
 t0:=Tryz.underlying0
 a0:=Tryz.isAgg0
 z0:=Tryz.sizeOf0
 v0:=Tryz.zeroValue0
 t2:=Tryz.underlying2
 a2:=Tryz.isAgg2
 z2:=Tryz.sizeOf2
 v2:=Tryz.zeroValue2
 t3:=Tryz.underlying3
 a3:=Tryz.isAgg3
 z3:=Tryz.sizeOf3
 v3:=Tryz.zeroValue3
 t4:=Tryz.underlying4
 a4:=Tryz.isAgg4
 z4:=Tryz.sizeOf4
 v4:=Tryz.zeroValue4
 t5:=Tryz.underlying5
 a5:=Tryz.isAgg5
 z5:=Tryz.sizeOf5
 v5:=Tryz.zeroValue5
 t9:=Tryz.underlying9
 a9:=Tryz.isAgg9
 z9:=Tryz.sizeOf9
 v9:=Tryz.zeroValue9
 t20:=Tryz.underlying20
 a20:=Tryz.isAgg20
 z20:=Tryz.sizeOf20
 v20:=Tryz.zeroValue20
 t37:=Tryz.underlying141
 a37:=Tryz.isAgg141
 z37:=Tryz.sizeOf141
 v37:=Tryz.zeroValue141
 t46:=Tryz.underlying213
 a46:=Tryz.isAgg213
 z46:=Tryz.sizeOf213
 v46:=Tryz.zeroValue213
 t51:=Tryz.underlying254
 a51:=Tryz.isAgg254
 z51:=Tryz.sizeOf254
 v51:=Tryz.zeroValue254
 t53:=Tryz.underlying239
 a53:=Tryz.isAgg239
 z53:=Tryz.sizeOf239
 v53:=Tryz.zeroValue239
 t171:=Tryz.underlying238
 a171:=Tryz.isAgg238
 z171:=Tryz.sizeOf238
 v171:=Tryz.zeroValue238
 t173:=Tryz.underlying242
 a173:=Tryz.isAgg242
 z173:=Tryz.sizeOf242
 v173:=Tryz.zeroValue242
 t212:=Tryz.underlying264
 a212:=Tryz.isAgg264
 z212:=Tryz.sizeOf264
 v212:=Tryz.zeroValue264
 t213:=Tryz.underlying265
 a213:=Tryz.isAgg265
 z213:=Tryz.sizeOf265
 t232:=Tryz.underlying290
 a232:=Tryz.isAgg290
 z232:=Tryz.sizeOf290
 v232:=Tryz.zeroValue290
 t233:=Tryz.underlying291
 a233:=Tryz.isAgg291
 z233:=Tryz.sizeOf291
 v233:=Tryz.zeroValue291
 g17:=by kernel_rfl
 g18:=by kernel_rfl
 g19:=by kernel_rfl
 i0:=by kernel_rfl
 i2:=by kernel_rfl
 i3:=by kernel_rfl
 i4:=by kernel_rfl
 i5:=by kernel_rfl
 i9:=by kernel_rfl
 i20:=by kernel_rfl
 i37:=by kernel_rfl
 i46:=by kernel_rfl
 i51:=by kernel_rfl
 i53:=by kernel_rfl
 i171:=by kernel_rfl
 i173:=by kernel_rfl
 i212:=by kernel_rfl
 i232:=by kernel_rfl
 i233:=by kernel_rfl
 m17:=by kernel_rfl
 m18:=by kernel_rfl
 m19:=by kernel_rfl }
open Go.RowKit Go.Sort Go.Lib in
theorem Tryz.strconv_Itoa (n : Int) (h0 : -9223372036854775808 ≤ n) (h1 : n ≤ 9223372036854775807) (w : World) (htab : Lib.TabIs Tryz.prog w "internal/strconv.uint64pow10" .u64 Lib.pow10Tab) :
 Calls Tryz.prog 129 #[.int .i64 n] w fun e w'=>e=.returned (.string ⟨(Lib.itoa n).toArray⟩)∧∃k os,w'=grow (w.drewN k) os:=Any.strconv_Itoa Tryz.laysM171 n h0 h1 w htab
end Go.Proofs
end
