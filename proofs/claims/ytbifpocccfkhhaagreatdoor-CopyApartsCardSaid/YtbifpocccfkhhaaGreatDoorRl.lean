/- A part. -/
import Derived.Test.YtbifpocccfkhhaaGreatDoorRk
import Derived.Test.YtbifpocccfkhhaaGreatDoorRg
set_option linter.all false
noncomputable section
namespace Go.Proofs.YtbifpocccfkhhaaGreatDoor
open Go Go.Proofs.Tryz
theorem Sm.wr_eq(p:Pw)(sc:Scs)(n:Nat)(s:Sm):s.wr p sc n=
  if s.kind=7 then .mk (Jl p sc s.labels) s.kind s.text (Ex.wrl p sc true s.targets) s.exps s.elems (De.wrl p (qd (qg s.decls s.body) n::sc) sc (n+(qd (qg s.decls s.body) n).length) s.decls) (Sm.wrl p (qd (qg s.decls s.body) n::sc) (n+(qd (qg s.decls s.body) n).length+De.nbl s.decls) s.body)
  else if s.kind=8 then .mk (Jl p sc s.labels) s.kind s.text (Ex.wrl p sc true s.targets) s.exps s.elems s.decls (Sm.wrl p (qd (qk s.body) n::sc) (n+(qd (qk s.body) n).length) s.body)
  else .mk (Jl p sc s.labels) s.kind (p.clE sc s.kind s.text) (Ex.wrl p sc true s.targets) (Ex.wrl p sc false s.exps) (El.wrl p sc s.elems) s.decls (Sm.wr1 p sc n s.body):=by
 cases s;rw[Sm.wr];rfl
theorem Sm.hs_eq(p:Pw)(sc:Scs)(n:Nat)(h:p.H)(s:Sm):s.hs p sc n h=
  if s.kind=7 then Sm.hsl p (qd (qg s.decls s.body) n::sc) (n+(qd (qg s.decls s.body) n).length+De.nbl s.decls) (De.hsl p (qd (qg s.decls s.body) n::sc) sc (n+(qd (qg s.decls s.body) n).length) (enters p (Ex.hsl p sc true h s.targets) (qd (qg s.decls s.body) n)) s.decls) s.body
  else if s.kind=8 then Sm.hsl p (qd (qk s.body) n::sc) (n+(qd (qk s.body) n).length) (enters p (Ex.hsl p sc true h s.targets) (qd (qk s.body) n)) s.body
  else p.clS sc s.kind (Sm.hs1 p sc n (El.hsl p sc (Ex.hsl p sc false (Ex.hsl p sc true h s.targets) s.exps) s.elems) s.body) s.text:=by
 cases s;rw[Sm.hs];rfl
theorem Sm.nb_eq(s:Sm):s.nb=if s.kind=7 then (qd (qg s.decls s.body) 0).length+De.nbl s.decls+Sm.nbl s.body else if s.kind=8 then (qd (qk s.body) 0).length+Sm.nbl s.body else Sm.nb1 s.body:=by
 cases s;rw[Sm.nb];rfl
theorem Sm.size_parts(s:Sm):(Pa.st s).size=1+s.labels.length+qF (s.targets.map Pa.ex)+qF (s.exps.map Pa.ex)+qF (s.elems.map Pa.el)+qF (s.decls.map Pa.de)+qF (s.body.map Pa.st):=by
 rw[Pa.size_eq];simp only[Pa.own,Pa.kids,zj];omega
theorem gpp{U:St}{x:Nat}{o:Ob}{os:List Ob}(h:U[x]?=some o):(U++os)[x]?=some o:=by rw[qpY (qpU.1 h).1];exact h
abbrev smZ:V:=.agg [.sl true [],.int .i64 0,.str ⟨⟨[]⟩⟩,.sl true [],.sl true [],.sl true [],.sl true [],.sl true []]
theorem ScR.yb{p:Pw}{w:Nat}{F D F' D':Np}{S X:St}{v:V}{ts:List Sct}(h:ScR p (fun l=>l=w∨F l) S v ts)(s:Stp w F D S F' D' X):ScR p (fun l=>l=w∨F' l∨(l=S.length∨l=S.length+1)) X v ts:=
 h.mono s.k fun l hh=>by
  rcases hh with hh|hh|hh|hh
  ·exact .inl (.inl hh)
  ·exact (s.gF l hh).imp .inr id
  ·exact .inr (by omega)
  ·exact .inr (by omega)
structure Bx(c:Cb)(w n:Nat)(h:c.H)(F D:Np)(S:St)(y:Sm)(F' D':Np)(X:St):Prop where
 b0:X[S.length]?=some (.arr [y.v] 8 1)
 b1:X[S.length+1]?=some (.arr [smZ] 8 1)
 wk:Wk c w n h F' D' X
 st:Stp w F D S F' D' X
 o0:Off w F' D' S.length
 o1:Off w F' D' (S.length+1)
section
variable {c:Cb} (ok:c.Ok) {w n:Nat} {h:c.H} {F D F' D':Np} {S X:St} {y:Sm} (b:Bx c w n h F D S y F' D' X)
include b
theorem Bx.call{n':Nat}{h':c.H}{x r:V}{U:St}(d:Wd c w n' h' F' D' X x r U):r=x∧∃F2 D2,Bx c w n' h' F D S y F2 D2 U:=by
 obtain ⟨rfl,F2,D2,k,s⟩:=d;have l0:=glt b.b0;have l1:=glt b.b1;exact ⟨rfl,F2,D2,s.at b.o0 b.b0,s.at b.o1 b.b1,k,b.st.trans s,b.o0.next l0 s,b.o1.next l1 s⟩
theorem Bx.step{n':Nat}{h':c.H}{F2 D2:Np}{U:St}(k:Wk c w n' h' F2 D2 U)(s:Stp w F' D' X F2 D2 U):Bx c w n' h' F D S y F2 D2 U:=by
 have l0:=glt b.b0;have l1:=glt b.b1;exact ⟨s.at b.o0 b.b0,s.at b.o1 b.b1,k,b.st.trans s,b.o0.next l0 s,b.o1.next l1 s⟩
omit b in
def Yb(S:St)(l:Nat):Prop:=l=S.length∨l=S.length+1
include ok
theorem Bx.put(y':Sm):Bx c w n h F D S y' F' D' (X.set S.length (.arr [y'.v] 8 1)):=by
 have l1:=glt b.b1;exact ⟨qpW (glt b.b0),by rw[qpX (by omega)];exact b.b1,b.wk.set ok _ b.o0.1 b.o0.2.1 b.o0.2.2,b.st.set _ (qp0 _),b.o0,b.o1⟩
theorem Bx.push(os:List Ob):Bx c w n h F D S y F' D' (X++os):=⟨gpp b.b0,gpp b.b1,b.wk.push ok _,b.st.push _,b.o0,b.o1⟩
theorem Bx.fin{e:Env}(he:e.get 6=some (.ptr (S.length+1) 0 0 1)):Z4 [.cell 6 (some 8)] S.length (fun r U=>Wd c w n h F D S y.v r U) .ret e (X.set (S.length+1) (.arr [y.v] 8 1)):=by
 have hz:(X.set (S.length+1) (.arr [y.v] 8 1))[S.length+1]?=some (.arr [y.v] 8 1):=qpW (glt b.b1);exact qi (vs:=[y.v]) (by simp[rvs,he,ldS,hz]) ⟨rfl,F',D',b.wk.set ok _ b.o1.1 b.o1.2.1 b.o1.2.2,b.st.set _ (by omega)⟩
end
theorem smV(a:List Bz)(k:Int)(t:Bz)(g e:List Ex)(l:List El)(d:List De)(b:List Sm):V.agg [.sl false (a.map .str),.int .i64 k,.str t,.sl false (g.map Ex.v),.sl false (e.map Ex.v),.sl false (l.map El.v),.sl false (d.map De.v),.sl false (b.map Sm.v)]=(Sm.mk a k t g e l d b).v:=by rw[Sm.v_eq];rfl
theorem qer{c:Cb}(ok:c.Ok){w n:Nat}{h:c.H}{F D Y:Np}{S:St}{v:V}{ts:List Sct}(hk:Wk c w n h F D S)(hY:∀l,Y l→l<S.length)(hsc:ScR c.toPw (fun l=>l=w∨F l∨Y l) S v ts)(s:Sco)(hc:c.cn (enters c.toPw h s) (n+s.length)):∃r U,qn6 c w n h F D Y ts s S r U:=by
 obtain ⟨F',D',U0,q1,q2,q3,q4⟩:=ok.real hk.st (enters c.toPw h s);obtain ⟨⟨ka,kb,kd⟩,st⟩:=hk.call0 ok q1 q2 q3 q4;have hlt:=(qpU.1 ka).1;have hl0:=st.k.len;obtain ⟨t,ht⟩:∃t:Sct,t=s.zipIdx.map fun e=>(e.1.1,e.1.2,U0.length+3+e.2):=⟨_,rfl⟩
 have hts:t.sco=s:=by
  rw[ht];unfold Sct.sco;rw[qrJ];apply qq9;intro i;simp only[qqh,List.getElem?_zipIdx];cases s[i]? <;> rfl
 have htl:=Sco.len_of hts;obtain ⟨os,hos⟩:∃os:List Ob,os=[.arr [.agg [v]] 1 1,.map (t.map qey) (jU t.length) t.length,.arr [.agg [.ptr U0.length 0 0 1,.map (U0.length+1)]] 2 1]++s.map fun e=>plc e.1 e.2 (c.f e.2 e.1):=⟨_,rfl⟩
 have g:∀j o,os[j]?=some o→(U0.set w (wkr c (n+t.length))++os)[U0.length+j]?=some o:=fun j o ho=>by
  rw[qpV (by simp),List.length_set,qrj];exact ho
 have kk:Wk c w (n+t.length) (enters c.toPw h s) F' D' (U0.set w (wkr c (n+t.length))++os):=Wk.push ok ⟨qpW hlt,ok.fr (M:=fun l=>l=w) q1 ((Kp.refl _ _).set _ (.inl rfl)) (fun l hl _=>by rw[hl];exact ⟨kb,kd⟩),kb,kd,by rw[htl];exact hc⟩ _;have ss:Stp w F D S F' D' (U0.set w (wkr c (n+t.length))++os):=⟨(st.k.set _ (.inl (.inl rfl))).push _,st.gF,st.gD⟩
 have out:∀l,U0.length≤l→¬ (l=w∨F' l∨Y l):=by
  rintro l hl (rfl|hf|hy)
  ·omega
  ·have:=ok.lt q1 l (.inl hf);omega
  ·have:=hY l hy;omega
 refine ⟨.ptr (U0.length+2) 0 0 1,_,t,F',D',hts,kk,ss,U0.length+2,U0.length,U0.length+1,v,_,_,rfl,⟨out _ (by omega),out _ (qp0 _),out _ (by omega)⟩,g 2 _ (by rw[hos];rfl),g 0 _ (by rw[hos];rfl),g 1 _ (by rw[hos];rfl),fun e he=>?_,hsc.mono (ss.k.mono fun l _ hh=>hh.imp id .inl) fun l hh=>?_⟩
 ·obtain ⟨j,hj⟩:=qqw he;rw[ht,qqh,List.getElem?_zipIdx] at hj
  cases hs:s[j]? with
  | none=>rw[hs] at hj;simp at hj
  | some x=>
   rw[hs] at hj;simp at hj;subst hj;refine ⟨out _ (by simp only;omega),?_⟩;rw[show U0.length+3+j=U0.length+(3+j) by omega];refine g _ _ ?_;rw[hos,qpV (by simp)];simp[hs]
 ·rcases hh with hh|hh|hh
  ·exact .inl (.inl hh)
  ·exact (q3 l hh).imp (fun a=>.inr (.inl a)) id
  ·exact .inl (.inr (.inr hh))
theorem qb4(c:Cb)(ok:c.Ok)(w:Nat):∀(m:Nat) (s:Sm),(Pa.st s).size≤m→m≤4000→s.ok→qlM c w s
 | 0,s,hx,_,_=>by have:=(Pa.st s).size_pos;omega
 | m+1,s,hx,hm,hok=>by
  intro n h F D S v ts hk hsc hin hn;have O:=(Sm.ok_iff s).1 hok;have hsz:=Sm.size_parts s
  have IHb:∀y,y∈s.body→qlM c w y:=fun y hy=>qb4 c ok w m y (by
   obtain ⟨i,hi⟩:=qqw (qqz (f:=Pa.st) hy);have:=zb hi;omega) (by omega) (Sm.okL_mem O.body.2 y hy)
  have IHd:∀d,d∈s.decls→∀y,y∈d.body→qlM c w y:=fun d hd y hy=>qb4 c ok w m y (by
   obtain ⟨i,hi⟩:=qqw (qqz (f:=Pa.de) hd);have h1:=zb hi;have h2:=De.size_parts d;obtain ⟨j,hj⟩:=qqw (qqz (f:=Pa.st) hy);have:=zb hj;omega) (by omega) (Sm.okL_mem ((De.ok_iff d).1 (De.okL_mem O.decls.2 d hd)).body.2 y hy)
  have hokd:∀d,d∈s.decls→∀y,y∈d.body→y.ok:=fun d hd y hy=>Sm.okL_mem ((De.ok_iff d).1 (De.okL_mem O.decls.2 d hd)).body.2 y hy
  have hokb:∀y,y∈s.body→y.ok:=fun y hy=>Sm.okL_mem O.body.2 y hy
  have hbl:s.body.length≤4000:=by have:=qT (s.body.map Pa.st);rw[qp2] at this;omega
  refine qB.ib func186 ok186 ?_;obtain ⟨S1,hS1⟩:∃S1:St,S1=S++[.arr [s.v] 8 1,.arr [smZ] 8 1]:=⟨_,rfl⟩
  have B1:Bx c w n h F D S s F D S1:=by
   rw[hS1];exact ⟨by rw[qpV (by omega)];simp,by rw[qpV (by omega)];simp,hk.push ok _,(Stp.refl _ _ _ _).push _,hk.out ok (by omega),hk.out ok (by omega)⟩
  simp[c186,qw,ldS,qc];rw[←hS1];refine qm (qeV c ok w s.labels (by omega) n h F D S1 v ts hin B1.wk (hsc.step B1.st)) ?_;intro r U hU;obtain ⟨rfl,F2,D2,B2⟩:=B1.call hU;clear hU;obtain ⟨y1,hy1⟩:∃y1:Sm,y1=.mk (Jl c.toPw (Scx ts) s.labels) s.kind s.text s.targets s.exps s.elems s.decls s.body:=⟨_,rfl⟩;have B3:=B2.put ok y1;simp[stS,ldS,B2.b0,Q3,qc];rw[smV,←hy1];generalize U.set S.length (.arr [y1.v] 8 1)=U3 at B3 ⊢;have e1:y1.targets=s.targets:=by rw[hy1];rfl
  simp[ldS,B3.b0,e1];refine qm (k9 c ok w s.targets (by omega) n h F2 D2 U3 v ts true B3.wk (hsc.step B3.st)) ?_;intro r U hU;obtain ⟨rfl,F3,D3,B4⟩:=B3.call hU;clear hU;obtain ⟨y2,hy2⟩:∃y2:Sm,y2=.mk (Jl c.toPw (Scx ts) s.labels) s.kind s.text (Ex.wrl c.toPw (Scx ts) true s.targets) s.exps s.elems s.decls s.body:=⟨_,rfl⟩;have B5:=B4.put ok y2;simp[stS,ldS,B4.b0,Q3,qc];have hy2v:V.agg [.sl false (y1.labels.map .str),.int .i64 y1.kind,.str y1.text,.sl false ((Ex.wrl c.toPw (Scx ts) true s.targets).map Ex.v),.sl false (y1.exps.map Ex.v),.sl false (y1.elems.map El.v),.sl false (y1.decls.map De.v),.sl false (y1.body.map Sm.v)]=y2.v:=by rw[smV,hy1,hy2];rfl
  rw[hy2v];generalize U.set S.length (.arr [y2.v] 8 1)=U5 at B5 ⊢;have k2:y2.kind=s.kind:=by rw[hy2];rfl
  have x2:y2.exps=s.exps:=by rw[hy2];rfl
  have l2:y2.elems=s.elems:=by rw[hy2];rfl
  have d2:y2.decls=s.decls:=by rw[hy2];rfl
  have t2:y2.body=s.body:=by rw[hy2];rfl
  obtain ⟨h2,hh2⟩:∃h2,h2=Ex.hsl c.toPw (Scx ts) true h s.targets:=⟨_,rfl⟩;rw[←hh2] at B5;have hw:=Sm.wr_eq c.toPw (Scx ts) n s;have hh:=Sm.hs_eq c.toPw (Scx ts) n h s;have hnb:=Sm.nb_eq s;rw[←hh2] at hh;simp[ldS,B5.b0,k2];by_cases h7:s.kind=7
  ·rw[if_pos h7] at hw hh hnb;have hbn:=zd (qg s.decls s.body) n 0;simp[h7,ldS,B5.b0];refine qm (qjV y2 U5) ?_;rintro r U6 ⟨rfl,hU6⟩;have B6:=B5.push ok [.arr [y2.v] 8 1];rw[←hU6] at B6;have c6:U6[U5.length]?=some (.arr [y2.v] 8 1):=by rw[hU6];simp
   have hy:=qff y2 (by rw[d2];exact O.decls) (by rw[t2];exact O.body) U5.length;rw[d2,t2] at hy;have lS5:=B5.st.k.len;simp;refine qm (j7 c ok w n h2 F3 D3 v ts (qg s.decls s.body) 255 [.ptr U5.length 0 0 1] U5.length _ hy (by simp) U6 B6.wk (Yb S) (by rintro l (rfl|rfl);exact glt B6.b0;exact glt B6.b1) (hsc.yb B6.st) c6 (B5.wk.out ok (qp0 _)) (by omega)) ?_;rintro r U7 ⟨t,F4,D4,hts,k7,s7,sc7⟩;have htl:=Sco.len_of hts;have hscx:Scx (t::ts)=qd (qg s.decls s.body) n::Scx ts:=by simp only[Scx,qqd,hts]
   have B7:=B6.step k7 s7;simp[ldS,B7.b0,d2]
   have q:=qdy c ok w s.decls (by omega) IHd hokd _ _ F4 D4 U7 r v (t::ts) ts B7.wk (sc7.sub fun l hl=>hl.imp id .inl) (hsc.step B7.st) (by
    intro d hd;rw[hscx];exact (Ze _ _ _).sub fun x hx=>qrk _ (List.mem_flatMap.2 ⟨d,hd,hx⟩)) (by omega)
   rw[hscx] at q;refine qm q ?_;rintro r2 U8 ⟨rfl,F5,D5,k8,s8⟩;have B8:=B7.step k8 s8;obtain ⟨y3,hy3⟩:∃y3:Sm,y3=.mk (Jl c.toPw (Scx ts) s.labels) s.kind s.text (Ex.wrl c.toPw (Scx ts) true s.targets) s.exps s.elems (De.wrl c.toPw (qd (qg s.decls s.body) n::Scx ts) (Scx ts) (n+t.length) s.decls) s.body:=⟨_,rfl⟩;have hy3v:V.agg [.sl false (y2.labels.map .str),.int .i64 y2.kind,.str y2.text,.sl false (y2.targets.map Ex.v),.sl false (y2.exps.map Ex.v),.sl false (y2.elems.map El.v),.sl false ((De.wrl c.toPw (qd (qg s.decls s.body) n::Scx ts) (Scx ts) (n+t.length) s.decls).map De.v),.sl false (y2.body.map Sm.v)]=y3.v:=by rw[smV,hy2,hy3];rfl
   have B9:=B8.put ok y3
   have sc9:ScR c.toPw (fun l=>l=w∨F5 l) (U8.set S.length (.arr [y3.v] 8 1)) r (t::ts):=by
    refine (sc7.mono ((s8.k.mono fun l _ hh=>hh.imp id .inl).set _ (.inl (.inr (.inr (.inl rfl))))) (X':=fun l=>l=w∨F5 l) fun l hh=>?_);rcases hh with hh|hh
    ·exact .inl (.inl hh)
    ·exact (s8.gF l hh).imp (fun a=>.inr (.inl a)) id
   simp[stS,B8.b0,Q3,qc];rw[hy3v];generalize U8.set S.length (.arr [y3.v] 8 1)=U9 at B9 sc9 ⊢;have b3:y3.body=s.body:=by rw[hy3];rfl
   simp[ldS,B9.b0,b3];have q3:=Yx c ok w s.body false IHb hbl _ _ F5 D5 U9 r (t::ts) B9.wk sc9 (by rw[hscx];exact (Ze _ _ _).sub fun x hx=>qrs _ hx) (by omega);rw[hscx] at q3;refine qm q3 ?_;rintro r3 U10 ⟨rfl,F6,D6,k10,s10⟩;have B10:=B9.step k10 s10;obtain ⟨y4,hy4⟩:∃y4:Sm,y4=.mk (Jl c.toPw (Scx ts) s.labels) s.kind s.text (Ex.wrl c.toPw (Scx ts) true s.targets) s.exps s.elems (De.wrl c.toPw (qd (qg s.decls s.body) n::Scx ts) (Scx ts) (n+t.length) s.decls) (Sm.wrl c.toPw (qd (qg s.decls s.body) n::Scx ts) (n+t.length+De.nbl s.decls) s.body):=⟨_,rfl⟩;have hy4v:V.agg [.sl false (y3.labels.map .str),.int .i64 y3.kind,.str y3.text,.sl false (y3.targets.map Ex.v),.sl false (y3.exps.map Ex.v),.sl false (y3.elems.map El.v),.sl false (y3.decls.map De.v),.sl false ((Sm.wrl c.toPw (qd (qg s.decls s.body) n::Scx ts) (n+t.length+De.nbl s.decls) s.body).map Sm.v)]=y4.v:=by rw[smV,hy3,hy4];rfl
   have B11:=B10.put ok y4;simp[stS,B10.b0,Q3,qc];rw[hy4v];generalize U10.set S.length (.arr [y4.v] 8 1)=U11 at B11 ⊢;have k4:y4.kind=7:=by rw[hy4,←h7];rfl
   simp[ldS,B11.b0,B11.b1,k4,stS,qc];rw[hw,hh,hnb,←htl,←hy4,show n+((qd (qg s.decls s.body) 0).length+De.nbl s.decls+Sm.nbl s.body)=n+t.length+De.nbl s.decls+Sm.nbl s.body by omega];exact B11.fin ok rfl
  by_cases h8:s.kind=8
  ·rw[if_neg h7,if_pos h8] at hw hh hnb;have hbn:=zd (qk s.body) n 0;simp[h8,ldS,B5.b0,t2];refine Qa (qbp s.body false U5) ⟨_,_,rfl,rfl⟩ ?_;rintro r U6 ⟨rfl,hU6⟩;have B6:=B5.push ok [.arr [.sl false (s.body.map Sm.v)] 1 1];rw[←hU6] at B6;have c6:U6[U5.length]?=some (.arr [.sl false (s.body.map Sm.v)] 1 1):=by rw[hU6];simp
   have hy:=J7 s.body O.body.1 O.body.2 U5.length;have hYb:∀l,Yb S l→l<U6.length:=by rintro l (rfl|rfl);exact glt B6.b0;exact glt B6.b1
   have scY:=hsc.yb B6.st;have lS5:=B5.st.k.len;simp;refine Qa (j7 c ok w n h2 F3 D3 v ts (qk s.body) 187 [.ptr U5.length 0 0 1] U5.length _ hy (by simp) U6 B6.wk (Yb S) hYb scY c6 (B5.wk.out ok (qp0 _)) (by omega)) (qer ok B6.wk hYb scY _ (qnM ok _ B6.wk.cn)) ?_;rintro r U7 ⟨t,F4,D4,hts,k7,s7,sc7⟩;have htl:=Sco.len_of hts;have hscx:Scx (t::ts)=qd (qk s.body) n::Scx ts:=by simp only[Scx,qqd,hts]
   have B7:=B6.step k7 s7;simp;have q3:=Yx c ok w s.body false IHb hbl _ _ F4 D4 U7 r (t::ts) B7.wk (sc7.sub fun l hl=>hl.imp id .inl) (by rw[hscx];exact Ze _ _ _) (by omega);rw[hscx] at q3;refine Qa q3 (Wd.some ok B7.wk _ (qnu ok _ _ B7.wk.cn) _) ?_;rintro r3 U10 ⟨rfl,F6,D6,k10,s10⟩;have B10:=B7.step k10 s10;obtain ⟨y4,hy4⟩:∃y4:Sm,y4=.mk (Jl c.toPw (Scx ts) s.labels) s.kind s.text (Ex.wrl c.toPw (Scx ts) true s.targets) s.exps s.elems s.decls (Sm.wrl c.toPw (qd (qk s.body) n::Scx ts) (n+t.length) s.body):=⟨_,rfl⟩;have hy4v:V.agg [.sl false (y2.labels.map .str),.int .i64 y2.kind,.str y2.text,.sl false (y2.targets.map Ex.v),.sl false (y2.exps.map Ex.v),.sl false (y2.elems.map El.v),.sl false (y2.decls.map De.v),.sl false ((Sm.wrl c.toPw (qd (qk s.body) n::Scx ts) (n+t.length) s.body).map Sm.v)]=y4.v:=by rw[smV,hy2,hy4];rfl
   have B11:=B10.put ok y4;simp[stS,B10.b0,Q3,qc,Qd,zA,zK,ldS,B5.b0,B6.b0,B7.b0,t2];rw[hy4v];generalize U10.set S.length (.arr [y4.v] 8 1)=U11 at B11 ⊢;have k4:y4.kind=8:=by rw[hy4,←h8];rfl
   simp[ldS,B11.b0,B11.b1,k4,stS,qc];rw[hw,hh,hnb,←htl,←hy4,show n+((qd (qk s.body) 0).length+Sm.nbl s.body)=n+t.length+Sm.nbl s.body by omega];exact B11.fin ok rfl
  rw[if_neg h7,if_neg h8] at hw hh hnb;simp[h7,h8,ldS,B5.b0,x2];refine qm (k9 c ok w s.exps (by omega) n h2 F3 D3 U5 v ts false B5.wk (hsc.step B5.st)) ?_;rintro r U6 ⟨rfl,F4,D4,k6,s6⟩;have B6:=B5.step k6 s6;obtain ⟨y3,hy3⟩:∃y3:Sm,y3=.mk (Jl c.toPw (Scx ts) s.labels) s.kind s.text (Ex.wrl c.toPw (Scx ts) true s.targets) (Ex.wrl c.toPw (Scx ts) false s.exps) s.elems s.decls s.body:=⟨_,rfl⟩;have hy3v:V.agg [.sl false (y2.labels.map .str),.int .i64 y2.kind,.str y2.text,.sl false (y2.targets.map Ex.v),.sl false ((Ex.wrl c.toPw (Scx ts) false s.exps).map Ex.v),.sl false (y2.elems.map El.v),.sl false (y2.decls.map De.v),.sl false (y2.body.map Sm.v)]=y3.v:=by rw[smV,hy2,hy3];rfl
  have B7:=B6.put ok y3;simp[stS,B6.b0,Q3,qc];rw[hy3v];generalize U6.set S.length (.arr [y3.v] 8 1)=U7 at B7 ⊢;have l3:y3.elems=s.elems:=by rw[hy3];rfl
  simp[ldS,B7.b0,l3];refine qm (qkh c ok w s.elems (by omega) n _ F4 D4 U7 v ts B7.wk (hsc.step B7.st)) ?_;rintro r U8 ⟨rfl,F5,D5,k8,s8⟩;have B8:=B7.step k8 s8;obtain ⟨y4,hy4⟩:∃y4:Sm,y4=.mk (Jl c.toPw (Scx ts) s.labels) s.kind s.text (Ex.wrl c.toPw (Scx ts) true s.targets) (Ex.wrl c.toPw (Scx ts) false s.exps) (El.wrl c.toPw (Scx ts) s.elems) s.decls s.body:=⟨_,rfl⟩;have hy4v:V.agg [.sl false (y3.labels.map .str),.int .i64 y3.kind,.str y3.text,.sl false (y3.targets.map Ex.v),.sl false (y3.exps.map Ex.v),.sl false ((El.wrl c.toPw (Scx ts) s.elems).map El.v),.sl false (y3.decls.map De.v),.sl false (y3.body.map Sm.v)]=y4.v:=by rw[smV,hy3,hy4];rfl
  have B9:=B8.put ok y4;simp[stS,B8.b0,Q3,qc];rw[hy4v];generalize U8.set S.length (.arr [y4.v] 8 1)=U9 at B9 ⊢;have b4:y4.body=s.body:=by rw[hy4];rfl
  simp[ldS,B9.b0,b4];refine qm (Ys c ok w s.body false IHb hbl hokb n _ F5 D5 U9 v ts B9.wk (hsc.step B9.st) (by omega)) ?_;rintro r U10 ⟨rfl,F6,D6,k10,s10⟩;have B10:=B9.step k10 s10;obtain ⟨y5,hy5⟩:∃y5:Sm,y5=.mk (Jl c.toPw (Scx ts) s.labels) s.kind s.text (Ex.wrl c.toPw (Scx ts) true s.targets) (Ex.wrl c.toPw (Scx ts) false s.exps) (El.wrl c.toPw (Scx ts) s.elems) s.decls (Sm.wr1 c.toPw (Scx ts) n s.body):=⟨_,rfl⟩;have hy5v:V.agg [.sl false (y4.labels.map .str),.int .i64 y4.kind,.str y4.text,.sl false (y4.targets.map Ex.v),.sl false (y4.exps.map Ex.v),.sl false (y4.elems.map El.v),.sl false (y4.decls.map De.v),.sl false ((Sm.wr1 c.toPw (Scx ts) n s.body).map Sm.v)]=y5.v:=by rw[smV,hy4,hy5];rfl
  have B11:=B10.put ok y5;simp[stS,B10.b0,Q3,qc];rw[hy5v];generalize U10.set S.length (.arr [y5.v] 8 1)=U11 at B11 ⊢;have k5:y5.kind=s.kind:=by rw[hy5];rfl
  have t5:y5.text=s.text:=by rw[hy5];rfl
  obtain ⟨h3,hh3⟩:∃h3,h3=Sm.hs1 c.toPw (Scx ts) n (El.hsl c.toPw (Scx ts) (Ex.hsl c.toPw (Scx ts) false h2 s.exps) s.elems) s.body:=⟨_,rfl⟩;rw[←hh3] at B11 hh;rw[hw,hh,hnb];by_cases h6:s.kind=6
  case neg=>
   simp[ldS,B11.b0,B11.b1,k5,h6,stS,qc];have e1:c.toPw.clE (Scx ts) s.kind s.text=s.text:=by unfold Pw.clE;rw[if_neg h6]
   have e2:c.toPw.clS (Scx ts) s.kind h3 s.text=h3:=by unfold Pw.clS;rw[if_neg h6]
   rw[e1,e2,←hy5];exact B11.fin ok rfl
  have tw:=B11.wk.tw;unfold wkr at tw;have smT:∀z:Bz,V.agg [.sl false (y5.labels.map .str),.int .i64 y5.kind,.str z,.sl false (y5.targets.map Ex.v),.sl false (y5.exps.map Ex.v),.sl false (y5.elems.map El.v),.sl false (y5.decls.map De.v),.sl false (y5.body.map Sm.v)]=(Sm.mk (Jl c.toPw (Scx ts) s.labels) s.kind z (Ex.wrl c.toPw (Scx ts) true s.targets) (Ex.wrl c.toPw (Scx ts) false s.exps) (El.wrl c.toPw (Scx ts) s.elems) s.decls (Sm.wr1 c.toPw (Scx ts) n s.body)).v:=fun z=>by rw[smV,hy5];rfl
  have hsc3:=hsc.step B11.st
  cases hcl:c.cl with
  | none=>
   have hfc:c.fc=.nilfn:=by have:=ok.cl;rw[hcl] at this;exact this
   rw[hfc] at tw;have hfind:=qaV hsc3 s.text;have e2:c.toPw.clS (Scx ts) s.kind h3 s.text=h3:=by unfold Pw.clS;rw[hcl];simp
   have e1:c.toPw.clE (Scx ts) s.kind s.text=Je c.toPw (Scx ts) s.text:=by unfold Pw.clE;rw[if_pos h6,hcl]
   rw[e1,e2];have hat:=jR ts s.text
   cases hf:fnd ts s.text with
   | none=>
    have hr:Je c.toPw (Scx ts) s.text=s.text:=by unfold Je;rw[hat,hf];rfl
    have hv:kP ts s.text=.nilp:=by simp[kP,hf]
    rw[hv] at hfind;rw[hr,←hy5];simp[ldS,B11.b0,k5,t5,h6,zk,tw,Z6,eqV];refine qj hfind ?_;simp[ldS,B11.b0,B11.b1,Z6,eqV,stS,qc];exact B11.fin ok rfl
   | some q=>
    have hr:Je c.toPw (Scx ts) s.text=c.f q.1 s.text:=by unfold Je;rw[hat,hf];rfl
    have hv:kP ts s.text=.ptr q.2 0 0 1:=by simp[kP,hf]
    rw[hv] at hfind;have hq:=hsc3.fnd_get hf;unfold plc at hq;rw[hr];simp[ldS,B11.b0,k5,t5,h6,zk,tw,Z6,eqV];refine qj hfind ?_;obtain ⟨z,hz⟩:∃z:Sm,z=.mk (Jl c.toPw (Scx ts) s.labels) s.kind (c.f q.1 s.text) (Ex.wrl c.toPw (Scx ts) true s.targets) (Ex.wrl c.toPw (Scx ts) false s.exps) (El.wrl c.toPw (Scx ts) s.elems) s.decls (Sm.wr1 c.toPw (Scx ts) n s.body):=⟨_,rfl⟩;have hzv:=smT (c.f q.1 s.text);rw[←hz] at hzv;have B12:=B11.put ok z;rw[h6] at hz;rw[←hz];rw[k5,h6] at hzv;simp[ldS,B11.b0,Z6,eqV,zk,hq,stS,Q3,qc,k5,h6];rw[hzv];generalize U11.set S.length (.arr [z.v] 8 1)=U12 at B12 ⊢;simp[ldS,B12.b0,stS,B12.b1,qc];exact B12.fin ok rfl
  | some g=>
   have hcb:=ok.cl;rw[hcl] at hcb;obtain ⟨kf,cs,hfc,hsp⟩:=hcb;rw[hfc] at tw;have e2:c.toPw.clS (Scx ts) s.kind h3 s.text=c.clH h3 s.text (Scx ts):=by unfold Pw.clS;rw[if_pos h6,hcl]
   have e1:c.toPw.clE (Scx ts) s.kind s.text=g s.text (Scx ts):=by unfold Pw.clE;rw[if_pos h6,hcl]
   rw[e1,e2];have hsp3:=hsp U11 s.text v ts w h3 F6 D6 hsc3 B11.wk.st;obtain ⟨Fi,Di,Ui,hi⟩:=ok.real B11.wk.st (c.clH h3 s.text (Scx ts));simp[ldS,B11.b0,k5,t5,h6,zk,tw,Z6,eqV];refine Qa hsp3 ⟨_,Ui,rfl,Fi,Di,hi⟩ ?_;rintro r U12 ⟨rfl,F7,D7,q1,q2,q3,q4⟩;obtain ⟨k12,s12⟩:=B11.wk.call ok (ok.cc _ _ B11.wk.cn) q1 q2 q3 q4;have B12:=B11.step k12 s12;obtain ⟨z,hz⟩:∃z:Sm,z=.mk (Jl c.toPw (Scx ts) s.labels) s.kind (g s.text (Scx ts)) (Ex.wrl c.toPw (Scx ts) true s.targets) (Ex.wrl c.toPw (Scx ts) false s.exps) (El.wrl c.toPw (Scx ts) s.elems) s.decls (Sm.wr1 c.toPw (Scx ts) n s.body):=⟨_,rfl⟩;have hzv:=smT (g s.text (Scx ts));rw[←hz] at hzv;have B13:=B12.put ok z;rw[h6] at hz;rw[←hz];rw[k5,h6] at hzv;simp[stS,B12.b0,Q3,qc,Qd,zA,k5,h6];rw[hzv];generalize U12.set S.length (.arr [z.v] 8 1)=U13 at B13 ⊢;simp[ldS,B13.b0,stS,B13.b1,qc];exact B13.fin ok rfl
theorem qi9(c:Cb)(ok:c.Ok)(w:Nat)(s:Sm)(hs:s.ok)(hsz:(Pa.st s).size≤4000)(h:c.H)(F D:Np)(S:St)(hk:Wk c w 0 h F D S)(hn:Sm.nb1 [s]≤c.lim):
  qB prog 62 [.ptr w 0 0 1,s.v] S (fun r U=>Wd c w (Sm.nb1 [s]) (s.wholeH c.toPw h) F D S (s.wholeR c.toPw).v r U):=by
 refine qB.ib func62 ok62 ?_;obtain ⟨S1,hS1⟩:∃S1:St,S1=S++[.arr [s.v] 8 1,.arr [smZ] 8 1]:=⟨_,rfl⟩;have b0:S1[S.length]?=some (.arr [s.v] 8 1):=by rw[hS1,qpV (by omega)];simp
 have b1:S1[S.length+1]?=some (.arr [smZ] 8 1):=by rw[hS1,qpV (by omega)];simp
 have k1:Wk c w 0 h F D S1:=by rw[hS1];exact hk.push ok _
 have s1:Stp w F D S F D S1:=by rw[hS1];exact (Stp.refl _ _ _ _).push _
 have hf:=Sm.fits1 s;simp[c62,qw,ldS,qc,Sm.fits1];rw[←hS1];have q:=Ys c ok w [s] true (fun x hx=>by simp at hx;subst hx;exact qb4 c ok w 4000 x hsz (by omega) hs) (by simp) (fun x hx=>by simp at hx;subst hx;exact hs) 0 h F D S1 .nilp [] k1 rfl (by omega);simp only[qqd,qq4,qq0] at q;refine qm q ?_;rintro r U ⟨rfl,F2,D2,k2,s2⟩;have o1:Off w F D (S.length+1):=hk.out ok (by omega);have l1:S.length+1<S1.length:=glt b1;have c1:=s2.at o1 b1;have p1:=o1.next l1 s2;have he:Sm.wr1 c.toPw (Scx []) 0 [s]=[s.wholeR c.toPw]:=by simp only[Sm.wr1,Sm.wholeR,Scx,qq4,qq0]
 have he2:Sm.hs1 c.toPw (Scx []) 0 h [s]=s.wholeH c.toPw h:=by simp only[Sm.hs1,Sm.wholeH,Scx,qq4,qq0]
 rw[he2] at k2;rw[he];simp only[qqd,qq4];have hia:iaS U 8 (.sl false [(s.wholeR c.toPw).v]) 0=some (.iptr (s.wholeR c.toPw).v 0):=by simp[iaS]
 simp[hia,ldS,stS,c1,qc];have hz:(U.set (S.length+1) (.arr [(s.wholeR c.toPw).v] 8 1))[S.length+1]?=some (.arr [(s.wholeR c.toPw).v] 8 1):=qpW (glt c1);exact qi (vs:=[(s.wholeR c.toPw).v]) (by simp[rvs,ldS,hz]) ⟨rfl,F2,D2,k2.set ok _ p1.1 p1.2.1 p1.2.2,(s1.trans s2).set _ (by omega)⟩
def qoW(k:Nat):Bz:=⟨⟨[35]⟩⟩++⟨(dig k).toArray⟩
def nuP(f:Nat→Bz):Pw where
 H:=Unit
 f k _:=f k
 nm:=none
 cl:=none
 ent _ _ _:=()
 nmH _ _ _ _:=()
 clH _ _ _:=()
section
variable {p:Pw} {f:Nat→Bz} (hn:p.nm=none) (hc:p.cl=none) (hf:∀k x,p.f k x=f k)
include hf
theorem Yp(sc:Scs)(x:Bz):Je p sc x=jo f sc x:=by
 unfold Je jo;cases sc.at x <;> simp[hf]
theorem Yj(sc:Scs)(l:List Bz):l.map (Je p sc)=l.map (jo f sc):=qqX fun x _=>Yp hf sc x
include hn
mutual
theorem Ex.wr_w(sc:Scs)(tg:Bool):∀x:Ex,x.wr p sc tg=x.w f sc
 | .mk k o n m e t a=>by
  rw[Ex.wr,Ex.w,Ex.wrl_w sc false a];unfold Pw.nmE;rw[hn];simp only[Ex.kind,Ex.op,Ex.n,Ex.man,Ex.exp,Ex.text,Ex.args,Yp hf];split <;> rfl
theorem Ex.wrl_w(sc:Scs)(tg:Bool):∀l:List Ex,Ex.wrl p sc tg l=Ex.wl f sc l
 | []=>rfl
 | x::l=>by rw[Ex.wrl,Ex.wl,Ex.wr_w sc tg x,Ex.wrl_w sc tg l]
end
theorem El.wr_w(sc:Scs)(e:El):e.wr p sc=e.w f sc:=by
 unfold El.wr El.w;rw[Ex.wrl_w hn hf,Ex.wl_map]
theorem Fo.wr_w(sc:Scs)(x:Fo):x.wr p sc=x.w f sc:=by
 unfold Fo.wr Fo.w;rw[Yp hf]
end
theorem Sm.valid_block{nm:Bz→Bool}{l:List Bz}{k:Int}{t:Bz}{g e:List Ex}{h:List El}{d:List De}{b:List Sm}(v:(Pa.st (.mk l k t g e h d b)).valid nm=true):
  (k=7→g=[]∧e=[]∧h=[])∧(k=8→g=[]∧e=[]∧h=[]∧d=[])∧(k≠7→k≠8→d=[]):=by
 have h1:=(Pa.valid_iff.1 v).1;simp only[Pa.vOwn,Sm.vOwn,qp1] at h1;have h1:=h1.2;refine ⟨?_,?_,?_⟩
 ·rintro rfl;simp at h1;simp[h1]
 ·rintro rfl;simp at h1;simp[h1]
 ·intro h7 h8
  repeat' split at h1
  all_goals first
   | (simp at h1;done)
   | (simp at h1;simp[h1];done)
   | omega
theorem De.valid_proc{nm:Bz→Bool}{k:Int}{o:Bool}{t:Int}{n:List Bz}{e:List Ex}{f:List Fo}{b:List Sm}(v:(Pa.de (.mk k o t n e f b)).valid nm=true):
  (k=4→e=[])∧(k≠4→f=[]∧b=[]):=by
 have h1:=(Pa.valid_iff.1 v).1;simp only[Pa.vOwn,De.vOwn,qp1] at h1;have h1:=h1.2;refine ⟨?_,?_⟩
 ·rintro rfl;simp at h1;simp[h1]
 ·intro h4
  repeat' split at h1
  all_goals first
   | (simp at h1;done)
   | (simp at h1;simp[h1];done)
   | omega
section
variable {p:Pw} {f:Nat→Bz} (hn:p.nm=none) (hc:p.cl=none) (hf:∀k x,p.f k x=f k) {nm:Bz→Bool}
include hn hc hf
mutual
theorem Sm.wr_w:∀(s:Sm) (sc:Scs) (n:Nat),(Pa.st s).valid nm=true→s.wr p sc n=s.w f sc n
 | .mk l k t g e h d b,sc,n,v=>by
  obtain ⟨v7,v8,v9⟩:=Sm.valid_block v;have vd:=Sm.valid_decls v;have vb:=Sm.valid_body v;simp only[Sm.decls,Sm.body] at vd vb;rw[Sm.wr,Sm.w];by_cases h7:k=7
  ·obtain ⟨rfl,rfl,rfl⟩:=v7 h7;rw[if_pos h7,if_pos h7,Yj hf,De.wrl_w d _ _ _ vd,Sm.wrl_w b _ _ vb];rfl
  ·rw[if_neg h7,if_neg h7];by_cases h8:k=8
   ·obtain ⟨rfl,rfl,rfl,rfl⟩:=v8 h8;rw[if_pos h8,if_pos h8,Yj hf,Sm.wrl_w b _ _ vb];rfl
   ·obtain rfl:=v9 h7 h8;have hcl:p.clE sc k t=if k=6 then jo f sc t else t:=by unfold Pw.clE;rw[hc];simp only[Yp hf]
    rw[if_neg h8,if_neg h8,Yj hf,Ex.wrl_w hn hf,Ex.wrl_w hn hf,Sm.wr1_w b _ _ vb,hcl,qqX fun x _=>El.wr_w hn hf sc x]
theorem De.wr_w:∀(s:De) (own sc:Scs) (n:Nat),(Pa.de s).valid nm=true→s.wr p own sc n=s.w f own sc n
 | .mk k o t ns e fo b,own,sc,n,v=>by
  obtain ⟨v4,v5⟩:=De.valid_proc v;have vb:=De.valid_body v;simp only[De.body] at vb;rw[De.wr,De.w];by_cases h4:k=4
  ·obtain rfl:=v4 h4;rw[if_pos h4,if_pos h4,Yj hf,Sm.wr1_w b _ _ vb,qqX fun x _=>Fo.wr_w hn hf _ x];rfl
  ·obtain ⟨rfl,rfl⟩:=v5 h4;rw[if_neg h4,if_neg h4,Yj hf,Ex.wrl_w hn hf]
theorem De.wrl_w:∀(l:List De) (own sc:Scs) (n:Nat),(∀x,x∈l→(Pa.de x).valid nm=true)→De.wrl p own sc n l=De.wl f own sc n l
 | [],_,_,_,_=>rfl
 | x::l,own,sc,n,v=>by rw[De.wrl,De.wl,De.wr_w x own sc n (v x (by simp)),De.wrl_w l own sc _ fun y hy=>v y (by simp[hy])]
theorem Sm.wrl_w:∀(l:List Sm) (sc:Scs) (n:Nat),(∀x,x∈l→(Pa.st x).valid nm=true)→Sm.wrl p sc n l=Sm.wl f sc n l
 | [],_,_,_=>rfl
 | x::l,sc,n,v=>by rw[Sm.wrl,Sm.wl,Sm.wr_w x sc n (v x (by simp)),Sm.wrl_w l sc _ fun y hy=>v y (by simp[hy])]
theorem Sm.wr1_w:∀(l:List Sm) (sc:Scs) (n:Nat),(∀x,x∈l→(Pa.st x).valid nm=true)→Sm.wr1 p sc n l=Sm.w1 f sc n l
 | [],_,_,_=>rfl
 | x::l,sc,n,v=>by rw[Sm.wr1,Sm.w1,Sm.wr_w x _ _ (v x (by simp)),Sm.wr1_w l sc _ fun y hy=>v y (by simp[hy])]
end
theorem Sm.wholeR_w(s:Sm)(v:(Pa.st s).valid nm=true):s.wholeR p=s.whole f:=Sm.wr_w hn hc hf s _ _ v
end
def Pbd(N:Nat)(sc:Scs):Prop:=∀x k,sc.at x=some k→k<N
theorem kK(base:Nat):∀(l:List Bz) (s:Sco) (n:Nat),(∀e,e∈s→e.2<base+s.length)→n=base+s.length→∀e,e∈binds l s n→e.2<base+(binds l s n).length
 | [],s,n,h,_=>h
 | x::l,s,n,h,hn=>by
  simp only[binds];split
  ·exact kK base l s n h hn
  ·refine kK base l _ _ (fun e he=>?_) (by simp;omega);rcases qqc.1 he with he|he
   ·have:=h e he;simp;omega
   ·simp at he;subst he;simp;omega
theorem Pbd.bind{N:Nat}{sc:Scs}(h:Pbd N sc)(l:List Bz)(n:Nat)(hn:n+(qd l n).length≤N):Pbd N (qd l n::sc):=by
 intro x k hk;unfold Scs.at at hk
 cases ha:Sco.at (qd l n) x with
 | none=>rw[ha] at hk;exact h x k hk
 | some j=>
  rw[ha] at hk;cases hk;unfold Sco.at at ha;rw[qp3] at ha;obtain ⟨e,he,rfl⟩:=ha;have:=kK n l [] n (by simp) (by simp) e (List.mem_of_find?_eq_some he);unfold qd at hn;omega
structure RwOk(r:Rp)(g:Nat→Bz)(N:Nat):Prop where
 fresh:∀k,k<N→r.fresh[k]?=some (g k)
 fro:r.fro=[]
theorem yn(l:List Bz)(n:Nat):(qd l n).length=(qd l 0).length:=zd l n 0
section
variable {r:Rp} {g:Nat→Bz} {N:Nat} (ok:RwOk r g N) {nm:Bz→Bool}
include ok
theorem qcR(sc:Scs)(x:Bz):rmt r sc x=none:=by
 unfold rmt mt;rw[ok.fro];cases sc.at x <;> simp[mtL]
theorem Z8{sc:Scs}(h:Pbd N sc)(x:Bz):yH r sc x=jo g sc x:=by
 unfold yH jo
 cases ha:sc.at x with
 | none=>rfl
 | some k=>simp[ok.fresh k (h x k ha)]
theorem J9{sc:Scs}(h:Pbd N sc)(x:Bz):yX r sc x=jo g sc x:=by
 unfold yX;rw[qcR ok];exact Z8 ok h x
theorem Ya{sc:Scs}(h:Pbd N sc)(l:List Bz):l.map (yH r sc)=l.map (jo g sc):=qqX fun x _=>Z8 ok h x
mutual
theorem Ex.rw_w{sc:Scs}(h:Pbd N sc):∀x:Ex,(Pa.ex x).valid nm=true→x.rw r sc=x.w g sc
 | .mk k o n m e t a,v=>by
  have va:=Ex.valid_args v;simp only[Ex.args] at va;have h1:=(Pa.valid_iff.1 v).1;rw[Ex.rw,Ex.w,Ex.rwl_w h a va];by_cases h6:k=6
  ·subst h6;simp[Pa.vOwn,Ex.vOwn] at h1;obtain ⟨⟨⟨⟨_,rfl⟩,rfl⟩,rfl⟩,rfl,rfl⟩:=h1;rw[if_pos rfl,qcR ok,Z8 ok h];rfl
  ·rw[if_neg h6];by_cases h78:k=7∨k=8
   ·have:Ex.named k=true:=by unfold Ex.named;rcases h78 with rfl|rfl <;> rfl
    rw[if_pos h78,this,J9 ok h];rfl
   ·have:Ex.named k=false:=by unfold Ex.named;simp;omega
    rw[if_neg h78,this];rfl
theorem Ex.rwl_w{sc:Scs}(h:Pbd N sc):∀l:List Ex,(∀x,x∈l→(Pa.ex x).valid nm=true)→Ex.rwl r sc l=Ex.wl g sc l
 | [],_=>rfl
 | x::l,v=>by rw[Ex.rwl,Ex.wl,Ex.rw_w h x (v x (by simp)),Ex.rwl_w h l fun y hy=>v y (by simp[hy])]
end
theorem El.rw_w{sc:Scs}(h:Pbd N sc)(e:El)(v:(Pa.el e).valid nm=true):e.rw r sc=e.w g sc:=by
 unfold El.rw El.w;rw[Ex.rwl_w ok h e.exps fun x hx=>(Pa.valid_iff.1 v).2 _ (by simp only[Pa.kids,qql];exact ⟨x,hx,rfl⟩),Ex.wl_map]
theorem Fo.rw_w{sc:Scs}(h:Pbd N sc)(x:Fo):x.rw r sc=x.w g sc:=by
 unfold Fo.rw Fo.w;rw[Z8 ok h]
mutual
theorem Sm.rw_w:∀(s:Sm) (sc:Scs) (n:Nat),Pbd N sc→n+s.nb≤N→(Pa.st s).valid nm=true→s.rw r sc n=s.w g sc n
 | .mk l k t gs e hh d b,sc,n,h,hN,v=>by
  obtain ⟨v7,v8,v9⟩:=Sm.valid_block v;have vd:=Sm.valid_decls v;have vb:=Sm.valid_body v;have vg:=Sm.valid_targets v;have ve:=Sm.valid_exps v;have vh:=Sm.valid_elems v;simp only[Sm.decls,Sm.body,Sm.targets,Sm.exps,Sm.elems] at vd vb vg ve vh;rw[Sm.nb] at hN;rw[Sm.rw,Sm.w];by_cases h7:k=7
  ·rw[if_pos h7] at hN;obtain ⟨rfl,rfl,rfl⟩:=v7 h7;have hb:=yn (qg d b) n;have h':=h.bind (qg d b) n (by omega);rw[if_pos h7,if_pos h7,Ya ok h,De.rwl_w d _ _ _ h' h (by omega) vd,Sm.rwl_w b _ _ h' (by omega) vb]
  ·rw[if_neg h7] at hN;rw[if_neg h7,if_neg h7];by_cases h8:k=8
   ·rw[if_pos h8] at hN;obtain ⟨rfl,rfl,rfl,rfl⟩:=v8 h8;have hb:=yn (qk b) n;rw[if_pos h8,if_pos h8,Ya ok h,Sm.rwl_w b _ _ (h.bind (qk b) n (by omega)) (by omega) vb]
   ·rw[if_neg h8] at hN;obtain rfl:=v9 h7 h8;rw[if_neg h8,if_neg h8,Ya ok h,Ex.rwl_w ok h gs vg,Ex.rwl_w ok h e ve,Sm.rw1_w b _ _ h (by omega) vb,qqX fun x hx=>El.rw_w ok h x (vh x hx),J9 ok h]
theorem De.rw_w:∀(s:De) (own sc:Scs) (n:Nat),Pbd N own→Pbd N sc→n+s.nb≤N→(Pa.de s).valid nm=true→s.rw r own sc n=s.w g own sc n
 | .mk k o t ns e fo b,own,sc,n,h,h2,hN,v=>by
  obtain ⟨v4,v5⟩:=De.valid_proc v;have vb:=De.valid_body v;have ve:=De.valid_exps v;simp only[De.body,De.exps] at vb ve;rw[De.nb] at hN;rw[De.rw,De.w];by_cases h4:k=4
  ·rw[if_pos h4] at hN;obtain rfl:=v4 h4;have hb:=yn (fo.map Fo.name) n;have h':=h.bind (fo.map Fo.name) n (by omega);rw[if_pos h4,if_pos h4,Ya ok h,Sm.rw1_w b _ _ h' (by omega) vb,qqX fun x _=>Fo.rw_w ok h' x];rfl
  ·obtain ⟨rfl,rfl⟩:=v5 h4;have h':Pbd N (if k=2 then sc else own):=by split <;> assumption
   rw[if_neg h4,if_neg h4,Ya ok h,Ex.rwl_w ok h' e ve]
theorem De.rwl_w:∀(l:List De) (own sc:Scs) (n:Nat),Pbd N own→Pbd N sc→n+De.nbl l≤N→(∀x,x∈l→(Pa.de x).valid nm=true)→De.rwl r own sc n l=De.wl g own sc n l
 | [],_,_,_,_,_,_,_=>rfl
 | x::l,own,sc,n,h,h2,hN,v=>by
  rw[De.nbl] at hN;rw[De.rwl,De.wl,De.rw_w x own sc n h h2 (by omega) (v x (by simp)),De.rwl_w l own sc _ h h2 (by omega) fun y hy=>v y (by simp[hy])]
theorem Sm.rwl_w:∀(l:List Sm) (sc:Scs) (n:Nat),Pbd N sc→n+Sm.nbl l≤N→(∀x,x∈l→(Pa.st x).valid nm=true)→Sm.rwl r sc n l=Sm.wl g sc n l
 | [],_,_,_,_,_=>rfl
 | x::l,sc,n,h,hN,v=>by
  rw[Sm.nbl] at hN;rw[Sm.rwl,Sm.wl,Sm.rw_w x sc n h (by omega) (v x (by simp)),Sm.rwl_w l sc _ h (by omega) fun y hy=>v y (by simp[hy])]
theorem Sm.rw1_w:∀(l:List Sm) (sc:Scs) (n:Nat),Pbd N sc→n+Sm.nb1 l≤N→(∀x,x∈l→(Pa.st x).valid nm=true)→Sm.rw1 r sc n l=Sm.w1 g sc n l
 | [],_,_,_,_,_=>rfl
 | x::l,sc,n,h,hN,v=>by
  rw[Sm.nb1] at hN;have hb:=yn x.labels n;rw[Sm.rw1,Sm.w1,Sm.rw_w x _ _ (h.bind x.labels n (by omega)) (by omega) (v x (by simp)),Sm.rw1_w l sc _ h (by omega) fun y hy=>v y (by simp[hy])]
end
theorem Sm.wholeQ_w(s:Sm)(hN:Sm.nb1 [s]≤N)(v:(Pa.st s).valid nm=true):s.wholeQ r=s.whole g:=by
 simp only[Sm.nb1,qrI] at hN;have hb:Pbd N [qd s.labels 0]:=Pbd.bind (sc:=[]) (fun x k h=>by cases h) s.labels 0 (by omega);exact Sm.rw_w ok s _ _ hb (by omega) v
end
theorem qeM{l:List Bz}(h:okS l){f:Bz→Bz}(hf:∀x,x∈l→(f x).size≤B50):okS (l.map f):=by
 refine ⟨by rw[qp2];exact h.1,fun s hs=>?_⟩;obtain ⟨x,hx,rfl⟩:=qql.1 hs;exact hf x hx
theorem Sm.wl_len(f:Nat→Bz)(sc:Scs):∀(m:List Sm) (n:Nat),(Sm.wl f sc n m).length=m.length
 | [],_=>by rw[Sm.wl]
 | x::m,n=>by simp only[Sm.wl,qqs,Sm.wl_len f sc m]
theorem Sm.w1_len(f:Nat→Bz)(sc:Scs):∀(m:List Sm) (n:Nat),(Sm.w1 f sc n m).length=m.length
 | [],_=>by rw[Sm.w1]
 | x::m,n=>by simp only[Sm.w1,qqs,Sm.w1_len f sc m]
theorem De.wl_len(f:Nat→Bz)(own sc:Scs):∀(m:List De) (n:Nat),(De.wl f own sc n m).length=m.length
 | [],_=>by rw[De.wl]
 | x::m,n=>by simp only[De.wl,qqs,De.wl_len f own sc m]
section
variable {f:Nat→Bz} {N:Nat} (hf:∀k,k<N→(f k).size≤B50)
include hf
theorem Zl{sc:Scs}(h:Pbd N sc){x:Bz}(hx:x.size≤B50):(jo f sc x).size≤B50:=by
 unfold jo
 cases ha:sc.at x with
 | none=>exact hx
 | some k=>exact hf k (h x k ha)
mutual
theorem Ex.w_ok{sc:Scs}(h:Pbd N sc):∀x:Ex,x.ok→(x.w f sc).ok
 | .mk k o n m e t a,v=>by
  obtain ⟨h1,h2,h3⟩:=v;rw[Ex.w];refine ⟨?_,by rw[Ex.wl_map,qp2];exact h2,Ex.wl_ok h a h3⟩;split
  ·exact Zl hf h h1
  ·exact h1
theorem Ex.wl_ok{sc:Scs}(h:Pbd N sc):∀l:List Ex,Ex.okL l→Ex.okL (Ex.wl f sc l)
 | [],_=>trivial
 | x::l,⟨h1,h2⟩=>⟨Ex.w_ok h x h1,Ex.wl_ok h l h2⟩
end
theorem El.w_ok{sc:Scs}(h:Pbd N sc)(e:El)(v:e.ok):(e.w f sc).ok:=by
 have:=Ex.wl_ok hf h e.exps v.2;rw[Ex.wl_map] at this;exact ⟨by unfold El.w;rw[qp2];exact v.1,this⟩
mutual
theorem Sm.w_ok:∀(s:Sm) (sc:Scs) (n:Nat),Pbd N sc→n+s.nb≤N→s.ok→(s.w f sc n).ok
 | .mk l k t gs e hh d b,sc,n,h,hN,v=>by
  have V:=(Sm.ok_iff _).1 v;have hl:=qeM V.labels fun x hx=>Zl hf h (V.labels.2 x hx)
  rw[Sm.nb] at hN;rw[Sm.w];by_cases h7:k=7
  ·rw[if_pos h7] at hN;have hb:=yn (qg d b) n;have h':=h.bind (qg d b) n (by omega);rw[if_pos h7];refine (Sm.ok_iff _).2 ⟨hl,V.text,⟨qqB _,trivial⟩,⟨qqB _,trivial⟩,⟨qqB _,fun x hx=>by cases hx⟩,⟨?_,De.wl_ok d _ _ _ h' h (by omega) V.decls.2⟩,?_,Sm.wl_ok b _ _ h' (by omega) V.body.2⟩
   ·have:=V.decls.1;simp only[Sm.decls] at this ⊢;rw[De.wl_len];exact this
   ·have:=V.body.1;simp only[Sm.body] at this ⊢;rw[Sm.wl_len];exact this
  ·rw[if_neg h7] at hN;rw[if_neg h7];by_cases h8:k=8
   ·rw[if_pos h8] at hN;have hb:=yn (qk b) n;rw[if_pos h8];refine (Sm.ok_iff _).2 ⟨hl,V.text,⟨qqB _,trivial⟩,⟨qqB _,trivial⟩,⟨qqB _,fun x hx=>by cases hx⟩,⟨qqB _,trivial⟩,?_,Sm.wl_ok b _ _ (h.bind _ _ (by omega)) (by omega) V.body.2⟩;have:=V.body.1;simp only[Sm.body] at this ⊢;rw[Sm.wl_len];exact this
   ·rw[if_neg h8] at hN;rw[if_neg h8];refine (Sm.ok_iff _).2 ⟨hl,?_,⟨?_,Ex.wl_ok hf h gs V.targets.2⟩,⟨?_,Ex.wl_ok hf h e V.exps.2⟩,⟨?_,?_⟩,⟨qqB _,trivial⟩,?_,Sm.w1_ok b _ _ h (by omega) V.body.2⟩
    ·have:=V.text;simp only[Sm.text] at this ⊢;split
     ·exact Zl hf h this
     ·exact this
    ·have:=V.targets.1;simp only[Sm.targets] at this ⊢;rw[Ex.wl_map,qp2];exact this
    ·have:=V.exps.1;simp only[Sm.exps] at this ⊢;rw[Ex.wl_map,qp2];exact this
    ·have:=V.elems.1;simp only[Sm.elems] at this ⊢;rw[qp2];exact this
    ·intro x hx;simp only[Sm.elems] at hx;obtain ⟨y,hy,rfl⟩:=qql.1 hx;exact El.w_ok hf h y (V.elems.2 y hy)
    ·have:=V.body.1;simp only[Sm.body] at this ⊢;rw[Sm.w1_len];exact this
theorem De.w_ok:∀(s:De) (own sc:Scs) (n:Nat),Pbd N own→Pbd N sc→n+s.nb≤N→s.ok→(s.w f own sc n).ok
 | .mk k o t ns e fo b,own,sc,n,h,h2,hN,v=>by
  have V:=(De.ok_iff _).1 v;have hl:=qeM V.names fun x hx=>Zl hf h (V.names.2 x hx)
  rw[De.nb] at hN;rw[De.w];by_cases h4:k=4
  ·rw[if_pos h4] at hN;have hb:=yn (fo.map Fo.name) n;have h':=h.bind (fo.map Fo.name) n (by omega);rw[if_pos h4];refine (De.ok_iff _).2 ⟨hl,⟨qqB _,trivial⟩,⟨?_,?_⟩,?_,Sm.w1_ok b _ _ h' (by omega) V.body.2⟩
   ·have:=V.formals.1;simp only[De.formals] at this ⊢;rw[qp2];exact this
   ·intro x hx;simp only[De.formals] at hx;obtain ⟨y,hy,rfl⟩:=qql.1 hx;exact Zl hf h' (V.formals.2 y hy)
   ·have:=V.body.1;simp only[De.body] at this ⊢;rw[Sm.w1_len];exact this
  ·have h':Pbd N (if k=2 then sc else own):=by split <;> assumption
   rw[if_neg h4];refine (De.ok_iff _).2 ⟨hl,⟨?_,Ex.wl_ok hf h' e V.exps.2⟩,⟨qqB _,fun x hx=>by cases hx⟩,qqB _,trivial⟩;have:=V.exps.1;simp only[De.exps] at this ⊢;rw[Ex.wl_map,qp2];exact this
theorem De.wl_ok:∀(l:List De) (own sc:Scs) (n:Nat),Pbd N own→Pbd N sc→n+De.nbl l≤N→De.okL l→De.okL (De.wl f own sc n l)
 | [],_,_,_,_,_,_,_=>by rw[De.wl];exact trivial
 | x::l,own,sc,n,h,h2,hN,v=>by
  rw[De.nbl] at hN;rw[De.okL] at v;rw[De.wl,De.okL];exact ⟨De.w_ok x own sc n h h2 (by omega) v.1,De.wl_ok l own sc _ h h2 (by omega) v.2⟩
theorem Sm.wl_ok:∀(l:List Sm) (sc:Scs) (n:Nat),Pbd N sc→n+Sm.nbl l≤N→Sm.okL l→Sm.okL (Sm.wl f sc n l)
 | [],_,_,_,_,_=>by rw[Sm.wl];exact trivial
 | x::l,sc,n,h,hN,v=>by
  rw[Sm.nbl] at hN;rw[Sm.okL] at v;rw[Sm.wl,Sm.okL];exact ⟨Sm.w_ok x sc n h (by omega) v.1,Sm.wl_ok l sc _ h (by omega) v.2⟩
theorem Sm.w1_ok:∀(l:List Sm) (sc:Scs) (n:Nat),Pbd N sc→n+Sm.nb1 l≤N→Sm.okL l→Sm.okL (Sm.w1 f sc n l)
 | [],_,_,_,_,_=>by rw[Sm.w1];exact trivial
 | x::l,sc,n,h,hN,v=>by
  rw[Sm.nb1] at hN;rw[Sm.okL] at v;have hb:=yn x.labels n;rw[Sm.w1,Sm.okL];exact ⟨Sm.w_ok x _ _ (h.bind x.labels n (by omega)) (by omega) v.1,Sm.w1_ok l sc _ h (by omega) v.2⟩
end
theorem Sm.whole_ok(s:Sm)(hN:Sm.nb1 [s]≤N)(v:s.ok):(s.whole f).ok:=by
 simp only[Sm.nb1,qrI] at hN;have hb:Pbd N [qd s.labels 0]:=Pbd.bind (sc:=[]) (fun x k h=>by cases h) s.labels 0 (by omega);exact Sm.w_ok hf s _ _ hb (by omega) v
end
theorem qgS{l:List Ex}{deep n:Int}(h:n≤0):Ex.leftL l deep n≤0:=by
 unfold Ex.leftL;split
 ·omega
 ·rw[Ex.leftG_neg l deep n h];exact h
mutual
theorem Ex.left_size:∀(x:Ex) (deep n:Int),0<x.left deep n→x.left deep n=n - (Pa.ex x).size
 | .mk k o n' m e t a,deep,n,h=>by
  have hsz:(Pa.ex (.mk k o n' m e t a)).size=1+qF (a.map Pa.ex):=by rw[Pa.size_eq];rfl
  rw[Ex.left] at h ⊢;split at h
  ·omega
  ·rename_i hd;rw[if_neg hd,Ex.leftG_size a _ _ h];omega
theorem Ex.leftG_size:∀(l:List Ex) (deep n:Int),0<Ex.leftG l deep n→Ex.leftG l deep n=n - qF (l.map Pa.ex)
 | [],_,n,h=>by simp[Ex.leftG]
 | x::l,deep,n,h=>by
  rw[Ex.leftG] at h ⊢;split at h
  ·rename_i h0;rw[if_pos h0];by_cases hx:0<x.left deep n
   ·rw[Ex.leftG_size l _ _ h,Ex.left_size x deep n hx,qqd,sizes_cons];omega
   ·rw[Ex.leftG_neg l _ _ (by omega)] at h;omega
  ·omega
end
theorem Ex.leftL_size(l:List Ex)(deep n:Int)(h:0<Ex.leftL l deep n):Ex.leftL l deep n=n - qF (l.map Pa.ex):=by
 unfold Ex.leftL at h ⊢;split at h
 ·omega
 ·rename_i hd;rw[if_neg hd,Ex.leftG_size l _ _ h]
theorem El.leftG_size:∀(l:List El) (deep n:Int),0<El.leftG l deep n→El.leftG l deep n=n - qF (l.map Pa.el)
 | [],_,n,h=>by simp[El.leftG]
 | x::l,deep,n,h=>by
  have hsz:(Pa.el x).size=1+qF (x.exps.map Pa.ex):=by rw[Pa.size_eq];rfl
  rw[El.leftG] at h ⊢;split at h
  ·rename_i h0;rw[if_pos h0];by_cases hx:0<Ex.leftL x.exps (deep+1) (n - 1)
   ·rw[El.leftG_size l _ _ h,Ex.leftL_size _ _ _ hx,qqd,sizes_cons];omega
   ·have:El.leftG l deep (Ex.leftL x.exps (deep+1) (n - 1))=Ex.leftL x.exps (deep+1) (n - 1):=by cases l <;> simp[El.leftG,hx]
    rw[this] at h;omega
  ·omega
theorem El.leftG_neg'{l:List El}{deep n:Int}(h:¬ 0<n):El.leftG l deep n=n:=by cases l <;> simp[El.leftG,h]
theorem De.leftG_neg'{l:List De}{deep n:Int}(h:¬ 0<n):De.leftG l deep n=n:=by cases l <;> simp[De.leftG,h]
theorem Sm.leftG_neg'{l:List Sm}{deep n:Int}(h:¬ 0<n):Sm.leftG l deep n=n:=by cases l <;> simp[Sm.leftG,h]
theorem Sm.size_parts'(s:Sm):(Pa.st s).size=1+s.labels.length+qF (s.targets.map Pa.ex)+qF (s.exps.map Pa.ex)+qF (s.elems.map Pa.el)+qF (s.decls.map Pa.de)+qF (s.body.map Pa.st):=by
 rw[Pa.size_eq];simp only[Pa.own,Pa.kids,zj];omega
theorem De.size_parts'(d:De):(Pa.de d).size=1+d.names.length+d.formals.length+qF (d.exps.map Pa.ex)+qF (d.body.map Pa.st):=by
 rw[Pa.size_eq];simp only[Pa.own,Pa.kids,zj];omega
mutual
theorem Sm.left_size:∀(s:Sm) (deep n:Int),0<s.left deep n→s.left deep n=n - (Pa.st s).size
 | .mk l k t g e f d b,deep,n,h=>by
  have hsz:=Sm.size_parts' (.mk l k t g e f d b);simp only[Sm.labels,Sm.targets,Sm.exps,Sm.elems,Sm.decls,Sm.body] at hsz;rw[Sm.left] at h ⊢;split at h
  ·omega
  ·rename_i hd;rw[if_neg hd];have h5:=Sm.leftG_size b _ _ h
   have h4:0<De.leftG d deep (El.leftG f deep (Ex.leftL g (deep+1) (Ex.leftL e (deep+1) (n - 1 - l.length)))):=by
    by_cases hh:0<De.leftG d deep (El.leftG f deep (Ex.leftL g (deep+1) (Ex.leftL e (deep+1) (n - 1 - l.length))))
    ·exact hh
    ·rw[Sm.leftG_neg' hh] at h;exact h
   have h4':=De.leftG_size d _ _ h4
   have h3:0<El.leftG f deep (Ex.leftL g (deep+1) (Ex.leftL e (deep+1) (n - 1 - l.length))):=by
    by_cases hh:0<El.leftG f deep (Ex.leftL g (deep+1) (Ex.leftL e (deep+1) (n - 1 - l.length)))
    ·exact hh
    ·rw[De.leftG_neg' hh] at h4;exact h4
   have h3':=El.leftG_size f _ _ h3
   have h2:0<Ex.leftL g (deep+1) (Ex.leftL e (deep+1) (n - 1 - l.length)):=by
    by_cases hh:0<Ex.leftL g (deep+1) (Ex.leftL e (deep+1) (n - 1 - l.length))
    ·exact hh
    ·rw[El.leftG_neg' hh] at h3;exact h3
   have h2':=Ex.leftL_size g _ _ h2
   have h1:0<Ex.leftL e (deep+1) (n - 1 - l.length):=by
    by_cases hh:0<Ex.leftL e (deep+1) (n - 1 - l.length)
    ·exact hh
    ·have:=qgS (l:=g) (deep:=deep+1) (n:=Ex.leftL e (deep+1) (n - 1 - l.length)) (by omega);omega
   have h1':=Ex.leftL_size e _ _ h1;omega
theorem De.left_size:∀(s:De) (deep n:Int),0<s.left deep n→s.left deep n=n - (Pa.de s).size
 | .mk k o t nm e f b,deep,n,h=>by
  have hsz:=De.size_parts' (.mk k o t nm e f b);simp only[De.names,De.formals,De.exps,De.body] at hsz;rw[De.left] at h ⊢;have h5:=Sm.leftG_size b _ _ h
  have h1:0<Ex.leftL e (deep+1) (n - 1 - nm.length - f.length):=by
   by_cases hh:0<Ex.leftL e (deep+1) (n - 1 - nm.length - f.length)
   ·exact hh
   ·rw[Sm.leftG_neg' hh] at h;exact h
  have h1':=Ex.leftL_size e _ _ h1;omega
theorem De.leftG_size:∀(l:List De) (deep n:Int),0<De.leftG l deep n→De.leftG l deep n=n - qF (l.map Pa.de)
 | [],_,n,h=>by simp[De.leftG]
 | x::l,deep,n,h=>by
  rw[De.leftG] at h ⊢;split at h
  ·rename_i h0;rw[if_pos h0];by_cases hx:0<x.left deep n
   ·rw[De.leftG_size l _ _ h,De.left_size x deep n hx,qqd,sizes_cons];omega
   ·rw[De.leftG_neg' hx] at h;omega
  ·omega
theorem Sm.leftG_size:∀(l:List Sm) (deep n:Int),0<Sm.leftG l deep n→Sm.leftG l deep n=n - qF (l.map Pa.st)
 | [],_,n,h=>by simp[Sm.leftG]
 | x::l,deep,n,h=>by
  rw[Sm.leftG] at h ⊢;split at h
  ·rename_i h0;rw[if_pos h0];by_cases hx:0<x.left deep n
   ·rw[Sm.leftG_size l _ _ h,Sm.left_size x deep n hx,qqd,sizes_cons];omega
   ·rw[Sm.leftG_neg' hx] at h;omega
  ·omega
end
theorem YF:∀(l:List Bz) (s:Sco) (n:Nat),(binds l s n).length≤s.length+l.length
 | [],s,n=>by simp[binds]
 | x::l,s,n=>by
  simp only[binds];split
  ·have:=YF l s n;simp;omega
  ·have:=YF l (s++[(x,n)]) (n+1);simp at this ⊢;omega
theorem Jw(l:List Bz)(n:Nat):(qd l n).length≤l.length:=by have:=YF l [] n;simpa[qd] using this
theorem j6(x:Sm)(l:List Sm):(qk (x::l)).length=x.labels.length+(qk l).length:=by simp[qk]
theorem qaX(x:De)(l:List De):((x::l).flatMap De.names).length=x.names.length+(l.flatMap De.names).length:=by simp
mutual
theorem Sm.nb_size:∀s:Sm,s.labels.length+s.nb≤(Pa.st s).size
 | .mk l k t g e f d b=>by
  have hsz:=Sm.size_parts' (.mk l k t g e f d b);have hd:=De.nbl_size d;have hb:=Sm.nbl_size b;have h1:=Sm.nb1_size b;simp only[Sm.labels,Sm.targets,Sm.exps,Sm.elems,Sm.decls,Sm.body] at hsz ⊢;rw[Sm.nb];split
  ·have:=Jw (qg d b) 0;unfold qg at this ⊢;rw[qp8] at this;omega
  ·split
   ·have:=Jw (qk b) 0;omega
   ·omega
theorem De.nb_size:∀s:De,s.names.length+s.nb≤(Pa.de s).size
 | .mk k o t nm e f b=>by
  have hsz:=De.size_parts' (.mk k o t nm e f b);have h1:=Sm.nb1_size b;simp only[De.names,De.formals,De.exps,De.body] at hsz ⊢;rw[De.nb];split
  ·have:=Jw (f.map Fo.name) 0;rw[qp2] at this;omega
  ·omega
theorem De.nbl_size:∀l:List De,(l.flatMap De.names).length+De.nbl l≤qF (l.map Pa.de)
 | []=>by simp[De.nbl]
 | x::l=>by
  have h1:=De.nb_size x;have h2:=De.nbl_size l;rw[qaX,De.nbl,qqd,sizes_cons];omega
theorem Sm.nbl_size:∀l:List Sm,(qk l).length+Sm.nbl l≤qF (l.map Pa.st)
 | []=>by simp[Sm.nbl,qk]
 | x::l=>by
  have h1:=Sm.nb_size x;have h2:=Sm.nbl_size l;rw[j6,Sm.nbl,qqd,sizes_cons];omega
theorem Sm.nb1_size:∀l:List Sm,Sm.nb1 l≤qF (l.map Pa.st)
 | []=>by simp[Sm.nb1]
 | x::l=>by
  have h1:=Sm.nb_size x;have h2:=Sm.nb1_size l;have h3:=Jw x.labels 0;rw[Sm.nb1,qqd,sizes_cons];omega
end
theorem qiR(c:UInt8)(l:List UInt8):((⟨⟨[c]⟩⟩:Bz)++⟨l.toArray⟩).data.toList=c::l:=by
 simp[ByteArray.data_append]
theorem ql8{c:UInt8}{l:List UInt8}(h:isL c.toNat=false):qb ((⟨⟨[c]⟩⟩:Bz)++⟨l.toArray⟩)=false:=by
 unfold qb;rw[qiR];simp[qk8,h]
theorem qcW(k:Nat):qb (qoW k)=false:=ql8 (by decide)
theorem kR{p:Pa}{nm:Bz→Bool}(h:p.err nm=0):p.fits∧p.valid nm=true:=by
 unfold Pa.err at h;split at h
 ·rename_i hf;split at h
  ·rename_i hv;exact ⟨hf,hv⟩
  ·omega
 ·omega
theorem jQ{s:Sm}(h:s.light=true):(Pa.st s).size<150:=by
 unfold Sm.light at h;rw[decide_eq_true_eq] at h;have:=Sm.left_size s 0 150 h;omega
theorem qno{s:Sm}(h:s.light=true):Sm.nb1 [s]<150:=by
 have h1:=jQ h;have h2:=Sm.nb1_size [s];simp at h2;omega
end Go.Proofs.YtbifpocccfkhhaaGreatDoor
namespace Go.Proofs.YtbifpocccfkhhaaGreatDoor
open Go Go.ChangeShapes Go.WideShapes Go.ChangeAt Go.RowKit
def CR(W:World)(vs:List V)(cs:List Value):Prop:=vs.length=cs.length∧∀(j:Nat) (v:V) (c:Value),vs[j]?=some v→cs[j]?=some c→VR (E0 W) v c
def Fitw{H:Type}(t:TypeId)(d:DataW H):Prop:=∀n,n∈d.weights Tryz.prog t→n≤reachBytes
theorem reach_le{n:Nat}(h:n≤reachBytes):n≤B50:=by unfold reachBytes at h;unfold B50;omega
section
variable {H:Type} {enc:TypeId×Value→H} {W:World}
theorem weightsAll_mem{e:TypeId}{n:Nat}:∀{l:List (DataW H)} {d:DataW H},d∈l→n∈d.weights Tryz.prog e→n∈DataW.weightsAll Tryz.prog e l
 | x::l,d,hd,hn=>by
  rw[DataW.weightsAll];rcases qqk.1 hd with rfl|hd
  ·exact qrk _ hn
  ·exact qrs _ (weightsAll_mem hd hn)
theorem weightsEach_mem{n:Nat}:∀{ts:List TypeId} {l:List (DataW H)} {i:Nat} {t:TypeId} {d:DataW H},ts[i]?=some t→l[i]?=some d→n∈d.weights Tryz.prog t→n∈DataW.weightsEach Tryz.prog ts l
 | t0::ts,d0::l,0,t,d,ht,hd,hn=>by
  simp at ht hd;subst ht;subst hd;rw[DataW.weightsEach];exact qrk _ hn
 | t0::ts,d0::l,i+1,t,d,ht,hd,hn=>by
  rw[DataW.weightsEach];exact qrs _ (weightsEach_mem (i:=i) (by simpa using ht) (by simpa using hd) hn)
theorem Fitw.part{t:TypeId}{fs:Array Field}(ht:Tryz.prog.underlying t=some (.struct fs)){l:List (DataW H)}(h:Fitw t (.agg l)){i:Nat}{f:Field}{d:DataW H}(hf:fs[i]?=some f)(hd:l[i]?=some d):Fitw f.type d:=fun n hn=>h n (by
 rw[DataW.weights,ht];exact weightsEach_mem (i:=i) (t:=f.type) (by simp[hf]) hd hn)
theorem Fitw.elem{t e:TypeId}(ht:Tryz.prog.underlying t=some (.slice e)){l r:List (DataW H)}(h:Fitw t (.slice l r)){d:DataW H}(hd:d∈l):Fitw e d:=fun n hn=>h n (by
 rw[DataW.weights,ht];exact qra _ (qrk _ (weightsAll_mem hd hn)))
theorem Fitw.len{t e:TypeId}(ht:Tryz.prog.underlying t=some (.slice e))(hb:0<Tryz.prog.bytesOf e){l r:List (DataW H)}(h:Fitw t (.slice l r)):l.length≤B50:=by
 have:=h ((l.length+r.length) * Tryz.prog.bytesOf e) (by rw[DataW.weights,ht];exact List.mem_cons_self ..);refine reach_le (qqS ?_ this)
 calc l.length≤(l.length+r.length) * 1:=by omega
  _≤_:=Nat.mul_le_mul_left _ hb
theorem spot_none{a:Addr}{v:Value}(h:W.cell? a=some v):a.spot=none:=by
 unfold World.cell? at h;split at h
 ·split at h
  ·cases h
  ·rename_i hs;simpa using hs
 ·cases h
theorem add_off{b o k:Nat}:(Addr.add ⟨b,o,none⟩ k)=⟨b,o+k,none⟩:=by
 unfold Addr.add;split
 ·rename_i h;subst h;rfl
 ·rfl
theorem slice_in{α:Type}(f:α→V)(ok:α→Prop){sz:Nat}(hsz:∀a,(f a).cells.length=sz)(hz:0<sz){t e:TypeId}(ht:Tryz.prog.underlying t=some (.slice e))(hc:Tryz.prog.cellsOf e=sz)(hb:0<Tryz.prog.bytesOf e){fuel:Nat}
  (hel:∀n,n<fuel→∀cs (x:DataW H×List MemPlace),DataW.trod enc Tryz.prog W 0 (fun _=>true) true n e cs=some x→Fitw e x.1→∃a,ok a∧CR W (f a).cells cs)
  {cs:List Value} {x:DataW H×List MemPlace} (h:DataW.trod enc Tryz.prog W 0 (fun _=>true) true fuel t cs=some x) (hw:Fitw t x.1):
  ∃l:List α,(∀a,a∈l→ok a)∧l.length≤B50∧∃v,cs=[v]∧VR (E0 W) (.sl false (l.map f)) v:=by
 rcases DataW.trod_slice ht h with ⟨rfl,_⟩|⟨a,len,cap,elems,rest,n,rfl,rfl,rfl,_,hl,_,hlen,h1,h2,_⟩
 ·exact ⟨[],fun a ha=>(by cases ha),qqB _,_,rfl,.slnil _⟩
 obtain ⟨h2a,h2b⟩:=h2 rfl;rw[hc] at h1 h2b;have hle:=Fitw.len ht hb hw;rw[qp2] at hle
 have each:∀i,i<len→∃b,ok b∧∃cs',W.cells? 0 (a.add (i * sz)) sz=some cs'∧CR W (f b).cells cs':=fun i hi=>by
  have hi':i<elems.length:=by omega
  have:=h1 i hi;rw[qpZ hi',qqJ] at this;obtain ⟨cs',k1,k2⟩:=this;obtain ⟨b,k3,k4⟩:=hel n (by omega) cs' _ k2 (Fitw.elem ht hw (qqz (qp5 hi')));exact ⟨b,k3,cs',k1,k4⟩
 by_cases hcap:cap=0
 ·have:len=0:=by omega
  subst hcap;subst this;exact ⟨[],fun a ha=>(by cases ha),qqB _,_,rfl,.slz _ _⟩
 have hspot:a.spot=none:=by
  have read:∀cs',W.cells? 0 (a.add (0 * sz)) sz=some cs'→a.spot=none:=fun cs' k=>by
   obtain ⟨_,q1,q2⟩:=World.cells?_some k;have:=q2 0 hz;have hcs:0<cs'.length:=by omega
   rw[qpZ hcs] at this;have:=spot_none this;simpa[Addr.add] using this
  by_cases h0:0<len
  ·obtain ⟨_,_,cs',k,_⟩:=each 0 h0;exact read cs' k
  ·have hl0:len=0:=by omega
   have:=h2b 0 (by omega);obtain ⟨y0,hy0⟩:∃y,rest[0]?=some y:=⟨_,qpZ (by omega)⟩;rw[hy0,qqJ] at this;obtain ⟨cs',k,_⟩:=this;rw[hl0] at k;exact read cs' (by simpa using k)
 obtain ⟨b,o,spot⟩:=a;simp only at hspot;subst hspot;obtain ⟨g,hg⟩:∃g:Fin len→α,∀i,ok (g i)∧∃cs',W.cells? 0 (Addr.add ⟨b,o,none⟩ (i.1 * sz)) sz=some cs'∧CR W (f (g i)).cells cs':=⟨fun i=>Classical.choose (each i.1 i.2),fun i=>Classical.choose_spec (each i.1 i.2)⟩;have hll:(List.ofFn g).length=len:=List.length_ofFn;have hl2:((List.ofFn g).map f).length=len:=by rw[qp2,hll]
 have cell:∀i (hi:i<len) j,j<sz→∃c,W.cell? ⟨b,o+i * sz+j,none⟩=some c∧∀v,(f (g ⟨i,hi⟩)).cells[j]?=some v→VR (E0 W) v c:=fun i hi j hj=>by
  obtain ⟨_,cs',k1,k2,k3⟩:=hg ⟨i,hi⟩;obtain ⟨_,q1,q2⟩:=World.cells?_some k1;have q:=q2 j hj;have hj':j<cs'.length:=by omega
  rw[qpZ hj',add_off,add_off] at q;exact ⟨_,q,fun v hv=>k3 j v _ hv (qpZ hj')⟩
 refine ⟨List.ofFn g,fun a ha=>?_,by omega,_,rfl,?_⟩
 ·obtain ⟨i,rfl⟩:=List.mem_ofFn.1 ha;exact (hg i).1
 ·have:=@VR.sl (E0 W) false ((List.ofFn g).map f) b o cap sz (by omega) (fun h=>by cases h) (fun v hv=>?_) (fun i j hi hj=>?_) (fun i v j c' c hv hc hI=>?_)
  ·rw[hl2] at this;exact this
  ·obtain ⟨y,_,rfl⟩:=qql.1 hv;exact hsz y
  ·rw[hl2] at hi;obtain ⟨c,hc,_⟩:=cell i hi j hj;simp only[E0,hc];rfl
  ·rw[qqh,qp3] at hv;obtain ⟨y,hy,rfl⟩:=hv;rw[List.getElem?_ofFn] at hy;split at hy
   ·rename_i hi;cases hy;have hj:j<sz:=by have:=(qpU.1 hc).1;rw[hsz] at this;exact this
    obtain ⟨c2,hc2,hv2⟩:=cell i hi j hj;simp only[E0,hc2] at hI;cases hI;exact hv2 _ hc
   ·cases hy
theorem piece{cs l:List Value}{o k i:Nat}(h:(cs.drop o).take k=l)(hi:i<k):cs[o+i]?=l[i]?:=by
 rw[←h,qqu hi,qqG]
theorem CR_of{vs:List V}{cs:List Value}(hl:vs.length=cs.length)(h:∀(j:Nat) (v:V),vs[j]?=some v→∃c,cs[j]?=some c∧VR (E0 W) v c):CR W vs cs:=
 ⟨hl,fun j v c hv hc=>by
  obtain ⟨c',h1,h2⟩:=h j v hv;rw[h1] at hc;cases hc;exact h2⟩
theorem Ex.okL_of:∀{l:List Ex},(∀x,x∈l→x.ok)→Ex.okL l
 | [],_=>trivial
 | x::l,h=>⟨h x (by simp),Ex.okL_of fun y hy=>h y (by simp[hy])⟩
theorem De.okL_of:∀{l:List De},(∀x,x∈l→x.ok)→De.okL l
 | [],_=>by rw[De.okL];exact trivial
 | x::l,h=>by rw[De.okL];exact ⟨h x (by simp),De.okL_of fun y hy=>h y (by simp[hy])⟩
theorem Sm.okL_of:∀{l:List Sm},(∀x,x∈l→x.ok)→Sm.okL l
 | [],_=>by rw[Sm.okL];exact trivial
 | x::l,h=>by rw[Sm.okL];exact ⟨h x (by simp),Sm.okL_of fun y hy=>h y (by simp[hy])⟩
theorem kc3:Tryz.prog.cellsOf 3=1:=by kernel_rfl
theorem kc4t:Tryz.prog.cellsOf 4=1:=by kernel_rfl
theorem kc9:Tryz.prog.cellsOf 9=1:=by kernel_rfl
theorem kc22:Tryz.prog.cellsOf 22=1:=by kernel_rfl
theorem kc23:Tryz.prog.cellsOf 23=1:=by kernel_rfl
theorem kc24t:Tryz.prog.cellsOf 24=1:=by kernel_rfl
theorem kc25t:Tryz.prog.cellsOf 25=1:=by kernel_rfl
theorem kc26t:Tryz.prog.cellsOf 26=1:=by kernel_rfl
theorem kc40t:Tryz.prog.cellsOf 40=1:=by kernel_rfl
theorem kc52t:Tryz.prog.cellsOf 52=2:=by kernel_rfl
theorem kc54:Tryz.prog.cellsOf 54=7:=by kernel_rfl
theorem kc135t:Tryz.prog.cellsOf 135=2:=by kernel_rfl
theorem kc87t:Tryz.prog.cellsOf 87=4:=by kernel_rfl
theorem kc42t:Tryz.prog.cellsOf 42=7:=by kernel_rfl
theorem kc28t:Tryz.prog.cellsOf 28=8:=by kernel_rfl
theorem y9:0<Tryz.prog.bytesOf 9:=by decide+kernel
theorem y54:0<Tryz.prog.bytesOf 54:=by decide+kernel
theorem y135:0<Tryz.prog.bytesOf 135:=by decide+kernel
theorem y87:0<Tryz.prog.bytesOf 87:=by decide+kernel
theorem y42:0<Tryz.prog.bytesOf 42:=by decide+kernel
theorem y28:0<Tryz.prog.bytesOf 28:=by decide+kernel
theorem int_at{n o:Nat}{cs:List Value}{y:DataW H×List MemPlace}(h:DataW.trod enc Tryz.prog W 0 (fun _=>true) true n 3 ((cs.drop o).take (Tryz.prog.cellsOf 3))=some y):∃k,cs[o]?=some (.int .i64 k):=by
 obtain ⟨k,hk,_⟩:=DataW.trod_int Tryz.underlying3 h;rw[kc3] at hk;exact ⟨k,by have:=piece hk (i:=0) (by omega);simpa using this⟩
theorem bool_at{n o:Nat}{cs:List Value}{y:DataW H×List MemPlace}(h:DataW.trod enc Tryz.prog W 0 (fun _=>true) true n 4 ((cs.drop o).take (Tryz.prog.cellsOf 4))=some y):∃k,cs[o]?=some (.bool k):=by
 obtain ⟨k,hk,_⟩:=DataW.trod_bool Tryz.underlying4 h;rw[kc4t] at hk;exact ⟨k,by have:=piece hk (i:=0) (by omega);simpa using this⟩
theorem str_at{n o:Nat}{cs:List Value}{y:DataW H×List MemPlace}(h:DataW.trod enc Tryz.prog W 0 (fun _=>true) true n 9 ((cs.drop o).take (Tryz.prog.cellsOf 9))=some y)(hw:Fitw 9 y.1):∃s:ByteArray,cs[o]?=some (.string s)∧s.size≤B50:=by
 obtain ⟨k,hk,hy,_⟩:=DataW.trod_string Tryz.underlying9 h;rw[kc9] at hk;refine ⟨k,by have:=piece hk (i:=0) (by omega);simpa using this,?_⟩;have:=hw k.size (by rw[hy,DataW.weights];exact qq1.2 (by rw[qq5];rfl));exact reach_le this
theorem slice_at{α:Type}(f:α→V)(ok:α→Prop){sz:Nat}(hsz:∀a,(f a).cells.length=sz)(hz:0<sz){t e:TypeId}(ht:Tryz.prog.underlying t=some (.slice e))(hc:Tryz.prog.cellsOf e=sz)(hb:0<Tryz.prog.bytesOf e)(h1:Tryz.prog.cellsOf t=1){n o:Nat}
  (hel:∀m,m<n→∀cs (x:DataW H×List MemPlace),DataW.trod enc Tryz.prog W 0 (fun _=>true) true m e cs=some x→Fitw e x.1→∃a,ok a∧CR W (f a).cells cs)
  {cs:List Value} {y:DataW H×List MemPlace} (h:DataW.trod enc Tryz.prog W 0 (fun _=>true) true n t ((cs.drop o).take (Tryz.prog.cellsOf t))=some y) (hw:Fitw t y.1):
  ∃l:List α,(∀a,a∈l→ok a)∧l.length≤B50∧∃v,cs[o]?=some v∧VR (E0 W) (.sl false (l.map f)) v:=by
 obtain ⟨l,k1,k2,v,k3,k4⟩:=slice_in f ok hsz hz ht hc hb hel h hw;rw[h1] at k3;exact ⟨l,k1,k2,v,by have:=piece k3 (i:=0) (by omega);simpa using this,k4⟩
theorem strs_el{n:Nat}:∀m,m<n→∀cs (x:DataW H×List MemPlace),DataW.trod enc Tryz.prog W 0 (fun _=>true) true m 9 cs=some x→Fitw 9 x.1→∃s:ByteArray,s.size≤B50∧CR W (V.str s).cells cs:=by
 intro m _ cs x h hw;obtain ⟨k,rfl,hy,_⟩:=DataW.trod_string Tryz.underlying9 h;refine ⟨k,reach_le (hw k.size (by rw[hy,DataW.weights];exact qq1.2 (by rw[qq5];rfl))),rfl,fun j v c hv hc=>?_⟩
 match j,hv,hc with
 | 0,hv,hc=>simp at hv hc;subst hv;subst hc;exact .str k
theorem parts{t:TypeId}{fs:Array Field}(ht:Tryz.prog.underlying t=some (.struct fs)){fuel:Nat}{cs:List Value}{x:DataW H×List MemPlace}(h:DataW.trod enc Tryz.prog W 0 (fun _=>true) true fuel t cs=some x)(hw:Fitw t x.1):
  ∃n,n<fuel∧cs.length=Tryz.prog.cellsOf t∧∀(i:Nat) (f:Field),fs[i]?=some f→∃y:DataW H×List MemPlace,DataW.trod enc Tryz.prog W 0 (fun _=>true) true n f.type ((cs.drop f.offset).take (Tryz.prog.cellsOf f.type))=some y∧Fitw f.type y.1:=by
 obtain ⟨xs,n,rfl,rfl,h1,h2,h3⟩:=DataW.trod_struct ht h;refine ⟨n,by omega,h1,fun i f hf=>?_⟩
 have hi:i<xs.length:=by
  have:=(qqb.1 hf).1;omega
 have:=h3 i f hf;rw[qpZ hi] at this;exact ⟨xs[i],this,Fitw.part ht hw hf (by simp[hi])⟩
theorem ex_in:∀(m fuel:Nat),fuel≤m→∀cs (x:DataW H×List MemPlace),DataW.trod enc Tryz.prog W 0 (fun _=>true) true fuel 54 cs=some x→Fitw 54 x.1→∃a:Ex,a.ok∧CR W a.v.cells cs
 | 0,fuel,hm,cs,x,h,hw=>by
  obtain ⟨n,hn,_⟩:=parts Tryz.underlying54 h hw;omega
 | m+1,fuel,hm,cs,x,h,hw=>by
  obtain ⟨n,hn,hl,hp⟩:=parts Tryz.underlying54 h hw;obtain ⟨y0,p0,q0⟩:=hp 0 _ rfl;obtain ⟨y1,p1,q1⟩:=hp 1 _ rfl;obtain ⟨y2,p2,q2⟩:=hp 2 _ rfl;obtain ⟨y3,p3,q3⟩:=hp 3 _ rfl;obtain ⟨y4,p4,q4⟩:=hp 4 _ rfl;obtain ⟨y5,p5,q5⟩:=hp 5 _ rfl;obtain ⟨k0,e0⟩:=int_at p0;obtain ⟨k1,e1⟩:=int_at p1;obtain ⟨k2,e2⟩:=int_at p2;obtain ⟨n3,hn3,hl3,hp3⟩:=parts Tryz.underlying52 p3 q3;obtain ⟨z0,r0,_⟩:=hp3 0 _ rfl;obtain ⟨z1,r1,_⟩:=hp3 1 _ rfl;obtain ⟨k3,e3⟩:=int_at r0;obtain ⟨k4,e4⟩:=int_at r1;obtain ⟨s,e5,hs⟩:=str_at p4 q4;obtain ⟨l,hlo,hll,v,e6,hv⟩:=slice_at Ex.v Ex.ok (sz:=7) (fun a=>by simp) (by omega) Tryz.underlying23 kc54 y54 kc23 (fun m' hm'=>ex_in m m' (by omega)) p5 q5;have e3:((cs.drop 3).take 2)[0]?=some (.int .i64 k3):=by rw[←kc52t];exact e3
  have e4:((cs.drop 3).take 2)[1]?=some (.int .i64 k4):=by rw[←kc52t];exact e4
  rw[qqu (by omega),qqG] at e3 e4;refine ⟨.mk k0 k1 k2 k3 k4 s l,⟨hs,hll,Ex.okL_of hlo⟩,CR_of ?_ ?_⟩
  ·rw[hl,kc54];simp
  ·intro j w hw';rw[Ex.v_cells] at hw'
   match j,hw' with
   | 0,hw'=>cases hw';exact ⟨_,e0,.int _ _⟩
   | 1,hw'=>cases hw';exact ⟨_,e1,.int _ _⟩
   | 2,hw'=>cases hw';exact ⟨_,e2,.int _ _⟩
   | 3,hw'=>cases hw';exact ⟨_,e3,.int _ _⟩
   | 4,hw'=>cases hw';exact ⟨_,e4,.int _ _⟩
   | 5,hw'=>cases hw';exact ⟨_,e5,.str _⟩
   | 6,hw'=>cases hw';exact ⟨_,e6,hv⟩
theorem el_in{fuel:Nat}{cs:List Value}{x:DataW H×List MemPlace}(h:DataW.trod enc Tryz.prog W 0 (fun _=>true) true fuel 135 cs=some x)(hw:Fitw 135 x.1):∃a:El,a.ok∧CR W a.v.cells cs:=by
 obtain ⟨n,hn,hl,hp⟩:=parts Tryz.underlying135 h hw;obtain ⟨y0,p0,q0⟩:=hp 0 _ rfl;obtain ⟨y1,p1,q1⟩:=hp 1 _ rfl;obtain ⟨k0,e0⟩:=int_at p0;obtain ⟨l,hlo,hll,v,e1,hv⟩:=slice_at Ex.v Ex.ok (sz:=7) (fun a=>by simp) (by omega) Tryz.underlying23 kc54 y54 kc23 (fun m' hm'=>ex_in m' m' (qp0 _)) p1 q1;refine ⟨⟨k0,l⟩,⟨hll,Ex.okL_of hlo⟩,CR_of ?_ ?_⟩
 ·rw[hl,kc135t];rfl
 ·intro j w hw';rw[El.v_cells] at hw'
  match j,hw' with
  | 0,hw'=>cases hw';exact ⟨_,e0,.int _ _⟩
  | 1,hw'=>cases hw';exact ⟨_,e1,hv⟩
theorem fo_in{fuel:Nat}{cs:List Value}{x:DataW H×List MemPlace}(h:DataW.trod enc Tryz.prog W 0 (fun _=>true) true fuel 87 cs=some x)(hw:Fitw 87 x.1):∃a:Fo,a.ok∧CR W a.v.cells cs:=by
 obtain ⟨n,hn,hl,hp⟩:=parts Tryz.underlying87 h hw;obtain ⟨y0,p0,q0⟩:=hp 0 _ rfl;obtain ⟨y1,p1,q1⟩:=hp 1 _ rfl;obtain ⟨y2,p2,q2⟩:=hp 2 _ rfl;obtain ⟨y3,p3,q3⟩:=hp 3 _ rfl;obtain ⟨s,e0,hs⟩:=str_at p0 q0;obtain ⟨k1,e1⟩:=bool_at p1;obtain ⟨k2,e2⟩:=int_at p2;obtain ⟨k3,e3⟩:=int_at p3;refine ⟨⟨s,k1,k2,k3⟩,hs,CR_of ?_ ?_⟩
 ·rw[hl,kc87t];rfl
 ·intro j w hw';rw[Fo.v_cells] at hw'
  match j,hw' with
  | 0,hw'=>cases hw';exact ⟨_,e0,.str _⟩
  | 1,hw'=>cases hw';exact ⟨_,e1,.bool _⟩
  | 2,hw'=>cases hw';exact ⟨_,e2,.int _ _⟩
  | 3,hw'=>cases hw';exact ⟨_,e3,.int _ _⟩
theorem exs_at{n o:Nat}{cs:List Value}{y:DataW H×List MemPlace}(h:DataW.trod enc Tryz.prog W 0 (fun _=>true) true n 23 ((cs.drop o).take (Tryz.prog.cellsOf 23))=some y)(hw:Fitw 23 y.1):
  ∃l:List Ex,(l.length≤B50∧Ex.okL l)∧∃v,cs[o]?=some v∧VR (E0 W) (.sl false (l.map Ex.v)) v:=by
 obtain ⟨l,hlo,hll,hv⟩:=slice_at Ex.v Ex.ok (sz:=7) (fun a=>by simp) (by omega) Tryz.underlying23 kc54 y54 kc23 (fun m' hm'=>ex_in m' m' (qp0 _)) h hw;exact ⟨l,⟨hll,Ex.okL_of hlo⟩,hv⟩
theorem strs_at{n o:Nat}{cs:List Value}{y:DataW H×List MemPlace}(h:DataW.trod enc Tryz.prog W 0 (fun _=>true) true n 22 ((cs.drop o).take (Tryz.prog.cellsOf 22))=some y)(hw:Fitw 22 y.1):
  ∃l:List ByteArray,okS l∧∃v,cs[o]?=some v∧VR (E0 W) (.sl false (l.map .str)) v:=by
 obtain ⟨l,hlo,hll,hv⟩:=slice_at V.str (fun s=>s.size≤B50) (sz:=1) (fun a=>rfl) (by omega) Tryz.underlying22 kc9 y9 kc22 strs_el h hw;exact ⟨l,⟨hll,hlo⟩,hv⟩
theorem tree_in:∀(m fuel:Nat),fuel≤m→(∀cs (x:DataW H×List MemPlace),DataW.trod enc Tryz.prog W 0 (fun _=>true) true fuel 42 cs=some x→Fitw 42 x.1→∃a:De,a.ok∧CR W a.v.cells cs)∧
  ∀cs (x:DataW H×List MemPlace),DataW.trod enc Tryz.prog W 0 (fun _=>true) true fuel 28 cs=some x→Fitw 28 x.1→∃a:Sm,a.ok∧CR W a.v.cells cs
 | 0,fuel,hm=>by
  refine ⟨fun cs x h hw=>?_,fun cs x h hw=>?_⟩
  ·obtain ⟨n,hn,_⟩:=parts Tryz.underlying42 h hw;omega
  ·obtain ⟨n,hn,_⟩:=parts Tryz.underlying28 h hw;omega
 | m+1,fuel,hm=>by
  refine ⟨fun cs x h hw=>?_,fun cs x h hw=>?_⟩
  ·obtain ⟨n,hn,hl,hp⟩:=parts Tryz.underlying42 h hw;obtain ⟨y0,p0,q0⟩:=hp 0 _ rfl;obtain ⟨y1,p1,q1⟩:=hp 1 _ rfl;obtain ⟨y2,p2,q2⟩:=hp 2 _ rfl;obtain ⟨y3,p3,q3⟩:=hp 3 _ rfl;obtain ⟨y4,p4,q4⟩:=hp 4 _ rfl;obtain ⟨y5,p5,q5⟩:=hp 5 _ rfl;obtain ⟨y6,p6,q6⟩:=hp 6 _ rfl;obtain ⟨k0,e0⟩:=int_at p0;obtain ⟨k1,e1⟩:=bool_at p1;obtain ⟨k2,e2⟩:=int_at p2;obtain ⟨nm,on,v3,e3,h3⟩:=strs_at p3 q3;obtain ⟨ex,oe,v4,e4,h4⟩:=exs_at p4 q4;obtain ⟨fo,of,lf,v5,e5,h5⟩:=slice_at Fo.v Fo.ok (sz:=4) (fun a=>rfl) (by omega) Tryz.underlying40 kc87t y87 kc40t (fun m' hm' cs x=>fo_in) p5 q5;obtain ⟨bo,ob,lb,v6,e6,h6⟩:=slice_at Sm.v Sm.ok (sz:=8) (fun a=>by simp) (by omega) Tryz.underlying26 kc28t y28 kc26t (fun m' hm'=>(tree_in m m' (by omega)).2) p6 q6;refine ⟨.mk k0 k1 k2 nm ex fo bo,(De.ok_iff _).2 ⟨on,oe,⟨lf,of⟩,⟨lb,Sm.okL_of ob⟩⟩,CR_of ?_ ?_⟩
   ·rw[hl,kc42t];simp
   ·intro j w hw';rw[De.v_cells] at hw'
    match j,hw' with
    | 0,hw'=>cases hw';exact ⟨_,e0,.int _ _⟩
    | 1,hw'=>cases hw';exact ⟨_,e1,.bool _⟩
    | 2,hw'=>cases hw';exact ⟨_,e2,.int _ _⟩
    | 3,hw'=>cases hw';exact ⟨_,e3,h3⟩
    | 4,hw'=>cases hw';exact ⟨_,e4,h4⟩
    | 5,hw'=>cases hw';exact ⟨_,e5,h5⟩
    | 6,hw'=>cases hw';exact ⟨_,e6,h6⟩
  ·obtain ⟨n,hn,hl,hp⟩:=parts Tryz.underlying28 h hw;obtain ⟨y0,p0,q0⟩:=hp 0 _ rfl;obtain ⟨y1,p1,q1⟩:=hp 1 _ rfl;obtain ⟨y2,p2,q2⟩:=hp 2 _ rfl;obtain ⟨y3,p3,q3⟩:=hp 3 _ rfl;obtain ⟨y4,p4,q4⟩:=hp 4 _ rfl;obtain ⟨y5,p5,q5⟩:=hp 5 _ rfl;obtain ⟨y6,p6,q6⟩:=hp 6 _ rfl;obtain ⟨y7,p7,q7⟩:=hp 7 _ rfl;obtain ⟨lb,ol,v0,e0,h0⟩:=strs_at p0 q0;obtain ⟨k1,e1⟩:=int_at p1;obtain ⟨s,e2,hs⟩:=str_at p2 q2;obtain ⟨tg,ot,v3,e3,h3⟩:=exs_at p3 q3;obtain ⟨ex,oe,v4,e4,h4⟩:=exs_at p4 q4;obtain ⟨el,oel,lel,v5,e5,h5⟩:=slice_at El.v El.ok (sz:=2) (fun a=>rfl) (by omega) Tryz.underlying24 kc135t y135 kc24t (fun m' hm' cs x=>el_in) p5 q5;obtain ⟨de,od,ld,v6,e6,h6⟩:=slice_at De.v De.ok (sz:=7) (fun a=>by simp) (by omega) Tryz.underlying25 kc42t y42 kc25t (fun m' hm'=>(tree_in m m' (by omega)).1) p6 q6;obtain ⟨bo,ob,lbo,v7,e7,h7⟩:=slice_at Sm.v Sm.ok (sz:=8) (fun a=>by simp) (by omega) Tryz.underlying26 kc28t y28 kc26t (fun m' hm'=>(tree_in m m' (by omega)).2) p7 q7;refine ⟨.mk lb k1 s tg ex el de bo,(Sm.ok_iff _).2 ⟨ol,hs,ot,oe,⟨lel,oel⟩,⟨ld,De.okL_of od⟩,⟨lbo,Sm.okL_of ob⟩⟩,CR_of ?_ ?_⟩
   ·rw[hl,kc28t];simp
   ·intro j w hw';rw[Sm.v_cells] at hw'
    match j,hw' with
    | 0,hw'=>cases hw';exact ⟨_,e0,h0⟩
    | 1,hw'=>cases hw';exact ⟨_,e1,.int _ _⟩
    | 2,hw'=>cases hw';exact ⟨_,e2,.str _⟩
    | 3,hw'=>cases hw';exact ⟨_,e3,h3⟩
    | 4,hw'=>cases hw';exact ⟨_,e4,h4⟩
    | 5,hw'=>cases hw';exact ⟨_,e5,h5⟩
    | 6,hw'=>cases hw';exact ⟨_,e6,h6⟩
    | 7,hw'=>cases hw';exact ⟨_,e7,h7⟩
set_option maxRecDepth 100000
theorem agg_of{vs:List V}{v:Value}{cs:Array Value}(hv:v=.agg cs)(h:CR W vs v.cells.toList):VR (E0 W) (.agg vs) v:=by
 subst hv;refine .agg (by have:=h.1;simpa[Value.cells] using this) fun i x u hx hu=>h.2 i x u hx (by simpa[Value.cells] using hu)
theorem stmt_in{base:Nat}{v:Value}{d:DataW H}{p:List MemPlace}(hval:Value.okWide Tryz.prog W .any base 28 v)(h:DataW.Trod enc Tryz.prog W 0 (fun _=>true) true 28 v d p)(hw:Fitw 28 d):∃s:Sm,s.ok∧VR (E0 W) s.v v:=by
 obtain ⟨fuel,h⟩:=h;obtain ⟨s,hs,hc⟩:=(tree_in fuel fuel (qp0 _)).2 _ _ h hw;unfold Value.okWide at hval;rw[Tryz.underlying28] at hval;obtain ⟨cs,hv,_⟩:=hval;rw[Sm.v_cells] at hc;exact ⟨s,hs,by rw[Sm.v_eq];exact agg_of hv hc⟩
theorem fitw_of{ts:List TypeId}{ds:List (DataW H)}(h:(DataW.weightsEach Tryz.prog ts ds).all (·≤reachBytes)=true){i:Nat}{t:TypeId}{d:DataW H}(ht:ts[i]?=some t)(hd:ds[i]?=some d):Fitw t d:=fun n hn=>by
 have:=qqi.1 h n (weightsEach_mem ht hd hn);simpa using this
end
end Go.Proofs.YtbifpocccfkhhaaGreatDoor
namespace Go.Proofs.YtbifpocccfkhhaaGreatDoor
open Go Go.ChangeShapes Go.WideShapes Go.ChangeAt Go.RowKit
set_option maxRecDepth 100000
section
variable {H:Type} {enc:TypeId×Value→H} {W:World}
theorem trodAll_cons{P:Program}{t:TypeId}{ts:List TypeId}{vs:List Value}{ds:List (DataW H)}{ps:List MemPlace}(h:DataW.TrodAll enc P W 0 (fun _=>true) true (t::ts) vs ds ps):
  ∃v vs' d ds' p q,vs=v::vs'∧ds=d::ds'∧DataW.Trod enc P W 0 (fun _=>true) true t v d p∧DataW.TrodAll enc P W 0 (fun _=>true) true ts vs' ds' q:=by
 cases vs with
 | nil=>exact h.elim
 | cons v vs=>
  cases ds with
  | nil=>exact h.elim
  | cons d ds=>
   obtain ⟨p,q,h1,h2,_⟩:=h;exact ⟨v,vs,d,ds,p,q,rfl,rfl,h1,h2⟩
theorem trodAll_nil{P:Program}{vs:List Value}{ds:List (DataW H)}{ps:List MemPlace}(h:DataW.TrodAll enc P W 0 (fun _=>true) true [] vs ds ps):vs=[]∧ds=[]:=by
 cases vs with
 | nil=>
  cases ds with
  | nil=>exact ⟨rfl,rfl⟩
  | cons d ds=>exact h.elim
 | cons v vs=>cases ds <;> exact h.elim
theorem slice_cells{base:Nat}{t e:TypeId}{v v':Value}(ht:Tryz.prog.underlying t=some (.slice e))(hval:Value.okWide Tryz.prog W .any base t v)(h:v.cells.toList=[v']):v'=v:=by
 obtain ⟨a0,len,cap,rfl⟩:=okWide_slice ht hval;simp[Value.cells] at h;exact h.symm
theorem strs_in{base:Nat}{v:Value}{d:DataW H}{p:List MemPlace}(hval:Value.okWide Tryz.prog W .any base 22 v)(h:DataW.Trod enc Tryz.prog W 0 (fun _=>true) true 22 v d p)(hw:Fitw 22 d):∃l:List ByteArray,okS l∧VR (E0 W) (.sl false (l.map .str)) v:=by
 obtain ⟨fuel,hf⟩:=h;obtain ⟨l,hlo,hll,v',hc,hv⟩:=slice_in V.str (fun s=>s.size≤B50) (sz:=1) (fun a=>rfl) (by omega) Tryz.underlying22 kc9 y9 strs_el hf hw;rw[slice_cells Tryz.underlying22 hval hc] at hv;exact ⟨l,⟨hll,hlo⟩,hv⟩
end
open Go.Proofs.Tryz
set_option maxRecDepth 20000
noncomputable def c67:F':=⟨13,[.cell 4 (some 8)],.k [.B 3 1,.o 4 (.new zS)] (.k [.m 6 0,.j 7 8 3,.o 8 (.bsl 8 [(.t 7)]),.o 9 (.call (.f 117) [(.t 6),(.t 8),(.c sN)]),.m 5 9] (.k [.m 10 5,.o 11 (.ia 8 (.t 10) (.c z0)),.j 12 8 11,.s 8 4 12] .ret))⟩
theorem ok67:okF f67 c67:=okI
noncomputable def c92:F':=⟨49,[.cell 6 (some 7)],.k [.B 4 1,.o 6 (.new zX)] (.seq (.k [.f 11 0 4,.l 12 11,.u 13 .eql 12 6] (.d 13 (.k [.m 15 0,.m 16 2,.f 17 5 4,.l 18 17,.x 19 143 15 16 18,.m 14 19,.e 20 0 14,.e 21 1 14,.e 22 2 14,.o 8 (.new zX),.m 7 20,.s 7 8 21,.m 9 22] (.seq (.k [.m 23 9] (.d 23 (.k [.j 24 7 8,.s 7 6 24] .ret) .skip)) (.k [.m 25 7,.o 26 (.build zX [(0,0,1,(.c (.int .i64 6))),(4,5,1,(.t 25))]),.s 7 6 26] .ret))) .skip)) (.k [.j 27 7 4,.o 10 (.new zX),.s 7 10 27] (.seq (.k [.f 28 0 4,.l 29 28,.u 30 .eql 29 7,.m 31 30,.v 32 31 false (.fa 0 (.t 4)),.M 33 31 false 32,.v 34 31 false (.bin .eql (.t 33) (.c (.int .i64 8))),.z 35 31 34] (.d 35 (.reg [.m 36 0,.m 37 2,.f 38 5 4,.l 39 38,.x 40 144 36 37 39,.f 41 5 10,.s 1 41 40]) .skip)) (.k [.m 42 0,.f 43 6 4,.l 44 43,.m 45 2,.x 46 145 42 44 45,.f 47 6 10,.s 1 47 46] (.k [.j 48 7 10,.s 7 6 48] .ret)))))⟩
theorem ok92:okF f92 c92:=okI
noncomputable def c117:F':=⟨15,[.t 6],.k [.a 6 (.sl true [])] (.k [.m 7 0,.m 8 1,.m 9 0,.m 10 2,.m 11 1,.c 12 163 11,.x 13 162 9 10 12,.x 14 161 7 8 13,.m 6 14] .ret)⟩
theorem ok117:okF f117 c117:=okI
noncomputable def c143:F':=⟨98,[.t 6,.cell 7 (some 7),.t 8],.k [.a 6 (.str ⟨⟨[]⟩⟩),.o 7 (.new zX),.F 8] (.seq (.k [.m 11 1,.m 12 2,.w 13 175 11 12,.u 14 .geq 13 0] (.d 14 (.k [.m 15 0,.m 16 1,.m 17 2,.x 18 176 15 16 17,.o 19 (.build zX []),.m 6 18,.s 7 7 19,.F 8] .ret) .skip)) (.k [.m 20 0,.m 21 0,.h 22 21,.f 23 1 22,.l 24 23,.m 25 2,.o 26 (.bsl 1 [(.t 25)]),.o 27 (.app 1 16 (.t 24) (.t 26)),.h 28 20,.f 29 1 28,.s 1 29 27] (.seq (.k [.G 9 0] (.block 0 (.loop (.seq (.k [.m 30 9,.m 31 0,.h 32 31,.f 33 3 32,.l 34 33,.L 35 34,.b 36 .lss 30 35] (.d 36 .skip (.exit 0))) (.seq (.block 1 (.k [.m 39 0,.h 40 39,.f 41 3 40,.l 42 41,.m 43 9,.i 44 1 42 43,.l 45 44,.m 46 2,.b 47 .eql 45 46] (.d 47 (.seq (.k [.G 10 0] (.block 2 (.loop (.seq (.k [.m 48 10,.m 49 1,.L 50 49,.b 51 .lss 48 50] (.d 51 .skip (.exit 2))) (.seq (.block 3 (.draw [.p (.m 54 0) [],.p (.m 55 0) [],.p (.h 56 55) [1],.p (.f 57 6 56) [2,1],.p (.l 58 57) [3,2,1],.p (.m 59 58) [4,3,2,1],.p (.V 60 59 false 0) [5,4,3,2,1],.p (.v 61 59 false (.nck (.t 60))) [6,5,4,3,2,1],.p (.v 62 59 false (.fa 4 (.t 61))) [7,6,5,4,3,2,1],.p (.M 63 59 false 62) [8,7,6,5,4,3,2,1],.p (.V 64 59 false 9) [5,4,3,2,1],.p (.v 65 59 false (.ia 7 (.t 63) (.t 64))) [9,10,8,7,6,5,4,3,2,1],.p (.v 66 59 false (.fa 0 (.t 65))) [11,9,10,8,7,6,5,4,3,2,1],.p (.M 67 59 false 66) [12,11,9,10,8,7,6,5,4,3,2,1],.p (.v 68 59 false (.bin .eql (.t 67) (.c (.int .i64 6)))) [13,12,11,9,10,8,7,6,5,4,3,2,1],.p (.V 69 59 false 68) [14,13,12,11,9,10,8,7,6,5,4,3,2,1],.p (.V 70 69 true 1) [15,14,13,12,11,9,10,8,7,6,5,4,3,2,1],.p (.V 71 69 true 10) [15,14,13,12,11,9,10,8,7,6,5,4,3,2,1],.p (.v 72 69 true (.ia 2 (.t 70) (.t 71))) [16,17,15,14,13,12,11,9,10,8,7,6,5,4,3,2,1],.p (.v 73 69 true (.fa 0 (.t 72))) [18,16,17,15,14,13,12,11,9,10,8,7,6,5,4,3,2,1],.p (.M 74 69 true 73) [19,18,16,17,15,14,13,12,11,9,10,8,7,6,5,4,3,2,1],.p (.V 75 69 true 0) [15,14,13,12,11,9,10,8,7,6,5,4,3,2,1],.p (.v 76 69 true (.nck (.t 75))) [21,15,14,13,12,11,9,10,8,7,6,5,4,3,2,1],.p (.v 77 69 true (.fa 4 (.t 76))) [22,21,15,14,13,12,11,9,10,8,7,6,5,4,3,2,1],.p (.M 78 69 true 77) [23,22,21,15,14,13,12,11,9,10,8,7,6,5,4,3,2,1],.p (.V 79 69 true 9) [15,14,13,12,11,9,10,8,7,6,5,4,3,2,1],.p (.v 80 69 true (.ia 7 (.t 78) (.t 79))) [24,25,23,22,21,15,14,13,12,11,9,10,8,7,6,5,4,3,2,1],.p (.v 81 69 true (.fa 5 (.t 80))) [26,24,25,23,22,21,15,14,13,12,11,9,10,8,7,6,5,4,3,2,1],.p (.M 82 69 true 81) [27,26,24,25,23,22,21,15,14,13,12,11,9,10,8,7,6,5,4,3,2,1],.p (.N 83 69 true .eql 74 82) [20,28,19,18,16,17,27,26,24,25,23,22,21,15,14,13,12,11,9,10,8,7,6,5,4,3,2,1],.p (.v 84 59 false (.pick (.t 69) (.t 83) (.c (.bool false)))) [29,20,28,19,18,16,17,27,26,24,25,23,22,21,15,14,13,12,11,9,10,8,7,6,5,4,3,2,1],.p (.z 85 59 84) [30,29,20,28,19,18,16,17,27,26,24,25,23,22,21,15,14,13,12,11,9,10,8,7,6,5,4,3,2,1],.p (.h 86 54) [0,31,30,29,20,28,19,18,16,17,27,26,24,25,23,22,21,15,14,13,12,11,9,10,8,7,6,5,4,3,2,1],.p (.f 87 6 86) [32,0,31,30,29,20,28,19,18,16,17,27,26,24,25,23,22,21,15,14,13,12,11,9,10,8,7,6,5,4,3,2,1],.q (.s 1 87 85) true false [33,32,0,31,30,29,20,28,19,18,16,17,27,26,24,25,23,22,21,15,14,13,12,11,9,10,8,7,6,5,4,3,2,1] 0 0] [])) (.reg [.m 52 10,.u 53 .add 52 1,.m 10 53])))))) (.seq (.draw [.p (.m 88 2) [],.p (.m 89 0) [],.p (.h 90 89) [1],.p (.f 91 4 90) [2,1],.p (.l 92 91) [3,2,1],.p (.m 93 9) [],.p (.i 94 7 92 93) [4,5,3,2,1],.p (.j 95 7 94) [6,4,5,3,2,1],.p (.m 6 88) [0],.q (.s 7 7 95) true false [7,8,6,4,5,3,2,1,0] 0 0,.q (.T 8) false false [9,7,8,6,4,5,3,2,1,0] 1 1] []) .ret)) .skip))) (.reg [.m 37 9,.u 38 .add 37 1,.m 9 38])))))) (.k [.m 96 2,.o 97 (.build zX []),.m 6 96,.s 7 7 97,.F 8] .ret))))⟩
theorem ok143:okF f143 c143:=okI
noncomputable def c144:F':=⟨37,[.t 6],.k [.a 6 (.str ⟨⟨[]⟩⟩)] (.k [.m 11 0,.m 12 1,.m 13 2,.x 14 143 11 12 13,.m 10 14,.e 15 0 10,.e 16 1 10,.e 17 2 10,.o 8 (.new zX),.m 7 15,.s 7 8 16,.m 9 17] (.seq (.k [.m 18 9,.m 19 18,.v 20 19 true (.fa 0 (.t 8)),.M 21 19 true 20,.v 22 19 true (.bin .eql (.t 21) (.c (.int .i64 6))),.y 23 19 22] (.d 23 (.k [.f 24 5 8,.l 25 24,.m 6 25] .ret) .skip)) (.k [.m 26 0,.m 27 0,.h 28 27,.f 29 5 28,.l 30 29,.m 31 30,.V 32 31 false 9,.z 33 31 32,.h 34 26,.f 35 5 34,.s 1 35 33] (.k [.m 36 7,.m 6 36] .ret))))⟩
theorem ok144:okF f144 c144:=okI
noncomputable def c145:F':=⟨26,[.t 6],.k [.a 6 (.sl true [])] (.k [.a 7 (.sl true [])] (.seq (.k [.G 8 0] (.block 0 (.loop (.seq (.k [.m 9 8,.m 10 1,.L 11 10,.b 12 .lss 9 11] (.d 12 .skip (.exit 0))) (.seq (.block 1 (.reg [.m 15 7,.m 16 0,.m 17 1,.m 18 8,.i 19 7 17 18,.j 20 7 19,.m 21 2,.x 22 92 16 20 21,.o 23 (.bsl 7 [(.t 22)]),.o 24 (.app 7 80 (.t 15) (.t 23)),.m 7 24])) (.reg [.m 13 8,.u 14 .add 13 1,.m 8 14])))))) (.k [.m 25 7,.m 6 25] .ret)))⟩
theorem ok145:okF f145 c145:=okI
noncomputable def c161:F':=⟨26,[.t 6],.k [.a 6 (.sl true [])] (.k [.a 7 (.sl true [])] (.seq (.k [.G 8 0] (.block 0 (.loop (.seq (.k [.m 9 8,.m 10 1,.L 11 10,.b 12 .lss 9 11] (.d 12 .skip (.exit 0))) (.seq (.block 1 (.reg [.m 15 7,.m 16 0,.m 17 1,.m 18 8,.i 19 8 17 18,.j 20 8 19,.m 21 2,.x 22 194 16 20 21,.o 23 (.bsl 8 [(.t 22)]),.o 24 (.app 8 168 (.t 15) (.t 23)),.m 7 24])) (.reg [.m 13 8,.u 14 .add 13 1,.m 8 14])))))) (.k [.m 25 7,.m 6 25] .ret)))⟩
theorem ok161:okF f161 c161:=okI
noncomputable def c162:F':=⟨60,[.t 6],.k [.a 6 (.sl true [])] (.k [.a 7 (.sl true [])] (.k [.o 10 (.bsl 2 []),.m 11 1,.o 12 (.app 2 24 (.t 10) (.t 11)),.m 8 12] (.seq (.k [.G 9 0] (.block 0 (.loop (.seq (.k [.m 13 9,.m 14 2,.L 15 14,.b 16 .lss 13 15] (.d 16 .skip (.exit 0))) (.seq (.block 1 (.k [.m 19 7,.m 20 2,.m 21 9,.i 22 1 20 21,.l 23 22,.w 24 34 19 23,.o 25 (.un .not (.t 24))] (.d 25 (.k [.m 26 7,.m 27 2,.m 28 9,.i 29 1 27 28,.l 30 29,.o 31 (.bsl 1 [(.t 30)]),.o 32 (.app 1 16 (.t 26) (.t 31)),.m 7 32] (.seq (.draw [.p (.m 33 8) [],.p (.m 34 2) [],.p (.m 35 9) [],.p (.i 36 1 34 35) [1,2],.p (.l 37 36) [3,1,2],.p (.m 38 0) [],.p (.h 39 38) [5],.p (.f 40 0 39) [6,5],.p (.l 41 40) [7,6,5],.p (.L 42 41) [8,7,6,5],⟨.o 43 (.build (.agg [(.str ⟨⟨[]⟩⟩),(.int .i64 0)]) [(0,0,1,(.t 37)),(1,1,1,(.t 42))]),false,none,false,[4,9,3,1,2,8,7,6,5],0,0⟩,.p (.o 44 (.bsl 2 [(.t 43)])) [10,4,9,3,1,2,8,7,6,5],.q (.o 45 (.app 2 24 (.t 33) (.t 44))) true false [0,11,10,4,9,3,1,2,8,7,6,5] 0 0,.q (.m 8 45) false false [12,0,11,10,4,9,3,1,2,8,7,6,5] 1 1] []) (.draw [.q (.m 46 0) false false [] 0 1,.p (.m 47 0) [],.p (.h 48 47) [1],.p (.f 49 0 48) [2,1],.p (.l 50 49) [3,2,1],.p (.m 51 2) [],.p (.m 52 9) [],.p (.i 53 1 51 52) [5,6],.p (.l 54 53) [7,5,6],.p (.o 55 (.bsl 1 [(.t 54)])) [8,7,5,6],.q (.o 56 (.app 1 16 (.t 50) (.t 55))) true false [4,9,3,2,1,8,7,5,6] 0 0,.q (.h 57 46) false false [0,10,4,9,3,2,1,8,7,5,6] 1 1,.q (.f 58 0 57) false false [11,0,10,4,9,3,2,1,8,7,5,6] 1 1,.q (.s 1 58 56) true false [12,11,0,10,4,9,3,2,1,8,7,5,6] 1 1] []))) .skip))) (.reg [.m 17 9,.u 18 .add 17 1,.m 9 18])))))) (.k [.m 59 8,.m 6 59] .ret))))⟩
theorem ok162:okF f162 c162:=okI
noncomputable def c163:F':=⟨19,[.t 2],.k [.a 2 (.sl true [])] (.k [.a 3 (.sl true [])] (.seq (.k [.G 4 0] (.block 0 (.loop (.seq (.k [.m 5 4,.m 6 0,.L 7 6,.b 8 .lss 5 7] (.d 8 .skip (.exit 0))) (.seq (.block 1 (.reg [.m 11 3,.m 12 0,.m 13 4,.i 14 8 12 13,.f 15 0 14,.l 16 15,.o 17 (.app 1 16 (.t 11) (.t 16)),.m 3 17])) (.reg [.m 9 4,.u 10 .add 9 1,.m 4 10])))))) (.k [.m 18 3,.m 2 18] .ret)))⟩
theorem ok163:okF f163 c163:=okI
noncomputable def c175:F':=⟨25,[.t 4],.k [.G 4 0] (.seq (.k [.m 6 0,.L 7 6,.u 8 .sub 7 1,.m 5 8] (.block 0 (.loop (.seq (.k [.m 9 5,.u 10 .geq 9 0] (.d 10 .skip (.exit 0))) (.seq (.block 1 (.k [.m 13 0,.m 14 5,.i 15 2 13 14,.f 16 0 15,.l 17 16,.m 18 1,.b 19 .eql 17 18] (.d 19 (.k [.m 20 0,.m 21 5,.i 22 2 20 21,.f 23 1 22,.l 24 23,.m 4 24] .ret) .skip))) (.reg [.m 11 5,.u 12 .sub 11 1,.m 5 12])))))) (.k [.G 4 (-1)] .ret))⟩
theorem ok175:okF f175 c175:=okI
noncomputable def c176:F':=⟨30,[.t 6],.k [.a 6 (.str ⟨⟨[]⟩⟩)] (.k [.m 8 1,.m 9 2,.w 10 175 8 9,.m 7 10] (.seq (.k [.m 11 7,.u 12 .geq 11 0,.m 13 12,.V 14 13 true 7,.V 15 13 true 0,.v 16 13 true (.nck (.t 15)),.v 17 13 true (.fa 2 (.t 16)),.M 18 13 true 17,.v 19 13 true (.len false (.t 18)),.N 20 13 true .lss 14 19,.y 21 13 20] (.d 21 (.k [.m 22 0,.h 23 22,.f 24 2 23,.l 25 24,.m 26 7,.i 27 1 25 26,.l 28 27,.m 6 28] .ret) .skip)) (.k [.m 29 2,.m 6 29] .ret)))⟩
theorem ok176:okF f176 c176:=okI
noncomputable def c194:F':=⟨157,[.cell 6 (some 8)],.k [.B 4 1,.o 6 (.new zS)] (.k [.j 14 8 4,.o 7 (.new zS),.s 8 7 14] (.k [.f 15 0 7,.n (.sto 1 (.t 15) (.c sN))] (.seq (.k [.G 8 0] (.block 0 (.loop (.seq (.k [.m 16 8,.f 17 0 4,.l 18 17,.L 19 18,.b 20 .lss 16 19] (.d 20 .skip (.exit 0))) (.seq (.block 1 (.draw [.q (.f 23 0 7) false false [] 0 1,.q (.l 24 23) false true [0] 0 1,.p (.m 25 0) [],.p (.m 26 2) [],.p (.f 27 0 4) [],.p (.l 28 27) [4],.p (.m 29 8) [],.p (.i 30 1 28 29) [5,6,4],.p (.l 31 30) [7,5,6,4],.q (.x 32 176 25 26 31) true false [2,3,8,7,5,6,4] 0 0,.q (.o 33 (.bsl 1 [(.t 32)])) false false [9,2,3,8,7,5,6,4] 1 1,.q (.o 34 (.app 1 16 (.t 24) (.t 33))) true false [1,10,0,9,2,3,8,7,5,6,4] 1 1,.q (.f 35 0 7) false false [11,1,10,0,9,2,3,8,7,5,6,4] 2 2,.q (.s 1 35 34) true false [12,11,1,10,0,9,2,3,8,7,5,6,4] 2 2] [])) (.reg [.m 21 8,.u 22 .add 21 1,.m 8 22])))))) (.seq (.k [.f 36 1 4,.l 37 36] (.block 2 (.k [.u 39 .eql 37 7,.m 38 39] (.d 38 (.k [.a 9 (.sl true [])] (.seq (.k [.G 10 0] (.block 3 (.loop (.seq (.k [.m 40 10,.f 41 6 4,.l 42 41,.L 43 42,.b 44 .lss 40 43] (.d 44 .skip (.exit 3))) (.seq (.block 4 (.reg [.m 47 9,.f 48 6 4,.l 49 48,.m 50 10,.i 51 7 49 50,.f 52 3 51,.l 53 52,.o 54 (.app 1 16 (.t 47) (.t 53)),.m 9 54])) (.reg [.m 45 10,.u 46 .add 45 1,.m 10 46])))))) (.k [.m 55 0,.m 56 2,.m 57 9,.f 58 7 4,.l 59 58,.c 60 163 59,.o 61 (.app 1 16 (.t 57) (.t 60)),.x 62 162 55 56 61,.m 11 62] (.k [.f 63 6 7,.n (.sto 1 (.t 63) (.c sN))] (.seq (.k [.G 12 0] (.block 5 (.loop (.seq (.k [.m 64 12,.f 65 6 4,.l 66 65,.L 67 66,.b 68 .lss 64 67] (.d 68 .skip (.exit 5))) (.seq (.block 6 (.draw [.q (.f 71 6 7) false false [] 0 1,.q (.l 72 71) false true [0] 0 1,.p (.m 73 0) [],.p (.f 74 6 4) [],.p (.l 75 74) [3],.p (.m 76 12) [],.p (.i 77 7 75 76) [4,5,3],.p (.j 78 7 77) [6,4,5,3],.p (.m 79 2) [],.p (.m 80 11) [],.q (.o 81 (.call (.f 230) [(.t 73),(.t 78),(.t 79),(.t 80)])) true false [2,7,8,9,6,4,5,3] 0 0,.q (.o 82 (.bsl 7 [(.t 81)])) false false [10,2,7,8,9,6,4,5,3] 1 1,.q (.o 83 (.app 7 120 (.t 72) (.t 82))) true false [1,11,0,10,2,7,8,9,6,4,5,3] 1 1,.q (.f 84 6 7) false false [12,1,11,0,10,2,7,8,9,6,4,5,3] 2 2,.q (.s 1 84 83) true false [13,12,1,11,0,10,2,7,8,9,6,4,5,3] 2 2] [])) (.reg [.m 69 12,.u 70 .add 69 1,.m 12 70])))))) (.k [.m 85 0,.f 86 7 4,.l 87 86,.m 88 11,.x 89 161 85 87 88,.f 90 7 7,.s 1 90 89] (.k [.j 91 8 7,.s 8 6 91] .ret))))))) (.k [.u 93 .eql 37 8,.m 92 93] (.d 92 (.k [.m 94 0,.f 95 7 4,.l 96 95,.m 97 2,.x 98 117 94 96 97,.f 99 7 7,.s 1 99 98] (.k [.j 100 8 7,.s 8 6 100] .ret)) (.k [.u 102 .eql 37 6,.m 101 102] (.d 101 (.reg [.m 103 0,.m 104 2,.f 105 2 4,.l 106 105,.x 107 144 103 104 106,.f 108 2 7,.s 1 108 107]) .skip)))))))) (.k [.m 109 0,.f 110 3 4,.l 111 110,.m 112 2,.x 113 231 109 111 112,.f 114 3 7,.s 1 114 113] (.k [.f 115 5 7,.n (.sto 1 (.t 115) (.c sN))] (.seq (.k [.G 13 0] (.block 7 (.loop (.seq (.k [.m 116 13,.f 117 5 4,.l 118 117,.L 119 118,.b 120 .lss 116 119] (.d 120 .skip (.exit 7))) (.seq (.block 8 (.draw [.q (.f 123 5 7) false false [] 0 1,.q (.l 124 123) false true [0] 0 1,.q (.f 125 5 4) false false [] 0 1,.q (.l 126 125) false true [2] 0 1,.q (.m 127 13) false false [] 0 1,.q (.i 128 2 126 127) false true [3,4,2] 0 1,.q (.f 129 0 128) false false [5,3,4,2] 0 1,.q (.l 130 129) false true [6,5,3,4,2] 0 1,.p (.m 131 0) [],.p (.f 132 5 4) [],.p (.l 133 132) [9],.p (.m 134 13) [],.p (.i 135 2 133 134) [10,11,9],.p (.f 136 1 135) [12,10,11,9],.p (.l 137 136) [13,12,10,11,9],.p (.m 138 2) [],.q (.x 139 145 131 137 138) true false [8,14,15,13,12,10,11,9] 0 0,.q (.o 140 (.build zE [(0,0,1,(.t 130)),(1,1,1,(.t 139))])) false false [7,16,6,5,3,4,2,8,14,15,13,12,10,11,9] 1 1,.q (.o 141 (.bsl 2 [(.t 140)])) false false [17,7,16,6,5,3,4,2,8,14,15,13,12,10,11,9] 1 1,.q (.o 142 (.app 2 32 (.t 124) (.t 141))) true false [1,18,0,17,7,16,6,5,3,4,2,8,14,15,13,12,10,11,9] 1 1,.q (.f 143 5 7) false false [19,1,18,0,17,7,16,6,5,3,4,2,8,14,15,13,12,10,11,9] 2 2,.q (.s 1 143 142) true false [20,19,1,18,0,17,7,16,6,5,3,4,2,8,14,15,13,12,10,11,9] 2 2] [])) (.reg [.m 121 13,.u 122 .add 121 1,.m 13 122])))))) (.k [.m 144 0,.f 145 4 4,.l 146 145,.m 147 2,.x 148 145 144 146 147,.f 149 4 7,.s 1 149 148] (.k [.m 150 0,.f 151 7 4,.l 152 151,.m 153 2,.x 154 232 150 152 153,.f 155 7 7,.s 1 155 154] (.k [.j 156 8 7,.s 8 6 156] .ret))))))))))⟩
theorem ok194:okF f194 c194:=okI
noncomputable def c230:F':=⟨110,[.cell 8 (some 7)],.k [.B 5 1,.o 8 (.new zD)] (.k [.j 16 7 5,.o 9 (.new zD),.s 7 9 16] (.k [.f 17 3 9,.n (.sto 1 (.t 17) (.c sN))] (.seq (.k [.G 10 0] (.block 0 (.loop (.seq (.k [.m 18 10,.f 19 3 5,.l 20 19,.L 21 20,.b 22 .lss 18 21] (.d 22 .skip (.exit 0))) (.seq (.block 1 (.draw [.q (.f 25 3 9) false false [] 0 1,.q (.l 26 25) false true [0] 0 1,.p (.m 27 0) [],.p (.m 28 3) [],.p (.f 29 3 5) [],.p (.l 30 29) [4],.p (.m 31 10) [],.p (.i 32 1 30 31) [5,6,4],.p (.l 33 32) [7,5,6,4],.q (.x 34 176 27 28 33) true false [2,3,8,7,5,6,4] 0 0,.q (.o 35 (.bsl 1 [(.t 34)])) false false [9,2,3,8,7,5,6,4] 1 1,.q (.o 36 (.app 1 16 (.t 26) (.t 35))) true false [1,10,0,9,2,3,8,7,5,6,4] 1 1,.q (.f 37 3 9) false false [11,1,10,0,9,2,3,8,7,5,6,4] 2 2,.q (.s 1 37 36) true false [12,11,1,10,0,9,2,3,8,7,5,6,4] 2 2] [])) (.reg [.m 23 10,.u 24 .add 23 1,.m 10 24])))))) (.seq (.k [.f 38 0 5,.l 39 38,.u 40 .eql 39 2] (.d 40 (.k [.m 41 0,.f 42 4 5,.l 43 42,.m 44 2,.x 45 145 41 43 44,.f 46 4 9,.s 1 46 45] (.k [.j 47 7 9,.s 7 8 47] .ret)) .skip)) (.k [.m 48 0,.f 49 4 5,.l 50 49,.m 51 3,.x 52 145 48 50 51,.f 53 4 9,.s 1 53 52] (.seq (.k [.f 54 0 5,.l 55 54,.u 56 .neq 55 4] (.d 56 (.k [.j 57 7 9,.s 7 8 57] .ret) .skip)) (.k [.a 11 (.sl true [])] (.seq (.k [.G 12 0] (.block 2 (.loop (.seq (.k [.m 58 12,.f 59 5 5,.l 60 59,.L 61 60,.b 62 .lss 58 61] (.d 62 .skip (.exit 2))) (.seq (.block 3 (.reg [.m 65 11,.f 66 5 5,.l 67 66,.m 68 12,.i 69 4 67 68,.f 70 0 69,.l 71 70,.o 72 (.bsl 1 [(.t 71)]),.o 73 (.app 1 16 (.t 65) (.t 72)),.m 11 73])) (.reg [.m 63 12,.u 64 .add 63 1,.m 12 64])))))) (.k [.m 74 0,.m 75 3,.m 76 11,.x 77 162 74 75 76,.m 13 77] (.k [.f 78 5 9,.n (.sto 1 (.t 78) (.c sN))] (.seq (.k [.G 14 0] (.block 4 (.loop (.seq (.k [.m 79 14,.f 80 5 5,.l 81 80,.L 82 81,.b 83 .lss 79 82] (.d 83 .skip (.exit 4))) (.seq (.block 5 (.k [.f 86 5 5,.l 87 86,.m 88 14,.i 89 4 87 88,.j 90 4 89,.o 15 (.new zF),.s 4 15 90] (.k [.m 91 0,.m 92 13,.f 93 0 15,.l 94 93,.x 95 176 91 92 94,.f 96 0 15,.s 1 96 95] (.reg [.f 97 5 9,.l 98 97,.j 99 4 15,.o 100 (.bsl 4 [(.t 99)]),.o 101 (.app 4 40 (.t 98) (.t 100)),.f 102 5 9,.s 1 102 101])))) (.reg [.m 84 14,.u 85 .add 84 1,.m 14 85])))))) (.k [.m 103 0,.f 104 6 5,.l 105 104,.m 106 13,.x 107 232 103 105 106,.f 108 6 9,.s 1 108 107] (.k [.j 109 7 9,.s 7 8 109] .ret)))))))))))))⟩
theorem ok230:okF f230 c230:=okI
noncomputable def c231:F':=⟨43,[.t 6],.k [.a 6 (.sl true [])] (.k [.m 9 0,.m 10 1,.m 11 2,.x 12 145 9 10 11,.m 7 12] (.seq (.k [.G 8 0] (.block 0 (.loop (.seq (.k [.m 13 8,.m 14 7,.L 15 14,.b 16 .lss 13 15] (.d 16 .skip (.exit 0))) (.seq (.block 1 (.reg [.m 19 0,.m 20 0,.h 21 20,.f 22 5 21,.l 23 22,.m 24 23,.V 25 24 false 7,.V 26 24 false 8,.v 27 24 false (.ia 7 (.t 25) (.t 26)),.v 28 24 false (.fa 0 (.t 27)),.M 29 24 false 28,.v 30 24 false (.bin .neq (.t 29) (.c (.int .i64 6))),.V 31 24 false 30,.V 32 31 true 7,.V 33 31 true 8,.v 34 31 true (.ia 7 (.t 32) (.t 33)),.v 35 31 true (.fa 0 (.t 34)),.M 36 31 true 35,.v 37 31 true (.bin .neq (.t 36) (.c (.int .i64 7))),.v 38 24 false (.pick (.t 31) (.t 37) (.c (.bool false))),.z 39 24 38,.h 40 19,.f 41 5 40,.s 1 41 39])) (.reg [.m 17 8,.u 18 .add 17 1,.m 8 18])))))) (.k [.m 42 7,.m 6 42] .ret)))⟩
theorem ok231:okF f231 c231:=okI
noncomputable def c232:F':=⟨28,[.t 6],.k [.a 6 (.sl true [])] (.k [.a 7 (.sl true [])] (.seq (.k [.G 8 0] (.block 0 (.loop (.seq (.k [.m 10 8,.m 11 1,.L 12 11,.b 13 .lss 10 12] (.d 13 .skip (.exit 0))) (.seq (.block 1 (.k [.m 16 0,.m 17 1,.m 18 8,.i 19 8 17 18,.j 20 8 19,.o 21 (.bsl 8 [(.t 20)]),.m 22 2,.x 23 117 16 21 22,.m 9 23] (.reg [.m 24 7,.m 25 9,.o 26 (.app 8 168 (.t 24) (.t 25)),.m 7 26]))) (.reg [.m 14 8,.u 15 .add 14 1,.m 8 15])))))) (.k [.m 27 7,.m 6 27] .ret)))⟩
theorem ok232:okF f232 c232:=okI
def Rd(v:V)(l:List Bz)(S:St):Prop:=lenS v=some (.int .i64 l.length)∧∀(i:Nat) (h:i<l.length),∃p,iaS S 1 v i=some p∧ldS S p none=some (.str l[i])
theorem Rd.sl(b:Bool)(l:List Bz)(S:St):Rd (.sl b (l.map .str)) l S:=⟨by simp[lenS],fun i h=>⟨_,Q4 h b S,by simp[ldS]⟩⟩
theorem Rd.arr{lo wr:Nat}{l:List Bz}{S:St}(h:S[lo]?=some (.arr (l.map .str) 1 wr))(hw:wr≤l.length):Rd (.arr lo 0 l.length l.length) l S:=
 ⟨rfl,fun i hi=>⟨.ptr lo i 0 l.length,by simp[iaS,h,hw,hi],by simp[ldS,h,hw,hi]⟩⟩
theorem qbx(v:V)(l:List Bz)(s:Bz)(S:St)(hl:l.length≤1000000)(hr:Rd v l S):Fn prog 34 [v,.str s] S (.bool (ZG s l)):=by
 obtain ⟨hlen,hrd⟩:=hr;refine qB.ib func34 ok34 ?_;simp[c34];refine qq (fun n e S'=>∃i:Nat,n=l.length - i∧i≤l.length∧(∀j,(h:j<l.length)→j<i→l[j]≠s)∧S'=S∧
  e=[(5,.int .i64 i),(4,.bool false),(0,v),(1,.str s)]) l.length _ ?_ ⟨0,by simp,by omega,by omega,rfl,rfl⟩ ?_
 ·exact Env.so (by simp)
 rintro n e S' ⟨i,rfl,hi,hno,rfl,rfl⟩;by_cases h:i<l.length
 ·obtain ⟨p,hp1,hp2⟩:=hrd i h;by_cases he:l[i]=s
  ·rw[he] at hp2;simp[↓yz,hlen,h,hp1,hp2];exact qi rfl ⟨by rw[zq.2 (by rw[←he];exact qp5 h)];rfl,rfl⟩
  ·simp[↓yz,hlen,h,hp1,hp2,he,qO (n:=(i:Int)+1)];refine ⟨_,?_,_,?_,i+1,rfl,by omega,fun j hj hji=>?_,rfl⟩
   ·omega
   ·exact Env.so (by simp)
   ·by_cases hj':j=i
    ·subst hj';exact he
    ·exact hno j hj (by omega)
 ·simp[↓yz,hlen,h];refine qi rfl ⟨?_,rfl⟩;rw[QS.2]
  ·rfl
  intro hs;obtain ⟨j,hj,rfl⟩:=qqW hs;exact hno j hj (by omega) rfl
def yj(e:Bz×Nat):V:=.agg [.str e.1,.int .i64 e.2]
theorem qfC(e:Bz×Nat):(yj e).size=2:=rfl
theorem qmg{l:Sco}{i:Nat}(h:i<l.length)(b:Bool)(S:St):iaS S 2 (.sl b (l.map yj)) i=some (.iptr (yj l[i]) 0):=qbV (f:=yj) qfC h b S
def jl(l:Sco)(x:Bz):Option Nat:=Sco.at l.reverse x
def qmV(l:Sco)(x:Bz):V:=.int .i64 (match jl l x with|some k=>(k:Int)|none=>-1)
theorem qbr{l:Sco}{x:Bz}:Sco.at l x=none↔∀e,e∈l→e.1≠x:=by
 unfold Sco.at;simp[List.find?_eq_none]
theorem qfK(l:Sco)(b:Bool)(x:Bz)(hl:l.length≤1000000)(S:St):Fn prog 175 [.sl b (l.map yj),.str x] S (qmV l x):=by
 refine qB.ib func175 ok175 ?_;simp[c175,qy (n:=(l.length:Int) - 1) (by omega) (by omega)];refine qE (fun e U=>jl l x=none∧U=S) ?_ ?_
 ·refine qq (fun k e U=>k≤l.length∧(∀i,(h:i<l.length)→k≤i→l[i].1≠x)∧U=S∧
   e=[(5,.int .i64 ((k:Int) - 1)),(0,.sl b (l.map yj)),(1,.str x)]) l.length _ ?_ ⟨qp0 _,by omega,rfl,rfl⟩ ?_
  ·exact Env.so (by simp)
  rintro k e U ⟨hk,hno,rfl,rfl⟩;by_cases h0:k=0
  ·subst h0;simp;unfold jl;rw[qbr];intro e he;obtain ⟨i,hi,rfl⟩:=qqW (List.mem_reverse.1 he);exact hno i hi (qqB _)
  ·obtain ⟨m,rfl⟩:∃m,k=m+1:=⟨k - 1,by omega⟩;have hm:m<l.length:=by omega
   have e1:((m+1:Nat):Int) - 1=m:=by omega
   rw[e1];have hg:(0:Int)≤m:=by omega
   by_cases hx:l[m].1=x
   ·simp[hg,qmg hm,yj,ldS,hx,jf];refine qi rfl ⟨?_,rfl⟩;unfold qmV
    have:jl l x=some l[m].2:=by
     unfold jl Sco.at;have hs:l=l.take m++(l[m]::l.drop (m+1)):=by rw[←qqZ hm,qqE]
     conv=>lhs;rw[hs]
     rw[List.reverse_append,List.reverse_cons,qro,qro]
     have hn:(l.drop (m+1)).reverse.find? (fun p=>decide (p.1=x))=none:=by
      rw[List.find?_eq_none];intro e he;obtain ⟨i,hi,rfl⟩:=qqW (List.mem_reverse.1 he);rw[List.getElem_drop];simp only[List.length_drop] at hi;have:=hno (m+1+i) (by omega) (by omega);simpa using this
     rw[hn];simp[hx]
    rw[this];rfl
   ·simp[hg,qmg hm,yj,ldS,hx,qy (n:=(m:Int) - 1) (by omega) (by omega)];refine ⟨m,by omega,_,?_,by omega,fun i hi hmi=>?_,rfl⟩
    ·exact Env.so (by simp)
    ·by_cases hj':m=i
     ·subst hj';exact hx
     ·exact hno i hi (by omega)
 rintro e U ⟨hn,rfl⟩;simp;refine qi rfl ⟨?_,rfl⟩;unfold qmV;rw[hn];rfl
theorem QL(s:Bz)(taken:List Bz)(ht:taken.length≤899):∃n,1≤n∧n≤999∧jt s n∉taken∧∀i,1≤i→i<n→jt s i∈taken:=by
 have h1:¬ ∀i,i<900→jt s (100+i)∈taken:=fun h=>by
  have:=qgI taken 900 (fun i=>jt s (100+i)) (fun i j hi hj he=>qhC hi hj he) h;omega
 have h2:∃n,1≤n∧n≤999∧jt s n∉taken:=by
  apply Classical.byContradiction;intro hn;exact h1 fun i hi=>Classical.byContradiction fun hc=>hn ⟨100+i,by omega,by omega,hc⟩
 obtain ⟨n,h1,h2,h3⟩:=h2
 induction n using Nat.strongRecOn with
 | ind n ih=>
  by_cases hm:∃m,1≤m∧m<n∧jt s m∉taken
  ·obtain ⟨m,a,b,c⟩:=hm;exact ih m b a (by omega) c
  ·exact ⟨n,h1,h2,h3,fun i hi hl=>Classical.byContradiction fun hc=>hm ⟨i,hi,hl,hc⟩⟩
theorem zu.exists(s:Bz)(taken:List Bz)(ht:taken.length≤899):∃t,zu s taken t:=by
 by_cases hs:s∈taken
 ·obtain ⟨n,h1,_,h2,h3⟩:=QL s taken ht;exact ⟨_,.inr ⟨hs,n,h1,rfl,h2,h3⟩⟩
 ·exact ⟨s,.inl ⟨hs,rfl⟩⟩
theorem qjW(v:V)(s:Bz)(taken:List Bz)(S:St)(hr:Rd v taken S)(hs:s.size≤16)(ht:taken.length≤899):
  qB prog 45 [.str s,v] S (fun v U=>(∃t,v=.str t∧zu s taken t)∧U=S):=by
 refine qB.ib func45 ok45 ?_;simp[c45];refine qj (qbx v taken s S (by omega) hr) ?_
 cases hi:ZG s taken with
 | false=>
  simp;exact qi rfl ⟨⟨s,rfl,.inl ⟨QS.1 hi,rfl⟩⟩,rfl⟩
 | true=>
  obtain ⟨N,hN1,hN2,hN3,hN4⟩:=QL s taken ht;simp;refine qq (fun k e S'=>∃m:Nat,k=N - m∧1≤m∧m≤N∧S'=S∧e=[(5,.int .i64 m),(4,.str ⟨⟨[]⟩⟩),(0,.str s),(1,v)]) (N - 1) _ ?_ ⟨1,rfl,by omega,hN1,rfl,rfl⟩ ?_
  ·exact Env.so (by simp)
  rintro k e S' ⟨m,rfl,hm1,hm2,rfl,rfl⟩;simp;refine qj (qm8 m (by omega) S') ?_;have hd:=qc7 m (by omega);simp[evX,mmV,YR];rw[qiF,qoQ _ _ hd,qjm (by omega)];simp;rw[kg (by rw[qiF];simp;omega),qgE];simp;refine qj (qbx v taken (jt s m) S' (by omega) hr) ?_
  cases hc:ZG (jt s m) taken with
  | false=>
   simp;exact qi rfl ⟨⟨jt s m,rfl,.inr ⟨zq.1 hi,m,hm1,rfl,QS.1 hc,fun i h1 h2=>hN4 i h1 (by omega)⟩⟩,rfl⟩
  | true=>
   have hmN:m≠N:=fun hh=>hN3 (by rw[←hh];exact zq.1 hc)
   simp;refine ⟨_,?_,_,?_,m+1,rfl,by omega,by omega,rfl⟩
   ·omega
   ·rw[qy (by omega) (by omega)];exact Env.so (by simp)
theorem qlE(s:Bz)(g:Nat)(cs:List V)(p:Bz→Bool)(taken:List Bz)(S:St)(hp:∀x,Fn prog g ([.str x]++cs) S (.bool (p x)))(hk:∀x,p x=true↔x∈taken)(hs:s.size≤16)(ht:taken.length≤899):
  qB prog 77 [.str s,.fn (.func g) [] cs] S (fun v U=>(∃t,v=.str t∧zu s taken t)∧U=S):=by
 have nk:∀x,p x=false→x∉taken:=fun x h hh=>by
  rw[(hk x).2 hh] at h;cases h
 refine qB.ib func77 ok77 ?_;simp[c77];refine qj (hp s) ?_
 cases hi:p s with
 | false=>
  simp;exact qi rfl ⟨⟨s,rfl,.inl ⟨nk s hi,rfl⟩⟩,rfl⟩
 | true=>
  obtain ⟨N,hN1,hN2,hN3,hN4⟩:=QL s taken ht;simp;refine qq (fun k e S'=>∃m:Nat,k=N - m∧1≤m∧m≤N∧S'=S∧e=[(5,.int .i64 m),(4,.str ⟨⟨[]⟩⟩),(0,.str s),(1,.fn (.func g) [] cs)]) (N - 1) _ ?_ ⟨1,rfl,by omega,hN1,rfl,rfl⟩ ?_
  ·exact Env.so (by simp)
  rintro k e S' ⟨m,rfl,hm1,hm2,rfl,rfl⟩;simp;refine qj (qjG m (by omega) S') ?_;have hd:=qc7 m (by omega);simp[evX,mmV,YR];rw[qiF,qoQ _ _ hd,qjm (by omega)];simp;rw[kg (by rw[qiF];simp;omega),qgE];simp;refine qj (hp (jt s m)) ?_
  cases hc:p (jt s m) with
  | false=>
   simp;exact qi rfl ⟨⟨jt s m,rfl,.inr ⟨(hk _).1 hi,m,hm1,rfl,nk _ hc,fun i h1 h2=>hN4 i h1 (by omega)⟩⟩,rfl⟩
  | true=>
   have hmN:m≠N:=fun hh=>hN3 (by rw[←hh];exact (hk _).1 hc)
   simp;refine ⟨_,?_,_,?_,m+1,rfl,by omega,by omega,rfl⟩
   ·omega
   ·rw[qy (by omega) (by omega)];exact Env.so (by simp)
set_option maxRecDepth 20000
noncomputable def c110:F':=⟨11,[.t 5],.k [.a 5 (.str ⟨⟨[]⟩⟩)] (.k [.l 6 2,.m 7 0,.m 8 1,.o 9 (.call (.t 6) [(.t 7),(.t 8)])] (.k [.m 10 0,.m 5 10] .ret))⟩
theorem ok110:okF f110 c110:=okI
abbrev ptV(p:Nat):V:=.ptr p 0 0 1
def coU(h:List Bz×List Bz)(x:Bz)(sc:Scs):List Bz×List Bz:=match sc.at x with
 | some _=>h
 | none=>(h.1++[x],h.2)
def coP:Pw where
 H:=List Bz×List Bz
 f _ x:=x
 nm:=some fun x _ _=>x
 cl:=some fun x _=>x
 ent h _ x:=(h.1,h.2++[x])
 nmH h x sc _:=coU h x.text sc
 clH h x sc:=coU h x sc
structure Co(m c4 c5 c6:Nat)(h:List Bz×List Bz)(v:V)(ps:List Nat)(F D:Np)(U:St):Prop where
 f4:U[c4]?=some (.arr [.map m] 1 1)
 fm:∃bs ck,qaY bs ck∧U[m]?=some (.map ((h.1.foldl Yv []).map kv) bs ck)
 f5:U[c5]?=some (.arr [v] 1 1)
 f6:U[c6]?=some (.arr [.fn (.func 107) [] [.ptr c4 0 0 1]] 1 1)
 gr:(ps=[]∧v=.sl true [])∨∃a wr,v=.arr a 0 ps.length ps.length∧U[a]?=some (.arr (ps.map ptV) 1 wr)∧wr≤ps.length∧F a∧a≠c5
 pn:ps.length=h.2.length
 pl:∀i p x,ps[i]?=some p→h.2[i]?=some x→D p∧U[p]?=some (plc x i x)
 dF:∀l,F l→l=m∨l=c5∨∃n,v=.arr l 0 n n
 dD:∀l,D l→l=c4∨l=c6∨l∈ps
 hm:F m
 h5:F c5
 h4:D c4
 h6:D c6
def coC(m c4 c5 c6:Nat):Cb where
 toPw:=coP
 fe:=.fn (.func 108) [] [.ptr c5 0 0 1]
 fn:=.fn (.func 109) [] [.ptr c6 0 0 1]
 fc:=.fn (.func 110) [] [.ptr c6 0 0 1]
 I h F D U:=∃v ps,Co m c4 c5 c6 h v ps F D U
 cn h n:=h.2.length=n
 lim:=100001
theorem qd6{U:St}{i j:Nat}{a b:Ob}(h:U[i]?=some a)(g:U[j]?=some b)(n:a≠b):i≠j:=by
 rintro rfl;rw[h] at g;cases g;exact n rfl
section
variable {m c4 c5 c6:Nat} {h:List Bz×List Bz} {v:V} {ps:List Nat} {F D:Np} {U:St}
theorem Co.place(k:Co m c4 c5 c6 h v ps F D U){p:Nat}(hp:p∈ps):∃x i,D p∧U[p]?=some (plc x i x):=by
 obtain ⟨i,hi⟩:=List.mem_iff_getElem?.1 hp;have h1:=(qpU.1 hi).1;rw[k.pn] at h1;exact ⟨_,i,k.pl i p _ hi (qpZ h1)⟩
theorem Co.gF(k:Co m c4 c5 c6 h v ps F D U){l:Nat}(hl:F l):∃o,U[l]?=some o∧(∀i,o≠.loop i)∧¬ D l:=by
 have nD:∀o,U[l]?=some o→o≠.arr [.map m] 1 1→o≠.arr [.fn (.func 107) [] [.ptr c4 0 0 1]] 1 1→(∀x i,o≠plc x i x)→¬ D l:=fun o ho n1 n2 n3 hD=>by
  rcases k.dD l hD with rfl|rfl|hp
  ·rw[k.f4] at ho;cases ho;exact n1 rfl
  ·rw[k.f6] at ho;cases ho;exact n2 rfl
  ·obtain ⟨x,i,_,h2⟩:=k.place hp;rw[h2] at ho;cases ho;exact n3 x i rfl
 rcases k.dF l hl with rfl|rfl|⟨n,hv⟩
 ·obtain ⟨bs,ck,hst,hm⟩:=k.fm;exact ⟨_,hm,by simp,nD _ hm (by simp) (by simp) (by simp[plc])⟩
 ·refine ⟨_,k.f5,by simp,nD _ k.f5 ?_ ?_ (by simp[plc])⟩
  ·rcases k.gr with ⟨_,rfl⟩|⟨a,wr,rfl,_⟩ <;> simp
  ·rcases k.gr with ⟨_,rfl⟩|⟨a,wr,rfl,_⟩ <;> simp
 ·rcases k.gr with ⟨_,rfl⟩|⟨a,wr,rfl,ha,_,_⟩
  ·cases hv
  ·cases hv;refine ⟨_,ha,by simp,nD _ ha ?_ ?_ (by simp[plc])⟩
   ·intro hh;injection hh with hh;cases ps <;> simp at hh
   ·intro hh;injection hh with hh;cases ps <;> simp at hh
theorem Co.gD(k:Co m c4 c5 c6 h v ps F D U){l:Nat}(hl:D l):∃o,U[l]?=some o∧∀i,o≠.loop i:=by
 rcases k.dD l hl with rfl|rfl|hp
 ·exact ⟨_,k.f4,by simp⟩
 ·exact ⟨_,k.f6,by simp⟩
 ·obtain ⟨x,i,_,h2⟩:=k.place hp;exact ⟨_,h2,by simp[plc]⟩
theorem Co.fr{U':St}{M:Np}(k:Co m c4 c5 c6 h v ps F D U)(hk:Kp M U U')(hM:∀l,M l→l<U.length→¬ F l∧¬ D l):Co m c4 c5 c6 h v ps F D U':=by
 have nF:∀{l o},U[l]?=some o→F l→U'[l]?=some o:=fun ho hf=>hk.at ho fun hm=>(hM _ hm (glt ho)).1 hf
 have nD:∀{l o},U[l]?=some o→D l→U'[l]?=some o:=fun ho hf=>hk.at ho fun hm=>(hM _ hm (glt ho)).2 hf
 obtain ⟨bs,ck,hst,hm⟩:=k.fm;exact ⟨nD k.f4 k.h4,⟨bs,ck,hst,nF hm k.hm⟩,nF k.f5 k.h5,nD k.f6 k.h6,k.gr.imp id fun ⟨a,wr,h1,h2,h3,h4,h5⟩=>⟨a,wr,h1,nF h2 h4,h3,h4,h5⟩,k.pn,fun i p x h1 h2=>⟨(k.pl i p x h1 h2).1,nD (k.pl i p x h1 h2).2 (k.pl i p x h1 h2).1⟩,k.dF,k.dD,k.hm,k.h5,k.h4,k.h6⟩
theorem Co.use(k:Co m c4 c5 c6 h v ps F D U)(x:Bz){bs:List Nat}{ck:Nat}(hst:qaY bs ck):Co m c4 c5 c6 (h.1++[x],h.2) v ps F D (U.set m (.map (((h.1++[x]).foldl Yv []).map kv) bs ck)):=by
 obtain ⟨bs0,ck0,_,hm⟩:=k.fm
 have g:∀{l o},U[l]?=some o→(∀a b c,o≠Ob.map a b c)→(U.set m (.map (((h.1++[x]).foldl Yv []).map kv) bs ck))[l]?=some o:=fun {l o} ho n=>by
  rw[qpX]
  ·exact ho
  ·exact qd6 hm ho (Ne.symm (n _ _ _))
 exact ⟨g k.f4 (by simp),⟨bs,ck,hst,qpW (glt hm)⟩,g k.f5 (by simp),g k.f6 (by simp),k.gr.imp id fun ⟨a,wr,h1,h2,h3,h4,h5⟩=>⟨a,wr,h1,g h2 (by simp),h3,h4,h5⟩,k.pn,fun i p x h1 h2=>⟨(k.pl i p x h1 h2).1,g (k.pl i p x h1 h2).2 (by simp[plc])⟩,k.dF,k.dD,k.hm,k.h5,k.h4,k.h6⟩
end
theorem qlh{S:St}{sz bytes:Nat}{y:V}{b:Bool}(hy:fits sz [y]=true)(hr:bytes≤2 ^ 47):QP S sz bytes (.sl true []) (.sl b [y])=some (.arr S.length 0 1 1,S++[.arr [y] sz 1]):=by
 unfold QP;rw[yf];have hc:true=true∧fits sz [y]=true∧(([]:List V).all fun v=>v.size==sz)=true∧(([]:List V).length+[y].length) * bytes≤2 ^ 47:=⟨rfl,hy,rfl,by simpa using hr⟩;show (if ([y]:List V).isEmpty=true then _ else _)=_;rw[if_neg (by simp),if_pos hc];simp
theorem qlj{S:St}{sz bytes l wr:Nat}{xs:List V}{y:V}{b:Bool}(h3:S[l]?=some (.arr xs sz wr))(hy:fits sz [y]=true)(hr:(xs.length+1) * bytes≤2 ^ 47):QP S sz bytes (.arr l 0 xs.length xs.length) (.sl b [y])=some (.arr l 0 (xs.length+1) (xs.length+1),S.set l (.arr (xs++[y]) sz wr)):=by
 have hc:0=0∧xs.length=xs.length∧xs.length=xs.length∧sz=sz∧fits sz [y]=true∧(xs.length+[y].length) * bytes≤2 ^ 47:=⟨rfl,rfl,rfl,rfl,hy,hr⟩;unfold QP;rw[yf];show (match S[l]? with|_=>_)=_;rw[h3];show (if _ then _ else _)=_;rw[if_pos hc];rfl
theorem qkG{m c4 c5 c6:Nat}{h:List Bz×List Bz}{v:V}{ps:List Nat}{F D:Np}{U:St}(k:Co m c4 c5 c6 h v ps F D U)(p:Nat)(x:Bz)(hp:U[p]?=some (plc x h.2.length x))(nF:¬ F p)(hn:h.2.length≤100000):
  qB prog 108 [.ptr p 0 0 1,.ptr c5 0 0 1] U (fun _ U'=>∃v' F',Co m c4 c5 c6 (h.1,h.2++[x]) v' (ps++[p]) F' (fun l=>D l∨l=p) U'∧U'[p]?=some (plc x h.2.length x)∧Kp (fun l=>l=p∨F l) U U'∧grow U F F'):=by
 refine qB.ib func108 ok108 ?_;have hpn:=k.pn;obtain ⟨bs,ck,hst,hm⟩:=k.fm;have fin:∀(U1:St) (a wr:Nat),U1[a]?=some (.arr ((ps++[p]).map ptV) 1 wr)→wr≤ps.length+1→(F a∨U.length≤a)→a≠c5→a≠m→U.length≤U1.length→(∀l o,U[l]?=some o→l≠a→U1[l]?=some o)→
   ∃v' F',Co m c4 c5 c6 (h.1,h.2++[x]) v' (ps++[p]) F' (fun l=>D l∨l=p) (U1.set c5 (.arr [.arr a 0 (ps.length+1) (ps.length+1)] 1 1))∧(U1.set c5 (.arr [.arr a 0 (ps.length+1) (ps.length+1)] 1 1))[p]?=some (plc x h.2.length x)∧Kp (fun l=>l=p∨F l) U (U1.set c5 (.arr [.arr a 0 (ps.length+1) (ps.length+1)] 1 1))∧grow U F F':=by
  intro U1 a wr h2 h3 h4 h5 h5' h6' h6
  have q:∀{l o},U[l]?=some o→l≠c5→l≠a→(U1.set c5 (.arr [.arr a 0 (ps.length+1) (ps.length+1)] 1 1))[l]?=some o:=fun {l o} ho n1 n2=>by
   rw[qpX (Ne.symm n1)];exact h6 l o ho n2
  have nq:∀{l o},U[l]?=some o→¬ F l→(U1.set c5 (.arr [.arr a 0 (ps.length+1) (ps.length+1)] 1 1))[l]?=some o:=fun {l o} ho hF=>
   q ho (by rintro rfl;exact hF k.h5) (by rintro rfl;exact h4.elim hF fun hh=>by have:=glt ho;omega)
  have nDF:∀{l},D l→¬ F l:=fun hD hF=>by obtain ⟨_,_,_,h⟩:=k.gF hF;exact h hD
  refine ⟨.arr a 0 (ps.length+1) (ps.length+1),fun l=>l=m∨l=c5∨l=a,⟨nq k.f4 (nDF k.h4),⟨bs,ck,hst,q hm ?_ (Ne.symm h5')⟩,qpW ?_,nq k.f6 (nDF k.h6),.inr ⟨a,wr,by simp,?_,by simpa using h3,.inr (.inr rfl),h5⟩,by simp[hpn],fun i p' x' g1 g2=>?_,fun l hl=>?_,fun l hl=>?_,.inl rfl,.inr (.inl rfl),.inl k.h4,.inl k.h6⟩,nq hp nF,⟨by simpa using h6',fun l hl hn=>?_⟩,fun l hl=>?_⟩
  ·refine qd6 hm k.f5 (by simp)
  ·have:=glt k.f5;omega
  ·rw[qpX (Ne.symm h5)];exact h2
  ·by_cases hi:i<ps.length
   ·rw[qpY hi] at g1;rw[qpY (by omega)] at g2;obtain ⟨e1,e2⟩:=k.pl i p' x' g1 g2;exact ⟨.inl e1,nq e2 (nDF e1)⟩
   ·have h1:=(qpU.1 g1).1;rw[qp8,List.length_singleton] at h1;have:i=ps.length:=by omega
    subst this;simp at g1;rw[hpn] at g2;simp at g2;subst g1 g2;have e:=nq hp nF;rw[←hpn] at e;exact ⟨.inr rfl,e⟩
  ·exact hl.imp id fun hl=>hl.imp id fun hl=>⟨ps.length+1,by rw[hl]⟩
  ·rcases hl with hl|rfl
   ·exact (k.dD l hl).imp id fun hl=>hl.imp id fun hl=>by simp[hl]
   ·exact .inr (.inr (by simp))
  ·have:∃o,U[l]?=some o:=⟨_,qpZ hl⟩;obtain ⟨o,ho⟩:=this;rw[ho];exact nq ho fun hf=>hn (.inr hf)
  ·rcases hl with rfl|rfl|rfl
   ·exact .inl k.hm
   ·exact .inl k.h5
   ·exact h4
 have hf:=k.f5;have hft:fits 1 [V.ptr p 0 0 1]=true:=rfl;rcases k.gr with ⟨rfl,rfl⟩|⟨a,wr,rfl,ha,hw,hF,hne⟩
 ·have happ:=qlh (S:=U) (sz:=1) (bytes:=8) (y:=.ptr p 0 0 1) (b:=true) rfl (by omega);have hs:(U++[Ob.arr [.ptr p 0 0 1] 1 1])[c5]?=some (.arr [.sl true []] 1 1):=gp hf;simp[c108,ldS,hf,hft,evX,happ,stS,hs];refine qI rfl ?_;exact (fin (U++[Ob.arr [ptV p] 1 1]) U.length 1 (by simp) (by simp) (.inr (qp0 _)) (by have:=glt hf;omega) (by have:=glt hm;omega) (by simp) fun l o ho _=>gp ho)
 ·have happ:=qlj (S:=U) (sz:=1) (bytes:=8) (y:=.ptr p 0 0 1) (b:=true) ha rfl (by rw[qp2];omega);simp at happ;have hs:(U.set a (Ob.arr (ps.map ptV++[.ptr p 0 0 1]) 1 wr))[c5]?=some (.arr [.arr a 0 ps.length ps.length] 1 1):=by rw[qpX hne];exact hf
  simp[c108,ldS,hf,hft,evX,happ,stS,hs];refine qI rfl ?_;exact (fin (U.set a (Ob.arr (ps.map ptV++[.ptr p 0 0 1]) 1 wr)) a wr (by rw[qpW (glt ha),qqe];rfl) (by omega) (.inl hF) hne (qd6 ha hm (by simp)) (by simp) fun l o ho hl=>by rw[qpX (Ne.symm hl)];exact ho)
section
variable {m c4 c5 c6:Nat} {h:List Bz×List Bz} {v:V} {ps:List Nat} {F D:Np} {U:St}
theorem Co.lt(k:Co m c4 c5 c6 h v ps F D U){l:Nat}(hl:F l∨D l):l<U.length:=by
 rcases hl with hl|hl
 ·obtain ⟨_,h,_⟩:=k.gF hl;exact glt h
 ·obtain ⟨_,h,_⟩:=k.gD hl;exact glt h
theorem Co.push(k:Co m c4 c5 c6 h v ps F D U)(os:List Ob):Co m c4 c5 c6 h v ps F D (U++os):=k.fr (M:=fun _=>False) ((Kp.refl _ _).push _) fun _ h=>h.elim
theorem Co.set(k:Co m c4 c5 c6 h v ps F D U){l:Nat}(o:Ob)(hF:¬ F l)(hD:¬ D l):Co m c4 c5 c6 h v ps F D (U.set l o):=k.fr (M:=fun x=>x=l) ((Kp.refl _ _).set _ (.inl rfl)) fun x hx _=>by rw[hx];exact ⟨hF,hD⟩
end
theorem qfM{m c4 c5 c6:Nat}{h:List Bz×List Bz}{v:V}{ps:List Nat}{F D:Np}{U:St}(k:Co m c4 c5 c6 h v ps F D U){X:Np}{w:V}{ts:List Sct}(hsc:ScR coP X U w ts)(x:Bz):
  qB prog 107 [.str x,w,.ptr c4 0 0 1] U (fun _ U'=>Co m c4 c5 c6 (coU h x (Scx ts)) v ps F D U'∧Kp F U U'):=by
 refine qB.ib func107 ok107 ?_;simp[c107];refine qj (qaV hsc x) ?_;have hat:=jR ts x;unfold coU;rw[hat];have h4:=k.f4;obtain ⟨bs,ck,hst,hm⟩:=k.fm
 cases hf:fnd ts x with
 | some q=>
  simp[kP,hf,Z6,eqV];exact qI rfl ⟨k,Kp.refl _ _⟩
 | none=>
  simp[kP,hf,Z6,eqV,ldS,h4];have hft:fits 1 [V.str x]=true:=rfl;simp[hft];refine qm (qi2 true [x] _ bs ck m U (by simp) hm) ?_;rintro r U' ⟨bs',ck',hst',rfl⟩;simp;have:=k.use x (hst' hst);rw[qrA] at this;exact qI rfl ⟨this,(Kp.refl _ _).set _ (.inl k.hm)⟩
theorem qkg{m c4 c5 c6:Nat}{h:List Bz×List Bz}{v:V}{ps:List Nat}{F D:Np}{U:St}(k:Co m c4 c5 c6 h v ps F D U){X:Np}{w:V}{ts:List Sct}(hsc:ScR coP X U w ts)(x:Ex)(tg:Bool):
  qB prog 109 [x.v,w,.bool tg,.ptr c6 0 0 1] U (fun r U'=>r=x.v∧Co m c4 c5 c6 (coU h x.text (Scx ts)) v ps F D U'∧Kp F U U'):=by
 refine qB.ib func109 ok109 ?_;simp[c109,qw];obtain ⟨U1,hU1⟩:∃U1:St,U1=U++[.arr [x.v] 7 1,.arr [.agg [.int .i64 0,.int .i64 0,.int .i64 0,.int .i64 0,.int .i64 0,.str ⟨⟨[]⟩⟩,.sl true []]] 7 1]:=⟨_,rfl⟩;rw[←hU1];have l1:U1.length=U.length+2:=by rw[hU1];simp
 have b0:U1[U.length]?=some (.arr [x.v] 7 1):=by rw[hU1];simp
 have b1:U1[U.length+1]?=some (.arr [.agg [.int .i64 0,.int .i64 0,.int .i64 0,.int .i64 0,.int .i64 0,.str ⟨⟨[]⟩⟩,.sl true []]] 7 1):=by rw[hU1,qpV (by omega)];simp
 have k1:Co m c4 c5 c6 h v ps F D U1:=by rw[hU1];exact k.push _
 have s1:ScR coP X U1 w ts:=by rw[hU1];exact hsc.push _
 have kp1:Kp F U U1:=by rw[hU1];exact (Kp.refl _ _).push _
 clear hU1;have h6:=k1.f6;have nF:∀j,¬ F (U.length+j):=fun j hf=>by have:=k.lt (.inl hf);omega
 have nD:∀j,¬ D (U.length+j):=fun j hf=>by have:=k.lt (.inr hf);omega
 simp[ldS,h6,b0];refine qm (qfM k1 s1 x.text) ?_;rintro r U2 ⟨k2,kp2⟩;have c0:=kp2.at b0 (nF 0);have c1:=kp2.at b1 (nF 1);simp[ldS,c0,stS,c1,qc];have hz:(U2.set (U.length+1) (.arr [x.v] 7 1))[U.length+1]?=some (.arr [x.v] 7 1):=qpW (glt c1);exact qi (vs:=[x.v]) (by simp[rvs,ldS,hz]) ⟨rfl,k2.set _ (nF 1) (nD 1),(kp1.trans kp2).set _ (.inr (by omega))⟩
theorem qlw{m c4 c5 c6:Nat}{h:List Bz×List Bz}{v:V}{ps:List Nat}{F D:Np}{U:St}(k:Co m c4 c5 c6 h v ps F D U){X:Np}{w:V}{ts:List Sct}(hsc:ScR coP X U w ts)(x:Bz):
  qB prog 110 [.str x,w,.ptr c6 0 0 1] U (fun r U'=>r=.str x∧Co m c4 c5 c6 (coU h x (Scx ts)) v ps F D U'∧Kp F U U'):=by
 refine qB.ib func110 ok110 ?_;have h6:=k.f6;simp[c110,ldS,h6];refine qm (qfM k hsc x) ?_;rintro r U2 ⟨k2,kp2⟩;simp;exact qi rfl ⟨rfl,k2,kp2⟩
theorem Co.real{m c4 c5 c6:Nat}{h:List Bz×List Bz}{v:V}{ps:List Nat}{F D:Np}{S:St}(k:Co m c4 c5 c6 h v ps F D S)(h':List Bz×List Bz):∃F' D' U v' ps',Co m c4 c5 c6 h' v' ps' F' D' U∧Kp F S U∧grow S F F'∧grow S D D':=by
 obtain ⟨bs,ck,hst,hm⟩:=k.fm;obtain ⟨n,hn⟩:∃n,n=h'.2.length:=⟨_,rfl⟩;obtain ⟨ps',hps⟩:∃ps':List Nat,ps'=(List.range n).map (S.length+·):=⟨_,rfl⟩;have lps:ps'.length=n:=by rw[hps];simp
 obtain ⟨os,hos⟩:∃os:List Ob,os=(h'.2.zipIdx.map fun e=>plc e.1 e.2 e.1)++[.arr (ps'.map ptV) 1 0]:=⟨_,rfl⟩;have los:os.length=n+1:=by rw[hos,hn];simp
 obtain ⟨U,hU⟩:∃U:St,U=((S++os).set m (.map ((h'.1.foldl Yv []).map kv) [] 0)).set c5 (.arr [.arr (S.length+n) 0 n n] 1 1):=⟨_,rfl⟩;have lm:=glt hm;have l5:=glt k.f5;have nDF:∀{l},D l→¬ F l:=fun hD hF=>by obtain ⟨_,_,_,h⟩:=k.gF hF;exact h hD
 have q:∀{l o},S[l]?=some o→¬ F l→U[l]?=some o:=fun {l o} ho hf=>by
  rw[hU,qpX (by rintro rfl;exact hf k.h5),qpX (by rintro rfl;exact hf k.hm)];rw[qpY (glt ho)];exact ho
 have new:∀j o,os[j]?=some o→U[S.length+j]?=some o:=fun j o ho=>by
  rw[hU,qpX (by omega),qpX (by omega),qpV (by omega),qrj];exact ho
 refine ⟨fun l=>l=m∨l=c5∨l=S.length+n,fun l=>l=c4∨l=c6∨l∈ps',U,.arr (S.length+n) 0 n n,ps',⟨q k.f4 (nDF k.h4),⟨[],0,qaY.nil,?_⟩,?_,q k.f6 (nDF k.h6),.inr ⟨S.length+n,0,by rw[lps],new n _ ?_,qqB _,.inr (.inr rfl),by omega⟩,by rw[lps,hn],fun i p x h1 h2=>⟨.inr (.inr (qp6 h1)),?_⟩,fun l hl=>hl.imp id fun hl=>hl.imp id fun hl=>⟨n,by rw[hl]⟩,fun l hl=>hl,.inl rfl,.inr (.inl rfl),.inl rfl,.inr (.inl rfl)⟩,⟨?_,fun l hl hf=>?_⟩,fun l hl=>?_,fun l hl=>?_⟩
 ·rw[hU,qpX (qd6 k.f5 hm (by simp)),qpW (by simp;omega)]
 ·rw[hU,qpW (by simp;omega)]
 ·rw[hos,qpV (by simp[hn])];simp[hn]
 ·rw[hps] at h1;simp at h1;obtain ⟨j,hj,rfl⟩:=h1;obtain ⟨h3,h4⟩:=qpU.1 hj;rw[List.getElem_range] at h4;rw[List.length_range] at h3;subst h4;refine new i _ ?_;rw[hos,qpY (by simp;omega)];simp[h2]
 ·rw[hU];simp
 ·obtain ⟨o,ho⟩:∃o,S[l]?=some o:=⟨_,qpZ hl⟩;rw[ho];exact q ho hf
 ·rcases hl with rfl|rfl|rfl
  ·exact .inl k.hm
  ·exact .inl k.h5
  ·exact .inr (by omega)
 ·rcases hl with rfl|rfl|hl
  ·exact .inl k.h4
  ·exact .inl k.h6
  ·rw[hps] at hl;simp at hl;omega
theorem qnn(m c4 c5 c6:Nat):(coC m c4 c5 c6).Ok where
 lim:=qp0 _
 lt:=fun ⟨v,ps,k⟩ l hl=>k.lt hl
 fr:=fun ⟨v,ps,k⟩ hk hM=>⟨v,ps,k.fr hk hM⟩
 lp:=fun ⟨v,ps,k⟩ l o ho=>⟨fun hf=>by obtain ⟨_,h1,h2,_⟩:=k.gF hf;rw[ho] at h1;cases h1;exact h2 _ rfl,fun hf=>by obtain ⟨_,h1,h2⟩:=k.gD hf;rw[ho] at h1;cases h1;exact h2 _ rfl⟩
 ce x hc:=by
  show (_++[x]).length=_+1;rw[qp8];exact congrArg (·+1) hc
 cm x sc tg hc:=by
  show (coU _ x.text sc).2.length=_;unfold coU;split <;> exact hc
 cc x sc hc:=by
  show (coU _ x sc).2.length=_;unfold coU;split <;> exact hc
 real:=fun {h F D S} ⟨v,ps,k⟩ h'=>by
  obtain ⟨F',D',U,v',ps',a,b,c,d⟩:=k.real h';exact ⟨F',D',U,⟨v',ps',a⟩,b,c,d⟩
 en:=.inr ⟨108,[.ptr c5 0 0 1],rfl,fun U p k x h F D hp hF hD hk hc ⟨v,ps,kk⟩=>by
  have hc:h.2.length=k:=hc;subst hc;refine qB.mono (qkG kk p x hp hF (Nat.le_of_lt_succ hk)) fun r U' ⟨v',F',a,b,c,d⟩=>?_
  exact ⟨F',fun l=>D l∨l=p,⟨v',ps++[p],a⟩,b,c,d,fun l hl=>hl.imp id .inl⟩⟩
 nm:=⟨109,[.ptr c6 0 0 1],rfl,fun U x w ts tg w' h F D hsc ⟨v,ps,k⟩=>qB.mono (qkg k hsc x tg) fun r U' ⟨a,b,c⟩=>⟨a,F,D,⟨v,ps,b⟩,c,grow.refl _ _,grow.refl _ _⟩⟩
 cl:=⟨110,[.ptr c6 0 0 1],rfl,fun U x w ts w' h F D hsc ⟨v,ps,k⟩=>qB.mono (qlw k hsc x) fun r U' ⟨a,b,c⟩=>⟨a,F,D,⟨v,ps,b⟩,c,grow.refl _ _,grow.refl _ _⟩⟩
def qpJ(s:Sm)(S:St)(r:V)(U:St):Prop:=∃(m c4 c5 c6:Nat) (v:V) (ps:List Nat) (F D:Np),r=.tup [.map m,v]∧Co m c4 c5 c6 (s.wholeH coP ([],[])) v ps F D U∧Kp (fun _=>False) S U∧(∀l,F l∨D l→S.length≤l)
theorem jv(y:V):V.upd .nilmap 0 1 y=if y.size=1∧y.cells.all V.flat=true then some y else none:=rfl
theorem qmE(s:Sm)(hs:s.ok)(hsz:(Pa.st s).size≤4000)(hn:Sm.nb1 [s]≤100000)(S:St):qB prog 58 [s.v] S (fun r U=>qpJ s S r U):=by
 refine qB.ib func58 ok58 ?_;simp[c58,qw,ldS,stS,qc,ql,qh,evX,jv,qa4];obtain ⟨B,hB⟩:∃B,B=S.length:=⟨_,rfl⟩;obtain ⟨S1,hS1⟩:∃S1:St,S1=S++[.arr [s.v] 8 1,.map [] [] 0,.arr [.map (B+1)] 1 1,.arr [.sl true []] 1 1,.arr [.fn (.func 107) [] [.ptr (B+2) 0 0 1]] 1 1,.arr [.agg [.int .i64 0,.fn (.func 108) [] [.ptr (B+3) 0 0 1],.fn (.func 109) [] [.ptr (B+4) 0 0 1],.fn (.func 110) [] [.ptr (B+4) 0 0 1]]] 4 1]:=⟨_,rfl⟩;rw[←hB,←hS1];have l1:S1.length=B+6:=by rw[hS1,hB];simp
 have g:∀j o,[Ob.arr [s.v] 8 1,.map [] [] 0,.arr [.map (B+1)] 1 1,.arr [.sl true []] 1 1,.arr [.fn (.func 107) [] [.ptr (B+2) 0 0 1]] 1 1,.arr [.agg [.int .i64 0,.fn (.func 108) [] [.ptr (B+3) 0 0 1],.fn (.func 109) [] [.ptr (B+4) 0 0 1],.fn (.func 110) [] [.ptr (B+4) 0 0 1]]] 4 1][j]?=some o→S1[B+j]?=some o:=fun j o ho=>by
  rw[hS1,qpV (by omega),hB,qrj,←hB];exact ho
 have kS:Kp (fun _=>False) S S1:=by rw[hS1];exact (Kp.refl _ _).push _
 have k1:Co (B+1) (B+2) (B+3) (B+4) ([],[]) (.sl true []) [] (fun l=>l=B+1∨l=B+3) (fun l=>l=B+2∨l=B+4) S1:=
  ⟨g 2 _ rfl,⟨[],0,qaY.nil,g 1 _ rfl⟩,g 3 _ rfl,g 4 _ rfl,.inl ⟨rfl,rfl⟩,rfl,fun i p x h=>by simp at h,fun l hl=>hl.imp id .inl,fun l hl=>hl.imp id .inl,.inl rfl,.inr rfl,.inl rfl,.inr rfl⟩
 have hw:Wk (coC (B+1) (B+2) (B+3) (B+4)) (B+5) 0 ([],[]) (fun l=>l=B+1∨l=B+3) (fun l=>l=B+2∨l=B+4) S1:=⟨g 5 _ rfl,⟨_,_,k1⟩,by omega,by omega,rfl⟩;clear g hS1 k1;refine qm (qi9 (coC (B+1) (B+2) (B+3) (B+4)) (qnn _ _ _ _) (B+5) s hs hsz ([],[]) _ _ S1 hw (Nat.le_succ_of_le hn)) ?_;rintro r U ⟨rfl,F2,D2,k2,s2⟩;obtain ⟨v,ps,kk⟩:=k2.st;have h4:=kk.f4;have h5:=kk.f5;have hvc:v.cells=[v]:=by rcases kk.gr with ⟨_,rfl⟩|⟨a,wr,rfl,_⟩ <;> rfl
 simp[ldS,h4,h5,hvc,Qd,zA,zK];refine qi rfl ⟨_,_,_,_,_,_,_,_,rfl,kk,⟨qqS kS.len s2.k.len,fun l hl hn=>?_⟩,fun l hl=>?_⟩
 ·rw[s2.k.get l (by omega) (by rintro (hh|hh|hh) <;> omega)];exact kS.get l hl hn
 ·rcases hl with hl|hl
  ·rcases s2.gF l hl with (h|h)|h <;> omega
  ·rcases s2.gD l hl with (h|h)|h <;> omega
mutual
def Ex.occ:Ex→List Bz
 | .mk k _ _ _ _ t a=>Ex.occl a++(if Ex.named k then [t] else [])
def Ex.occl:List Ex→List Bz
 | []=>[]
 | x::l=>Ex.occ x++Ex.occl l
end
def El.occl:List El→List Bz
 | []=>[]
 | x::l=>Ex.occl x.exps++El.occl l
mutual
def Sm.occ:Sm→List Bz
 | .mk _ k t g e h d b=>if k=7 then De.occl d++Sm.occl b else if k=8 then Sm.occl b else Ex.occl g++Ex.occl e++El.occl h++Sm.occl b++(if k=6 then [t] else [])
def De.occ:De→List Bz
 | .mk k _ _ _ e _ b=>if k=4 then Sm.occl b else Ex.occl e
def De.occl:List De→List Bz
 | []=>[]
 | x::l=>De.occ x++De.occl l
def Sm.occl:List Sm→List Bz
 | []=>[]
 | x::l=>Sm.occ x++Sm.occl l
end
section
variable {f:Nat→Bz} {nm:Bz→Bool} (hf:∀k,nm (f k)=false)
def yR(h:coP.H):List Bz:=Prod.fst (α:=List Bz) (β:=List Bz) h
theorem zL(s:Sco):∀h:coP.H,yR (enters coP h s)=yR h:=by
 induction s with
 | nil=>intro h;rfl
 | cons e s ih=>intro h;exact ih _
include hf
theorem qhi(h:coP.H)(sc:Scs)(t:Bz)(ht:nm t=true):yR (coP.clH h t sc)=yR h++[jo f sc t].filter nm:=by
 show Prod.fst (coU h t sc)=_;unfold coU jo yR
 cases sc.at t with
 | none=>simp[ht]
 | some k=>simp[hf]
omit hf in
theorem qjc(sc:Scs)(tg:Bool)(h:coP.H)(k o n m e:Int)(t:Bz)(a:List Ex):coP.nmS sc tg h (.mk k o n m e t a)=if Ex.named k=true then coP.clH h t sc else h:=rfl
omit hf in
theorem qi5(sc:Scs)(k:Int)(h:coP.H)(t:Bz):coP.clS sc k h t=if k=6 then coP.clH h t sc else h:=rfl
def coZ:coP.H:=(([],[]):List Bz×List Bz)
mutual
theorem Ex.fr(sc:Scs)(tg:Bool):∀(x:Ex) (h:coP.H),(Pa.ex x).valid nm=true→yR (Ex.hs coP sc tg h x)=yR h++(Ex.occ (x.w f sc)).filter nm
 | .mk k o n m e t a,h,v=>by
  have ha:=Ex.frl sc false a h (Ex.valid_args v);rw[Ex.hs,Ex.w,Ex.occ,qqH,←qp4,←ha];rw[qjc];by_cases hk:Ex.named k=true
  ·rw[if_pos hk,if_pos hk,if_pos hk];exact qhi hf _ sc t (Ex.valid_text v hk)
  ·rw[if_neg hk,if_neg hk,List.filter_nil,qqV]
theorem Ex.frl(sc:Scs)(tg:Bool):∀(l:List Ex) (h:coP.H),(∀x,x∈l→(Pa.ex x).valid nm=true)→yR (Ex.hsl coP sc tg h l)=yR h++(Ex.occl (Ex.wl f sc l)).filter nm
 | [],h,_=>by simp[Ex.hsl,Ex.wl,Ex.occl]
 | x::l,h,v=>by
  rw[Ex.hsl,Ex.wl,Ex.occl,Ex.frl sc tg l _ fun y hy=>v y (by simp[hy])];have:=Ex.fr sc tg x h (v x (by simp));rw[qqH,←qp4,←this]
end
theorem El.frl(sc:Scs):∀(l:List El) (h:coP.H),(∀x,x∈l→(Pa.el x).valid nm=true)→yR (El.hsl coP sc h l)=yR h++(El.occl (l.map (El.w f sc))).filter nm
 | [],h,_=>by simp[El.hsl,El.occl]
 | x::l,h,v=>by
  have h1:=Ex.frl hf sc false x.exps h (fun y hy=>(Pa.valid_iff.1 (v x (by simp))).2 _ (by simp only[Pa.kids];exact qqz hy));have h2:=El.frl sc l (Ex.hsl coP sc false h x.exps) fun y hy=>v y (by simp[hy])
  show yR (El.hsl coP sc (Ex.hsl coP sc false h x.exps) l)=_;rw[h2,h1,qqd,El.occl,qqH,←qp4];unfold El.w;rw[←Ex.wl_map]
mutual
theorem Sm.fr:∀(s:Sm) (sc:Scs) (n:Nat) (h:coP.H),(Pa.st s).valid nm=true→yR (Sm.hs coP sc n h s)=yR h++(s.w f sc n).occ.filter nm
 | .mk l k t g e el d b,sc,n,h,v=>by
  obtain ⟨v7,v8,v9⟩:=Sm.valid_block v;have vd:=Sm.valid_decls v;have vb:=Sm.valid_body v;have vg:=Sm.valid_targets v;have ve:=Sm.valid_exps v;have vl:=Sm.valid_elems v;have vt:=Sm.valid_text v;simp only[Sm.decls,Sm.body,Sm.targets,Sm.exps,Sm.elems,Sm.kind,Sm.text] at vd vb vg ve vl vt;rw[Sm.hs,Sm.w];by_cases h7:k=7
  ·obtain ⟨rfl,rfl,rfl⟩:=v7 h7;rw[if_pos h7,if_pos h7,Sm.occ,if_pos h7,qqH,←qp4];rw[Sm.frl b _ _ _ vb,De.frl d _ _ _ _ vd,zL];rfl
  ·rw[if_neg h7,if_neg h7];by_cases h8:k=8
   ·obtain ⟨rfl,rfl,rfl,rfl⟩:=v8 h8;rw[if_pos h8,if_pos h8,Sm.occ,if_neg h7,if_pos h8];rw[Sm.frl b _ _ _ vb,zL];rfl
   ·obtain rfl:=v9 h7 h8;rw[if_neg h8,if_neg h8,Sm.occ,if_neg h7,if_neg h8];have e1:=Ex.frl hf sc true g h vg;have e2:=Ex.frl hf sc false e (Ex.hsl coP sc true h g) ve;have e3:=El.frl hf sc el (Ex.hsl coP sc false (Ex.hsl coP sc true h g) e) vl;have e4:=Sm.fr1 b sc n (El.hsl coP sc (Ex.hsl coP sc false (Ex.hsl coP sc true h g) e) el) vb;rw[e3,e2,e1] at e4;simp only[qqH];rw[qi5];by_cases h6:k=6
    ·rw[if_pos h6,if_pos h6,if_pos h6];have e5:=qhi hf (Sm.hs1 coP sc n (El.hsl coP sc (Ex.hsl coP sc false (Ex.hsl coP sc true h g) e) el) b) sc t (vt h6);refine Eq.trans e5 ?_;rw[e4];simp only[qp4]
    ·rw[if_neg h6,if_neg h6];refine Eq.trans e4 ?_;simp only[qp4,List.filter_nil,qqV]
theorem De.fr:∀(s:De) (own sc:Scs) (n:Nat) (h:coP.H),(Pa.de s).valid nm=true→yR (De.hs coP own sc n h s)=yR h++(s.w f own sc n).occ.filter nm
 | .mk k o t ns e fo b,own,sc,n,h,v=>by
  obtain ⟨v4,v5⟩:=De.valid_proc v;have vb:=De.valid_body v;have ve:=De.valid_exps v;simp only[De.body,De.exps] at vb ve;rw[De.hs,De.w];by_cases h4:k=4
  ·obtain rfl:=v4 h4;rw[if_pos h4,if_pos h4,De.occ,if_pos h4,Sm.fr1 b _ _ _ vb,zL];rfl
  ·obtain ⟨rfl,rfl⟩:=v5 h4;rw[if_neg h4,if_neg h4,De.occ,if_neg h4];exact Ex.frl hf _ _ e h ve
theorem De.frl:∀(l:List De) (own sc:Scs) (n:Nat) (h:coP.H),(∀x,x∈l→(Pa.de x).valid nm=true)→yR (De.hsl coP own sc n h l)=yR h++(De.occl (De.wl f own sc n l)).filter nm
 | [],_,_,_,h,_=>by simp[De.hsl,De.wl,De.occl]
 | x::l,own,sc,n,h,v=>by
  rw[De.hsl,De.wl,De.occl,De.frl l own sc _ _ fun y hy=>v y (by simp[hy]),De.fr x own sc n h (v x (by simp)),qqH,qp4]
theorem Sm.frl:∀(l:List Sm) (sc:Scs) (n:Nat) (h:coP.H),(∀x,x∈l→(Pa.st x).valid nm=true)→yR (Sm.hsl coP sc n h l)=yR h++(Sm.occl (Sm.wl f sc n l)).filter nm
 | [],_,_,h,_=>by simp[Sm.hsl,Sm.wl,Sm.occl]
 | x::l,sc,n,h,v=>by
  rw[Sm.hsl,Sm.wl,Sm.occl,Sm.frl l sc _ _ fun y hy=>v y (by simp[hy]),Sm.fr x sc n h (v x (by simp)),qqH,qp4]
theorem Sm.fr1:∀(l:List Sm) (sc:Scs) (n:Nat) (h:coP.H),(∀x,x∈l→(Pa.st x).valid nm=true)→yR (Sm.hs1 coP sc n h l)=yR h++(Sm.occl (Sm.w1 f sc n l)).filter nm
 | [],_,_,h,_=>by simp[Sm.hs1,Sm.w1,Sm.occl]
 | x::l,sc,n,h,v=>by
  rw[Sm.hs1,Sm.w1,Sm.occl,Sm.fr1 l sc _ _ fun y hy=>v y (by simp[hy]),Sm.fr x _ _ _ (v x (by simp)),zL,qqH,qp4]
end
theorem Sm.free_occ(s:Sm)(v:(Pa.st s).valid nm=true):yR (s.wholeH coP coZ)=(s.whole f).occ.filter nm:=by
 have:=Sm.fr hf s [qd s.labels 0] (qd s.labels 0).length (enters coP coZ (qd s.labels 0)) v;refine this.trans ?_;show yR (enters coP coZ (qd s.labels 0))++_=_;rw[zL];rfl
end
end Go.Proofs.YtbifpocccfkhhaaGreatDoor


namespace Go.Proofs.YtbifpocccfkhhaaGreatDoor
open Go
def qa6(ks:List Bz):List Bz:=((ks.map fun k=>k.data.toList).mergeSort fun x y=>decide (x≤y)).map fun l=>⟨l.toArray⟩
theorem qar(ks:List Bz):(qa6 ks).length=ks.length:=by unfold qa6;simp
end Go.Proofs.YtbifpocccfkhhaaGreatDoor
end
