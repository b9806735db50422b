/- A part. -/
import Derived.Test.YtbifpocccfkhhaaGreatDoorWi
import Derived.Test.YtbifpocccfkhhaaGreatDoorWf
set_option linter.all false
noncomputable section
namespace Go.Proofs.YtbifpocccfkhhaaGreatDoor
open Go
def Sm.Eb(p:Pw)(sc:ag)(n:Nat)(s:Sm):s.wr p sc n=
  if s.kind=7 then .mk (il p sc s.labels) s.kind s.text (Ex.aL p sc true s.targets) s.ak s.elems (De.aL p (ah (bM s.decls s.body) n::sc) sc (n+(ah (bM s.decls s.body) n).length) s.decls) (Sm.aL p (ah (bM s.decls s.body) n::sc) (n+(ah (bM s.decls s.body) n).length+De.aJ s.decls) s.body)
  else if s.kind=8 then .mk (il p sc s.labels) s.kind s.text (Ex.aL p sc true s.targets) s.ak s.elems s.decls (Sm.aL p (ah (bq s.body) n::sc) (n+(ah (bq s.body) n).length) s.body)
  else .mk (il p sc s.labels) s.kind (p.oN sc s.kind s.text) (Ex.aL p sc true s.targets) (Ex.aL p sc false s.ak) (El.aL p sc s.elems) s.decls (Sm.dW p sc n s.body):=by
 cases s;rw[Sm.wr];rfl
def Sm.hs_eq(p:Pw)(sc:ag)(n:Nat)(h:p.H)(s:Sm):s.hs p sc n h=
  if s.kind=7 then Sm.hsl p (ah (bM s.decls s.body) n::sc) (n+(ah (bM s.decls s.body) n).length+De.aJ s.decls) (De.hsl p (ah (bM s.decls s.body) n::sc) sc (n+(ah (bM s.decls s.body) n).length) (enters p (Ex.hsl p sc true h s.targets) (ah (bM s.decls s.body) n)) s.decls) s.body
  else if s.kind=8 then Sm.hsl p (ah (bq s.body) n::sc) (n+(ah (bq s.body) n).length) (enters p (Ex.hsl p sc true h s.targets) (ah (bq s.body) n)) s.body
  else p.mf sc s.kind (Sm.hs1 p sc n (El.hsl p sc (Ex.hsl p sc false (Ex.hsl p sc true h s.targets) s.ak) s.elems) s.body) s.text:=by
 cases s;rw[Sm.hs];rfl
def Sm.CU(s:Sm):s.nb=if s.kind=7 then(ah (bM s.decls s.body) 0).length+De.aJ s.decls+Sm.aJ s.body else if s.kind=8 then(ah (bq s.body) 0).length+Sm.aJ s.body else Sm.aX s.body:=by
 cases s;rw[Sm.nb];rfl
def Sm.mZ(s:Sm):(Pa.st s).size=1+s.labels.length+aY (s.targets.map Pa.ex)+aY (s.ak.map Pa.ex)+aY (s.elems.map Pa.el)+aY (s.decls.map Pa.de)+aY (s.body.map Pa.st):=by
 rw[Pa.size_eq];simp only[Pa.own,Pa.kids,pf];omega
def yV{U:St}{x:Nat}{o:Ob}{os:List Ob}(h:U[x]?=some o):(U++os)[x]?=some o:=by rw[b8 (aT.1 h).1];exact h
abbrev bX:V:=.agg [.sl true [],.int .i64 0,.str ⟨⟨[]⟩⟩,.sl true [],.sl true [],.sl true [],.sl true [],.sl true []]
def cS.yb{p:Pw}{w:Nat}{F D F' D':Np}{S X:St}{v:V}{ts:List cT}(h:cS p (fun l=>l=w\/F l) S v ts)(s:Stp w F D S F' D' X):cS p (fun l=>l=w\/F' l\/(l=S.length\/l=S.length+1)) X v ts:=
 h.mono s.k fun l hh=>by
  rcases hh with hh|hh|hh|hh
  .exact .inl (.inl hh)
  .exact(s.gF l hh).imp .inr id
  .exact .inr oM
  .exact .inr oM
structure Bx(c:Cb)(w n:Nat)(h:c.H)(F D:Np)(S:St)(y:Sm)(F' D':Np)(X:St):Prop where
 b0:X[S.length]?=some (.arr [y.v] 8 1)
 b1:X[S.length+1]?=some (.arr [bX] 8 1)
 wk:Wk c w n h F' D' X
 st:Stp w F D S F' D' X
 o0:er w F' D' S.length
 o1:er w F' D' (S.length+1)
section
variable {c:Cb} (ok:c.Ok) {w n:Nat} {h:c.H} {F D F' D':Np} {S X:St} {y:Sm} (b:Bx c w n h F D S y F' D' X)
include b
theorem Bx.call{n':Nat}{h':c.H}{x r:V}{U:St}(d:Wd c w n' h' F' D' X x r U):r=x/\∃F2 D2,Bx c w n' h' F D S y F2 D2 U:=by
 obtain⟨rfl,F2,D2,k,s⟩:=d;have l0:=aM b.b0;have l1:=aM b.b1;exact⟨rfl,F2,D2,s.at b.o0 b.b0,s.at b.o1 b.b1,k,b.st.trans s,b.o0.next l0 s,b.o1.next l1 s⟩
theorem Bx.step{n':Nat}{h':c.H}{F2 D2:Np}{U:St}(k:Wk c w n' h' F2 D2 U)(s:Stp w F' D' X F2 D2 U):Bx c w n' h' F D S y F2 D2 U:=by
 have l0:=aM b.b0;have l1:=aM b.b1;exact⟨s.at b.o0 b.b0,s.at b.o1 b.b1,k,b.st.trans s,b.o0.next l0 s,b.o1.next l1 s⟩
omit b in
def Yb(S:St)(l:Nat):Prop:=l=S.length\/l=S.length+1
include ok
theorem Bx.put(y':Sm):Bx c w n h F D S y' F' D' (X.set S.length (.arr [y'.v] 8 1)):=by
 have l1:=aM b.b1;exact⟨bJ (aM b.b0),by rw[bC oM];exact b.b1,b.wk.set ok _ b.o0.1 b.o0.2.1 b.o0.2.2,b.st.set _ bL,b.o0,b.o1⟩
theorem Bx.push(os:List Ob):Bx c w n h F D S y F' D' (X++os):=⟨yV b.b0,yV b.b1,b.wk.push ok _,b.st.push _,b.o0,b.o1⟩
theorem Bx.fin{e:af}(he:e.get 6=some (.ptr (S.length+1) 0 0 1)):eH [.cell 6 (some 8)] S.length (fun r U=>Wd c w n h F D S y.v r U) .ret e (X.set (S.length+1) (.arr [y.v] 8 1)):=by
 have hz:(X.set (S.length+1) (.arr [y.v] 8 1))[S.length+1]?=some (.arr [y.v] 8 1):=bJ (aM b.b1);exact aS (vs:=[y.v]) (by simp[dm,he,ae,hz]) ⟨rfl,F',D',b.wk.set ok _ b.o1.1 b.o1.2.1 b.o1.2.2,b.st.set _ oM⟩
end
def sH(a:List Bz)(k:Int)(t:Bz)(g e:List Ex)(l:List El)(d:List De)(b:List Sm):V.agg [.sl false (a.map .str),.int .i64 k,.str t,.sl false (g.map Ex.v),.sl false (e.map Ex.v),.sl false (l.map El.v),.sl false (d.map De.v),.sl false (b.map Sm.v)]=(Sm.mk a k t g e l d b).v:=by rw[Sm.dJ];rfl
def qaC{c:Cb}(ok:c.Ok){w n:Nat}{h:c.H}{F D Y:Np}{S:St}{v:V}{ts:List cT}(hk:Wk c w n h F D S)(hY:∀l,Y l->l<S.length)(hsc:cS c.toPw (fun l=>l=w\/F l\/Y l) S v ts)(s:bw)(hc:c.cn (enters c.toPw h s) (n+s.length)):∃r U,N4 c w n h F D Y ts s S r U:=by
 obtain⟨F',D',U0,q1,q2,q3,q4⟩:=ok.real hk.st (enters c.toPw h s);obtain⟨⟨ka,kb,kd⟩,st⟩:=hk.Jj ok q1 q2 q3 q4;have hlt:=(aT.1 ka).1;have hl0:=st.k.len;obtain⟨t,ht⟩:∃t:cT,t=s.zipIdx.map fun e=>(e.1.1,e.1.2,U0.length+3+e.2):=⟨_,rfl⟩
 have hts:t.kK=s:=by
  rw[ht];unfold cT.kK;rw[lu];apply ou;intro i;simp only[dS,List.getElem?_zipIdx];cases s[i]?<;>rfl
 have htl:=bw.CL hts;obtain⟨os,hos⟩:∃os:List Ob,os=[.arr [.agg [v]] 1 1,.map (t.map oR) (zJ t.length) t.length,.arr [.agg [.ptr U0.length 0 0 1,.map (U0.length+1)]] 2 1]++s.map fun e=>dZ e.1 e.2 (c.f e.2 e.1):=⟨_,rfl⟩
 have g:∀j o,os[j]?=some o->(U0.set w (nc c (n+t.length))++os)[U0.length+j]?=some o:=fun j o ho=>by
  rw[bK sM,AG,vS];exact ho
 have kk:Wk c w (n+t.length) (enters c.toPw h s) F' D' (U0.set w (nc c (n+t.length))++os):=Wk.push ok ⟨bJ hlt,ok.fr (M:=fun l=>l=w) q1 ((Kp.refl _ _).set _ (.inl rfl)) (fun l hl _=>by rw[hl];exact⟨kb,kd⟩),kb,kd,by rw[htl];exact hc⟩ _;have ss:Stp w F D S F' D' (U0.set w (nc c (n+t.length))++os):=⟨(st.k.set _ (.inl (.inl rfl))).push _,st.gF,st.gD⟩
 have out:∀l,U0.length<=l->¬(l=w\/F' l\/Y l):=by
  rintro l hl (rfl|hf|hy)
  .omega
  .have:=ok.lt q1 l (.inl hf);omega
  .have:=hY l hy;omega
 refine⟨.ptr (U0.length+2) 0 0 1,_,t,F',D',hts,kk,ss,U0.length+2,U0.length,U0.length+1,v,_,_,rfl,⟨out _ oM,out _ bL,out _ oM⟩,g 2 _ (by rw[hos];rfl),g 0 _ (by rw[hos];rfl),g 1 _ (by rw[hos];rfl),fun e he=>?_,hsc.mono (ss.k.mono fun l _ hh=>hh.imp id .inl) fun l hh=>?_⟩
 .obtain⟨j,hj⟩:=jA he;rw[ht,dS,List.getElem?_zipIdx]at hj
  cases hs:s[j]? with
  |none=>rw[hs]at hj;simp at hj
  |some x=>
   rw[hs]at hj;simp at hj;subst hj;refine⟨out _ (by simp only;omega),?_⟩;rw[show U0.length+3+j=U0.length+(3+j) by omega];refine g _ _ ?_;rw[hos,bK sM];simp[hs]
 .rcases hh with hh|hh|hh
  .exact .inl (.inl hh)
  .exact(q3 l hh).imp (fun a=>.inr (.inl a)) id
  .exact .inl (.inr (.inr hh))
def M4(c:Cb)(ok:c.Ok)(w:Nat):∀(m:Nat) (s:Sm),(Pa.st s).size<=m->m<=4000->s.ok->vT c w s
 |0,s,hx,_,_=>by have:=(Pa.st s).size_pos;omega
 |m+1,s,hx,hm,hok=>by
  intro n h F D S v ts hk hsc hin hn;have O:=(Sm.ep s).1 hok;have hsz:=Sm.mZ s
  have vD:∀y,y∈s.body→vT c w y:=fun y hy=>M4 c ok w m y (by
   obtain⟨i,hi⟩:=jA (jO (f:=Pa.st) hy);have:=jH hi;omega) oM (Sm.gW O.body.2 y hy)
  have Il:∀d,d∈s.decls→∀y,y∈d.body→vT c w y:=fun d hd y hy=>M4 c ok w m y (by
   obtain⟨i,hi⟩:=jA (jO (f:=Pa.de) hd);have h1:=jH hi;have h2:=De.mZ d;obtain⟨j,hj⟩:=jA (jO (f:=Pa.st) hy);have:=jH hj;omega) oM (Sm.gW ((De.ep d).1 (De.gW O.decls.2 d hd)).body.2 y hy)
  have qe3:∀d,d∈s.decls->∀y,y∈d.body->y.ok:=fun d hd y hy=>Sm.gW ((De.ep d).1 (De.gW O.decls.2 d hd)).body.2 y hy
  have qe2:∀y,y∈s.body->y.ok:=fun y hy=>Sm.gW O.body.2 y hy
  have hbl:s.body.length<=4000:=by have:=jm (s.body.map Pa.st);rw[bu]at this;omega
  refine au.ib O5 ?_;obtain⟨S1,hS1⟩:∃S1:St,S1=S++[.arr [s.v] 8 1,.arr [bX] 8 1]:=⟨_,rfl⟩
  have B1:Bx c w n h F D S s F D S1:=by
   rw[hS1];exact⟨by rw[bK oM];simp,by rw[bK oM];simp,hk.push ok _,(Stp.refl _ _ _ _).push _,hk.out ok oM,hk.out ok oM⟩
  simp[O5,aC,ae,aE];rw[<-hS1];refine aU (ZB c ok w s.labels oM n h F D S1 v ts hin B1.wk (hsc.step B1.st)) ?_;intro r U hU;obtain⟨rfl,F2,D2,B2⟩:=B1.call hU;clear hU;obtain⟨y1,hy1⟩:∃y1:Sm,y1=.mk (il c.toPw (am ts) s.labels) s.kind s.text s.targets s.ak s.elems s.decls s.body:=⟨_,rfl⟩;have B3:=B2.put ok y1;simp[aA,ae,B2.b0,qu,aE];rw[sH,<-hy1];generalize U.set S.length (.arr [y1.v] 8 1)=U3 at B3 |-;have e1:y1.targets=s.targets:=by rw[hy1];rfl
  simp[ae,B3.b0,e1];refine aU (DI c ok w s.targets oM n h F2 D2 U3 v ts true B3.wk (hsc.step B3.st)) ?_;intro r U hU;obtain⟨rfl,F3,D3,B4⟩:=B3.call hU;clear hU;obtain⟨y2,hy2⟩:∃y2:Sm,y2=.mk (il c.toPw (am ts) s.labels) s.kind s.text (Ex.aL c.toPw (am ts) true s.targets) s.ak s.elems s.decls s.body:=⟨_,rfl⟩;have B5:=B4.put ok y2;simp[aA,ae,B4.b0,qu,aE];have qft:V.agg [.sl false (y1.labels.map .str),.int .i64 y1.kind,.str y1.text,.sl false ((Ex.aL c.toPw (am ts) true s.targets).map Ex.v),.sl false (y1.ak.map Ex.v),.sl false (y1.elems.map El.v),.sl false (y1.decls.map De.v),.sl false (y1.body.map Sm.v)]=y2.v:=by rw[sH,hy1,hy2];rfl
  rw[qft];generalize U.set S.length (.arr [y2.v] 8 1)=U5 at B5 |-;have k2:y2.kind=s.kind:=by rw[hy2];rfl
  have x2:y2.ak=s.ak:=by rw[hy2];rfl
  have l2:y2.elems=s.elems:=by rw[hy2];rfl
  have d2:y2.decls=s.decls:=by rw[hy2];rfl
  have t2:y2.body=s.body:=by rw[hy2];rfl
  obtain⟨h2,hh2⟩:∃h2,h2=Ex.hsl c.toPw (am ts) true h s.targets:=⟨_,rfl⟩;rw[<-hh2]at B5;have hw:=Sm.Eb c.toPw (am ts) n s;have hh:=Sm.hs_eq c.toPw (am ts) n h s;have hnb:=Sm.CU s;rw[<-hh2]at hh;simp[ae,B5.b0,k2];by_cases h7:s.kind=7
  .rw[ai h7]at hw hh hnb;have hbn:=iR (bM s.decls s.body) n 0;simp[h7,ae,B5.b0];refine aU (qk2 y2 U5) ?_;rintro r U6 ⟨rfl,BM⟩;have B6:=B5.push ok [.arr [y2.v] 8 1];rw[<-BM]at B6;have c6:U6[U5.length]?=some (.arr [y2.v] 8 1):=by rw[BM];simp
   have hy:=qm1 y2 (by rw[d2];exact O.decls) (by rw[t2];exact O.body) U5.length;rw[d2,t2]at hy;have lS5:=B5.st.k.len;simp;refine aU (HA c ok w n h2 F3 D3 v ts (bM s.decls s.body) 255 [.ptr U5.length 0 0 1] U5.length _ hy sM U6 B6.wk (Yb S) (by rintro l (rfl|rfl);exact aM B6.b0;exact aM B6.b1) (hsc.yb B6.st) c6 (B5.wk.out ok bL) oM) ?_;rintro r U7 ⟨t,F4,D4,hts,k7,s7,Hr⟩;have htl:=bw.CL hts;have nJ:am (t::ts)=ah (bM s.decls s.body) n::am ts:=by simp only[am,b9,hts]
   have B7:=B6.step k7 s7;simp[ae,B7.b0,d2]
   have q:=qk3 c ok w s.decls oM Il qe3 _ _ F4 D4 U7 r v (t::ts) ts B7.wk (Hr.sub fun l hl=>hl.imp id .inl) (hsc.step B7.st) (by
    intro d hd;rw[nJ];exact(za _ _ _).sub fun x hx=>vO _ (tI.2 ⟨d,hd,hx⟩)) oM
   rw[nJ]at q;refine aU q ?_;rintro r2 U8 ⟨rfl,F5,D5,k8,s8⟩;have B8:=B7.step k8 s8;obtain⟨y3,hy3⟩:∃y3:Sm,y3=.mk (il c.toPw (am ts) s.labels) s.kind s.text (Ex.aL c.toPw (am ts) true s.targets) s.ak s.elems (De.aL c.toPw (ah (bM s.decls s.body) n::am ts) (am ts) (n+t.length) s.decls) s.body:=⟨_,rfl⟩;have KG:V.agg [.sl false (y2.labels.map .str),.int .i64 y2.kind,.str y2.text,.sl false (y2.targets.map Ex.v),.sl false (y2.ak.map Ex.v),.sl false (y2.elems.map El.v),.sl false ((De.aL c.toPw (ah (bM s.decls s.body) n::am ts) (am ts) (n+t.length) s.decls).map De.v),.sl false (y2.body.map Sm.v)]=y3.v:=by rw[sH,hy2,hy3];rfl
   have B9:=B8.put ok y3
   have YO:cS c.toPw (fun l=>l=w\/F5 l) (U8.set S.length (.arr [y3.v] 8 1)) r (t::ts):=by
    refine(Hr.mono ((s8.k.mono fun l _ hh=>hh.imp id .inl).set _ (.inl (.inr (.inr (.inl rfl))))) (X':=fun l=>l=w\/F5 l) fun l hh=>?_);rcases hh with hh|hh
    .exact .inl (.inl hh)
    .exact(s8.gF l hh).imp (fun a=>.inr (.inl a)) id
   simp[aA,B8.b0,qu,aE];rw[KG];generalize U8.set S.length (.arr [y3.v] 8 1)=U9 at B9 YO |-;have b3:y3.body=s.body:=by rw[hy3];rfl
   simp[ae,B9.b0,b3];have q3:=MY c ok w s.body false vD hbl _ _ F5 D5 U9 r (t::ts) B9.wk YO (by rw[nJ];exact(za _ _ _).sub fun x hx=>yi _ hx) oM;rw[nJ]at q3;refine aU q3 ?_;rintro r3 AX ⟨rfl,F6,D6,k10,s10⟩;have B10:=B9.step k10 s10;obtain⟨y4,hy4⟩:∃y4:Sm,y4=.mk (il c.toPw (am ts) s.labels) s.kind s.text (Ex.aL c.toPw (am ts) true s.targets) s.ak s.elems (De.aL c.toPw (ah (bM s.decls s.body) n::am ts) (am ts) (n+t.length) s.decls) (Sm.aL c.toPw (ah (bM s.decls s.body) n::am ts) (n+t.length+De.aJ s.decls) s.body):=⟨_,rfl⟩;have BX:V.agg [.sl false (y3.labels.map .str),.int .i64 y3.kind,.str y3.text,.sl false (y3.targets.map Ex.v),.sl false (y3.ak.map Ex.v),.sl false (y3.elems.map El.v),.sl false (y3.decls.map De.v),.sl false ((Sm.aL c.toPw (ah (bM s.decls s.body) n::am ts) (n+t.length+De.aJ s.decls) s.body).map Sm.v)]=y4.v:=by rw[sH,hy3,hy4];rfl
   have B11:=B10.put ok y4;simp[aA,B10.b0,qu,aE];rw[BX];generalize AX.set S.length (.arr [y4.v] 8 1)=EQ at B11 |-;have k4:y4.kind=7:=by rw[hy4,<-h7];rfl
   simp[ae,B11.b0,B11.b1,k4,aA,aE];rw[hw,hh,hnb,<-htl,<-hy4,show n+((ah (bM s.decls s.body) 0).length+De.aJ s.decls+Sm.aJ s.body)=n+t.length+De.aJ s.decls+Sm.aJ s.body by omega];exact B11.fin ok rfl
  by_cases h8:s.kind=8
  .rw[aj h7,ai h8]at hw hh hnb;have hbn:=iR (bq s.body) n 0;simp[h8,ae,B5.b0,t2];refine qw (MZ s.body false U5) ⟨_,_,rfl,rfl⟩ ?_;rintro r U6 ⟨rfl,BM⟩;have B6:=B5.push ok [.arr [.sl false (s.body.map Sm.v)] 1 1];rw[<-BM]at B6;have c6:U6[U5.length]?=some (.arr [.sl false (s.body.map Sm.v)] 1 1):=by rw[BM];simp
   have hy:=NZ s.body O.body.1 O.body.2 U5.length;have Ua:∀l,Yb S l->l<U6.length:=by rintro l (rfl|rfl);exact aM B6.b0;exact aM B6.b1
   have YP:=hsc.yb B6.st;have lS5:=B5.st.k.len;simp;refine qw (HA c ok w n h2 F3 D3 v ts (bq s.body) 187 [.ptr U5.length 0 0 1] U5.length _ hy sM U6 B6.wk (Yb S) Ua YP c6 (B5.wk.out ok bL) oM) (qaC ok B6.wk Ua YP _ (qcb ok _ B6.wk.cn)) ?_;rintro r U7 ⟨t,F4,D4,hts,k7,s7,Hr⟩;have htl:=bw.CL hts;have nJ:am (t::ts)=ah (bq s.body) n::am ts:=by simp only[am,b9,hts]
   have B7:=B6.step k7 s7;simp;have q3:=MY c ok w s.body false vD hbl _ _ F4 D4 U7 r (t::ts) B7.wk (Hr.sub fun l hl=>hl.imp id .inl) (by rw[nJ];exact za _ _ _) oM;rw[nJ]at q3;refine qw q3 (Wd.some ok B7.wk _ (qcd ok _ _ B7.wk.cn) _) ?_;rintro r3 AX ⟨rfl,F6,D6,k10,s10⟩;have B10:=B7.step k10 s10;obtain⟨y4,hy4⟩:∃y4:Sm,y4=.mk (il c.toPw (am ts) s.labels) s.kind s.text (Ex.aL c.toPw (am ts) true s.targets) s.ak s.elems s.decls (Sm.aL c.toPw (ah (bq s.body) n::am ts) (n+t.length) s.body):=⟨_,rfl⟩;have BX:V.agg [.sl false (y2.labels.map .str),.int .i64 y2.kind,.str y2.text,.sl false (y2.targets.map Ex.v),.sl false (y2.ak.map Ex.v),.sl false (y2.elems.map El.v),.sl false (y2.decls.map De.v),.sl false ((Sm.aL c.toPw (ah (bq s.body) n::am ts) (n+t.length) s.body).map Sm.v)]=y4.v:=by rw[sH,hy2,hy4];rfl
   have B11:=B10.put ok y4;simp[aA,B10.b0,qu,aE,cU,dx,dG,ae,B5.b0,B6.b0,B7.b0,t2];rw[BX];generalize AX.set S.length (.arr [y4.v] 8 1)=EQ at B11 |-;have k4:y4.kind=8:=by rw[hy4,<-h8];rfl
   simp[ae,B11.b0,B11.b1,k4,aA,aE];rw[hw,hh,hnb,<-htl,<-hy4,show n+((ah (bq s.body) 0).length+Sm.aJ s.body)=n+t.length+Sm.aJ s.body by omega];exact B11.fin ok rfl
  rw[aj h7,aj h8]at hw hh hnb;simp[h7,h8,ae,B5.b0,x2];refine aU (DI c ok w s.ak oM n h2 F3 D3 U5 v ts false B5.wk (hsc.step B5.st)) ?_;rintro r U6 ⟨rfl,F4,D4,k6,s6⟩;have B6:=B5.step k6 s6;obtain⟨y3,hy3⟩:∃y3:Sm,y3=.mk (il c.toPw (am ts) s.labels) s.kind s.text (Ex.aL c.toPw (am ts) true s.targets) (Ex.aL c.toPw (am ts) false s.ak) s.elems s.decls s.body:=⟨_,rfl⟩;have KG:V.agg [.sl false (y2.labels.map .str),.int .i64 y2.kind,.str y2.text,.sl false (y2.targets.map Ex.v),.sl false ((Ex.aL c.toPw (am ts) false s.ak).map Ex.v),.sl false (y2.elems.map El.v),.sl false (y2.decls.map De.v),.sl false (y2.body.map Sm.v)]=y3.v:=by rw[sH,hy2,hy3];rfl
  have B7:=B6.put ok y3;simp[aA,B6.b0,qu,aE];rw[KG];generalize U6.set S.length (.arr [y3.v] 8 1)=U7 at B7 |-;have l3:y3.elems=s.elems:=by rw[hy3];rfl
  simp[ae,B7.b0,l3];refine aU (qk4 c ok w s.elems oM n _ F4 D4 U7 v ts B7.wk (hsc.step B7.st)) ?_;rintro r U8 ⟨rfl,F5,D5,k8,s8⟩;have B8:=B7.step k8 s8;obtain⟨y4,hy4⟩:∃y4:Sm,y4=.mk (il c.toPw (am ts) s.labels) s.kind s.text (Ex.aL c.toPw (am ts) true s.targets) (Ex.aL c.toPw (am ts) false s.ak) (El.aL c.toPw (am ts) s.elems) s.decls s.body:=⟨_,rfl⟩;have BX:V.agg [.sl false (y3.labels.map .str),.int .i64 y3.kind,.str y3.text,.sl false (y3.targets.map Ex.v),.sl false (y3.ak.map Ex.v),.sl false ((El.aL c.toPw (am ts) s.elems).map El.v),.sl false (y3.decls.map De.v),.sl false (y3.body.map Sm.v)]=y4.v:=by rw[sH,hy3,hy4];rfl
  have B9:=B8.put ok y4;simp[aA,B8.b0,qu,aE];rw[BX];generalize U8.set S.length (.arr [y4.v] 8 1)=U9 at B9 |-;have b4:y4.body=s.body:=by rw[hy4];rfl
  simp[ae,B9.b0,b4];refine aU (MW c ok w s.body false vD hbl qe2 n _ F5 D5 U9 v ts B9.wk (hsc.step B9.st) oM) ?_;rintro r AX ⟨rfl,F6,D6,k10,s10⟩;have B10:=B9.step k10 s10;obtain⟨y5,yZ⟩:∃y5:Sm,y5=.mk (il c.toPw (am ts) s.labels) s.kind s.text (Ex.aL c.toPw (am ts) true s.targets) (Ex.aL c.toPw (am ts) false s.ak) (El.aL c.toPw (am ts) s.elems) s.decls (Sm.dW c.toPw (am ts) n s.body):=⟨_,rfl⟩;have qfu:V.agg [.sl false (y4.labels.map .str),.int .i64 y4.kind,.str y4.text,.sl false (y4.targets.map Ex.v),.sl false (y4.ak.map Ex.v),.sl false (y4.elems.map El.v),.sl false (y4.decls.map De.v),.sl false ((Sm.dW c.toPw (am ts) n s.body).map Sm.v)]=y5.v:=by rw[sH,hy4,yZ];rfl
  have B11:=B10.put ok y5;simp[aA,B10.b0,qu,aE];rw[qfu];generalize AX.set S.length (.arr [y5.v] 8 1)=EQ at B11 |-;have k5:y5.kind=s.kind:=by rw[yZ];rfl
  have t5:y5.text=s.text:=by rw[yZ];rfl
  obtain⟨h3,hh3⟩:∃h3,h3=Sm.hs1 c.toPw (am ts) n (El.hsl c.toPw (am ts) (Ex.hsl c.toPw (am ts) false h2 s.ak) s.elems) s.body:=⟨_,rfl⟩;rw[<-hh3]at B11 hh;rw[hw,hh,hnb];by_cases h6:s.kind=6
  case neg=>
   simp[ae,B11.b0,B11.b1,k5,h6,aA,aE];have e1:c.toPw.oN (am ts) s.kind s.text=s.text:=by unfold Pw.oN;rw[aj h6]
   have e2:c.toPw.mf (am ts) s.kind h3 s.text=h3:=by unfold Pw.mf;rw[aj h6]
   rw[e1,e2,<-yZ];exact B11.fin ok rfl
  have tw:=B11.wk.tw;unfold nc at tw;have Zc:∀z:Bz,V.agg [.sl false (y5.labels.map .str),.int .i64 y5.kind,.str z,.sl false (y5.targets.map Ex.v),.sl false (y5.ak.map Ex.v),.sl false (y5.elems.map El.v),.sl false (y5.decls.map De.v),.sl false (y5.body.map Sm.v)]=(Sm.mk (il c.toPw (am ts) s.labels) s.kind z (Ex.aL c.toPw (am ts) true s.targets) (Ex.aL c.toPw (am ts) false s.ak) (El.aL c.toPw (am ts) s.elems) s.decls (Sm.dW c.toPw (am ts) n s.body)).v:=fun z=>by rw[sH,yZ];rfl
  have nI:=hsc.step B11.st
  cases hcl:c.cl with
  |none=>
   have hfc:c.fc=.bB:=by have:=ok.cl;rw[hcl]at this;exact this
   rw[hfc]at tw;have hfind:=xQ nI s.text;have e2:c.toPw.mf (am ts) s.kind h3 s.text=h3:=by unfold Pw.mf;rw[hcl];simp
   have e1:c.toPw.oN (am ts) s.kind s.text=fH c.toPw (am ts) s.text:=by unfold Pw.oN;rw[ai h6,hcl]
   rw[e1,e2];have hat:=tY ts s.text
   cases hf:kq ts s.text with
   |none=>
    have hr:fH c.toPw (am ts) s.text=s.text:=by unfold fH;rw[hat,hf];rfl
    have hv:gK ts s.text=.bF:=by simp[gK,hf]
    rw[hv]at hfind;rw[hr,<-yZ];simp[ae,B11.b0,k5,t5,h6,cF,tw,eh,dN];refine aG hfind ?_;simp[ae,B11.b0,B11.b1,eh,dN,aA,aE];exact B11.fin ok rfl
   |some q=>
    have hr:fH c.toPw (am ts) s.text=c.f q.1 s.text:=by unfold fH;rw[hat,hf];rfl
    have hv:gK ts s.text=.ptr q.2 0 0 1:=by simp[gK,hf]
    rw[hv]at hfind;have hq:=nI.BE hf;unfold dZ at hq;rw[hr];simp[ae,B11.b0,k5,t5,h6,cF,tw,eh,dN];refine aG hfind ?_;obtain⟨z,hz⟩:∃z:Sm,z=.mk (il c.toPw (am ts) s.labels) s.kind (c.f q.1 s.text) (Ex.aL c.toPw (am ts) true s.targets) (Ex.aL c.toPw (am ts) false s.ak) (El.aL c.toPw (am ts) s.elems) s.decls (Sm.dW c.toPw (am ts) n s.body):=⟨_,rfl⟩;have hzv:=Zc (c.f q.1 s.text);rw[<-hz]at hzv;have vw:=B11.put ok z;rw[h6]at hz;rw[<-hz];rw[k5,h6]at hzv;simp[ae,B11.b0,eh,dN,cF,hq,aA,qu,aE,k5,h6];rw[hzv];generalize EQ.set S.length (.arr [z.v] 8 1)=QS at vw |-;simp[ae,vw.b0,aA,vw.b1,aE];exact vw.fin ok rfl
  |some g=>
   have hcb:=ok.cl;rw[hcl]at hcb;obtain⟨kf,cs,hfc,hsp⟩:=hcb;rw[hfc]at tw;have e2:c.toPw.mf (am ts) s.kind h3 s.text=c.lC h3 s.text (am ts):=by unfold Pw.mf;rw[ai h6,hcl]
   have e1:c.toPw.oN (am ts) s.kind s.text=g s.text (am ts):=by unfold Pw.oN;rw[ai h6,hcl]
   rw[e1,e2];have KA:=hsp EQ s.text v ts w h3 F6 D6 nI B11.wk.st;obtain⟨Fi,Di,Ui,hi⟩:=ok.real B11.wk.st (c.lC h3 s.text (am ts));simp[ae,B11.b0,k5,t5,h6,cF,tw,eh,dN];refine qw KA ⟨_,Ui,rfl,Fi,Di,hi⟩ ?_;rintro r QS ⟨rfl,F7,D7,q1,q2,q3,q4⟩;obtain⟨k12,s12⟩:=B11.wk.call ok (ok.cc _ _ B11.wk.cn) q1 q2 q3 q4;have vw:=B11.step k12 s12;obtain⟨z,hz⟩:∃z:Sm,z=.mk (il c.toPw (am ts) s.labels) s.kind (g s.text (am ts)) (Ex.aL c.toPw (am ts) true s.targets) (Ex.aL c.toPw (am ts) false s.ak) (El.aL c.toPw (am ts) s.elems) s.decls (Sm.dW c.toPw (am ts) n s.body):=⟨_,rfl⟩;have hzv:=Zc (g s.text (am ts));rw[<-hz]at hzv;have Eg:=vw.put ok z;rw[h6]at hz;rw[<-hz];rw[k5,h6]at hzv;simp[aA,vw.b0,qu,aE,cU,dx,k5,h6];rw[hzv];generalize QS.set S.length (.arr [z.v] 8 1)=U13 at Eg |-;simp[ae,Eg.b0,aA,Eg.b1,aE];exact Eg.fin ok rfl
open Go.Proofs.Tryz
def M9(c:Cb)(ok:c.Ok)(w:Nat)(s:Sm)(hs:s.ok)(hsz:(Pa.st s).size<=4000)(h:c.H)(F D:Np)(S:St)(hk:Wk c w 0 h F D S)(hn:Sm.aX [s]<=c.lim):
  au prog 62 [.ptr w 0 0 1,s.v] S (fun r U=>Wd c w (Sm.aX [s]) (s.kP c.toPw h) F D S (s.mI c.toPw).v r U):=by
 refine au.ib Qg ?_;obtain⟨S1,hS1⟩:∃S1:St,S1=S++[.arr [s.v] 8 1,.arr [bX] 8 1]:=⟨_,rfl⟩;have b0:S1[S.length]?=some (.arr [s.v] 8 1):=by rw[hS1,bK oM];simp
 have b1:S1[S.length+1]?=some (.arr [bX] 8 1):=by rw[hS1,bK oM];simp
 have k1:Wk c w 0 h F D S1:=by rw[hS1];exact hk.push ok _
 have s1:Stp w F D S F D S1:=by rw[hS1];exact(Stp.refl _ _ _ _).push _
 have hf:=Sm.gn s;simp[Qg,aC,ae,aE,Sm.gn];rw[<-hS1];have q:=MW c ok w [s] true (fun x hx=>by simp at hx;subst hx;exact M4 c ok w 4000 x hsz oM hs) sM (fun x hx=>by simp at hx;subst hx;exact hs) 0 h F D S1 .bF [] k1 rfl oM;simp only[b9,jj,iQ]at q;refine aU q ?_;rintro r U ⟨rfl,F2,D2,k2,s2⟩;have o1:er w F D (S.length+1):=hk.out ok oM;have l1:S.length+1<S1.length:=aM b1;have c1:=s2.at o1 b1;have p1:=o1.next l1 s2;have he:Sm.dW c.toPw (am []) 0 [s]=[s.mI c.toPw]:=by simp only[Sm.dW,Sm.mI,am,jj,iQ]
 have he2:Sm.hs1 c.toPw (am []) 0 h [s]=s.kP c.toPw h:=by simp only[Sm.hs1,Sm.kP,am,jj,iQ]
 rw[he2]at k2;rw[he];simp only[b9,jj];have hia:eJ U 8 (.sl false [(s.mI c.toPw).v]) 0=some (.bG (s.mI c.toPw).v 0):=by simp[eJ]
 simp[hia,ae,aA,c1,aE];have hz:(U.set (S.length+1) (.arr [(s.mI c.toPw).v] 8 1))[S.length+1]?=some (.arr [(s.mI c.toPw).v] 8 1):=bJ (aM c1);exact aS (vs:=[(s.mI c.toPw).v]) (by simp[dm,ae,hz]) ⟨rfl,F2,D2,k2.set ok _ p1.1 p1.2.1 p1.2.2,(s1.trans s2).set _ oM⟩
def mF(k:Nat):Bz:=⟨⟨[35]⟩⟩++⟨(fk k).toArray⟩
def nuP(f:Nat->Bz):Pw where
 H:=Unit
 f k _:=f k
 nm:=none
 cl:=none
 ent _ _ _:=()
 oZ _ _ _ _:=()
 lC _ _ _:=()
section
variable {p:Pw} {f:Nat->Bz} (hn:p.nm=none) (hc:p.cl=none) (hf:∀k x,p.f k x=f k)
include hf
theorem G9(sc:ag)(x:Bz):fH p sc x=dt f sc x:=by
 unfold fH dt;cases sc.at x<;>simp[hf]
theorem Dq(sc:ag)(l:List Bz):l.map (fH p sc)=l.map (dt f sc):=lr fun x _=>G9 hf sc x
include hn
mutual
theorem Ex.qy(sc:ag)(tg:Bool):∀x:Ex,x.wr p sc tg=x.w f sc
 |.mk k o n m e t a=>by
  rw[Ex.wr,Ex.w,Ex.oq sc false a];unfold Pw.qg;rw[hn];simp only[Ex.kind,Ex.op,Ex.n,Ex.man,Ex.exp,Ex.text,Ex.args,G9 hf];split<;>rfl
theorem Ex.oq(sc:ag)(tg:Bool):∀l:List Ex,Ex.aL p sc tg l=Ex.wl f sc l
 |[]=>rfl
 |x::l=>by rw[Ex.aL,Ex.wl,Ex.qy sc tg x,Ex.oq sc tg l]
end
theorem El.qy(sc:ag)(e:El):e.wr p sc=e.w f sc:=by
 unfold El.wr El.w;rw[Ex.oq hn hf,Ex.jM]
theorem Fo.qy(sc:ag)(x:Fo):x.wr p sc=x.w f sc:=by
 unfold Fo.wr Fo.w;rw[G9 hf]
end
def Sm.u9{nm:Bz->Bool}{l:List Bz}{k:Int}{t:Bz}{g e:List Ex}{h:List El}{d:List De}{b:List Sm}(v:(Pa.st (.mk l k t g e h d b)).valid nm=true):
  (k=7->g=[]/\e=[]/\h=[])/\(k=8->g=[]/\e=[]/\h=[]/\d=[])/\(k≠7->k≠8->d=[]):=by
 have h1:=(Pa.eQ.1 v).1;simp only[Pa.aQ,Sm.aQ,bZ]at h1;have h1:=h1.2;refine⟨?_,?_,?_⟩
 .rintro rfl;simp at h1;simp[h1]
 .rintro rfl;simp at h1;simp[h1]
 .intro h7 h8
  repeat' split at h1
  all_goals first
   |(simp at h1;done)
   |(simp at h1;simp[h1];done)
   |omega
def De.vi{nm:Bz->Bool}{k:Int}{o:Bool}{t:Int}{n:List Bz}{e:List Ex}{f:List Fo}{b:List Sm}(v:(Pa.de (.mk k o t n e f b)).valid nm=true):
  (k=4->e=[])/\(k≠4->f=[]/\b=[]):=by
 have h1:=(Pa.eQ.1 v).1;simp only[Pa.aQ,De.aQ,bZ]at h1;have h1:=h1.2;refine⟨?_,?_⟩
 .rintro rfl;simp at h1;simp[h1]
 .intro h4
  repeat' split at h1
  all_goals first
   |(simp at h1;done)
   |(simp at h1;simp[h1];done)
   |omega
section
variable {p:Pw} {f:Nat->Bz} (hn:p.nm=none) (hc:p.cl=none) (hf:∀k x,p.f k x=f k) {nm:Bz->Bool}
include hn hc hf
mutual
theorem Sm.qy:∀(s:Sm) (sc:ag) (n:Nat),(Pa.st s).valid nm=true->s.wr p sc n=s.w f sc n
 |.mk l k t g e h d b,sc,n,v=>by
  obtain⟨v7,v8,v9⟩:=Sm.u9 v;have vd:=Sm.rx v;have vb:=Sm.jo v;simp only[Sm.decls,Sm.body]at vd vb;rw[Sm.wr,Sm.w];by_cases h7:k=7
  .obtain⟨rfl,rfl,rfl⟩:=v7 h7;rw[ai h7,ai h7,Dq hf,De.oq d _ _ _ vd,Sm.oq b _ _ vb];rfl
  .rw[aj h7,aj h7];by_cases h8:k=8
   .obtain⟨rfl,rfl,rfl,rfl⟩:=v8 h8;rw[ai h8,ai h8,Dq hf,Sm.oq b _ _ vb];rfl
   .obtain rfl:=v9 h7 h8;have hcl:p.oN sc k t=if k=6 then dt f sc t else t:=by unfold Pw.oN;rw[hc];simp only[G9 hf]
    rw[aj h8,aj h8,Dq hf,Ex.oq hn hf,Ex.oq hn hf,Sm.NS b _ _ vb,hcl,lr fun x _=>El.qy hn hf sc x]
theorem De.qy:∀(s:De) (own sc:ag) (n:Nat),(Pa.de s).valid nm=true->s.wr p own sc n=s.w f own sc n
 |.mk k o t ns e fo b,own,sc,n,v=>by
  obtain⟨v4,v5⟩:=De.vi v;have vb:=De.jo v;simp only[De.body]at vb;rw[De.wr,De.w];by_cases h4:k=4
  .obtain rfl:=v4 h4;rw[ai h4,ai h4,Dq hf,Sm.NS b _ _ vb,lr fun x _=>Fo.qy hn hf _ x];rfl
  .obtain⟨rfl,rfl⟩:=v5 h4;rw[aj h4,aj h4,Dq hf,Ex.oq hn hf]
theorem De.oq:∀(l:List De) (own sc:ag) (n:Nat),(∀x,x∈l->(Pa.de x).valid nm=true)->De.aL p own sc n l=De.wl f own sc n l
 |[],_,_,_,_=>rfl
 |x::l,own,sc,n,v=>by rw[De.aL,De.wl,De.qy x own sc n (v x sM),De.oq l own sc _ fun y hy=>v y (by simp[hy])]
theorem Sm.oq:∀(l:List Sm) (sc:ag) (n:Nat),(∀x,x∈l->(Pa.st x).valid nm=true)->Sm.aL p sc n l=Sm.wl f sc n l
 |[],_,_,_=>rfl
 |x::l,sc,n,v=>by rw[Sm.aL,Sm.wl,Sm.qy x sc n (v x sM),Sm.oq l sc _ fun y hy=>v y (by simp[hy])]
theorem Sm.NS:∀(l:List Sm) (sc:ag) (n:Nat),(∀x,x∈l->(Pa.st x).valid nm=true)->Sm.dW p sc n l=Sm.w1 f sc n l
 |[],_,_,_=>rfl
 |x::l,sc,n,v=>by rw[Sm.dW,Sm.w1,Sm.qy x _ _ (v x sM),Sm.NS l sc _ fun y hy=>v y (by simp[hy])]
end
theorem Sm.qmB(s:Sm)(v:(Pa.st s).valid nm=true):s.mI p=s.whole f:=Sm.qy hn hc hf s _ _ v
end
def eV(N:Nat)(sc:ag):Prop:=∀x k,sc.at x=some k->k<N
def I4(base:Nat):∀(l:List Bz) (s:bw) (n:Nat),(∀e,e∈s->e.2<base+s.length)->n=base+s.length->∀e,e∈binds l s n->e.2<base+(binds l s n).length
 |[],s,n,h,_=>h
 |x::l,s,n,h,hn=>by
  simp only[binds];split
  .exact I4 base l s n h hn
  .refine I4 base l _ _ (fun e he=>?_) (by simp;omega);rcases cC.1 he with he|he
   .have:=h e he;simp;omega
   .simp at he;subst he;simp;omega
def eV.bind{N:Nat}{sc:ag}(h:eV N sc)(l:List Bz)(n:Nat)(hn:n+(ah l n).length<=N):eV N (ah l n::sc):=by
 intro x k hk;unfold ag.at at hk
 cases ha:bw.at (ah l n) x with
 |none=>rw[ha]at hk;exact h x k hk
 |some j=>
  rw[ha]at hk;cases hk;unfold bw.at at ha;rw[dL]at ha;obtain⟨e,he,rfl⟩:=ha;have:=I4 n l [] n sM sM e (AH he);unfold ah at hn;omega
structure qaQ(r:Rp)(g:Nat->Bz)(N:Nat):Prop where
 fresh:∀k,k<N->r.fresh[k]?=some (g k)
 mj:r.mj=[]
def tM(l:List Bz)(n:Nat):(ah l n).length=(ah l 0).length:=iR l n 0
section
variable {r:Rp} {g:Nat->Bz} {N:Nat} (ok:qaQ r g N) {nm:Bz->Bool}
include ok
theorem Yt(sc:ag)(x:Bz):jZ r sc x=none:=by
 unfold jZ mt;rw[ok.mj];cases sc.at x<;>simp[mU]
theorem Hh{sc:ag}(h:eV N sc)(x:Bz):cN r sc x=dt g sc x:=by
 unfold cN dt
 cases ha:sc.at x with
 |none=>rfl
 |some k=>simp[ok.fresh k (h x k ha)]
theorem Yz{sc:ag}(h:eV N sc)(x:Bz):j0 r sc x=dt g sc x:=by
 unfold j0;rw[Yt ok];exact Hh ok h x
theorem Dt{sc:ag}(h:eV N sc)(l:List Bz):l.map (cN r sc)=l.map (dt g sc):=lr fun x _=>Hh ok h x
mutual
theorem Ex.ql{sc:ag}(h:eV N sc):∀x:Ex,(Pa.ex x).valid nm=true->x.rw r sc=x.w g sc
 |.mk k o n m e t a,v=>by
  have va:=Ex.xX v;simp only[Ex.args]at va;have h1:=(Pa.eQ.1 v).1;rw[Ex.rw,Ex.w,Ex.nV h a va];by_cases h6:k=6
  .subst h6;simp[Pa.aQ,Ex.aQ]at h1;obtain⟨⟨⟨⟨_,rfl⟩,rfl⟩,rfl⟩,rfl,rfl⟩:=h1;rw[ai rfl,Yt ok,Hh ok h];rfl
  .rw[aj h6];by_cases gP:k=7\/k=8
   .have:Ex.named k=true:=by unfold Ex.named;rcases gP with rfl|rfl<;>rfl
    rw[ai gP,this,Yz ok h];rfl
   .have:Ex.named k=false:=by unfold Ex.named;simp;omega
    rw[aj gP,this];rfl
theorem Ex.nV{sc:ag}(h:eV N sc):∀l:List Ex,(∀x,x∈l->(Pa.ex x).valid nm=true)->Ex.bk r sc l=Ex.wl g sc l
 |[],_=>rfl
 |x::l,v=>by rw[Ex.bk,Ex.wl,Ex.ql h x (v x sM),Ex.nV h l fun y hy=>v y (by simp[hy])]
end
theorem El.ql{sc:ag}(h:eV N sc)(e:El)(v:(Pa.el e).valid nm=true):e.rw r sc=e.w g sc:=by
 unfold El.rw El.w;rw[Ex.nV ok h e.ak fun x hx=>(Pa.eQ.1 v).2 _ (by simp only[Pa.kids,cE];exact⟨x,hx,rfl⟩),Ex.jM]
theorem Fo.ql{sc:ag}(h:eV N sc)(x:Fo):x.rw r sc=x.w g sc:=by
 unfold Fo.rw Fo.w;rw[Hh ok h]
mutual
theorem Sm.ql:∀(s:Sm) (sc:ag) (n:Nat),eV N sc->n+s.nb<=N->(Pa.st s).valid nm=true->s.rw r sc n=s.w g sc n
 |.mk l k t gs e hh d b,sc,n,h,hN,v=>by
  obtain⟨v7,v8,v9⟩:=Sm.u9 v;have vd:=Sm.rx v;have vb:=Sm.jo v;have vg:=Sm.Aa v;have ve:=Sm.kO v;have vh:=Sm.zZ v;simp only[Sm.decls,Sm.body,Sm.targets,Sm.ak,Sm.elems]at vd vb vg ve vh;rw[Sm.nb]at hN;rw[Sm.rw,Sm.w];by_cases h7:k=7
  .rw[ai h7]at hN;obtain⟨rfl,rfl,rfl⟩:=v7 h7;have hb:=tM (bM d b) n;have h':=h.bind (bM d b) n oM;rw[ai h7,ai h7,Dt ok h,De.nV d _ _ _ h' h oM vd,Sm.nV b _ _ h' oM vb]
  .rw[aj h7]at hN;rw[aj h7,aj h7];by_cases h8:k=8
   .rw[ai h8]at hN;obtain⟨rfl,rfl,rfl,rfl⟩:=v8 h8;have hb:=tM (bq b) n;rw[ai h8,ai h8,Dt ok h,Sm.nV b _ _ (h.bind (bq b) n oM) oM vb]
   .rw[aj h8]at hN;obtain rfl:=v9 h7 h8;rw[aj h8,aj h8,Dt ok h,Ex.nV ok h gs vg,Ex.nV ok h e ve,Sm.MH b _ _ h oM vb,lr fun x hx=>El.ql ok h x (vh x hx),Yz ok h]
theorem De.ql:∀(s:De) (own sc:ag) (n:Nat),eV N own->eV N sc->n+s.nb<=N->(Pa.de s).valid nm=true->s.rw r own sc n=s.w g own sc n
 |.mk k o t ns e fo b,own,sc,n,h,h2,hN,v=>by
  obtain⟨v4,v5⟩:=De.vi v;have vb:=De.jo v;have ve:=De.kO v;simp only[De.body,De.ak]at vb ve;rw[De.nb]at hN;rw[De.rw,De.w];by_cases h4:k=4
  .rw[ai h4]at hN;obtain rfl:=v4 h4;have hb:=tM (fo.map Fo.name) n;have h':=h.bind (fo.map Fo.name) n oM;rw[ai h4,ai h4,Dt ok h,Sm.MH b _ _ h' oM vb,lr fun x _=>Fo.ql ok h' x];rfl
  .obtain⟨rfl,rfl⟩:=v5 h4;have h':eV N (if k=2 then sc else own):=by split<;>assumption
   rw[aj h4,aj h4,Dt ok h,Ex.nV ok h' e ve]
theorem De.nV:∀(l:List De) (own sc:ag) (n:Nat),eV N own->eV N sc->n+De.aJ l<=N->(∀x,x∈l->(Pa.de x).valid nm=true)->De.bk r own sc n l=De.wl g own sc n l
 |[],_,_,_,_,_,_,_=>rfl
 |x::l,own,sc,n,h,h2,hN,v=>by
  rw[De.aJ]at hN;rw[De.bk,De.wl,De.ql x own sc n h h2 oM (v x sM),De.nV l own sc _ h h2 oM fun y hy=>v y (by simp[hy])]
theorem Sm.nV:∀(l:List Sm) (sc:ag) (n:Nat),eV N sc->n+Sm.aJ l<=N->(∀x,x∈l->(Pa.st x).valid nm=true)->Sm.bk r sc n l=Sm.wl g sc n l
 |[],_,_,_,_,_=>rfl
 |x::l,sc,n,h,hN,v=>by
  rw[Sm.aJ]at hN;rw[Sm.bk,Sm.wl,Sm.ql x sc n h oM (v x sM),Sm.nV l sc _ h oM fun y hy=>v y (by simp[hy])]
theorem Sm.MH:∀(l:List Sm) (sc:ag) (n:Nat),eV N sc->n+Sm.aX l<=N->(∀x,x∈l->(Pa.st x).valid nm=true)->Sm.fY r sc n l=Sm.w1 g sc n l
 |[],_,_,_,_,_=>rfl
 |x::l,sc,n,h,hN,v=>by
  rw[Sm.aX]at hN;have hb:=tM x.labels n;rw[Sm.fY,Sm.w1,Sm.ql x _ _ (h.bind x.labels n oM) oM (v x sM),Sm.MH l sc _ h oM fun y hy=>v y (by simp[hy])]
end
theorem Sm.qmA(s:Sm)(hN:Sm.aX [s]<=N)(v:(Pa.st s).valid nm=true):s.ti r=s.whole g:=by
 simp only[Sm.aX,rJ]at hN;have hb:eV N [ah s.labels 0]:=eV.bind (sc:=[]) (fun x k h=>by cases h) s.labels 0 oM;exact Sm.ql ok s _ _ hb oM v
end
def GZ{l:List Bz}(h:qY l){f:Bz->Bz}(hf:∀x,x∈l->(f x).size<=aR):qY (l.map f):=by
 refine⟨by rw[bu];exact h.1,fun s hs=>?_⟩;obtain⟨x,hx,rfl⟩:=cE.1 hs;exact hf x hx
def Sm.tm(f:Nat->Bz)(sc:ag):∀(m:List Sm) (n:Nat),(Sm.wl f sc n m).length=m.length
 |[],_=>by rw[Sm.wl]
 |x::m,n=>by simp only[Sm.wl,eE,Sm.tm f sc m]
def Sm.DZ(f:Nat->Bz)(sc:ag):∀(m:List Sm) (n:Nat),(Sm.w1 f sc n m).length=m.length
 |[],_=>by rw[Sm.w1]
 |x::m,n=>by simp only[Sm.w1,eE,Sm.DZ f sc m]
def De.tm(f:Nat->Bz)(own sc:ag):∀(m:List De) (n:Nat),(De.wl f own sc n m).length=m.length
 |[],_=>by rw[De.wl]
 |x::m,n=>by simp only[De.wl,eE,De.tm f own sc m]
section
variable {f:Nat->Bz} {N:Nat} (hf:∀k,k<N->(f k).size<=aR)
include hf
theorem Do{sc:ag}(h:eV N sc){x:Bz}(hx:x.size<=aR):(dt f sc x).size<=aR:=by
 unfold dt
 cases ha:sc.at x with
 |none=>exact hx
 |some k=>exact hf k (h x k ha)
mutual
theorem Ex.s9{sc:ag}(h:eV N sc):∀x:Ex,x.ok->(x.w f sc).ok
 |.mk k o n m e t a,v=>by
  obtain⟨h1,h2,h3⟩:=v;rw[Ex.w];refine⟨?_,by rw[Ex.jM,bu];exact h2,Ex.oi h a h3⟩;split
  .exact Do hf h h1
  .exact h1
theorem Ex.oi{sc:ag}(h:eV N sc):∀l:List Ex,Ex.bR l->Ex.bR (Ex.wl f sc l)
 |[],_=>trivial
 |x::l,⟨h1,h2⟩=>⟨Ex.s9 h x h1,Ex.oi h l h2⟩
end
theorem El.s9{sc:ag}(h:eV N sc)(e:El)(v:e.ok):(e.w f sc).ok:=by
 have:=Ex.oi hf h e.ak v.2;rw[Ex.jM]at this;exact⟨by unfold El.w;rw[bu];exact v.1,this⟩
mutual
theorem Sm.s9:∀(s:Sm) (sc:ag) (n:Nat),eV N sc->n+s.nb<=N->s.ok->(s.w f sc n).ok
 |.mk l k t gs e hh d b,sc,n,h,hN,v=>by
  have V:=(Sm.ep _).1 v;have hl:=GZ V.labels fun x hx=>Do hf h (V.labels.2 x hx)
  rw[Sm.nb]at hN;rw[Sm.w];by_cases h7:k=7
  .rw[ai h7]at hN;have hb:=tM (bM d b) n;have h':=h.bind (bM d b) n oM;rw[ai h7];refine(Sm.ep _).2 ⟨hl,V.text,⟨eL _,trivial⟩,⟨eL _,trivial⟩,⟨eL _,fun x hx=>by cases hx⟩,⟨?_,De.oi d _ _ _ h' h oM V.decls.2⟩,?_,Sm.oi b _ _ h' oM V.body.2⟩
   .have:=V.decls.1;simp only[Sm.decls]at this |-;rw[De.tm];exact this
   .have:=V.body.1;simp only[Sm.body]at this |-;rw[Sm.tm];exact this
  .rw[aj h7]at hN;rw[aj h7];by_cases h8:k=8
   .rw[ai h8]at hN;have hb:=tM (bq b) n;rw[ai h8];refine(Sm.ep _).2 ⟨hl,V.text,⟨eL _,trivial⟩,⟨eL _,trivial⟩,⟨eL _,fun x hx=>by cases hx⟩,⟨eL _,trivial⟩,?_,Sm.oi b _ _ (h.bind _ _ oM) oM V.body.2⟩;have:=V.body.1;simp only[Sm.body]at this |-;rw[Sm.tm];exact this
   .rw[aj h8]at hN;rw[aj h8];refine(Sm.ep _).2 ⟨hl,?_,⟨?_,Ex.oi hf h gs V.targets.2⟩,⟨?_,Ex.oi hf h e V.ak.2⟩,⟨?_,?_⟩,⟨eL _,trivial⟩,?_,Sm.NJ b _ _ h oM V.body.2⟩
    .have:=V.text;simp only[Sm.text]at this |-;split
     .exact Do hf h this
     .exact this
    .have:=V.targets.1;simp only[Sm.targets]at this |-;rw[Ex.jM,bu];exact this
    .have:=V.ak.1;simp only[Sm.ak]at this |-;rw[Ex.jM,bu];exact this
    .have:=V.elems.1;simp only[Sm.elems]at this |-;rw[bu];exact this
    .intro x hx;simp only[Sm.elems]at hx;obtain⟨y,hy,rfl⟩:=cE.1 hx;exact El.s9 hf h y (V.elems.2 y hy)
    .have:=V.body.1;simp only[Sm.body]at this |-;rw[Sm.DZ];exact this
theorem De.s9:∀(s:De) (own sc:ag) (n:Nat),eV N own->eV N sc->n+s.nb<=N->s.ok->(s.w f own sc n).ok
 |.mk k o t ns e fo b,own,sc,n,h,h2,hN,v=>by
  have V:=(De.ep _).1 v;have hl:=GZ V.names fun x hx=>Do hf h (V.names.2 x hx)
  rw[De.nb]at hN;rw[De.w];by_cases h4:k=4
  .rw[ai h4]at hN;have hb:=tM (fo.map Fo.name) n;have h':=h.bind (fo.map Fo.name) n oM;rw[ai h4];refine(De.ep _).2 ⟨hl,⟨eL _,trivial⟩,⟨?_,?_⟩,?_,Sm.NJ b _ _ h' oM V.body.2⟩
   .have:=V.aB.1;simp only[De.aB]at this |-;rw[bu];exact this
   .intro x hx;simp only[De.aB]at hx;obtain⟨y,hy,rfl⟩:=cE.1 hx;exact Do hf h' (V.aB.2 y hy)
   .have:=V.body.1;simp only[De.body]at this |-;rw[Sm.DZ];exact this
  .have h':eV N (if k=2 then sc else own):=by split<;>assumption
   rw[aj h4];refine(De.ep _).2 ⟨hl,⟨?_,Ex.oi hf h' e V.ak.2⟩,⟨eL _,fun x hx=>by cases hx⟩,eL _,trivial⟩;have:=V.ak.1;simp only[De.ak]at this |-;rw[Ex.jM,bu];exact this
theorem De.oi:∀(l:List De) (own sc:ag) (n:Nat),eV N own->eV N sc->n+De.aJ l<=N->De.bR l->De.bR (De.wl f own sc n l)
 |[],_,_,_,_,_,_,_=>by rw[De.wl];exact trivial
 |x::l,own,sc,n,h,h2,hN,v=>by
  rw[De.aJ]at hN;rw[De.bR]at v;rw[De.wl,De.bR];exact⟨De.s9 x own sc n h h2 oM v.1,De.oi l own sc _ h h2 oM v.2⟩
theorem Sm.oi:∀(l:List Sm) (sc:ag) (n:Nat),eV N sc->n+Sm.aJ l<=N->Sm.bR l->Sm.bR (Sm.wl f sc n l)
 |[],_,_,_,_,_=>by rw[Sm.wl];exact trivial
 |x::l,sc,n,h,hN,v=>by
  rw[Sm.aJ]at hN;rw[Sm.bR]at v;rw[Sm.wl,Sm.bR];exact⟨Sm.s9 x sc n h oM v.1,Sm.oi l sc _ h oM v.2⟩
theorem Sm.NJ:∀(l:List Sm) (sc:ag) (n:Nat),eV N sc->n+Sm.aX l<=N->Sm.bR l->Sm.bR (Sm.w1 f sc n l)
 |[],_,_,_,_,_=>by rw[Sm.w1];exact trivial
 |x::l,sc,n,h,hN,v=>by
  rw[Sm.aX]at hN;rw[Sm.bR]at v;have hb:=tM x.labels n;rw[Sm.w1,Sm.bR];exact⟨Sm.s9 x _ _ (h.bind x.labels n oM) oM v.1,Sm.NJ l sc _ h oM v.2⟩
end
theorem Sm.qmE(s:Sm)(hN:Sm.aX [s]<=N)(v:s.ok):(s.whole f).ok:=by
 simp only[Sm.aX,rJ]at hN;have hb:eV N [ah s.labels 0]:=eV.bind (sc:=[]) (fun x k h=>by cases h) s.labels 0 oM;exact Sm.s9 hf s _ _ hb oM v
end
def qgn{l:List Ex}{deep n:Int}(h:n<=0):Ex.cZ l deep n<=0:=by
 unfold Ex.cZ;split
 .omega
 .rw[Ex.qd l deep n h];exact h
mutual
theorem Ex.zh:∀(x:Ex) (deep n:Int),0<x.left deep n->x.left deep n=n-(Pa.ex x).size
 |.mk k o n' m e t a,deep,n,h=>by
  have hsz:(Pa.ex (.mk k o n' m e t a)).size=1+aY (a.map Pa.ex):=by rw[Pa.size_eq];rfl
  rw[Ex.left]at h |-;split at h
  .omega
  .rename_i hd;rw[aj hd,Ex.nP a _ _ h];omega
theorem Ex.nP:∀(l:List Ex) (deep n:Int),0<Ex.leftG l deep n->Ex.leftG l deep n=n-aY (l.map Pa.ex)
 |[],_,n,h=>by simp[Ex.leftG]
 |x::l,deep,n,h=>by
  rw[Ex.leftG]at h |-;split at h
  .rename_i h0;rw[ai h0];by_cases hx:0<x.left deep n
   .rw[Ex.nP l _ _ h,Ex.zh x deep n hx,b9,fq];omega
   .rw[Ex.qd l _ _ oM]at h;omega
  .omega
end
def Ex.zg(l:List Ex)(deep n:Int)(h:0<Ex.cZ l deep n):Ex.cZ l deep n=n-aY (l.map Pa.ex):=by
 unfold Ex.cZ at h |-;split at h
 .omega
 .rename_i hd;rw[aj hd,Ex.nP l _ _ h]
def El.nP:∀(l:List El) (deep n:Int),0<El.leftG l deep n->El.leftG l deep n=n-aY (l.map Pa.el)
 |[],_,n,h=>by simp[El.leftG]
 |x::l,deep,n,h=>by
  have hsz:(Pa.el x).size=1+aY (x.ak.map Pa.ex):=by rw[Pa.size_eq];rfl
  rw[El.leftG]at h |-;split at h
  .rename_i h0;rw[ai h0];by_cases hx:0<Ex.cZ x.ak (deep+1) (n-1)
   .rw[El.nP l _ _ h,Ex.zg _ _ _ hx,b9,fq];omega
   .have:El.leftG l deep (Ex.cZ x.ak (deep+1) (n-1))=Ex.cZ x.ak (deep+1) (n-1):=by cases l<;>simp[El.leftG,hx]
    rw[this]at h;omega
  .omega
def El.ui{l:List El}{deep n:Int}(h:¬0<n):El.leftG l deep n=n:=by cases l<;>simp[El.leftG,h]
def De.ui{l:List De}{deep n:Int}(h:¬0<n):De.leftG l deep n=n:=by cases l<;>simp[De.leftG,h]
def Sm.ui{l:List Sm}{deep n:Int}(h:¬0<n):Sm.leftG l deep n=n:=by cases l<;>simp[Sm.leftG,h]
def Sm.xP(s:Sm):(Pa.st s).size=1+s.labels.length+aY (s.targets.map Pa.ex)+aY (s.ak.map Pa.ex)+aY (s.elems.map Pa.el)+aY (s.decls.map Pa.de)+aY (s.body.map Pa.st):=by
 rw[Pa.size_eq];simp only[Pa.own,Pa.kids,pf];omega
def De.xP(d:De):(Pa.de d).size=1+d.names.length+d.aB.length+aY (d.ak.map Pa.ex)+aY (d.body.map Pa.st):=by
 rw[Pa.size_eq];simp only[Pa.own,Pa.kids,pf];omega
mutual
theorem Sm.zh:∀(s:Sm) (deep n:Int),0<s.left deep n->s.left deep n=n-(Pa.st s).size
 |.mk l k t g e f d b,deep,n,h=>by
  have hsz:=Sm.xP (.mk l k t g e f d b);simp only[Sm.labels,Sm.targets,Sm.ak,Sm.elems,Sm.decls,Sm.body]at hsz;rw[Sm.left]at h |-;split at h
  .omega
  .rename_i hd;rw[aj hd];have h5:=Sm.nP b _ _ h
   have h4:0<De.leftG d deep (El.leftG f deep (Ex.cZ g (deep+1) (Ex.cZ e (deep+1) (n-1-l.length)))):=by
    by_cases hh:0<De.leftG d deep (El.leftG f deep (Ex.cZ g (deep+1) (Ex.cZ e (deep+1) (n-1-l.length))))
    .exact hh
    .rw[Sm.ui hh]at h;exact h
   have h4':=De.nP d _ _ h4
   have h3:0<El.leftG f deep (Ex.cZ g (deep+1) (Ex.cZ e (deep+1) (n-1-l.length))):=by
    by_cases hh:0<El.leftG f deep (Ex.cZ g (deep+1) (Ex.cZ e (deep+1) (n-1-l.length)))
    .exact hh
    .rw[De.ui hh]at h4;exact h4
   have h3':=El.nP f _ _ h3
   have h2:0<Ex.cZ g (deep+1) (Ex.cZ e (deep+1) (n-1-l.length)):=by
    by_cases hh:0<Ex.cZ g (deep+1) (Ex.cZ e (deep+1) (n-1-l.length))
    .exact hh
    .rw[El.ui hh]at h3;exact h3
   have h2':=Ex.zg g _ _ h2
   have h1:0<Ex.cZ e (deep+1) (n-1-l.length):=by
    by_cases hh:0<Ex.cZ e (deep+1) (n-1-l.length)
    .exact hh
    .have:=qgn (l:=g) (deep:=deep+1) (n:=Ex.cZ e (deep+1) (n-1-l.length)) oM;omega
   have h1':=Ex.zg e _ _ h1;omega
theorem De.zh:∀(s:De) (deep n:Int),0<s.left deep n->s.left deep n=n-(Pa.de s).size
 |.mk k o t nm e f b,deep,n,h=>by
  have hsz:=De.xP (.mk k o t nm e f b);simp only[De.names,De.aB,De.ak,De.body]at hsz;rw[De.left]at h |-;have h5:=Sm.nP b _ _ h
  have h1:0<Ex.cZ e (deep+1) (n-1-nm.length-f.length):=by
   by_cases hh:0<Ex.cZ e (deep+1) (n-1-nm.length-f.length)
   .exact hh
   .rw[Sm.ui hh]at h;exact h
  have h1':=Ex.zg e _ _ h1;omega
theorem De.nP:∀(l:List De) (deep n:Int),0<De.leftG l deep n->De.leftG l deep n=n-aY (l.map Pa.de)
 |[],_,n,h=>by simp[De.leftG]
 |x::l,deep,n,h=>by
  rw[De.leftG]at h |-;split at h
  .rename_i h0;rw[ai h0];by_cases hx:0<x.left deep n
   .rw[De.nP l _ _ h,De.zh x deep n hx,b9,fq];omega
   .rw[De.ui hx]at h;omega
  .omega
theorem Sm.nP:∀(l:List Sm) (deep n:Int),0<Sm.leftG l deep n->Sm.leftG l deep n=n-aY (l.map Pa.st)
 |[],_,n,h=>by simp[Sm.leftG]
 |x::l,deep,n,h=>by
  rw[Sm.leftG]at h |-;split at h
  .rename_i h0;rw[ai h0];by_cases hx:0<x.left deep n
   .rw[Sm.nP l _ _ h,Sm.zh x deep n hx,b9,fq];omega
   .rw[Sm.ui hx]at h;omega
  .omega
end
def I3:∀(l:List Bz) (s:bw) (n:Nat),(binds l s n).length<=s.length+l.length
 |[],s,n=>by simp[binds]
 |x::l,s,n=>by
  simp only[binds];split
  .have:=I3 l s n;simp;omega
  .have:=I3 l (s++[(x,n)]) (n+1);simp at this |-;omega
def E4(l:List Bz)(n:Nat):(ah l n).length<=l.length:=by have:=I3 l [] n;simpa[ah]using this
def qf5(x:Sm)(l:List Sm):(bq (x::l)).length=x.labels.length+(bq l).length:=by simp[bq]
def qgX(x:De)(l:List De):((x::l).flatMap De.names).length=x.names.length+(l.flatMap De.names).length:=by simp
mutual
theorem Sm.GU:∀s:Sm,s.labels.length+s.nb<=(Pa.st s).size
 |.mk l k t g e f d b=>by
  have hsz:=Sm.xP (.mk l k t g e f d b);have hd:=De.CV d;have hb:=Sm.CV b;have h1:=Sm.GT b;simp only[Sm.labels,Sm.targets,Sm.ak,Sm.elems,Sm.decls,Sm.body]at hsz |-;rw[Sm.nb];split
  .have:=E4 (bM d b) 0;unfold bM at this |-;rw[cJ]at this;omega
  .split
   .have:=E4 (bq b) 0;omega
   .omega
theorem De.GU:∀s:De,s.names.length+s.nb<=(Pa.de s).size
 |.mk k o t nm e f b=>by
  have hsz:=De.xP (.mk k o t nm e f b);have h1:=Sm.GT b;simp only[De.names,De.aB,De.ak,De.body]at hsz |-;rw[De.nb];split
  .have:=E4 (f.map Fo.name) 0;rw[bu]at this;omega
  .omega
theorem De.CV:∀l:List De,(l.flatMap De.names).length+De.aJ l<=aY (l.map Pa.de)
 |[]=>by simp[De.aJ]
 |x::l=>by
  have h1:=De.GU x;have h2:=De.CV l;rw[qgX,De.aJ,b9,fq];omega
theorem Sm.CV:∀l:List Sm,(bq l).length+Sm.aJ l<=aY (l.map Pa.st)
 |[]=>by simp[Sm.aJ,bq]
 |x::l=>by
  have h1:=Sm.GU x;have h2:=Sm.CV l;rw[qf5,Sm.aJ,b9,fq];omega
theorem Sm.GT:∀l:List Sm,Sm.aX l<=aY (l.map Pa.st)
 |[]=>by simp[Sm.aX]
 |x::l=>by
  have h1:=Sm.GU x;have h2:=Sm.GT l;have h3:=E4 x.labels 0;rw[Sm.aX,b9,fq];omega
end
def qiv(c:UInt8)(l:List UInt8):((⟨⟨[c]⟩⟩:Bz)++⟨l.toArray⟩).data.toList=c::l:=by
 simp[ByteArray.data_append]
def qiu{c:UInt8}{l:List UInt8}(h:kz c.toNat=false):ar ((⟨⟨[c]⟩⟩:Bz)++⟨l.toArray⟩)=false:=by
 unfold ar;rw[qiv];simp[FZ,h]
def LN(k:Nat):ar (mF k)=false:=qiu (by decide)
def pS{p:Pa}{nm:Bz->Bool}(h:p.err nm=0):p.fits/\p.valid nm=true:=by
 unfold Pa.err at h;split at h
 .rename_i hf;split at h
  .rename_i hv;exact⟨hf,hv⟩
  .omega
 .omega
def Vl{s:Sm}(h:s.light=true):(Pa.st s).size<150:=by
 unfold Sm.light at h;rw[cR]at h;have:=Sm.zh s 0 150 h;omega
def qg0{s:Sm}(h:s.light=true):Sm.aX [s]<150:=by
 have h1:=Vl h;have h2:=Sm.GT [s];simp at h2;omega
end Go.Proofs.YtbifpocccfkhhaaGreatDoor
namespace Go.Proofs.YtbifpocccfkhhaaGreatDoor
open Go Go.ChangeShapes Go.WideShapes Go.ChangeAt Go.RowKit
def CR(W:World)(vs:List V)(cs:List Value):Prop:=vs.length=cs.length/\∀(j:Nat) (v:V) (c:Value),vs[j]?=some v->cs[j]?=some c->VR (E0 W) v c
def fi{H:Type}(t:TypeId)(d:DataW H):Prop:=∀n,n∈d.weights Tryz.prog t->n<=reachBytes
theorem G7{n:Nat}(h:n<=reachBytes):n<=aR:=by unfold reachBytes at h;unfold aR;omega
section
variable {H:Type} {enc:TypeId×Value->H} {W:World}
theorem weightsAll_mem{e:TypeId}{n:Nat}:∀{l:List (DataW H)} {d:DataW H},d∈l->n∈d.weights Tryz.prog e->n∈DataW.weightsAll Tryz.prog e l
 |x::l,d,hd,hn=>by
  rw[DataW.weightsAll];rcases cX.1 hd with rfl|hd
  .exact vO _ hn
  .exact yi _ (weightsAll_mem hd hn)
theorem NM{n:Nat}:∀{ts:List TypeId} {l:List (DataW H)} {i:Nat} {t:TypeId} {d:DataW H},ts[i]?=some t->l[i]?=some d->n∈d.weights Tryz.prog t->n∈DataW.weightsEach Tryz.prog ts l
 |t0::ts,d0::l,0,t,d,ht,hd,hn=>by
  simp at ht hd;subst ht;subst hd;rw[DataW.weightsEach];exact vO _ hn
 |t0::ts,d0::l,i+1,t,d,ht,hd,hn=>by
  rw[DataW.weightsEach];exact yi _ (NM (i:=i) (by simpa using ht) (by simpa using hd) hn)
theorem fi.part{t:TypeId}{fs:Array Field}(ht:Tryz.prog.underlying t=some (.struct fs)){l:List (DataW H)}(h:fi t (.agg l)){i:Nat}{f:Field}{d:DataW H}(hf:fs[i]?=some f)(hd:l[i]?=some d):fi f.type d:=fun n hn=>h n (by
 rw[DataW.weights,ht];exact NM (i:=i) (t:=f.type) (by simp[hf]) hd hn)
theorem fi.elem{t e:TypeId}(ht:Tryz.prog.underlying t=some (.slice e)){l r:List (DataW H)}(h:fi t (.slice l r)){d:DataW H}(hd:d∈l):fi e d:=fun n hn=>h n (by
 rw[DataW.weights,ht];exact mc _ (vO _ (weightsAll_mem hd hn)))
theorem fi.len{t e:TypeId}(ht:Tryz.prog.underlying t=some (.slice e))(hb:0<Tryz.prog.bytesOf e){l r:List (DataW H)}(h:fi t (.slice l r)):l.length<=aR:=by
 have:=h ((l.length+r.length)*Tryz.prog.bytesOf e) (by rw[DataW.weights,ht];exact tH ..);refine G7 (fL ?_ this)
 calc l.length<=(l.length+r.length)*1:=by omega
  _<=_:=Nat.mul_le_mul_left _ hb
theorem qlN{a:Addr}{v:Value}(h:W.cell? a=some v):a.spot=none:=by
 unfold World.cell? at h;split at h
 .split at h
  .cases h
  .rename_i hs;simpa using hs
 .cases h
theorem Ri{b o k:Nat}:(Addr.add ⟨b,o,none⟩ k)=⟨b,o+k,none⟩:=by
 unfold Addr.add;split
 .rename_i h;subst h;rfl
 .rfl
theorem MR{α:Type}(f:α->V)(ok:α->Prop){sz:Nat}(hsz:∀a,(f a).cells.length=sz)(hz:0<sz){t e:TypeId}(ht:Tryz.prog.underlying t=some (.slice e))(hc:Tryz.prog.cellsOf e=sz)(hb:0<Tryz.prog.bytesOf e){fuel:Nat}
  (hel:∀n,n<fuel->∀cs (x:DataW H×List MemPlace),DataW.trod enc Tryz.prog W 0 (fun _=>true) true n e cs=some x->fi e x.1->∃a,ok a/\CR W (f a).cells cs)
  {cs:List Value} {x:DataW H×List MemPlace} (h:DataW.trod enc Tryz.prog W 0 (fun _=>true) true fuel t cs=some x) (hw:fi t x.1):
  ∃l:List α,(∀a,a∈l->ok a)/\l.length<=aR/\∃v,cs=[v]/\VR (E0 W) (.sl false (l.map f)) v:=by
 rcases DataW.trod_slice ht h with ⟨rfl,_⟩|⟨a,len,cap,elems,rest,n,rfl,rfl,rfl,_,hl,_,hlen,h1,h2,_⟩
 .exact⟨[],fun a ha=>(by cases ha),eL _,_,rfl,.slnil _⟩
 obtain⟨h2a,h2b⟩:=h2 rfl;rw[hc]at h1 h2b;have hle:=fi.len ht hb hw;rw[bu]at hle
 have each:∀i,i<len->∃b,ok b/\∃cs',W.cells? 0 (a.add (i*sz)) sz=some cs'/\CR W (f b).cells cs':=fun i hi=>by
  have hi':i<elems.length:=by omega
  have:=h1 i hi;rw[bI hi',pK]at this;obtain⟨cs',k1,k2⟩:=this;obtain⟨b,k3,k4⟩:=hel n (by omega) cs' _ k2 (fi.elem ht hw (jO (cI hi')));exact⟨b,k3,cs',k1,k4⟩
 by_cases hcap:cap=0
 .have:len=0:=by omega
  subst hcap;subst this;exact⟨[],fun a ha=>(by cases ha),eL _,_,rfl,.kL _ _⟩
 have hspot:a.spot=none:=by
  have read:∀cs',W.cells? 0 (a.add (0*sz)) sz=some cs'->a.spot=none:=fun cs' k=>by
   obtain⟨_,q1,q2⟩:=World.cells?_some k;have:=q2 0 hz;have hcs:0<cs'.length:=by omega
   rw[bI hcs]at this;have:=qlN this;simpa[Addr.add]using this
  by_cases h0:0<len
  .obtain⟨_,_,cs',k,_⟩:=each 0 h0;exact read cs' k
  .have hl0:len=0:=by omega
   have:=h2b 0 (by omega);obtain⟨y0,hy0⟩:∃y,rest[0]?=some y:=⟨_,bI (by omega)⟩;rw[hy0,pK]at this;obtain⟨cs',k,_⟩:=this;rw[hl0]at k;exact read cs' (by simpa using k)
 obtain⟨b,o,spot⟩:=a;simp only at hspot;subst hspot;obtain⟨g,hg⟩:∃g:Fin len->α,∀i,ok (g i)/\∃cs',W.cells? 0 (Addr.add ⟨b,o,none⟩ (i.1*sz)) sz=some cs'/\CR W (f (g i)).cells cs':=⟨fun i=>Classical.choose (each i.1 i.2),fun i=>Classical.choose_spec (each i.1 i.2)⟩;have hll:(List.ofFn g).length=len:=List.length_ofFn;have hl2:((List.ofFn g).map f).length=len:=by rw[bu,hll]
 have cell:∀i (hi:i<len) j,j<sz->∃c,W.cell? ⟨b,o+i*sz+j,none⟩=some c/\∀v,(f (g ⟨i,hi⟩)).cells[j]?=some v->VR (E0 W) v c:=fun i hi j hj=>by
  obtain⟨_,cs',k1,k2,k3⟩:=hg ⟨i,hi⟩;obtain⟨_,q1,q2⟩:=World.cells?_some k1;have q:=q2 j hj;have hj':j<cs'.length:=by omega
  rw[bI hj',Ri,Ri]at q;exact⟨_,q,fun v hv=>k3 j v _ hv (bI hj')⟩
 refine⟨List.ofFn g,fun a ha=>?_,by omega,_,rfl,?_⟩
 .obtain⟨i,rfl⟩:=List.mem_ofFn.1 ha;exact(hg i).1
 .have:=@VR.sl (E0 W) false ((List.ofFn g).map f) b o cap sz (by omega) (fun h=>by cases h) (fun v hv=>?_) (fun i j hi hj=>?_) (fun i v j c' c hv hc hI=>?_)
  .rw[hl2]at this;exact this
  .obtain⟨y,_,rfl⟩:=cE.1 hv;exact hsz y
  .rw[hl2]at hi;obtain⟨c,hc,_⟩:=cell i hi j hj;simp only[E0,hc];rfl
  .rw[dS,dL]at hv;obtain⟨y,hy,rfl⟩:=hv;rw[List.getElem?_ofFn]at hy;split at hy
   .rename_i hi;cases hy;have hj:j<sz:=by have:=(aT.1 hc).1;rw[hsz]at this;exact this
    obtain⟨c2,hc2,hv2⟩:=cell i hi j hj;simp only[E0,hc2]at hI;cases hI;exact hv2 _ hc
   .cases hy
theorem piece{cs l:List Value}{o k i:Nat}(h:(cs.drop o).take k=l)(hi:i<k):cs[o+i]?=l[i]?:=by
 rw[<-h,lj hi,kh]
theorem Av{vs:List V}{cs:List Value}(hl:vs.length=cs.length)(h:∀(j:Nat) (v:V),vs[j]?=some v->∃c,cs[j]?=some c/\VR (E0 W) v c):CR W vs cs:=
 ⟨hl,fun j v c hv hc=>by
  obtain⟨c',h1,h2⟩:=h j v hv;rw[h1]at hc;cases hc;exact h2⟩
theorem Ex.o9:∀{l:List Ex},(∀x,x∈l->x.ok)->Ex.bR l
 |[],_=>trivial
 |x::l,h=>⟨h x (by simp),Ex.o9 fun y hy=>h y (by simp[hy])⟩
theorem De.o9:∀{l:List De},(∀x,x∈l->x.ok)->De.bR l
 |[],_=>by rw[De.bR];exact trivial
 |x::l,h=>by rw[De.bR];exact⟨h x (by simp),De.o9 fun y hy=>h y (by simp[hy])⟩
theorem Sm.o9:∀{l:List Sm},(∀x,x∈l->x.ok)->Sm.bR l
 |[],_=>by rw[Sm.bR];exact trivial
 |x::l,h=>by rw[Sm.bR];exact⟨h x (by simp),Sm.o9 fun y hy=>h y (by simp[hy])⟩
theorem kc3:Tryz.prog.cellsOf 3=1:=by kernel_rfl
theorem qfT:Tryz.prog.cellsOf 4=1:=by kernel_rfl
theorem K0:Tryz.prog.cellsOf 9=1:=by kernel_rfl
theorem qfO:Tryz.prog.cellsOf 22=1:=by kernel_rfl
theorem KY:Tryz.prog.cellsOf 23=1:=by kernel_rfl
theorem qfP:Tryz.prog.cellsOf 24=1:=by kernel_rfl
theorem qfQ:Tryz.prog.cellsOf 25=1:=by kernel_rfl
theorem UV:Tryz.prog.cellsOf 26=1:=by kernel_rfl
theorem qfS:Tryz.prog.cellsOf 40=1:=by kernel_rfl
theorem UX:Tryz.prog.cellsOf 52=2:=by kernel_rfl
theorem Cj:Tryz.prog.cellsOf 54=7:=by kernel_rfl
theorem UU:Tryz.prog.cellsOf 135=2:=by kernel_rfl
theorem UY:Tryz.prog.cellsOf 87=4:=by kernel_rfl
theorem UW:Tryz.prog.cellsOf 42=7:=by kernel_rfl
theorem KZ:Tryz.prog.cellsOf 28=8:=by kernel_rfl
theorem y9:0<Tryz.prog.bytesOf 9:=by decide+kernel
theorem HY:0<Tryz.prog.bytesOf 54:=by decide+kernel
theorem qmY:0<Tryz.prog.bytesOf 135:=by decide+kernel
theorem y87:0<Tryz.prog.bytesOf 87:=by decide+kernel
theorem y42:0<Tryz.prog.bytesOf 42:=by decide+kernel
theorem y28:0<Tryz.prog.bytesOf 28:=by decide+kernel
theorem qb{n o:Nat}{cs:List Value}{y:DataW H×List MemPlace}(h:DataW.trod enc Tryz.prog W 0 (fun _=>true) true n 3 ((cs.drop o).take (Tryz.prog.cellsOf 3))=some y):∃k,cs[o]?=some (.int .i64 k):=by
 obtain⟨k,hk,_⟩:=DataW.trod_int Tryz.underlying3 h;rw[kc3]at hk;exact⟨k,by have:=piece hk (i:=0) (by omega);simpa using this⟩
theorem RF{n o:Nat}{cs:List Value}{y:DataW H×List MemPlace}(h:DataW.trod enc Tryz.prog W 0 (fun _=>true) true n 4 ((cs.drop o).take (Tryz.prog.cellsOf 4))=some y):∃k,cs[o]?=some (.bool k):=by
 obtain⟨k,hk,_⟩:=DataW.trod_bool Tryz.underlying4 h;rw[qfT]at hk;exact⟨k,by have:=piece hk (i:=0) (by omega);simpa using this⟩
theorem Nu{n o:Nat}{cs:List Value}{y:DataW H×List MemPlace}(h:DataW.trod enc Tryz.prog W 0 (fun _=>true) true n 9 ((cs.drop o).take (Tryz.prog.cellsOf 9))=some y)(hw:fi 9 y.1):∃s:ByteArray,cs[o]?=some (.string s)/\s.size<=aR:=by
 obtain⟨k,hk,hy,_⟩:=DataW.trod_string Tryz.underlying9 h;rw[K0]at hk;refine⟨k,by have:=piece hk (i:=0) (by omega);simpa using this,?_⟩;have:=hw k.size (by rw[hy,DataW.weights];exact mK.2 (by rw[pB];rfl));exact G7 this
theorem sG{α:Type}(f:α->V)(ok:α->Prop){sz:Nat}(hsz:∀a,(f a).cells.length=sz)(hz:0<sz){t e:TypeId}(ht:Tryz.prog.underlying t=some (.slice e))(hc:Tryz.prog.cellsOf e=sz)(hb:0<Tryz.prog.bytesOf e)(h1:Tryz.prog.cellsOf t=1){n o:Nat}
  (hel:∀m,m<n->∀cs (x:DataW H×List MemPlace),DataW.trod enc Tryz.prog W 0 (fun _=>true) true m e cs=some x->fi e x.1->∃a,ok a/\CR W (f a).cells cs)
  {cs:List Value} {y:DataW H×List MemPlace} (h:DataW.trod enc Tryz.prog W 0 (fun _=>true) true n t ((cs.drop o).take (Tryz.prog.cellsOf t))=some y) (hw:fi t y.1):
  ∃l:List α,(∀a,a∈l->ok a)/\l.length<=aR/\∃v,cs[o]?=some v/\VR (E0 W) (.sl false (l.map f)) v:=by
 obtain⟨l,k1,k2,v,k3,k4⟩:=MR f ok hsz hz ht hc hb hel h hw;rw[h1]at k3;exact⟨l,k1,k2,v,by have:=piece k3 (i:=0) (by omega);simpa using this,k4⟩
theorem ZZ{n:Nat}:∀m,m<n->∀cs (x:DataW H×List MemPlace),DataW.trod enc Tryz.prog W 0 (fun _=>true) true m 9 cs=some x->fi 9 x.1->∃s:ByteArray,s.size<=aR/\CR W (V.str s).cells cs:=by
 intro m _ cs x h hw;obtain⟨k,rfl,hy,_⟩:=DataW.trod_string Tryz.underlying9 h;refine⟨k,G7 (hw k.size (by rw[hy,DataW.weights];exact mK.2 (by rw[pB];rfl))),rfl,fun j v c hv hc=>?_⟩
 match j,hv,hc with
 |0,hv,hc=>simp at hv hc;subst hv;subst hc;exact .str k
theorem parts{t:TypeId}{fs:Array Field}(ht:Tryz.prog.underlying t=some (.struct fs)){fuel:Nat}{cs:List Value}{x:DataW H×List MemPlace}(h:DataW.trod enc Tryz.prog W 0 (fun _=>true) true fuel t cs=some x)(hw:fi t x.1):
  ∃n,n<fuel/\cs.length=Tryz.prog.cellsOf t/\∀(i:Nat) (f:Field),fs[i]?=some f->∃y:DataW H×List MemPlace,DataW.trod enc Tryz.prog W 0 (fun _=>true) true n f.type ((cs.drop f.offset).take (Tryz.prog.cellsOf f.type))=some y/\fi f.type y.1:=by
 obtain⟨xs,n,rfl,rfl,h1,h2,h3⟩:=DataW.trod_struct ht h;refine⟨n,by omega,h1,fun i f hf=>?_⟩
 have hi:i<xs.length:=by
  have:=(gY.1 hf).1;omega
 have:=h3 i f hf;rw[bI hi]at this;exact⟨xs[i],this,fi.part ht hw hf (by simp[hi])⟩
theorem Bw:∀(m fuel:Nat),fuel<=m->∀cs (x:DataW H×List MemPlace),DataW.trod enc Tryz.prog W 0 (fun _=>true) true fuel 54 cs=some x->fi 54 x.1->∃a:Ex,a.ok/\CR W a.v.cells cs
 |0,fuel,hm,cs,x,h,hw=>by
  obtain⟨n,hn,_⟩:=parts Tryz.underlying54 h hw;omega
 |m+1,fuel,hm,cs,x,h,hw=>by
  obtain⟨n,hn,hl,hp⟩:=parts Tryz.underlying54 h hw;obtain⟨y0,p0,q0⟩:=hp 0 _ rfl;obtain⟨y1,p1,q1⟩:=hp 1 _ rfl;obtain⟨y2,p2,q2⟩:=hp 2 _ rfl;obtain⟨y3,p3,q3⟩:=hp 3 _ rfl;obtain⟨y4,p4,q4⟩:=hp 4 _ rfl;obtain⟨y5,p5,q5⟩:=hp 5 _ rfl;obtain⟨k0,e0⟩:=qb p0;obtain⟨k1,e1⟩:=qb p1;obtain⟨k2,e2⟩:=qb p2;obtain⟨n3,hn3,hl3,hp3⟩:=parts Tryz.underlying52 p3 q3;obtain⟨z0,r0,_⟩:=hp3 0 _ rfl;obtain⟨z1,r1,_⟩:=hp3 1 _ rfl;obtain⟨k3,e3⟩:=qb r0;obtain⟨k4,e4⟩:=qb r1;obtain⟨s,e5,hs⟩:=Nu p4 q4;obtain⟨l,hlo,hll,v,e6,hv⟩:=sG Ex.v Ex.ok (sz:=7) (fun a=>by simp) (by omega) Tryz.underlying23 Cj HY KY (fun m' hm'=>Bw m m' (by omega)) p5 q5;have e3:((cs.drop 3).take 2)[0]?=some (.int .i64 k3):=by rw[<-UX];exact e3
  have e4:((cs.drop 3).take 2)[1]?=some (.int .i64 k4):=by rw[<-UX];exact e4
  rw[lj (by omega),kh]at e3 e4;refine⟨.mk k0 k1 k2 k3 k4 s l,⟨hs,hll,Ex.o9 hlo⟩,Av ?_ ?_⟩
  .rw[hl,Cj];simp
  .intro j w hw';rw[Ex.l4]at hw'
   match j,hw' with
   |0,hw'=>cases hw';exact⟨_,e0,.int _ _⟩
   |1,hw'=>cases hw';exact⟨_,e1,.int _ _⟩
   |2,hw'=>cases hw';exact⟨_,e2,.int _ _⟩
   |3,hw'=>cases hw';exact⟨_,e3,.int _ _⟩
   |4,hw'=>cases hw';exact⟨_,e4,.int _ _⟩
   |5,hw'=>cases hw';exact⟨_,e5,.str _⟩
   |6,hw'=>cases hw';exact⟨_,e6,hv⟩
theorem qcU{fuel:Nat}{cs:List Value}{x:DataW H×List MemPlace}(h:DataW.trod enc Tryz.prog W 0 (fun _=>true) true fuel 135 cs=some x)(hw:fi 135 x.1):∃a:El,a.ok/\CR W a.v.cells cs:=by
 obtain⟨n,hn,hl,hp⟩:=parts Tryz.underlying135 h hw;obtain⟨y0,p0,q0⟩:=hp 0 _ rfl;obtain⟨y1,p1,q1⟩:=hp 1 _ rfl;obtain⟨k0,e0⟩:=qb p0;obtain⟨l,hlo,hll,v,e1,hv⟩:=sG Ex.v Ex.ok (sz:=7) (fun a=>by simp) (by omega) Tryz.underlying23 Cj HY KY (fun m' hm'=>Bw m' m' (cq _)) p1 q1;refine⟨⟨k0,l⟩,⟨hll,Ex.o9 hlo⟩,Av ?_ ?_⟩
 .rw[hl,UU];rfl
 .intro j w hw';rw[El.l4]at hw'
  match j,hw' with
  |0,hw'=>cases hw';exact⟨_,e0,.int _ _⟩
  |1,hw'=>cases hw';exact⟨_,e1,hv⟩
theorem qeh{fuel:Nat}{cs:List Value}{x:DataW H×List MemPlace}(h:DataW.trod enc Tryz.prog W 0 (fun _=>true) true fuel 87 cs=some x)(hw:fi 87 x.1):∃a:Fo,a.ok/\CR W a.v.cells cs:=by
 obtain⟨n,hn,hl,hp⟩:=parts Tryz.underlying87 h hw;obtain⟨y0,p0,q0⟩:=hp 0 _ rfl;obtain⟨y1,p1,q1⟩:=hp 1 _ rfl;obtain⟨y2,p2,q2⟩:=hp 2 _ rfl;obtain⟨y3,p3,q3⟩:=hp 3 _ rfl;obtain⟨s,e0,hs⟩:=Nu p0 q0;obtain⟨k1,e1⟩:=RF p1;obtain⟨k2,e2⟩:=qb p2;obtain⟨k3,e3⟩:=qb p3;refine⟨⟨s,k1,k2,k3⟩,hs,Av ?_ ?_⟩
 .rw[hl,UY];rfl
 .intro j w hw';rw[Fo.l4]at hw'
  match j,hw' with
  |0,hw'=>cases hw';exact⟨_,e0,.str _⟩
  |1,hw'=>cases hw';exact⟨_,e1,.bool _⟩
  |2,hw'=>cases hw';exact⟨_,e2,.int _ _⟩
  |3,hw'=>cases hw';exact⟨_,e3,.int _ _⟩
theorem JC{n o:Nat}{cs:List Value}{y:DataW H×List MemPlace}(h:DataW.trod enc Tryz.prog W 0 (fun _=>true) true n 23 ((cs.drop o).take (Tryz.prog.cellsOf 23))=some y)(hw:fi 23 y.1):
  ∃l:List Ex,(l.length<=aR/\Ex.bR l)/\∃v,cs[o]?=some v/\VR (E0 W) (.sl false (l.map Ex.v)) v:=by
 obtain⟨l,hlo,hll,hv⟩:=sG Ex.v Ex.ok (sz:=7) (fun a=>by simp) (by omega) Tryz.underlying23 Cj HY KY (fun m' hm'=>Bw m' m' (cq _)) h hw;exact⟨l,⟨hll,Ex.o9 hlo⟩,hv⟩
theorem ZY{n o:Nat}{cs:List Value}{y:DataW H×List MemPlace}(h:DataW.trod enc Tryz.prog W 0 (fun _=>true) true n 22 ((cs.drop o).take (Tryz.prog.cellsOf 22))=some y)(hw:fi 22 y.1):
  ∃l:List ByteArray,qY l/\∃v,cs[o]?=some v/\VR (E0 W) (.sl false (l.map .str)) v:=by
 obtain⟨l,hlo,hll,hv⟩:=sG V.str (fun s=>s.size<=aR) (sz:=1) (fun a=>rfl) (by omega) Tryz.underlying22 K0 y9 qfO ZZ h hw;exact⟨l,⟨hll,hlo⟩,hv⟩
theorem HK:∀(m fuel:Nat),fuel<=m->(∀cs (x:DataW H×List MemPlace),DataW.trod enc Tryz.prog W 0 (fun _=>true) true fuel 42 cs=some x->fi 42 x.1->∃a:De,a.ok/\CR W a.v.cells cs)/\
  ∀cs (x:DataW H×List MemPlace),DataW.trod enc Tryz.prog W 0 (fun _=>true) true fuel 28 cs=some x->fi 28 x.1->∃a:Sm,a.ok/\CR W a.v.cells cs
 |0,fuel,hm=>by
  refine⟨fun cs x h hw=>?_,fun cs x h hw=>?_⟩
  .obtain⟨n,hn,_⟩:=parts Tryz.underlying42 h hw;omega
  .obtain⟨n,hn,_⟩:=parts Tryz.underlying28 h hw;omega
 |m+1,fuel,hm=>by
  refine⟨fun cs x h hw=>?_,fun cs x h hw=>?_⟩
  .obtain⟨n,hn,hl,hp⟩:=parts Tryz.underlying42 h hw;obtain⟨y0,p0,q0⟩:=hp 0 _ rfl;obtain⟨y1,p1,q1⟩:=hp 1 _ rfl;obtain⟨y2,p2,q2⟩:=hp 2 _ rfl;obtain⟨y3,p3,q3⟩:=hp 3 _ rfl;obtain⟨y4,p4,q4⟩:=hp 4 _ rfl;obtain⟨y5,p5,q5⟩:=hp 5 _ rfl;obtain⟨y6,p6,q6⟩:=hp 6 _ rfl;obtain⟨k0,e0⟩:=qb p0;obtain⟨k1,e1⟩:=RF p1;obtain⟨k2,e2⟩:=qb p2;obtain⟨nm,on,v3,e3,h3⟩:=ZY p3 q3;obtain⟨ex,oe,v4,e4,h4⟩:=JC p4 q4;obtain⟨fo,of,lf,v5,e5,h5⟩:=sG Fo.v Fo.ok (sz:=4) (fun a=>rfl) (by omega) Tryz.underlying40 UY y87 qfS (fun m' hm' cs x=>qeh) p5 q5;obtain⟨bo,ob,lb,v6,e6,h6⟩:=sG Sm.v Sm.ok (sz:=8) (fun a=>by simp) (by omega) Tryz.underlying26 KZ y28 UV (fun m' hm'=>(HK m m' (by omega)).2) p6 q6;refine⟨.mk k0 k1 k2 nm ex fo bo,(De.ep _).2 ⟨on,oe,⟨lf,of⟩,⟨lb,Sm.o9 ob⟩⟩,Av ?_ ?_⟩
   .rw[hl,UW];simp
   .intro j w hw';rw[De.l4]at hw'
    match j,hw' with
    |0,hw'=>cases hw';exact⟨_,e0,.int _ _⟩
    |1,hw'=>cases hw';exact⟨_,e1,.bool _⟩
    |2,hw'=>cases hw';exact⟨_,e2,.int _ _⟩
    |3,hw'=>cases hw';exact⟨_,e3,h3⟩
    |4,hw'=>cases hw';exact⟨_,e4,h4⟩
    |5,hw'=>cases hw';exact⟨_,e5,h5⟩
    |6,hw'=>cases hw';exact⟨_,e6,h6⟩
  .obtain⟨n,hn,hl,hp⟩:=parts Tryz.underlying28 h hw;obtain⟨y0,p0,q0⟩:=hp 0 _ rfl;obtain⟨y1,p1,q1⟩:=hp 1 _ rfl;obtain⟨y2,p2,q2⟩:=hp 2 _ rfl;obtain⟨y3,p3,q3⟩:=hp 3 _ rfl;obtain⟨y4,p4,q4⟩:=hp 4 _ rfl;obtain⟨y5,p5,q5⟩:=hp 5 _ rfl;obtain⟨y6,p6,q6⟩:=hp 6 _ rfl;obtain⟨y7,p7,q7⟩:=hp 7 _ rfl;obtain⟨lb,ol,v0,e0,h0⟩:=ZY p0 q0;obtain⟨k1,e1⟩:=qb p1;obtain⟨s,e2,hs⟩:=Nu p2 q2;obtain⟨tg,ot,v3,e3,h3⟩:=JC p3 q3;obtain⟨ex,oe,v4,e4,h4⟩:=JC p4 q4;obtain⟨el,oel,lel,v5,e5,h5⟩:=sG El.v El.ok (sz:=2) (fun a=>rfl) (by omega) Tryz.underlying24 UU qmY qfP (fun m' hm' cs x=>qcU) p5 q5;obtain⟨de,od,ld,v6,e6,h6⟩:=sG De.v De.ok (sz:=7) (fun a=>by simp) (by omega) Tryz.underlying25 UW y42 qfQ (fun m' hm'=>(HK m m' (by omega)).1) p6 q6;obtain⟨bo,ob,lbo,v7,e7,h7⟩:=sG Sm.v Sm.ok (sz:=8) (fun a=>by simp) (by omega) Tryz.underlying26 KZ y28 UV (fun m' hm'=>(HK m m' (by omega)).2) p7 q7;refine⟨.mk lb k1 s tg ex el de bo,(Sm.ep _).2 ⟨ol,hs,ot,oe,⟨lel,oel⟩,⟨ld,De.o9 od⟩,⟨lbo,Sm.o9 ob⟩⟩,Av ?_ ?_⟩
   .rw[hl,KZ];simp
   .intro j w hw';rw[Sm.l4]at hw'
    match j,hw' with
    |0,hw'=>cases hw';exact⟨_,e0,h0⟩
    |1,hw'=>cases hw';exact⟨_,e1,.int _ _⟩
    |2,hw'=>cases hw';exact⟨_,e2,.str _⟩
    |3,hw'=>cases hw';exact⟨_,e3,h3⟩
    |4,hw'=>cases hw';exact⟨_,e4,h4⟩
    |5,hw'=>cases hw';exact⟨_,e5,h5⟩
    |6,hw'=>cases hw';exact⟨_,e6,h6⟩
    |7,hw'=>cases hw';exact⟨_,e7,h7⟩
set_option maxRecDepth 100000
theorem Rj{vs:List V}{v:Value}{cs:Array Value}(hv:v=.agg cs)(h:CR W vs v.cells.toList):VR (E0 W) (.agg vs) v:=by
 subst hv;refine .agg (by have:=h.1;simpa[Value.cells]using this) fun i x u hx hu=>h.2 i x u hx (by simpa[Value.cells]using hu)
theorem qlX{base:Nat}{v:Value}{d:DataW H}{p:List MemPlace}(hval:Value.okWide Tryz.prog W .any base 28 v)(h:DataW.Trod enc Tryz.prog W 0 (fun _=>true) true 28 v d p)(hw:fi 28 d):∃s:Sm,s.ok/\VR (E0 W) s.v v:=by
 obtain⟨fuel,h⟩:=h;obtain⟨s,hs,hc⟩:=(HK fuel fuel (cq _)).2 _ _ h hw;unfold Value.okWide at hval;rw[Tryz.underlying28]at hval;obtain⟨cs,hv,_⟩:=hval;rw[Sm.l4]at hc;exact⟨s,hs,by rw[Sm.dJ];exact Rj hv hc⟩
theorem qdm{base:Nat}{v:Value}{d:DataW H}{p:List MemPlace}(hval:Value.okWide Tryz.prog W .any base 54 v)(h:DataW.Trod enc Tryz.prog W 0 (fun _=>true) true 54 v d p)(hw:fi 54 d):∃s:Ex,s.ok/\VR (E0 W) s.v v:=by
 obtain⟨fuel,h⟩:=h;obtain⟨s,hs,hc⟩:=Bw fuel fuel (cq _) _ _ h hw;unfold Value.okWide at hval;rw[Tryz.underlying54]at hval;obtain⟨cs,hv,_⟩:=hval;rw[Ex.l4]at hc;exact⟨s,hs,by rw[Ex.dJ];exact Rj hv hc⟩
theorem FQ{ts:List TypeId}{ds:List (DataW H)}(h:(DataW.weightsEach Tryz.prog ts ds).all (·<=reachBytes)=true){i:Nat}{t:TypeId}{d:DataW H}(ht:ts[i]?=some t)(hd:ds[i]?=some d):fi t d:=fun n hn=>by
 have:=d6.1 h n (NM ht hd hn);simpa using this
end
end Go.Proofs.YtbifpocccfkhhaaGreatDoor
namespace Go.Proofs.YtbifpocccfkhhaaGreatDoor
open Go Go.ChangeShapes Go.WideShapes Go.ChangeAt Go.RowKit
set_option maxRecDepth 100000
section
variable {H:Type} {enc:TypeId×Value->H} {W:World}
theorem trodAll_cons{P:Program}{t:TypeId}{ts:List TypeId}{vs:List Value}{ds:List (DataW H)}{ps:List MemPlace}(h:DataW.TrodAll enc P W 0 (fun _=>true) true (t::ts) vs ds ps):
  ∃v vs' d ds' p q,vs=v::vs'/\ds=d::ds'/\DataW.Trod enc P W 0 (fun _=>true) true t v d p/\DataW.TrodAll enc P W 0 (fun _=>true) true ts vs' ds' q:=by
 cases vs with
 |nil=>exact h.elim
 |cons v vs=>
  cases ds with
  |nil=>exact h.elim
  |cons d ds=>
   obtain⟨p,q,h1,h2,_⟩:=h;exact⟨v,vs,d,ds,p,q,rfl,rfl,h1,h2⟩
theorem trodAll_nil{P:Program}{vs:List Value}{ds:List (DataW H)}{ps:List MemPlace}(h:DataW.TrodAll enc P W 0 (fun _=>true) true [] vs ds ps):vs=[]/\ds=[]:=by
 cases vs with
 |nil=>
  cases ds with
  |nil=>exact⟨rfl,rfl⟩
  |cons d ds=>exact h.elim
 |cons v vs=>cases ds<;>exact h.elim
theorem qnN{base:Nat}{v:Value}{d:DataW H}{p:List MemPlace}(hval:Value.okWide Tryz.prog W .any base 9 v)(h:DataW.Trod enc Tryz.prog W 0 (fun _=>true) true 9 v d p)(hw:fi 9 d):∃s:ByteArray,s.size<=aR/\VR (E0 W) (.str s) v:=by
 obtain⟨s,rfl,_⟩:=ChangeMaps.open_string Tryz.underlying9 hval h;obtain⟨fuel,hf⟩:=h;obtain⟨k,hk,hy,_⟩:=DataW.trod_string Tryz.underlying9 hf;simp[Value.cells]at hk;subst hk;have hy:d=.lit (.string s.data.toList):=(Prod.mk.inj hy).1;refine⟨s,G7 (hw s.size ?_),.str s⟩;rw[hy,DataW.weights];exact mK.2 (by rw[pB];rfl)
theorem Za{base:Nat}{t e:TypeId}{v v':Value}(ht:Tryz.prog.underlying t=some (.slice e))(hval:Value.okWide Tryz.prog W .any base t v)(h:v.cells.toList=[v']):v'=v:=by
 obtain⟨a0,len,cap,rfl⟩:=okWide_slice ht hval;simp[Value.cells]at h;exact h.symm
theorem ql4{base:Nat}{v:Value}{d:DataW H}{p:List MemPlace}(hval:Value.okWide Tryz.prog W .any base 22 v)(h:DataW.Trod enc Tryz.prog W 0 (fun _=>true) true 22 v d p)(hw:fi 22 d):∃l:List ByteArray,qY l/\VR (E0 W) (.sl false (l.map .str)) v:=by
 obtain⟨fuel,hf⟩:=h;obtain⟨l,hlo,hll,v',hc,hv⟩:=MR V.str (fun s=>s.size<=aR) (sz:=1) (fun a=>rfl) (by omega) Tryz.underlying22 K0 y9 ZZ hf hw;rw[Za Tryz.underlying22 hval hc]at hv;exact⟨l,⟨hll,hlo⟩,hv⟩
theorem qdn{base:Nat}{v:Value}{d:DataW H}{p:List MemPlace}(hval:Value.okWide Tryz.prog W .any base 23 v)(h:DataW.Trod enc Tryz.prog W 0 (fun _=>true) true 23 v d p)(hw:fi 23 d):∃l:List Ex,(l.length<=aR/\Ex.bR l)/\VR (E0 W) (.sl false (l.map Ex.v)) v:=by
 obtain⟨fuel,hf⟩:=h;obtain⟨l,hlo,hll,v',hc,hv⟩:=MR Ex.v Ex.ok (sz:=7) (fun a=>by simp) (by omega) Tryz.underlying23 Cj HY (fun m' hm'=>Bw m' m' (cq _)) hf hw;rw[Za Tryz.underlying23 hval hc]at hv;exact⟨l,⟨hll,Ex.o9 hlo⟩,hv⟩
end
open Go.Proofs.Tryz
set_option maxHeartbeats 0
set_option maxRecDepth 100000
noncomputable def OE:=aI func148
noncomputable def C9:=aI func9
def Gq:Pw where
 H:=Unit
 f _ x:=x
 nm:=none
 cl:=none
 ent h _ _:=h
 oZ h _ _ _:=h
 lC h _ _:=h
def Gp:Cb where
 toPw:=Gq
 fe:=.bB
 fn:=.bB
 fc:=.bB
 I _ F D _:=∀l,¬F l/\¬D l
 cn _ _:=True
 lim:=100001
theorem qfE:Gp.Ok where
 lim:=cq _
 lt:=fun {h F D S} k l hl=>by
  have k:∀l,¬F l/\¬D l:=k;exact(hl.elim (k l).1 (k l).2).elim
 fr:=fun {h F D S U M} k hk hM=>k
 lp:=fun {h F D S} k l o ho=>(show ∀l,¬F l/\¬D l from k) l
 ce _ _:=trivial
 cm _ _ _ _:=trivial
 cc _ _ _:=trivial
 real:=fun {h F D S} k h'=>⟨F,D,S,k,Kp.refl _ _,grow.refl _ _,grow.refl _ _⟩
 en:=.inl ⟨rfl,fun _ _=>rfl,fun _ _ _=>rfl⟩
 nm:=rfl
 cl:=rfl
mutual
theorem Ex.qas:∀(x:Ex) (tg:Bool),Ex.wr Gq [] tg x=x
 |.mk k o n m e t a,tg=>by
  rw[Ex.wr,Ex.qax a false];unfold Pw.qg;show(if Ex.named k=true then _ else _)=_;split<;>rfl
theorem Ex.qax:∀(l:List Ex) (tg:Bool),Ex.aL Gq [] tg l=l
 |[],_=>rfl
 |x::l,tg=>by rw[Ex.aL,Ex.qas x tg,Ex.qax l tg]
end
def eD:V:=.agg [.int .i64 0,.int .i64 0,.int .i64 0,.int .i64 0,.int .i64 0,.str ⟨⟨[]⟩⟩,.sl true []]
def HF(x:Ex)(hx:(Pa.ex x).size<=4000)(S:St):au prog 80 [x.v] S (fun r U=>r=x.v/\Kp (fun _=>False) S U):=by
 refine au.ib Qq ?_;simp[Qq,aC,ae,aA,bj,bz,aZ];obtain⟨S1,hS1⟩:∃S1:St,S1=S++[.arr [x.v] 7 1,.arr [eD] 7 1,.arr [.agg [.int .i64 0,.bB,.bB,.bB]] 4 1]:=⟨_,rfl⟩;have l1:S1.length=S.length+3:=by rw[hS1];simp
 have b1:S1[S.length+1]?=some (.arr [eD] 7 1):=by rw[hS1,bK oM];simp
 have b2:S1[S.length+2]?=some (.arr [.agg [.int .i64 0,.bB,.bB,.bB]] 4 1):=by rw[hS1,bK oM];simp
 have kS:Kp (fun _=>False) S S1:=by rw[hS1];exact(Kp.refl _ _).push _
 have hw:Wk Gp (S.length+2) 0 () (fun _=>False) (fun _=>False) S1:=⟨b2,fun _=>⟨id,id⟩,id,id,trivial⟩;rw[show eD=V.agg [.int .i64 0,.int .i64 0,.int .i64 0,.int .i64 0,.int .i64 0,.str ⟨⟨[]⟩⟩,.sl true []] from rfl]at hS1;rw[<-hS1];refine aU (HH Gp qfE (S.length+2) 4000 x hx bL 0 () _ _ S1 .bF [] false hw rfl) ?_;rintro r U ⟨rfl,F2,D2,k2,s2⟩;have hx2:Ex.wr Gq (am []) false x=x:=Ex.qas x false;rw[show Ex.wr Gp.toPw (am []) false x=x from hx2];have c1:=s2.k.at b1 (by rintro(hh|hh)<;>omega);unfold eD at c1;simp[aA,c1,aE];have hz:(U.set (S.length+1) (.arr [x.v] 7 1))[S.length+1]?=some (.arr [x.v] 7 1):=bJ (aM c1);refine aS (vs:=[x.v]) (by simp[dm,ae,hz]) ⟨rfl,?_⟩
 have kU:Kp (fun _=>False) S U:=⟨fL kS.len s2.k.len,fun l hl hn=>by
  rw[s2.k.get l (by have:=kS.len;omega) (by rintro(hh|hh)<;>omega)];exact kS.get l hl hn⟩
 exact kU.set _ (.inr oM)
abbrev Oc:=Bz×ag
structure Obs(p:Pw)(α:Type)(ob:p.H->α)(w:α->Oc->α):Prop where
 nm:p.nm≠none
 cl:p.cl≠none
 n:∀h x sc tg,ob (p.oZ h x sc tg)=w (ob h) (x.text,sc)
 c:∀h x sc,ob (p.lC h x sc)=w (ob h) (x,sc)
 e:∀h k x,ob (p.ent h k x)=ob h
section
variable {p:Pw} {α:Type} {ob:p.H->α} {w:α->Oc->α} (i:Obs p α ob w) {nm:Bz->Bool}
include i
end
structure qaP(r:Rp)(ob:bp->Prop)(q:Oc->Prop):Prop where
 u:∀sc x st,ob (jx r sc x st)↔ob st\/q (x,sc)
 b:∀st c,ob { st with bad:=c }↔ob st
section
variable {r:Rp} {ob:bp->Prop} {q:Oc->Prop} (i:qaP r ob q) {nm:Bz->Bool}
include i
end
def iw(bs:Nat->Bz)(n:Nat)(l:List Bz):Prop:=∀i x,l[i]?=some x->bs (n+i)=x
def iw.fst{bs:Nat->Bz}{n:Nat}{l m:List Bz}(h:iw bs n (l++m)):iw bs n l:=fun i x hx=>h i x (by rw[b8 (aT.1 hx).1];exact hx)
def iw.snd{bs:Nat->Bz}{n:Nat}{l m:List Bz}(h:iw bs n (l++m)):iw bs (n+l.length) m:=fun i x hx=>by
 have:=h (l.length+i) x (by rw[bK oM,vS];exact hx);rwa [<-gj]at this
def ik(bs:Nat->Bz)(sc:ag):Prop:=∀s,s∈sc->∀e,e∈s->bs e.2=e.1
def kC(f:Nat->Bz)(s:bw):bw:=s.map fun e=>(f e.2,e.2)
def zn(f:Nat->Bz)(sc:ag):ag:=sc.map (kC f)
section
variable {f bs:Nat->Bz} (h1:∀j k,f j=f k->bs j=bs k)
theorem IV{s:bw}{x:Bz}{k:Nat}(h:s.at x=some k):(x,k)∈s:=by
 unfold bw.at at h;obtain⟨e,he,hk⟩:=dL.1 h;have h2:=List.find?_some he;simp only[cR]at h2;subst h2 hk;exact AH he
theorem Ry{s:bw}{x:Bz}(h:s.at x=none):∀e,e∈s->e.1≠x:=by
 unfold bw.at at h;rw[EO,vI]at h;intro e he hx;exact h e he (by simp[hx])
include h1
theorem qgK{s:bw}(hb:∀e,e∈s->bs e.2=e.1){x:Bz}{k:Nat}(hx:bs k=x):bw.at (kC f s) (f k)=(if s.at x=none then none else s.at x)\/∃j,s.at x=some j:=by
 cases h:s.at x with
 |some j=>exact .inr ⟨j,rfl⟩
 |none=>
  refine .inl ?_;rw[ai rfl];unfold bw.at kC;rw[EO,vI];intro e he hh;obtain⟨e',he',rfl⟩:=cE.1 he;simp only[cR]at hh;exact Ry h e' he' (by rw[<-hb e' he',h1 _ _ hh,hx])
theorem LC{x:Bz}{k:Nat}:∀{s:bw},(∀e,e∈s->bs e.2=e.1)->s.at x=some k->bw.at (kC f s) (f k)=some k
 |[],_,h=>by cases h
 |e::s,hb,h=>by
  unfold bw.at at h |-;unfold kC;rw[b9,vH];rw[vH]at h;by_cases hx:e.1=x
  .rw[jC hx]at h;cases h;simp
  .rw[dy hx]at h;have hm:(x,k)∈s:=IV (s:=s) h;have hk:=hb _ (mc _ hm);have hf:¬f e.2=f k:=fun hh=>hx (by rw[<-hb e (tH ..),h1 _ _ hh,hk])
   rw[dy hf];exact LC (fun e he=>hb e (mc _ he)) h
theorem Vz{x:Bz}{k:Nat}{s:bw}(hb:∀e,e∈s->bs e.2=e.1)(h:s.at x=none)(hk:bs k=x):bw.at (kC f s) (f k)=none:=by
 rcases qgK h1 hb hk with h2|⟨j,h2⟩
 .rw[h2,ai h]
 .rw[h]at h2;cases h2
theorem VB{x:Bz}{k:Nat}(hx:bs k=x):∀{sc:ag},ik bs sc->sc.at x=some k->(zn f sc).at (f k)=some k
 |[],_,h=>by cases h
 |s::sc,hb,h=>by
  have hs:=hb s (tH ..);have hr:ik bs sc:=fun t ht=>hb t (mc _ ht)
  unfold ag.at at h;unfold zn;rw[b9];unfold ag.at
  cases ha:bw.at s x with
  |some j=>
   rw[ha]at h;cases h;rw[LC h1 hs ha]
  |none=>
   rw[ha]at h;rw[Vz h1 hs ha hx];exact VB hx hr h
omit h1 in
theorem VA{x:Bz}(hp:∀j,f j=x->bs j=x):∀{sc:ag},ik bs sc->sc.at x=none->(zn f sc).at x=none
 |[],_,_=>rfl
 |s::sc,hb,h=>by
  have hs:=hb s (tH ..);have hr:ik bs sc:=fun t ht=>hb t (mc _ ht)
  unfold ag.at at h;unfold zn;rw[b9];unfold ag.at
  cases ha:bw.at s x with
  |some j=>rw[ha]at h;cases h
  |none=>
   rw[ha]at h
   have:bw.at (kC f s) x=none:=by
    unfold bw.at kC;rw[EO,vI];intro e he hh;obtain⟨e',he',rfl⟩:=cE.1 he;simp only[cR]at hh;exact Ry ha e' he' (by rw[<-hs e' he',hp _ hh])
   rw[this];exact VA hp hr h
omit h1 in
theorem A5{x:Bz}{k:Nat}:∀{sc:ag},ik bs sc->sc.at x=some k->bs k=x
 |[],_,h=>by cases h
 |s::sc,hb,h=>by
  unfold ag.at at h
  cases ha:bw.at s x with
  |some j=>
   rw[ha]at h;cases h;exact hb s (tH ..) _ (IV ha)
  |none=>
   rw[ha]at h;exact A5 (fun t ht=>hb t (mc _ ht)) h
theorem qiQ(g:Nat->Bz){sc:ag}(hb:ik bs sc){x:Bz}(hp:sc.at x=none->∀j,f j=x->bs j=x):dt g (zn f sc) (dt f sc x)=dt g sc x:=by
 unfold dt
 cases h:sc.at x with
 |some k=>simp only[VB h1 (A5 hb h) hb h]
 |none=>simp only[VA (hp h) hb h]
omit h1 in
theorem E6{x:Bz}{k:Nat}:∀(l:List Bz) (s:bw) (n:Nat),s.at x=some k->(binds l s n).at x=some k
 |[],s,n,h=>h
 |y::l,s,n,h=>by
  simp only[binds];split
  .exact E6 l s n h
  .refine E6 l _ _ ?_;unfold bw.at at h |-;rw[qB]
   cases hf:s.find? (fun p=>decide (p.1=x)) with
   |some p=>rw[hf]at h;exact h
   |none=>rw[hf]at h;cases h
omit h1 in
theorem qbx{s:bw}{x:Bz}{n:Nat}(h:s.at x=none):bw.at (s++[(x,n)]) x=some n:=by
 unfold bw.at at h |-;rw[EO]at h;rw[qB,h];simp
def xF(f:Nat->Bz)(S:bw)(x:Bz):Bz:=match S.at x with
 |some k=>f k
 |none=>x
theorem I5{S:bw}(hS:∀e,e∈S->bs e.2=e.1):∀(l:List Bz) (s:bw) (n:Nat),binds l s n=S->(∀e,e∈s->bs e.2=e.1)->binds (l.map (xF f S)) (kC f s) n=kC f S
 |[],s,n,h,_=>by rw[<-h];rfl
 |x::l,s,n,h,hs=>by
  rw[b9];simp only[binds]at h |-
  cases hx:s.at x with
  |some k=>
   rw[hx]at h;simp only[Option.isSome_some,if_true]at h;have hk:S.at x=some k:=by rw[<-h];exact E6 l s n hx
   have hr:xF f S x=f k:=by unfold xF;rw[hk]
   rw[hr,LC h1 hs hx];simp only[Option.isSome_some,if_true];exact I5 hS l s n h hs
  |none=>
   rw[hx]at h;simp only[EN,iz,if_false]at h;have hk:S.at x=some n:=by rw[<-h];exact E6 l _ _ (qbx hx)
   have hb:bs n=x:=hS _ (IV hk);have hr:xF f S x=f n:=by unfold xF;rw[hk]
   rw[hr,Vz h1 hs hx hb];simp only[EN,iz,if_false]
   have:=I5 hS l (s++[(x,n)]) (n+1) h fun e he=>by
    rcases cC.1 he with he|he
    .exact hs e he
    .simp at he;subst he;exact hb
   rw[<-this];unfold kC;rw[cy];rfl
omit h1 in
theorem E9(b:Nat):∀(l:List Bz) (s:bw) (n:Nat),n=b+s.length->(∀i e,s[i]?=some e->e.2=b+i)->∀i e,(binds l s n)[i]?=some e->e.2=b+i
 |[],s,n,_,h=>h
 |x::l,s,n,hn,h=>by
  simp only[binds];split
  .exact E9 b l s n hn h
  .refine E9 b l _ _ (by simp;omega) fun i e he=>?_
   by_cases hi:i<s.length
   .rw[b8 hi]at he;exact h i e he
   .rw[bK oM]at he;have:i-s.length=0:=by have:=(aT.1 he).1;simp at this;omega
    rw[this]at he;simp at he;subst he;show n=b+i;omega
omit h1 in
theorem RA{l:List Bz}{n:Nat}(h:iw bs n (bY l)):∀e,e∈ah l n->bs e.2=e.1:=fun e he=>by
 obtain⟨i,hi⟩:=rG.1 he;have hp:=E9 n l [] n sM sM i e hi;have hm:(ah l n).map (·.1)=bY l:=yq 0 l [] [] n 0 rfl;have h2:(bY l)[i]?=some e.1:=by rw[<-hm,dS,hi];rfl
 rw[hp];exact h i _ h2
theorem RB{l:List Bz}{n:Nat}{sc:ag}(h:iw bs n (bY l)):ah (l.map (dt f (ah l n::sc))) n=kC f (ah l n):=by
 have hb:=RA h
 have hm:l.map (dt f (ah l n::sc))=l.map (xF f (ah l n)):=lr fun x hx=>by
  have hi:=E7 x l [] n hx;unfold dt xF ag.at
  cases ha:bw.at (ah l n) x with
  |some k=>rfl
  |none=>unfold ah at ha;rw[ha]at hi;cases hi
 rw[hm];exact I5 h1 hb l [] n rfl (fun e he=>by cases he)
omit h1 in
theorem qgL(s:bw):(kC f s).length=s.length:=bu _
omit h1 in
theorem ik.cons{sc:ag}{l:List Bz}{n:Nat}(h:ik bs sc)(g:iw bs n (bY l)):ik bs (ah l n::sc):=fun s hs=>by
 rcases cX.1 hs with rfl|hs
 .exact RA g
 .exact h s hs
end
def De.qal(f:Nat->Bz)(own sc:ag):∀(l:List De) (n:Nat),(De.wl f own sc n l).flatMap De.names=(l.flatMap De.names).map (dt f own)
 |[],_=>rfl
 |x::l,n=>by
  rw[De.wl,iO,iO,cy,De.qal f own sc l];congr 1;cases x;rw[De.w];split<;>rfl
def Sm.NL(f:Nat->Bz)(sc:ag)(n:Nat)(x:Sm):(x.w f sc n).labels=x.labels.map (dt f sc):=by
 cases x;rw[Sm.w];split
 .rfl
 .split<;>rfl
def Sm.NP(f:Nat->Bz)(sc:ag):∀(l:List Sm) (n:Nat),bq (Sm.wl f sc n l)=(bq l).map (dt f sc)
 |[],_=>rfl
 |x::l,n=>by
  have:=Sm.NP f sc l (n+Sm.nb x);unfold bq at this |-;rw[Sm.wl,iO,iO,cy,this,Sm.NL]
def qbC(f:Nat->Bz)(own sc:ag)(d:List De)(b:List Sm)(n m:Nat):bM (De.wl f own sc n d) (Sm.wl f own m b)=(bM d b).map (dt f own):=by
 unfold bM;rw[De.qal,Sm.NP,cy]
def Fos.qmt(f:Nat->Bz)(sc:ag)(l:List Fo):(l.map (Fo.w f sc)).map Fo.name=(l.map Fo.name).map (dt f sc):=by
 rw[lu,lu];rfl
def RD(l:List Bz)(n:Nat):(ah l n).map (·.2)=List.range' n (ah l n).length:=by
 refine ou fun i=>?_
 rw[dS]
 cases h:(ah l n)[i]? with
 |none=>
  have:=Ir.1 h;rw[mb (by simpa using this)];rfl
 |some e=>
  have:=(aT.1 h).1;rw[List.getElem?_range' this,dM,E9 n l [] n sM sM i e h,Nat.one_mul]
def VK{l:List Bz}(n:Nat):bY l=(ah l n).map (·.1):=yq 0 l [] [] 0 n rfl
set_option linter.unusedSectionVars false
section
variable {f bs:Nat->Bz} (h1:∀j k,f j=f k->bs j=bs k)
include h1
theorem GV{l:List Bz}{n:Nat}{sc:ag}(h:iw bs n (bY l)):bY (l.map (dt f (ah l n::sc)))=(List.range' n (ah l 0).length).map f:=by
 rw[VK n,RB h1 h,<-iR l n 0,<-RD];unfold kC;rw[lu,lu];rfl
mutual
theorem Sm.yv:∀(s:Sm) (sc:ag) (n:Nat),iw bs n s.bn->(s.w f sc n).bn=(List.range' n s.nb).map f
 |.mk l k t g e hh d b,sc,n,ha=>by
  rw[Sm.bn]at ha;rw[Sm.w,Sm.nb];by_cases h7:k=7
  .rw[ai h7]at ha |-;rw[ai h7,Sm.bn,ai h7,qbC,GV h1 ha.fst.fst];have hd:=ha.fst.snd;have hb:=ha.snd;rw[cJ,De.ny,iW,<-gj]at hb;rw[iW]at hd;rw[iR _ n 0,De.yx d _ _ _ hd,Sm.yx b _ _ hb,<-cy,rH,<-cy,gj,rH]
  .rw[aj h7]at ha |-;by_cases h8:k=8
   .rw[ai h8]at ha |-;rw[aj h7,ai h8,Sm.bn,aj h7,ai h8,Sm.NP,GV h1 ha.fst];have hb:=ha.snd;rw[iW]at hb;rw[iR _ n 0,Sm.yx b _ _ hb,<-cy,rH]
   .rw[aj h8]at ha |-;rw[aj h7,aj h8,Sm.bn,aj h7,aj h8,Sm.Jb b _ _ ha]
theorem De.yv:∀(s:De) (own sc:ag) (n:Nat),iw bs n s.bn->(s.w f own sc n).bn=(List.range' n s.nb).map f
 |.mk k o t ns e fo b,own,sc,n,ha=>by
  rw[De.bn]at ha;rw[De.w,De.nb];by_cases h4:k=4
  .rw[ai h4]at ha |-;have hb:=ha.snd;rw[iW]at hb;rw[ai h4,De.bn,ai h4,Fos.qmt,GV h1 ha.fst,iR _ n 0,Sm.Jb b _ _ hb,<-cy,rH]
  .rw[aj h4,aj h4,De.bn,aj h4];rfl
theorem De.yx:∀(l:List De) (own sc:ag) (n:Nat),iw bs n (De.bS l)->De.bS (De.wl f own sc n l)=(List.range' n (De.aJ l)).map f
 |[],_,_,_,_=>rfl
 |x::l,own,sc,n,ha=>by
  rw[De.bS]at ha;have h2:=ha.snd;rw[De.jR]at h2;rw[De.wl,De.bS,De.aJ,De.yv x own sc n ha.fst,De.yx l own sc _ h2,<-cy,rH]
theorem Sm.yx:∀(l:List Sm) (sc:ag) (n:Nat),iw bs n (Sm.bS l)->Sm.bS (Sm.wl f sc n l)=(List.range' n (Sm.aJ l)).map f
 |[],_,_,_=>rfl
 |x::l,sc,n,ha=>by
  rw[Sm.bS]at ha;have h2:=ha.snd;rw[Sm.jR]at h2;rw[Sm.wl,Sm.bS,Sm.aJ,Sm.yv x sc n ha.fst,Sm.yx l sc _ h2,<-cy,rH]
theorem Sm.Jb:∀(l:List Sm) (sc:ag) (n:Nat),iw bs n (Sm.eS l)->Sm.eS (Sm.w1 f sc n l)=(List.range' n (Sm.aX l)).map f
 |[],_,_,_=>rfl
 |x::l,sc,n,ha=>by
  rw[Sm.eS]at ha;have h2:=ha.snd;have h3:=ha.fst.snd;rw[cJ,Sm.jR,iW,<-gj]at h2;rw[iW]at h3;rw[Sm.w1,Sm.eS,Sm.aX,Sm.NL,GV h1 ha.fst.fst,iR _ n 0,Sm.yv x _ _ h3,Sm.Jb l sc _ h2,<-cy,rH,<-cy,gj,rH]
end
theorem Sm.qg2(s:Sm)(sc:ag)(n:Nat)(h:iw bs n s.bn):(s.w f sc n).nb=s.nb:=by rw[<-Sm.jR,Sm.yv h1 s sc n h];simp
omit h1 in
theorem qnK(g:Nat->Bz){sc:ag}{l:List Bz}(h1:∀j k,f j=f k->bs j=bs k)(hb:ik bs sc)(hl:sd sc l):(l.map (dt f sc)).map (dt g (zn f sc))=l.map (dt g sc):=by
 rw[lu];refine lr fun x hx=>qiQ h1 g hb fun hn=>?_
 have:=hl x hx;rw[hn]at this;cases this
omit h1 in
theorem TI(l:List Fo)(n:Nat)(sc:ag):sd (ah (l.map Fo.name) n::sc) (l.map Fo.name):=za _ _ _
omit h1 in
theorem qnF{l:List Bz}{k:Int}{t:Bz}{g e:List Ex}{h:List El}{d d':List De}{b b':List Sm}(h1:d=d')(h2:b=b'):Sm.mk l k t g e h d b=Sm.mk l k t g e h d' b':=by rw[h1,h2]
end
abbrev Lk:=Bz->Option Ex
def uP(lk:Lk)(t:Bz):Bz:=match lk t with
 |some y=>y.text
 |none=>t
def su(lk:Lk)(t:Bz):Bool:=match lk t with
 |some y=>decide (y.kind≠6)
 |none=>false
def sQ(lk:Lk)(tg:Bool)(t:Bz):Bool:=match lk t with
 |some y=>tg&&decide (y.kind≠6)&&decide (y.kind≠7)
 |none=>false
mutual
def Ex.sb(lk:Lk):Ex->Ex
 | .mk k o n m e t a=>if k=6 then (match lk t with
   |some y=>y
   |none=>.mk k o n m e t (Ex.mW lk a))
  else .mk k o n m e (if Ex.named k then uP lk t else t) (Ex.mW lk a)
def Ex.mW(lk:Lk):List Ex->List Ex
 |[]=>[]
 |x::l=>Ex.sb lk x::Ex.mW lk l
end
mutual
def Ex.eu(lk:Lk)(tg:Bool):Ex->Bool
 |.mk k _ _ _ _ t a=>Ex.bQ lk false a||(if k=6 then sQ lk tg t else Ex.named k&&su lk t)
def Ex.bQ(lk:Lk)(tg:Bool):List Ex->Bool
 |[]=>false
 |x::l=>Ex.eu lk tg x||Ex.bQ lk tg l
end
def El.sb(lk:Lk)(e:El):El:=⟨e.kind,Ex.mW lk e.ak⟩
def El.bQ(lk:Lk):List El->Bool
 |[]=>false
 |x::l=>Ex.bQ lk false x.ak||El.bQ lk l
mutual
def Sm.sb(lk:Lk):Sm->Sm
 |.mk l k t g e h d b=>.mk l k (if k=6 then uP lk t else t) (Ex.mW lk g) (Ex.mW lk e) (h.map (El.sb lk)) (De.mW lk d) (Sm.mW lk b)
def De.sb(lk:Lk):De->De
 |.mk k o t n e f b=>.mk k o t n (Ex.mW lk e) f (Sm.mW lk b)
def De.mW(lk:Lk):List De->List De
 |[]=>[]
 |x::l=>De.sb lk x::De.mW lk l
def Sm.mW(lk:Lk):List Sm->List Sm
 |[]=>[]
 |x::l=>Sm.sb lk x::Sm.mW lk l
end
mutual
def Sm.eu(lk:Lk):Sm->Bool
 |.mk _ k t g e h d b=>Ex.bQ lk true g||Ex.bQ lk false e||El.bQ lk h||De.bQ lk d||Sm.bQ lk b||(decide (k=6)&&su lk t)
def De.eu(lk:Lk):De->Bool
 |.mk _ _ _ _ e _ b=>Ex.bQ lk false e||Sm.bQ lk b
def De.bQ(lk:Lk):List De->Bool
 |[]=>false
 |x::l=>De.eu lk x||De.bQ lk l
def Sm.bQ(lk:Lk):List Sm->Bool
 |[]=>false
 |x::l=>Sm.eu lk x||Sm.bQ lk l
end
def jG(lk:Lk)(sc:ag)(t:Bz):Bz:=match sc.at t with
 |some _=>t
 |none=>uP lk t
def jB(lk:Lk)(sc:ag)(t:Bz):Bool:=match sc.at t with
 |some _=>false
 |none=>su lk t
def pe(lk:Lk)(sc:ag)(x:Ex):Ex:=match sc.at x.text with
 |some _=>x
 |none=>(lk x.text).getD x
def pw(lk:Lk)(sc:ag)(tg:Bool)(t:Bz):Bool:=match sc.at t with
 |some _=>false
 |none=>sQ lk tg t
def db(lk:Lk):Pw where
 H:=Bool
 f _ x:=x
 nm:=some fun x sc _=>if x.kind=6 then pe lk sc x else .mk x.kind x.op x.n x.man x.exp (jG lk sc x.text) x.args
 cl:=some fun x sc=>jG lk sc x
 ent h _ _:=h
 oZ h x sc tg:=h||(if x.kind=6 then pw lk sc tg x.text else jB lk sc x.text)
 lC h x sc:=h||jB lk sc x
section
variable {p:Pw} (hp:∀k x,p.f k x=x)
include hp
theorem Yq(sc:ag)(x:Bz):fH p sc x=x:=by
 unfold fH;cases sc.at x<;>simp[hp]
theorem Dp(sc:ag)(l:List Bz):l.map (fH p sc)=l:=by
 rw[lr fun x _=>Yq hp sc x];simp
theorem Sm.NT(sc:ag)(n:Nat)(x:Sm):(x.wr p sc n).labels=x.labels:=by
 cases x;rw[Sm.wr];split
 .exact Dp hp _ _
 .split<;>exact Dp hp _ _
theorem Sm.NU(sc:ag):∀(l:List Sm) (n:Nat),bq (Sm.aL p sc n l)=bq l
 |[],_=>rfl
 |x::l,n=>by
  have:=Sm.NU sc l (n+Sm.nb x);unfold bq at this |-;rw[Sm.aL,iO,iO,this,Sm.NT hp]
theorem De.qaw(own sc:ag):∀(l:List De) (n:Nat),(De.aL p own sc n l).flatMap De.names=l.flatMap De.names
 |[],_=>rfl
 |x::l,n=>by
  rw[De.aL,iO,iO,De.qaw own sc l];congr 1;cases x;rw[De.wr];split<;>exact Dp hp _ _
theorem qbD(own sc:ag)(d:List De)(b:List Sm)(n m:Nat):bM (De.aL p own sc n d) (Sm.aL p own m b)=bM d b:=by
 unfold bM;rw[De.qaw hp,Sm.NU hp]
theorem Fo.qaq(sc:ag)(l:List Fo):l.map (Fo.wr p sc)=l:=by
 rw[lr fun x _=>(show Fo.wr p sc x=x by unfold Fo.wr;rw[Yq hp])];simp
variable {nm:Bz->Bool}
mutual
theorem Sm.A9:∀(s:Sm) (sc:ag) (n:Nat),(Pa.st s).valid nm=true->(s.wr p sc n).bn=s.bn
 |.mk l k t g e hh d b,sc,n,v=>by
  have vd:=Sm.rx v;have vb:=Sm.jo v;simp only[Sm.decls,Sm.body]at vd vb;rw[Sm.wr];by_cases h7:k=7
  .rw[ai h7,Sm.bn,ai h7,Sm.bn,ai h7,qbD hp,De.yy d _ _ _ vd,Sm.yy b _ _ vb]
  .by_cases h8:k=8
   .rw[aj h7,ai h8,Sm.bn,aj h7,ai h8,Sm.bn,aj h7,ai h8,Sm.NU hp,Sm.yy b _ _ vb]
   .rw[aj h7,aj h8,Sm.bn,aj h7,aj h8,Sm.bn,aj h7,aj h8,Sm.Jc b _ _ vb]
theorem De.A9:∀(s:De) (own sc:ag) (n:Nat),(Pa.de s).valid nm=true->(s.wr p own sc n).bn=s.bn
 |.mk k o t ns e fo b,own,sc,n,v=>by
  have vb:=De.jo v;simp only[De.body]at vb;rw[De.wr];by_cases h4:k=4
  .rw[ai h4,De.bn,ai h4,De.bn,ai h4,Fo.qaq hp,Sm.Jc b _ _ vb]
  .rw[aj h4,De.bn,aj h4,De.bn,aj h4]
theorem De.yy:∀(l:List De) (own sc:ag) (n:Nat),(∀x,x∈l->(Pa.de x).valid nm=true)->De.bS (De.aL p own sc n l)=De.bS l
 |[],_,_,_,_=>rfl
 |x::l,own,sc,n,v=>by rw[De.aL,De.bS,De.bS,De.A9 x own sc n (v x sM),De.yy l own sc _ fun y hy=>v y (by simp[hy])]
theorem Sm.yy:∀(l:List Sm) (sc:ag) (n:Nat),(∀x,x∈l->(Pa.st x).valid nm=true)->Sm.bS (Sm.aL p sc n l)=Sm.bS l
 |[],_,_,_=>rfl
 |x::l,sc,n,v=>by rw[Sm.aL,Sm.bS,Sm.bS,Sm.A9 x sc n (v x sM),Sm.yy l sc _ fun y hy=>v y (by simp[hy])]
theorem Sm.Jc:∀(l:List Sm) (sc:ag) (n:Nat),(∀x,x∈l->(Pa.st x).valid nm=true)->Sm.eS (Sm.dW p sc n l)=Sm.eS l
 |[],_,_,_=>rfl
 |x::l,sc,n,v=>by rw[Sm.dW,Sm.eS,Sm.eS,Sm.NT hp,Sm.A9 x _ _ (v x sM),Sm.Jc l sc _ fun y hy=>v y (by simp[hy])]
end
theorem Sm.qg3(s:Sm)(sc:ag)(n:Nat)(v:(Pa.st s).valid nm=true):(s.wr p sc n).nb=s.nb:=by rw[<-Sm.jR,Sm.A9 hp s sc n v,Sm.jR]
end
set_option maxHeartbeats 0
set_option maxRecDepth 100000
noncomputable def Oi:=aI func110
noncomputable def C6:=aI func6
abbrev zG(p:Nat):V:=.ptr p 0 0 1
def jS(h:List Bz×List Bz)(x:Bz)(sc:ag):List Bz×List Bz:=match sc.at x with
 |some _=>h
 |none=>(h.1++[x],h.2)
def bg:Pw where
 H:=List Bz×List Bz
 f _ x:=x
 nm:=some fun x _ _=>x
 cl:=some fun x _=>x
 ent h _ x:=(h.1,h.2++[x])
 oZ h x sc _:=jS h x.text sc
 lC h x sc:=jS h x sc
structure Co(m c4 c5 c6:Nat)(h:List Bz×List Bz)(v:V)(ps:List Nat)(F D:Np)(U:St):Prop where
 f4:U[c4]?=some (.arr [.map m] 1 1)
 fm:∃bs ck,fu bs ck/\U[m]?=some (.map ((h.1.foldl dQ []).map kv) bs ck)
 f5:U[c5]?=some (.arr [v] 1 1)
 f6:U[c6]?=some (.arr [.fn (.func 107) [] [.ptr c4 0 0 1]] 1 1)
 gr:(ps=[]/\v=.sl true [])\/∃a wr,v=.arr a 0 ps.length ps.length/\U[a]?=some (.arr (ps.map zG) 1 wr)/\wr<=ps.length/\F a/\a≠c5
 pn:ps.length=h.2.length
 pl:∀i p x,ps[i]?=some p->h.2[i]?=some x->D p/\U[p]?=some (dZ x i x)
 dF:∀l,F l->l=m\/l=c5\/∃n,v=.arr l 0 n n
 dD:∀l,D l->l=c4\/l=c6\/l∈ps
 hm:F m
 h5:F c5
 h4:D c4
 h6:D c6
def Jm(m c4 c5 c6:Nat):Cb where
 toPw:=bg
 fe:=.fn (.func 108) [] [.ptr c5 0 0 1]
 fn:=.fn (.func 109) [] [.ptr c6 0 0 1]
 fc:=.fn (.func 110) [] [.ptr c6 0 0 1]
 I h F D U:=∃v ps,Co m c4 c5 c6 h v ps F D U
 cn h n:=h.2.length=n
 lim:=100001
def qV{U:St}{i j:Nat}{a b:Ob}(h:U[i]?=some a)(g:U[j]?=some b)(n:a≠b):i≠j:=by
 rintro rfl;rw[h]at g;cases g;exact n rfl
section
variable {m c4 c5 c6:Nat} {h:List Bz×List Bz} {v:V} {ps:List Nat} {F D:Np} {U:St}
theorem Co.place(k:Co m c4 c5 c6 h v ps F D U){p:Nat}(hp:p∈ps):∃x i,D p/\U[p]?=some (dZ x i x):=by
 obtain⟨i,hi⟩:=rG.1 hp;have h1:=(aT.1 hi).1;rw[k.pn]at h1;exact⟨_,i,k.pl i p _ hi (bI h1)⟩
theorem Co.gF(k:Co m c4 c5 c6 h v ps F D U){l:Nat}(hl:F l):∃o,U[l]?=some o/\(∀i,o≠.loop i)/\¬D l:=by
 have nD:∀o,U[l]?=some o->o≠.arr [.map m] 1 1->o≠.arr [.fn (.func 107) [] [.ptr c4 0 0 1]] 1 1->(∀x i,o≠dZ x i x)->¬D l:=fun o ho n1 n2 n3 hD=>by
  rcases k.dD l hD with rfl|rfl|hp
  .rw[k.f4]at ho;cases ho;exact n1 rfl
  .rw[k.f6]at ho;cases ho;exact n2 rfl
  .obtain⟨x,i,_,h2⟩:=k.place hp;rw[h2]at ho;cases ho;exact n3 x i rfl
 rcases k.dF l hl with rfl|rfl|⟨n,hv⟩
 .obtain⟨bs,ck,hst,hm⟩:=k.fm;exact⟨_,hm,by simp,nD _ hm sM sM (by simp[dZ])⟩
 .refine⟨_,k.f5,by simp,nD _ k.f5 ?_ ?_ (by simp[dZ])⟩
  .rcases k.gr with ⟨_,rfl⟩|⟨a,wr,rfl,_⟩<;>simp
  .rcases k.gr with ⟨_,rfl⟩|⟨a,wr,rfl,_⟩<;>simp
 .rcases k.gr with ⟨_,rfl⟩|⟨a,wr,rfl,ha,_,_⟩
  .cases hv
  .cases hv;refine⟨_,ha,by simp,nD _ ha ?_ ?_ (by simp[dZ])⟩
   .intro hh;injection hh with hh;cases ps<;>simp at hh
   .intro hh;injection hh with hh;cases ps<;>simp at hh
theorem Co.gD(k:Co m c4 c5 c6 h v ps F D U){l:Nat}(hl:D l):∃o,U[l]?=some o/\∀i,o≠.loop i:=by
 rcases k.dD l hl with rfl|rfl|hp
 .exact⟨_,k.f4,by simp⟩
 .exact⟨_,k.f6,by simp⟩
 .obtain⟨x,i,_,h2⟩:=k.place hp;exact⟨_,h2,by simp[dZ]⟩
theorem Co.fr{U':St}{M:Np}(k:Co m c4 c5 c6 h v ps F D U)(hk:Kp M U U')(hM:∀l,M l->l<U.length->¬F l/\¬D l):Co m c4 c5 c6 h v ps F D U':=by
 have nF:∀{l o},U[l]?=some o->F l->U'[l]?=some o:=fun ho hf=>hk.at ho fun hm=>(hM _ hm (aM ho)).1 hf
 have nD:∀{l o},U[l]?=some o->D l->U'[l]?=some o:=fun ho hf=>hk.at ho fun hm=>(hM _ hm (aM ho)).2 hf
 obtain⟨bs,ck,hst,hm⟩:=k.fm;exact⟨nD k.f4 k.h4,⟨bs,ck,hst,nF hm k.hm⟩,nF k.f5 k.h5,nD k.f6 k.h6,k.gr.imp id fun⟨a,wr,h1,h2,h3,h4,h5⟩=>⟨a,wr,h1,nF h2 h4,h3,h4,h5⟩,k.pn,fun i p x h1 h2=>⟨(k.pl i p x h1 h2).1,nD (k.pl i p x h1 h2).2 (k.pl i p x h1 h2).1⟩,k.dF,k.dD,k.hm,k.h5,k.h4,k.h6⟩
theorem Co.use(k:Co m c4 c5 c6 h v ps F D U)(x:Bz){bs:List Nat}{ck:Nat}(hst:fu bs ck):Co m c4 c5 c6 (h.1++[x],h.2) v ps F D (U.set m (.map (((h.1++[x]).foldl dQ []).map kv) bs ck)):=by
 obtain⟨bs0,ck0,_,hm⟩:=k.fm
 have g:∀{l o},U[l]?=some o->(∀a b c,o≠Ob.map a b c)->(U.set m (.map (((h.1++[x]).foldl dQ []).map kv) bs ck))[l]?=some o:=fun {l o} ho n=>by
  rw[bC]
  .exact ho
  .exact qV hm ho (Ne.symm (n _ _ _))
 exact⟨g k.f4 sM,⟨bs,ck,hst,bJ (aM hm)⟩,g k.f5 sM,g k.f6 sM,k.gr.imp id fun⟨a,wr,h1,h2,h3,h4,h5⟩=>⟨a,wr,h1,g h2 sM,h3,h4,h5⟩,k.pn,fun i p x h1 h2=>⟨(k.pl i p x h1 h2).1,g (k.pl i p x h1 h2).2 (by simp[dZ])⟩,k.dF,k.dD,k.hm,k.h5,k.h4,k.h6⟩
end
def qbn{S:St}{sz bytes:Nat}{y:V}{b:Bool}(hy:fits sz [y]=true)(hr:bytes<=2^47):dY S sz bytes (.sl true []) (.sl b [y])=some (.arr S.length 0 1 1,S++[.arr [y] sz 1]):=by
 unfold dY;rw[mh];have hc:true=true/\fits sz [y]=true/\(([]:List V).all fun v=>v.size==sz)=true/\(([]:List V).length+[y].length)*bytes<=2^47:=⟨rfl,hy,rfl,by simpa using hr⟩;show(if([y]:List V).isEmpty=true then _ else _)=_;rw[aj sM,ai hc];simp
def qbm{S:St}{sz bytes l wr:Nat}{xs:List V}{y:V}{b:Bool}(h3:S[l]?=some (.arr xs sz wr))(hy:fits sz [y]=true)(hr:(xs.length+1)*bytes<=2^47):dY S sz bytes (.arr l 0 xs.length xs.length) (.sl b [y])=some (.arr l 0 (xs.length+1) (xs.length+1),S.set l (.arr (xs++[y]) sz wr)):=by
 have hc:0=0/\xs.length=xs.length/\xs.length=xs.length/\sz=sz/\fits sz [y]=true/\(xs.length+[y].length)*bytes<=2^47:=⟨rfl,rfl,rfl,rfl,hy,hr⟩;unfold dY;rw[mh];show(match S[l]? with|_=>_)=_;rw[h3];show(if _ then _ else _)=_;rw[ai hc];rfl
def qkh{m c4 c5 c6:Nat}{h:List Bz×List Bz}{v:V}{ps:List Nat}{F D:Np}{U:St}(k:Co m c4 c5 c6 h v ps F D U)(p:Nat)(x:Bz)(hp:U[p]?=some (dZ x h.2.length x))(nF:¬F p)(hn:h.2.length<=100000):
  au prog 108 [.ptr p 0 0 1,.ptr c5 0 0 1] U (fun _ U'=>∃v' F',Co m c4 c5 c6 (h.1,h.2++[x]) v' (ps++[p]) F' (fun l=>D l\/l=p) U'/\U'[p]?=some (dZ x h.2.length x)/\Kp (fun l=>l=p\/F l) U U'/\grow U F F'):=by
 refine au.ib H3 ?_;have hpn:=k.pn;obtain⟨bs,ck,hst,hm⟩:=k.fm;have fin:∀(U1:St) (a wr:Nat),U1[a]?=some (.arr ((ps++[p]).map zG) 1 wr)->wr<=ps.length+1->(F a\/U.length<=a)->a≠c5->a≠m->U.length<=U1.length->(∀l o,U[l]?=some o->l≠a->U1[l]?=some o)->
   ∃v' F',Co m c4 c5 c6 (h.1,h.2++[x]) v' (ps++[p]) F' (fun l=>D l\/l=p) (U1.set c5 (.arr [.arr a 0 (ps.length+1) (ps.length+1)] 1 1))/\(U1.set c5 (.arr [.arr a 0 (ps.length+1) (ps.length+1)] 1 1))[p]?=some (dZ x h.2.length x)/\Kp (fun l=>l=p\/F l) U (U1.set c5 (.arr [.arr a 0 (ps.length+1) (ps.length+1)] 1 1))/\grow U F F':=by
  intro U1 a wr h2 h3 h4 h5 h5' h6' h6
  have q:∀{l o},U[l]?=some o->l≠c5->l≠a->(U1.set c5 (.arr [.arr a 0 (ps.length+1) (ps.length+1)] 1 1))[l]?=some o:=fun {l o} ho n1 n2=>by
   rw[bC (Ne.symm n1)];exact h6 l o ho n2
  have nq:∀{l o},U[l]?=some o->¬F l->(U1.set c5 (.arr [.arr a 0 (ps.length+1) (ps.length+1)] 1 1))[l]?=some o:=fun {l o} ho hF=>
   q ho (by rintro rfl;exact hF k.h5) (by rintro rfl;exact h4.elim hF fun hh=>by have:=aM ho;omega)
  have zo:∀{l},D l->¬F l:=fun hD hF=>by obtain⟨_,_,_,h⟩:=k.gF hF;exact h hD
  refine⟨.arr a 0 (ps.length+1) (ps.length+1),fun l=>l=m\/l=c5\/l=a,⟨nq k.f4 (zo k.h4),⟨bs,ck,hst,q hm ?_ (Ne.symm h5')⟩,bJ ?_,nq k.f6 (zo k.h6),.inr ⟨a,wr,by simp,?_,by simpa using h3,.inr (.inr rfl),h5⟩,by simp[hpn],fun i p' x' g1 g2=>?_,fun l hl=>?_,fun l hl=>?_,.inl rfl,.inr (.inl rfl),.inl k.h4,.inl k.h6⟩,nq hp nF,⟨by simpa using h6',fun l hl hn=>?_⟩,fun l hl=>?_⟩
  .refine qV hm k.f5 sM
  .have:=aM k.f5;omega
  .rw[bC (Ne.symm h5)];exact h2
  .by_cases hi:i<ps.length
   .rw[b8 hi]at g1;rw[b8 oM]at g2;obtain⟨e1,e2⟩:=k.pl i p' x' g1 g2;exact⟨.inl e1,nq e2 (zo e1)⟩
   .have h1:=(aT.1 g1).1;rw[cJ,List.length_singleton]at h1;have:i=ps.length:=by omega
    subst this;simp at g1;rw[hpn]at g2;simp at g2;subst g1 g2;have e:=nq hp nF;rw[<-hpn]at e;exact⟨.inr rfl,e⟩
  .exact hl.imp id fun hl=>hl.imp id fun hl=>⟨ps.length+1,by rw[hl]⟩
  .rcases hl with hl|rfl
   .exact(k.dD l hl).imp id fun hl=>hl.imp id fun hl=>by simp[hl]
   .exact .inr (.inr sM)
  .have:∃o,U[l]?=some o:=⟨_,bI hl⟩;obtain⟨o,ho⟩:=this;rw[ho];exact nq ho fun hf=>hn (.inr hf)
  .rcases hl with rfl|rfl|rfl
   .exact .inl k.hm
   .exact .inl k.h5
   .exact h4
 have hf:=k.f5;have hft:fits 1 [V.ptr p 0 0 1]=true:=rfl;rcases k.gr with ⟨rfl,rfl⟩|⟨a,wr,rfl,ha,hw,hF,hne⟩
 .have happ:=qbn (S:=U) (sz:=1) (bytes:=8) (y:=.ptr p 0 0 1) (b:=true) rfl oM;have hs:(U++[Ob.arr [.ptr p 0 0 1] 1 1])[c5]?=some (.arr [.sl true []] 1 1):=gp hf;simp[H3,ae,hf,hft,aZ,happ,aA,hs];refine i9 rfl ?_;exact(fin (U++[Ob.arr [zG p] 1 1]) U.length 1 sM sM (.inr bL) (by have:=aM hf;omega) (by have:=aM hm;omega) sM fun l o ho _=>gp ho)
 .have happ:=qbm (S:=U) (sz:=1) (bytes:=8) (y:=.ptr p 0 0 1) (b:=true) ha rfl (by rw[bu];omega);simp at happ;have hs:(U.set a (Ob.arr (ps.map zG++[.ptr p 0 0 1]) 1 wr))[c5]?=some (.arr [.arr a 0 ps.length ps.length] 1 1):=by rw[bC hne];exact hf
  simp[H3,ae,hf,hft,aZ,happ,aA,hs];refine i9 rfl ?_;exact(fin (U.set a (Ob.arr (ps.map zG++[.ptr p 0 0 1]) 1 wr)) a wr (by rw[bJ (aM ha),cy];rfl) oM (.inl hF) hne (qV ha hm sM) sM fun l o ho hl=>by rw[bC (Ne.symm hl)];exact ho)
section
variable {m c4 c5 c6:Nat} {h:List Bz×List Bz} {v:V} {ps:List Nat} {F D:Np} {U:St}
theorem Co.lt(k:Co m c4 c5 c6 h v ps F D U){l:Nat}(hl:F l\/D l):l<U.length:=by
 rcases hl with hl|hl
 .obtain⟨_,h,_⟩:=k.gF hl;exact aM h
 .obtain⟨_,h,_⟩:=k.gD hl;exact aM h
theorem Co.push(k:Co m c4 c5 c6 h v ps F D U)(os:List Ob):Co m c4 c5 c6 h v ps F D (U++os):=k.fr (M:=fun _=>False) ((Kp.refl _ _).push _) fun _ h=>h.elim
theorem Co.set(k:Co m c4 c5 c6 h v ps F D U){l:Nat}(o:Ob)(hF:¬F l)(hD:¬D l):Co m c4 c5 c6 h v ps F D (U.set l o):=k.fr (M:=fun x=>x=l) ((Kp.refl _ _).set _ (.inl rfl)) fun x hx _=>by rw[hx];exact⟨hF,hD⟩
end
def Zi{m c4 c5 c6:Nat}{h:List Bz×List Bz}{v:V}{ps:List Nat}{F D:Np}{U:St}(k:Co m c4 c5 c6 h v ps F D U){X:Np}{w:V}{ts:List cT}(hsc:cS bg X U w ts)(x:Bz):
  au prog 107 [.str x,w,.ptr c4 0 0 1] U (fun _ U'=>Co m c4 c5 c6 (jS h x (am ts)) v ps F D U'/\Kp F U U'):=by
 refine au.ib Og ?_;simp[Og];refine aG (xQ hsc x) ?_;have hat:=tY ts x;unfold jS;rw[hat];have h4:=k.f4;obtain⟨bs,ck,hst,hm⟩:=k.fm
 cases hf:kq ts x with
 |some q=>
  simp[gK,hf,eh,dN];exact i9 rfl ⟨k,Kp.refl _ _⟩
 |none=>
  simp[gK,hf,eh,dN,ae,h4];have hft:fits 1 [V.str x]=true:=rfl;simp[hft];refine aU (ZJ true [x] _ bs ck m U sM hm) ?_;rintro r U' ⟨bs',gG,hst',rfl⟩;simp;have:=k.use x (hst' hst);rw[pG]at this;exact i9 rfl ⟨this,(Kp.refl _ _).set _ (.inl k.hm)⟩
def qki{m c4 c5 c6:Nat}{h:List Bz×List Bz}{v:V}{ps:List Nat}{F D:Np}{U:St}(k:Co m c4 c5 c6 h v ps F D U){X:Np}{w:V}{ts:List cT}(hsc:cS bg X U w ts)(x:Ex)(tg:Bool):
  au prog 109 [x.v,w,.bool tg,.ptr c6 0 0 1] U (fun r U'=>r=x.v/\Co m c4 c5 c6 (jS h x.text (am ts)) v ps F D U'/\Kp F U U'):=by
 refine au.ib Oh ?_;simp[Oh,aC];obtain⟨U1,dl⟩:∃U1:St,U1=U++[.arr [x.v] 7 1,.arr [.agg [.int .i64 0,.int .i64 0,.int .i64 0,.int .i64 0,.int .i64 0,.str ⟨⟨[]⟩⟩,.sl true []]] 7 1]:=⟨_,rfl⟩;rw[<-dl];have l1:U1.length=U.length+2:=by rw[dl];simp
 have b0:U1[U.length]?=some (.arr [x.v] 7 1):=by rw[dl];simp
 have b1:U1[U.length+1]?=some (.arr [.agg [.int .i64 0,.int .i64 0,.int .i64 0,.int .i64 0,.int .i64 0,.str ⟨⟨[]⟩⟩,.sl true []]] 7 1):=by rw[dl,bK oM];simp
 have k1:Co m c4 c5 c6 h v ps F D U1:=by rw[dl];exact k.push _
 have s1:cS bg X U1 w ts:=by rw[dl];exact hsc.push _
 have lG:Kp F U U1:=by rw[dl];exact(Kp.refl _ _).push _
 clear dl;have h6:=k1.f6;have nF:∀j,¬F (U.length+j):=fun j hf=>by have:=k.lt (.inl hf);omega
 have nD:∀j,¬D (U.length+j):=fun j hf=>by have:=k.lt (.inr hf);omega
 simp[ae,h6,b0];refine aU (Zi k1 s1 x.text) ?_;rintro r U2 ⟨k2,lH⟩;have c0:=lH.at b0 (nF 0);have c1:=lH.at b1 (nF 1);simp[ae,c0,aA,c1,aE];have hz:(U2.set (U.length+1) (.arr [x.v] 7 1))[U.length+1]?=some (.arr [x.v] 7 1):=bJ (aM c1);exact aS (vs:=[x.v]) (by simp[dm,ae,hz]) ⟨rfl,k2.set _ (nF 1) (nD 1),(lG.trans lH).set _ (.inr oM)⟩
def qkj{m c4 c5 c6:Nat}{h:List Bz×List Bz}{v:V}{ps:List Nat}{F D:Np}{U:St}(k:Co m c4 c5 c6 h v ps F D U){X:Np}{w:V}{ts:List cT}(hsc:cS bg X U w ts)(x:Bz):
  au prog 110 [.str x,w,.ptr c6 0 0 1] U (fun r U'=>r=.str x/\Co m c4 c5 c6 (jS h x (am ts)) v ps F D U'/\Kp F U U'):=by
 refine au.ib Oi ?_;have h6:=k.f6;simp[Oi,ae,h6];refine aU (Zi k hsc x) ?_;rintro r U2 ⟨k2,lH⟩;simp;exact aS rfl ⟨rfl,k2,lH⟩
def Co.real{m c4 c5 c6:Nat}{h:List Bz×List Bz}{v:V}{ps:List Nat}{F D:Np}{S:St}(k:Co m c4 c5 c6 h v ps F D S)(h':List Bz×List Bz):∃F' D' U v' ps',Co m c4 c5 c6 h' v' ps' F' D' U/\Kp F S U/\grow S F F'/\grow S D D':=by
 obtain⟨bs,ck,hst,hm⟩:=k.fm;obtain⟨n,hn⟩:∃n,n=h'.2.length:=⟨_,rfl⟩;obtain⟨ps',hps⟩:∃ps':List Nat,ps'=(List.range n).map (S.length+·):=⟨_,rfl⟩;have Vq:ps'.length=n:=by rw[hps];simp
 obtain⟨os,hos⟩:∃os:List Ob,os=(h'.2.zipIdx.map fun e=>dZ e.1 e.2 e.1)++[.arr (ps'.map zG) 1 0]:=⟨_,rfl⟩;have los:os.length=n+1:=by rw[hos,hn];simp
 obtain⟨U,hU⟩:∃U:St,U=((S++os).set m (.map ((h'.1.foldl dQ []).map kv) [] 0)).set c5 (.arr [.arr (S.length+n) 0 n n] 1 1):=⟨_,rfl⟩;have lm:=aM hm;have l5:=aM k.f5;have zo:∀{l},D l->¬F l:=fun hD hF=>by obtain⟨_,_,_,h⟩:=k.gF hF;exact h hD
 have q:∀{l o},S[l]?=some o->¬F l->U[l]?=some o:=fun {l o} ho hf=>by
  rw[hU,bC (by rintro rfl;exact hf k.h5),bC (by rintro rfl;exact hf k.hm)];rw[b8 (aM ho)];exact ho
 have new:∀j o,os[j]?=some o->U[S.length+j]?=some o:=fun j o ho=>by
  rw[hU,bC oM,bC oM,bK oM,vS];exact ho
 refine⟨fun l=>l=m\/l=c5\/l=S.length+n,fun l=>l=c4\/l=c6\/l∈ps',U,.arr (S.length+n) 0 n n,ps',⟨q k.f4 (zo k.h4),⟨[],0,fu.nil,?_⟩,?_,q k.f6 (zo k.h6),.inr ⟨S.length+n,0,by rw[Vq],new n _ ?_,eL _,.inr (.inr rfl),by omega⟩,by rw[Vq,hn],fun i p x h1 h2=>⟨.inr (.inr (dc h1)),?_⟩,fun l hl=>hl.imp id fun hl=>hl.imp id fun hl=>⟨n,by rw[hl]⟩,fun l hl=>hl,.inl rfl,.inr (.inl rfl),.inl rfl,.inr (.inl rfl)⟩,⟨?_,fun l hl hf=>?_⟩,fun l hl=>?_,fun l hl=>?_⟩
 .rw[hU,bC (qV k.f5 hm sM),bJ (by simp;omega)]
 .rw[hU,bJ (by simp;omega)]
 .rw[hos,bK (by simp[hn])];simp[hn]
 .rw[hps]at h1;simp at h1;obtain⟨j,hj,rfl⟩:=h1;obtain⟨h3,h4⟩:=aT.1 hj;rw[List.getElem_range]at h4;rw[List.length_range]at h3;subst h4;refine new i _ ?_;rw[hos,b8 (by simp;omega)];simp[h2]
 .rw[hU];simp
 .obtain⟨o,ho⟩:∃o,S[l]?=some o:=⟨_,bI hl⟩;rw[ho];exact q ho hf
 .rcases hl with rfl|rfl|rfl
  .exact .inl k.hm
  .exact .inl k.h5
  .exact .inr oM
 .rcases hl with rfl|rfl|hl
  .exact .inl k.h4
  .exact .inl k.h6
  .rw[hps]at hl;simp at hl;omega
def qcg(m c4 c5 c6:Nat):(Jm m c4 c5 c6).Ok where
 lim:=cq _
 lt:=fun⟨v,ps,k⟩ l hl=>k.lt hl
 fr:=fun⟨v,ps,k⟩ hk hM=>⟨v,ps,k.fr hk hM⟩
 lp:=fun⟨v,ps,k⟩ l o ho=>⟨fun hf=>by obtain⟨_,h1,h2,_⟩:=k.gF hf;rw[ho]at h1;cases h1;exact h2 _ rfl,fun hf=>by obtain⟨_,h1,h2⟩:=k.gD hf;rw[ho]at h1;cases h1;exact h2 _ rfl⟩
 ce x hc:=by
  show(_++[x]).length=_+1;rw[cJ];exact congrArg (·+1) hc
 cm x sc tg hc:=by
  show(jS _ x.text sc).2.length=_;unfold jS;split<;>exact hc
 cc x sc hc:=by
  show(jS _ x sc).2.length=_;unfold jS;split<;>exact hc
 real:=fun {h F D S} ⟨v,ps,k⟩ h'=>by
  obtain⟨F',D',U,v',ps',a,b,c,d⟩:=k.real h';exact⟨F',D',U,⟨v',ps',a⟩,b,c,d⟩
 en:=.inr ⟨108,[.ptr c5 0 0 1],rfl,fun U p k x h F D hp hF hD hk hc ⟨v,ps,kk⟩=>by
  have hc:h.2.length=k:=hc;subst hc;refine au.mono (qkh kk p x hp hF (Nat.le_of_lt_succ hk)) fun r U' ⟨v',F',a,b,c,d⟩=>?_
  exact⟨F',fun l=>D l\/l=p,⟨v',ps++[p],a⟩,b,c,d,fun l hl=>hl.imp id .inl⟩⟩
 nm:=⟨109,[.ptr c6 0 0 1],rfl,fun U x w ts tg w' h F D hsc ⟨v,ps,k⟩=>au.mono (qki k hsc x tg) fun r U' ⟨a,b,c⟩=>⟨a,F,D,⟨v,ps,b⟩,c,grow.refl _ _,grow.refl _ _⟩⟩
 cl:=⟨110,[.ptr c6 0 0 1],rfl,fun U x w ts w' h F D hsc ⟨v,ps,k⟩=>au.mono (qkj k hsc x) fun r U' ⟨a,b,c⟩=>⟨a,F,D,⟨v,ps,b⟩,c,grow.refl _ _,grow.refl _ _⟩⟩
def qaF(s:Sm)(S:St)(r:V)(U:St):Prop:=∃(m c4 c5 c6:Nat) (v:V) (ps:List Nat) (F D:Np),r=.aH [.map m,v]/\Co m c4 c5 c6 (s.kP bg ([],[])) v ps F D U/\Kp (fun _=>False) S U/\(∀l,F l\/D l->S.length<=l)
theorem NE(y:V):V.upd .cG 0 1 y=if y.size=1/\y.cells.all V.flat=true then some y else none:=rfl
def qlz(s:Sm)(hs:s.ok)(hsz:(Pa.st s).size<=4000)(hn:Sm.aX [s]<=100000)(S:St):au prog 58 [s.v] S (fun r U=>qaF s S r U):=by
 refine au.ib Qe ?_;simp[Qe,aC,ae,aA,aE,bj,bz,aZ,NE,HL];obtain⟨B,hB⟩:∃B,B=S.length:=⟨_,rfl⟩;obtain⟨S1,hS1⟩:∃S1:St,S1=S++[.arr [s.v] 8 1,.map [] [] 0,.arr [.map (B+1)] 1 1,.arr [.sl true []] 1 1,.arr [.fn (.func 107) [] [.ptr (B+2) 0 0 1]] 1 1,.arr [.agg [.int .i64 0,.fn (.func 108) [] [.ptr (B+3) 0 0 1],.fn (.func 109) [] [.ptr (B+4) 0 0 1],.fn (.func 110) [] [.ptr (B+4) 0 0 1]]] 4 1]:=⟨_,rfl⟩;rw[<-hB,<-hS1];have l1:S1.length=B+6:=by rw[hS1,hB];simp
 have g:∀j o,[Ob.arr [s.v] 8 1,.map [] [] 0,.arr [.map (B+1)] 1 1,.arr [.sl true []] 1 1,.arr [.fn (.func 107) [] [.ptr (B+2) 0 0 1]] 1 1,.arr [.agg [.int .i64 0,.fn (.func 108) [] [.ptr (B+3) 0 0 1],.fn (.func 109) [] [.ptr (B+4) 0 0 1],.fn (.func 110) [] [.ptr (B+4) 0 0 1]]] 4 1][j]?=some o->S1[B+j]?=some o:=fun j o ho=>by
  rw[hS1,bK oM,hB,vS,<-hB];exact ho
 have kS:Kp (fun _=>False) S S1:=by rw[hS1];exact(Kp.refl _ _).push _
 have k1:Co (B+1) (B+2) (B+3) (B+4) ([],[]) (.sl true []) [] (fun l=>l=B+1\/l=B+3) (fun l=>l=B+2\/l=B+4) S1:=
  ⟨g 2 _ rfl,⟨[],0,fu.nil,g 1 _ rfl⟩,g 3 _ rfl,g 4 _ rfl,.inl ⟨rfl,rfl⟩,rfl,fun i p x h=>by simp at h,fun l hl=>hl.imp id .inl,fun l hl=>hl.imp id .inl,.inl rfl,.inr rfl,.inl rfl,.inr rfl⟩
 have hw:Wk (Jm (B+1) (B+2) (B+3) (B+4)) (B+5) 0 ([],[]) (fun l=>l=B+1\/l=B+3) (fun l=>l=B+2\/l=B+4) S1:=⟨g 5 _ rfl,⟨_,_,k1⟩,by omega,by omega,rfl⟩;clear g hS1 k1;refine aU (M9 (Jm (B+1) (B+2) (B+3) (B+4)) (qcg _ _ _ _) (B+5) s hs hsz ([],[]) _ _ S1 hw (Nat.le_succ_of_le hn)) ?_;rintro r U ⟨rfl,F2,D2,k2,s2⟩;obtain⟨v,ps,kk⟩:=k2.st;have h4:=kk.f4;have h5:=kk.f5;have BW:v.cells=[v]:=by rcases kk.gr with ⟨_,rfl⟩|⟨a,wr,rfl,_⟩<;>rfl
 simp[ae,h4,h5,BW,cU,dx,dG];refine aS rfl ⟨_,_,_,_,_,_,_,_,rfl,kk,⟨fL kS.len s2.k.len,fun l hl hn=>?_⟩,fun l hl=>?_⟩
 .rw[s2.k.get l oM (by rintro(hh|hh|hh)<;>omega)];exact kS.get l hl hn
 .rcases hl with hl|hl
  .rcases s2.gF l hl with (h|h)|h<;>omega
  .rcases s2.gD l hl with (h|h)|h<;>omega
mutual
def Ex.eo:Ex->List Bz
 |.mk k _ _ _ _ t a=>Ex.cf a++(if Ex.named k then [t] else [])
def Ex.cf:List Ex->List Bz
 |[]=>[]
 |x::l=>Ex.eo x++Ex.cf l
end
def El.cf:List El->List Bz
 |[]=>[]
 |x::l=>Ex.cf x.ak++El.cf l
mutual
def Sm.eo:Sm->List Bz
 |.mk _ k t g e h d b=>if k=7 then De.cf d++Sm.cf b else if k=8 then Sm.cf b else Ex.cf g++Ex.cf e++El.cf h++Sm.cf b++(if k=6 then [t] else [])
def De.eo:De->List Bz
 |.mk k _ _ _ e _ b=>if k=4 then Sm.cf b else Ex.cf e
def De.cf:List De->List Bz
 |[]=>[]
 |x::l=>De.eo x++De.cf l
def Sm.cf:List Sm->List Bz
 |[]=>[]
 |x::l=>Sm.eo x++Sm.cf l
end
section
variable {f:Nat->Bz} {nm:Bz->Bool} (hf:∀k,nm (f k)=false)
def dp(h:bg.H):List Bz:=Prod.fst (α:=List Bz) (β:=List Bz) h
theorem qJ(s:bw):∀h:bg.H,dp (enters bg h s)=dp h:=by
 induction s with
 |nil=>intro h;rfl
 |cons e s ih=>intro h;exact ih _
include hf
theorem RX(h:bg.H)(sc:ag)(t:Bz)(ht:nm t=true):dp (bg.lC h t sc)=dp h++[dt f sc t].filter nm:=by
 show Prod.fst (jS h t sc)=_;unfold jS dt dp
 cases sc.at t with
 |none=>simp[ht]
 |some k=>simp[hf]
omit hf in
theorem R2(sc:ag)(tg:Bool)(h:bg.H)(k o n m e:Int)(t:Bz)(a:List Ex):bg.mD sc tg h (.mk k o n m e t a)=if Ex.named k=true then bg.lC h t sc else h:=rfl
omit hf in
theorem RZ(sc:ag)(k:Int)(h:bg.H)(t:Bz):bg.mf sc k h t=if k=6 then bg.lC h t sc else h:=rfl
def nC:bg.H:=(([],[]):List Bz×List Bz)
mutual
theorem Ex.fr(sc:ag)(tg:Bool):∀(x:Ex) (h:bg.H),(Pa.ex x).valid nm=true->dp (Ex.hs bg sc tg h x)=dp h++(Ex.eo (x.w f sc)).filter nm
 |.mk k o n m e t a,h,v=>by
  have ha:=Ex.lE sc false a h (Ex.xX v);rw[Ex.hs,Ex.w,Ex.eo,k9,<-cO,<-ha];rw[R2];by_cases hk:Ex.named k=true
  .rw[ai hk,ai hk,ai hk];exact RX hf _ sc t (Ex.vm v hk)
  .rw[aj hk,aj hk,List.filter_nil,kR]
theorem Ex.lE(sc:ag)(tg:Bool):∀(l:List Ex) (h:bg.H),(∀x,x∈l->(Pa.ex x).valid nm=true)->dp (Ex.hsl bg sc tg h l)=dp h++(Ex.cf (Ex.wl f sc l)).filter nm
 |[],h,_=>by simp[Ex.hsl,Ex.wl,Ex.cf]
 |x::l,h,v=>by
  rw[Ex.hsl,Ex.wl,Ex.cf,Ex.lE sc tg l _ fun y hy=>v y (by simp[hy])];have:=Ex.fr sc tg x h (v x sM);rw[k9,<-cO,<-this]
end
theorem El.lE(sc:ag):∀(l:List El) (h:bg.H),(∀x,x∈l->(Pa.el x).valid nm=true)->dp (El.hsl bg sc h l)=dp h++(El.cf (l.map (El.w f sc))).filter nm
 |[],h,_=>by simp[El.hsl,El.cf]
 |x::l,h,v=>by
  have h1:=Ex.lE hf sc false x.ak h (fun y hy=>(Pa.eQ.1 (v x sM)).2 _ (by simp only[Pa.kids];exact jO hy));have h2:=El.lE sc l (Ex.hsl bg sc false h x.ak) fun y hy=>v y (by simp[hy])
  show dp (El.hsl bg sc (Ex.hsl bg sc false h x.ak) l)=_;rw[h2,h1,b9,El.cf,k9,<-cO];unfold El.w;rw[<-Ex.jM]
mutual
theorem Sm.fr:∀(s:Sm) (sc:ag) (n:Nat) (h:bg.H),(Pa.st s).valid nm=true->dp (Sm.hs bg sc n h s)=dp h++(s.w f sc n).eo.filter nm
 |.mk l k t g e el d b,sc,n,h,v=>by
  obtain⟨v7,v8,v9⟩:=Sm.u9 v;have vd:=Sm.rx v;have vb:=Sm.jo v;have vg:=Sm.Aa v;have ve:=Sm.kO v;have vl:=Sm.zZ v;have vt:=Sm.vm v;simp only[Sm.decls,Sm.body,Sm.targets,Sm.ak,Sm.elems,Sm.kind,Sm.text]at vd vb vg ve vl vt;rw[Sm.hs,Sm.w];by_cases h7:k=7
  .obtain⟨rfl,rfl,rfl⟩:=v7 h7;rw[ai h7,ai h7,Sm.eo,ai h7,k9,<-cO];rw[Sm.lE b _ _ _ vb,De.lE d _ _ _ _ vd,qJ];rfl
  .rw[aj h7,aj h7];by_cases h8:k=8
   .obtain⟨rfl,rfl,rfl,rfl⟩:=v8 h8;rw[ai h8,ai h8,Sm.eo,aj h7,ai h8];rw[Sm.lE b _ _ _ vb,qJ];rfl
   .obtain rfl:=v9 h7 h8;rw[aj h8,aj h8,Sm.eo,aj h7,aj h8];have e1:=Ex.lE hf sc true g h vg;have e2:=Ex.lE hf sc false e (Ex.hsl bg sc true h g) ve;have e3:=El.lE hf sc el (Ex.hsl bg sc false (Ex.hsl bg sc true h g) e) vl;have e4:=Sm.JO b sc n (El.hsl bg sc (Ex.hsl bg sc false (Ex.hsl bg sc true h g) e) el) vb;rw[e3,e2,e1]at e4;simp only[k9];rw[RZ];by_cases h6:k=6
    .rw[ai h6,ai h6,ai h6];have e5:=RX hf (Sm.hs1 bg sc n (El.hsl bg sc (Ex.hsl bg sc false (Ex.hsl bg sc true h g) e) el) b) sc t (vt h6);refine Eq.trans e5 ?_;rw[e4];simp only[cO]
    .rw[aj h6,aj h6];refine Eq.trans e4 ?_;simp only[cO,List.filter_nil,kR]
theorem De.fr:∀(s:De) (own sc:ag) (n:Nat) (h:bg.H),(Pa.de s).valid nm=true->dp (De.hs bg own sc n h s)=dp h++(s.w f own sc n).eo.filter nm
 |.mk k o t ns e fo b,own,sc,n,h,v=>by
  obtain⟨v4,v5⟩:=De.vi v;have vb:=De.jo v;have ve:=De.kO v;simp only[De.body,De.ak]at vb ve;rw[De.hs,De.w];by_cases h4:k=4
  .obtain rfl:=v4 h4;rw[ai h4,ai h4,De.eo,ai h4,Sm.JO b _ _ _ vb,qJ];rfl
  .obtain⟨rfl,rfl⟩:=v5 h4;rw[aj h4,aj h4,De.eo,aj h4];exact Ex.lE hf _ _ e h ve
theorem De.lE:∀(l:List De) (own sc:ag) (n:Nat) (h:bg.H),(∀x,x∈l->(Pa.de x).valid nm=true)->dp (De.hsl bg own sc n h l)=dp h++(De.cf (De.wl f own sc n l)).filter nm
 |[],_,_,_,h,_=>by simp[De.hsl,De.wl,De.cf]
 |x::l,own,sc,n,h,v=>by
  rw[De.hsl,De.wl,De.cf,De.lE l own sc _ _ fun y hy=>v y (by simp[hy]),De.fr x own sc n h (v x sM),k9,cO]
theorem Sm.lE:∀(l:List Sm) (sc:ag) (n:Nat) (h:bg.H),(∀x,x∈l->(Pa.st x).valid nm=true)->dp (Sm.hsl bg sc n h l)=dp h++(Sm.cf (Sm.wl f sc n l)).filter nm
 |[],_,_,h,_=>by simp[Sm.hsl,Sm.wl,Sm.cf]
 |x::l,sc,n,h,v=>by
  rw[Sm.hsl,Sm.wl,Sm.cf,Sm.lE l sc _ _ fun y hy=>v y (by simp[hy]),Sm.fr x sc n h (v x sM),k9,cO]
theorem Sm.JO:∀(l:List Sm) (sc:ag) (n:Nat) (h:bg.H),(∀x,x∈l->(Pa.st x).valid nm=true)->dp (Sm.hs1 bg sc n h l)=dp h++(Sm.cf (Sm.w1 f sc n l)).filter nm
 |[],_,_,h,_=>by simp[Sm.hs1,Sm.w1,Sm.cf]
 |x::l,sc,n,h,v=>by
  rw[Sm.hs1,Sm.w1,Sm.cf,Sm.JO l sc _ _ fun y hy=>v y (by simp[hy]),Sm.fr x _ _ _ (v x sM),qJ,k9,cO]
end
theorem Sm.qek(s:Sm)(v:(Pa.st s).valid nm=true):dp (s.kP bg nC)=(s.whole f).eo.filter nm:=by
 have:=Sm.fr hf s [ah s.labels 0] (ah s.labels 0).length (enters bg nC (ah s.labels 0)) v;refine this.trans ?_;show dp (enters bg nC (ah s.labels 0))++_=_;rw[qJ];rfl
end
section
variable {lk:Lk} {g:Nat->Bz} (hg:∀k,lk (g k)=none)
include hg
theorem zu(sc:ag)(t:Bz):su lk (dt g sc t)=jB lk sc t:=by
 unfold dt jB
 cases sc.at t with
 |some k=>unfold su;simp only[hg]
 |none=>rfl
theorem Ny(sc:ag)(tg:Bool)(t:Bz):sQ lk tg (dt g sc t)=pw lk sc tg t:=by
 unfold dt pw
 cases sc.at t with
 |some k=>unfold sQ;simp only[hg]
 |none=>rfl
def fP(h:(db lk).H):Bool:=h
variable {nm:Bz->Bool}
omit hg in
theorem DC(s:bw):∀h:(db lk).H,enters (db lk) h s=h:=by
 induction s with
 |nil=>intro h;rfl
 |cons e s ih=>intro h;exact ih _
mutual
theorem Ex.sC(sc:ag)(tg:Bool):∀(x:Ex) (h:(db lk).H),fP (Ex.hs (db lk) sc tg h x)=(fP h||(x.w g sc).eu lk tg)
 |.mk k o n m e t a,h=>by
  have h1:=Ex.lP sc false a h
  have h2:fP (Ex.hs (db lk) sc tg h (.mk k o n m e t a))=if Ex.named k=true then fP (Ex.hsl (db lk) sc false h a)||(if k=6 then pw lk sc tg t else jB lk sc t) else fP (Ex.hsl (db lk) sc false h a):=by
   rw[Ex.hs];unfold Pw.mD;show fP (if Ex.named k=true then _ else _)=_;split<;>rfl
  rw[h2,h1,Ex.w,Ex.eu];by_cases h6:k=6
  .have hn:Ex.named k=true:=by rw[h6];rfl
   rw[ai hn,ai h6,ai h6,ai hn,Ny hg,jg]
  .rw[aj h6,aj h6];by_cases hn:Ex.named k=true
   .rw[ai hn,ai hn,zu hg,hn,l8,jg]
   .rw[aj hn];have:Ex.named k=false:=by simpa using hn
    rw[this,Aj,i5]
theorem Ex.lP(sc:ag)(tg:Bool):∀(l:List Ex) (h:(db lk).H),fP (Ex.hsl (db lk) sc tg h l)=(fP h||Ex.bQ lk tg (Ex.wl g sc l))
 |[],h=>by rw[Ex.hsl,Ex.wl,Ex.bQ,i5]
 |x::l,h=>by rw[Ex.hsl,Ex.lP sc tg l,Ex.sC sc tg x,Ex.wl,Ex.bQ,jg]
end
theorem El.lP(sc:ag):∀(l:List El) (h:(db lk).H),fP (El.hsl (db lk) sc h l)=(fP h||El.bQ lk (l.map (El.w g sc)))
 |[],h=>by rw[jj,El.bQ,i5];rfl
 |x::l,h=>by
  have h1:=El.lP sc l (Ex.hsl (db lk) sc false h x.ak);show fP (El.hsl (db lk) sc (Ex.hsl (db lk) sc false h x.ak) l)=_;rw[h1,Ex.lP hg,b9,El.bQ,jg];unfold El.w;rw[Ex.jM]
omit hg in
theorem qji(sc:ag)(k:Int)(h:(db lk).H)(t:Bz):fP ((db lk).mf sc k h t)=(fP h||(decide (k=6)&&jB lk sc t)):=by
 unfold Pw.mf;by_cases h6:k=6
 .rw[ai h6,jC h6,l8];rfl
 .rw[aj h6,dy h6,Aj,i5]
mutual
theorem Sm.sC:∀(s:Sm) (sc:ag) (n:Nat) (h:(db lk).H),(Pa.st s).valid nm=true->fP (s.hs (db lk) sc n h)=(fP h||(s.w g sc n).eu lk)
 |.mk l k t gs e hh d b,sc,n,h,v=>by
  obtain⟨v7,v8,v9⟩:=Sm.u9 v;have vd:=Sm.rx v;have vb:=Sm.jo v;simp only[Sm.decls,Sm.body]at vd vb;rw[Sm.hs,Sm.w];by_cases h7:k=7
  .obtain⟨rfl,rfl,rfl⟩:=v7 h7;have h6:¬k=6:=by omega
   rw[ai h7,ai h7,Sm.eu,Sm.lP b _ _ _ vb,De.lP d _ _ _ _ vd,DC,Ex.hsl,dy h6];simp[Ex.bQ,El.bQ,jg]
  .rw[aj h7,aj h7];by_cases h8:k=8
   .obtain⟨rfl,rfl,rfl,rfl⟩:=v8 h8;have h6:¬k=6:=by omega
    rw[ai h8,ai h8,Sm.eu,Sm.lP b _ _ _ vb,DC,Ex.hsl,dy h6];simp[Ex.bQ,El.bQ,De.bQ]
   .rw[aj h8,aj h8,Sm.eu,qji,Sm.MI b _ _ _ vb,El.lP hg,Ex.lP hg,Ex.lP hg];by_cases h6:k=6
    .rw[ai h6,jC h6,zu hg];simp[De.bQ,jg]
    .rw[aj h6,dy h6];simp[De.bQ,jg]
theorem De.sC:∀(s:De) (own sc:ag) (n:Nat) (h:(db lk).H),(Pa.de s).valid nm=true->fP (s.hs (db lk) own sc n h)=(fP h||(s.w g own sc n).eu lk)
 |.mk k o t ns e fo b,own,sc,n,h,v=>by
  obtain⟨v4,v5⟩:=De.vi v;have vb:=De.jo v;simp only[De.body]at vb;rw[De.hs,De.w];by_cases h4:k=4
  .obtain rfl:=v4 h4;rw[ai h4,ai h4,De.eu,Sm.MI b _ _ _ vb,DC,Ex.hsl];simp[Ex.bQ]
  .rw[aj h4,aj h4,De.eu,Ex.lP hg];simp[Sm.bQ]
theorem De.lP:∀(l:List De) (own sc:ag) (n:Nat) (h:(db lk).H),(∀x,x∈l->(Pa.de x).valid nm=true)->fP (De.hsl (db lk) own sc n h l)=(fP h||De.bQ lk (De.wl g own sc n l))
 |[],_,_,_,h,_=>by rw[De.hsl,De.wl,De.bQ,i5]
 |x::l,own,sc,n,h,v=>by
  rw[De.hsl,De.lP l own sc _ _ fun y hy=>v y (by simp[hy]),De.sC x own sc n h (v x sM),De.wl,De.bQ,jg]
theorem Sm.lP:∀(l:List Sm) (sc:ag) (n:Nat) (h:(db lk).H),(∀x,x∈l->(Pa.st x).valid nm=true)->fP (Sm.hsl (db lk) sc n h l)=(fP h||Sm.bQ lk (Sm.wl g sc n l))
 |[],_,_,h,_=>by rw[Sm.hsl,Sm.wl,Sm.bQ,i5]
 |x::l,sc,n,h,v=>by
  rw[Sm.hsl,Sm.lP l sc _ _ fun y hy=>v y (by simp[hy]),Sm.sC x sc n h (v x sM),Sm.wl,Sm.bQ,jg]
theorem Sm.MI:∀(l:List Sm) (sc:ag) (n:Nat) (h:(db lk).H),(∀x,x∈l->(Pa.st x).valid nm=true)->fP (Sm.hs1 (db lk) sc n h l)=(fP h||Sm.bQ lk (Sm.w1 g sc n l))
 |[],_,_,h,_=>by rw[Sm.hs1,Sm.w1,Sm.bQ,i5]
 |x::l,sc,n,h,v=>by
  rw[Sm.hs1,Sm.MI l sc _ _ fun y hy=>v y (by simp[hy]),Sm.sC x _ _ _ (v x sM),DC,Sm.w1,Sm.bQ,jg]
end
omit hg in
theorem Ex.qmG{sc:ag}:∀(l:List Ex),(∀x,x∈l->x.w g sc=x)->Ex.wl g sc l=l
 |[],_=>rfl
 |x::l,h=>by rw[Ex.wl,h x sM,Ex.qmG l fun y hy=>h y (by simp[hy])]
omit hg in
omit hg in
theorem DD:∀(k:Nat) (x:Bz),(db lk).f k x=x:=fun _ _=>rfl
omit hg in
theorem qjh(sc:ag)(k:Int)(t:Bz):(db lk).oN sc k t=if k=6 then jG lk sc t else t:=rfl
end
end Go.Proofs.YtbifpocccfkhhaaGreatDoor
end
