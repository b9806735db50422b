/- A part. -/
import Derived.Test.YtbifpocccfkhhaaGreatDoorKj
import Derived.Test.YtbifpocccfkhhaaGreatDoorKg
set_option linter.all false
noncomputable section
namespace Go.Proofs.YtbifpocccfkhhaaGreatDoor
open Go Go.Proofs.Tryz
def qnm(l:List Fo)(S:St)(r:V)(U:St):Prop:=(l=[]∧(∃b,r=.sl b [])∧U=S)∨(l≠[]∧r=.arr S.length 0 l.length l.length∧U=S++[.arr (l.map Fo.v) 4 l.length])
theorem qk1(l:List Fo):fits 4 (l.map Fo.v)=true:=by
 simp[fits]
theorem qlU(l:List Fo)(hl:l.length≤4000)(S:St):qt prog 273 [.sl false (l.map Fo.v)] S (fun r U=>qnm l S r U):=by
 refine qt.ib func273 ok273 ?_
 cases l with
 | nil=>
  simp[c273,evX];refine .inl ⟨by simp[ndK,ndX,Opd.ev,Env.get],?_⟩;intro v hv;simp[ndK,ndX,Opd.ev,Env.get] at hv;rcases hv with rfl|rfl
  ·simp;exact qf rfl (.inl ⟨rfl,⟨_,rfl⟩,rfl⟩)
  ·simp[fits,Jz,elems];exact qf rfl (.inl ⟨rfl,⟨_,rfl⟩,rfl⟩)
 | cons x l=>
  have hf:fits 4 (x.v::l.map Fo.v)=true:=qk1 (x::l);have hf0:fits 4 []=true:=rfl
  have ha:Jz S 4 40 (.sl true []) (.sl false (x.v::l.map Fo.v))=some (.arr S.length 0 (l.length+1) (l.length+1),S++[.arr (x.v::l.map Fo.v) 4 (l.length+1)]):=by
   simp only[qrk] at hl;have hr':(([]:List V).length+(x.v::l.map Fo.v).length) * 40≤2 ^ 47:=by simp;omega
   have hc:true=true∧fits 4 (x.v::l.map Fo.v)=true∧(([]:List V).all fun v=>v.size==4)=true∧(([]:List V).length+(x.v::l.map Fo.v).length) * 40≤2 ^ 47:=⟨rfl,hf,rfl,hr'⟩;unfold Jz;rw[ZX];show (if (x.v::l.map Fo.v).isEmpty=true then _ else _)=_;rw[if_neg (by simp),if_pos hc];simp
  simp[c273,evX,hf0,ha];exact qf rfl (.inr ⟨by simp,rfl,rfl⟩)
mutual
theorem V.frz_id{l:Nat}{xs:List V}{wr:Nat}:∀v:V,v.under 0=true→v.frz l xs wr=v
 | .arr l' i o st,h=>by simp only[V.under,decide_eq_true_eq] at h;omega
 | .sl x ys,h=>by simp only[V.under] at h;simp only[V.frz,V.frzL_id ys h]
 | .iface t v,h=>by simp only[V.under] at h;simp only[V.frz,V.frz_id v h]
 | .agg cs,h=>by simp only[V.under] at h;simp only[V.frz,V.frzL_id cs h]
 | .tup cs,h=>by simp only[V.under] at h;simp only[V.frz,V.frzL_id cs h]
 | .top,_=>rfl
 | .bool _,_=>rfl
 | .int _ _,_=>rfl
 | .str _,_=>rfl
 | .nilp,_=>rfl
 | .glob _ _,_=>rfl
 | .nilmap,_=>rfl
 | .nilfn,_=>rfl
 | .niliface,_=>rfl
 | .ptr _ _ _ _,_=>rfl
 | .map _,_=>rfl
 | .yld _,_=>rfl
 | .iptr _ _,_=>rfl
 | .fn _ _ _,_=>rfl
theorem V.frzL_id{l:Nat}{xs:List V}{wr:Nat}:∀vs:List V,V.underL 0 vs=true→V.frzL l xs wr vs=vs
 | [],_=>rfl
 | v::vs,h=>by
  simp only[V.underL,qq5] at h;simp only[V.frzL,V.frz_id v h.1,V.frzL_id vs h.2]
end
def Fv(n0 w:Nat)(F D:Np)(xs:List V)(rf:V)(S:St):Prop:=(xs=[]∧∃b,rf=.sl b [])∨∃l wr,n0≤l∧Off w F D l∧rf=.arr l 0 xs.length xs.length∧S[l]?=some (.arr xs 4 wr)∧wr≤xs.length
theorem Fv.step{n0 w:Nat}{F D F' D':Np}{xs:List V}{v:V}{S U:St}(h:Fv n0 w F D xs v S)(s:Stp w F D S F' D' U):Fv n0 w F' D' xs v U:=by
 rcases h with h|⟨l,wr,h1,h2,h3,h4,h5⟩
 ·exact .inl h
 ·exact .inr ⟨l,wr,h1,h2.next (qqT.1 h4).1 s,h3,s.at h2 h4,h5⟩
def lenS:V→Option V
 | .sl _ xs=>some (.int .i64 xs.length)
 | .arr _ _ n _=>some (.int .i64 n)
 | _=>none
theorem Fv.len{n0 w:Nat}{F D:Np}{xs:List V}{v:V}{S:St}(h:Fv n0 w F D xs v S):lenS v=some (.int .i64 xs.length):=by
 rcases h with ⟨rfl,b,rfl⟩|⟨l,wr,h1,h2,rfl,h4,h5⟩ <;> rfl
theorem Fv.flat{n0 w:Nat}{F D:Np}{xs:List V}{v:V}{S:St}(h:Fv n0 w F D xs v S):v.cells=[v]∧v.flat=true∧v.size=1:=by
 rcases h with ⟨rfl,b,rfl⟩|⟨l,wr,h1,h2,rfl,h4,h5⟩ <;> exact ⟨rfl,rfl,rfl⟩
theorem Fv.fin{c:Cb}(ok:c.Ok){w n:Nat}{hh:c.H}{F0 D0 F D:Np}{xs:List V}{rf:V}{S0 U:St}{n0:Nat}(h:Fv n0 w F D xs rf U)(hn0:S0.length≤n0)(k:Wk c w n hh F D U)(s:Stp w F0 D0 S0 F D U){a b:List V}(ha:V.underL 0 a=true)(hb:V.underL 0 b=true)(ha':V.weakL a=a)(hb':V.weakL b=b):
  ∃U',zp S0.length (.agg (a++rf::b)) U (.agg (a++.sl false (V.weakL xs)::b)) U'∧Wk c w n hh F D U'∧Stp w F0 D0 S0 F D U':=by
 have wl:∀x y:List V,V.weakL (x++y)=V.weakL x++V.weakL y:=fun x y=>by rw[zc,zc,zc,qrg]
 rcases h with ⟨rfl,b',rfl⟩|⟨l,wr,h1,h2,rfl,h3,h4⟩
 ·have:=zp.weak (n:=S0.length) (r:=.agg (a++.sl b' []::b)) (S:=U);simp only[V.weak,wl,V.weakL,ha',hb'] at this;exact ⟨U,this,k,s⟩
 ·have g1:=zp.freezeV (n:=S0.length) (r:=.agg (a++.arr l 0 xs.length xs.length::b)) h3
  have hz:V.frz l xs wr (.agg (a++.arr l 0 xs.length xs.length::b))=.agg (a++.sl false xs::b):=by
   simp only[V.frz,QA,qrg,qq8];rw[←QA,←QA,V.frzL_id _ ha,V.frzL_id _ hb,if_pos (by simp[h4])];simp
  rw[hz] at g1;have g2:=zp.weak (n:=S0.length) (r:=.agg (a++.sl false xs::b)) (S:=U.set l .dead);simp only[V.weak,wl,V.weakL,ha',hb'] at g2;exact ⟨_,g1.trans g2,k.set ok _ h2.1 h2.2.1 h2.2.2,s.set _ (by omega)⟩
def rew(p:Pw)(sc:Scs)(l:List Fo):List Fo:=l.map (Fo.wr p sc)
def De.pr(p:Pw)(sc:Scs)(n:Nat)(d:De):De:=.mk d.kind d.own d.type d.names d.exps (rew p (qd (d.formals.map Fo.name) n::sc) d.formals) (Sm.wr1 p (qd (d.formals.map Fo.name) n::sc) (n+(qd (d.formals.map Fo.name) n).length) d.body)
def De.prH(p:Pw)(sc:Scs)(n:Nat)(h:p.H)(d:De):p.H:=Sm.hs1 p (qd (d.formals.map Fo.name) n::sc) (n+(qd (d.formals.map Fo.name) n).length) (enters p h (qd (d.formals.map Fo.name) n)) d.body
def De.prN(d:De):Nat:=(qd (d.formals.map Fo.name) 0).length+Sm.nb1 d.body
theorem qap(e:Env)(S:St)(x:Opd):evK e S (.len false x)=(x.ev e).bind fun v=>(lenS v).map fun r=>(r,S):=by
 simp only[evK]
 cases x.ev e with
 | none=>rfl
 | some v=>cases v <;> rfl
def qct(p:Pw)(sc:Scs)(l:List Fo)(i:Nat):List V:=(rew p sc (l.take i)++l.drop i).map Fo.v
theorem qag(p:Pw)(sc:Scs)(l:List Fo)(i:Nat)(hi:i≤l.length):(qct p sc l i).length=l.length:=by simp[qct,rew];omega
theorem qie(p:Pw)(sc:Scs)(l:List Fo)(i:Nat)(hi:i<l.length):(qct p sc l i)[i]?=some l[i].v:=by
 unfold qct rew;rw[qq7,qqU (by simp;omega)];simp[show i - min i l.length=0 by omega,hi]
theorem qhS(p:Pw)(sc:Scs)(l:List Fo)(i:Nat)(hi:i<l.length):(qct p sc l i).set i (Fo.wr p sc l[i]).v=qct p sc l (i+1):=by
 unfold qct rew;apply qrM;intro j;rw[List.getElem?_set];by_cases hj:i=j
 ·subst hj;rw[if_pos rfl,if_pos (by simp;omega),qq7,qqW (by simp;omega)];simp[qrr,hi]
 ·rw[if_neg hj,qq7,qq7];congr 1;by_cases hlt:j<i
  ·rw[qqW (by simp;omega),qqW (by simp;omega),qq7,qq7,qrr hlt,qrr (by omega)]
  ·rw[qqU (by simp;omega),qqU (by simp;omega)];simp only[qq2,qsf,qrB];congr 1;omega
structure Pf(c:Cb)(w n:Nat)(h:c.H)(F D F1 D1:Np)(S:St)(d:De)(U3:St)(xs:List V)(rf:V)(X:St):Prop where
 fv:Fv (S.length+2) w F1 D1 xs rf X
 wk:Wk c w n h F1 D1 X
 st:Stp w F D S F1 D1 X
 sg:Kp (fun l=>l=w∨F1 l∨(l=S.length∨l=S.length+1)) U3 X
 b0:X[S.length]?=some (.arr [d.v] 7 1)
 b1:X[S.length+1]?=some (.arr [.agg [.int .i64 0,.bool false,.int .i64 0,.sl true [],.sl true [],.sl true [],.sl true []]] 7 1)
theorem qen(c:Cb)(ok:c.Ok)(w:Nat)(d:De)(H:∀s,s∈d.body→qmm c w s)(hb:d.body.length≤4000)(hbs:∀s,s∈d.body→s.ok)(hf:d.formals.length≤4000)(n:Nat)(h:c.H)(F D:Np)(S:St)(v:V)(ts:List Sct)(hk:Wk c w n h F D S)(hsc:ScR c.toPw (fun l=>l=w∨F l) S v ts)
  (hn:n+d.prN≤c.lim):
  qt prog 256 [.ptr w 0 0 1,d.v,v] S (fun r U=>Wd c w (n+d.prN) (d.prH c.toPw (Scx ts) n h) F D S (d.pr c.toPw (Scx ts) n).v r U):=by
 refine qt.ib func256 ok256 ?_;unfold De.prN at hn;have hbl:=qq (d.formals.map Fo.name) n 0;obtain ⟨S1,hS1⟩:∃S1:St,S1=S++[.arr [d.v] 7 1,.arr [.agg [.int .i64 0,.bool false,.int .i64 0,.sl true [],.sl true [],.sl true [],.sl true []]] 7 1]:=⟨_,rfl⟩;have b0:S1[S.length]?=some (.arr [d.v] 7 1):=by rw[hS1,qqU (by omega)];simp
 have b1:S1[S.length+1]?=some (.arr [.agg [.int .i64 0,.bool false,.int .i64 0,.sl true [],.sl true [],.sl true [],.sl true []]] 7 1):=by rw[hS1,qqU (by omega)];simp
 have l1:S1.length=S.length+2:=by rw[hS1];simp
 have k1:Wk c w n h F D S1:=by rw[hS1];exact hk.push ok _
 have s1:Stp w F D S F D S1:=by rw[hS1];exact (Stp.refl _ _ _ _).push _
 have o0:Off w F D S.length:=hk.out ok (qqY _);have o1:Off w F D (S.length+1):=hk.out ok (by omega);simp[c256,qG,ldS,qh];rw[←hS1];refine qi (qkx d S1) ?_;rintro r U2 ⟨rfl,hU2⟩;have k2:Wk c w n h F D U2:=by rw[hU2];exact k1.push ok _
 have s2:Stp w F D S F D U2:=by rw[hU2];exact s1.push _
 have c2:U2[S1.length]?=some (.arr [d.v] 7 1):=by rw[hU2];simp
 have b02:U2[S.length]?=some (.arr [d.v] 7 1):=by rw[hU2];exact gp b0
 have b12:U2[S.length+1]?=some (.arr [.agg [.int .i64 0,.bool false,.int .i64 0,.sl true [],.sl true [],.sl true [],.sl true []]] 7 1):=by rw[hU2];exact gp b1
 have l2:U2.length=S.length+3:=by rw[hU2];simp[l1]
 simp
 refine qi (kL c ok w n h F D v ts (d.formals.map Fo.name) 277 [.ptr S1.length 0 0 1] S1.length _ (qgo d (by unfold B50;omega) S1.length) (by simp) U2 k2 (fun l=>l=S.length∨l=S.length+1) (by rintro l (rfl|rfl) <;> omega) ((hsc.more (X':=fun l=>l=w∨F l∨(l=S.length∨l=S.length+1)) (fun l hh=>by
  rcases hh with hh|hh|hh|hh
  ·exact .inl (.inl hh)
  ·exact .inl (.inr hh)
  ·exact .inr (by omega)
  ·exact .inr (by omega))).mono (s2.k.mono fun l _ hh=>hh.imp id .inl) fun l hh=>.inl hh) c2 (hk.out ok (by omega)) (by omega)) ?_
 rintro r U3 ⟨t,F1,D1,hts,k3,s3,hsc3⟩;have htl:=Sco.len_of hts;have hscx:Scx (t::ts)=qd (d.formals.map Fo.name) n::Scx ts:=by simp only[Scx,qq8,hts]
 have b03:=s3.at o0 b02;have b13:=s3.at o1 b12;have p0:=o0.next (by omega) s3;have p1:=o1.next (by omega) s3;have s3':=s2.trans s3;have l3:=s3.k.len;simp[ldS,b03];refine qi (qlU d.formals hf U3) ?_;rintro rf U4 hcl
 have hpf:Pf c w (n+t.length) (enters c.toPw h (qd (d.formals.map Fo.name) n)) F D F1 D1 S d U3 (qct c.toPw (qd (d.formals.map Fo.name) n::Scx ts) d.formals 0) rf U4∧(rf=.arr U3.length 0 d.formals.length d.formals.length∨d.formals=[]):=by
  have h0:qct c.toPw (qd (d.formals.map Fo.name) n::Scx ts) d.formals 0=d.formals.map Fo.v:=by simp[qct,rew]
  rw[h0];rcases hcl with ⟨h1,⟨b,rfl⟩,rfl⟩|⟨h1,rfl,rfl⟩
  ·exact ⟨⟨.inl ⟨by rw[h1];rfl,b,rfl⟩,k3,s3',Kp.refl _ _,b03,b13⟩,.inr h1⟩
  ·exact ⟨⟨.inr ⟨U3.length,d.formals.length,by omega,k3.out ok (qqY _),by simp,by simp,by simp⟩,k3.push ok _,s3'.push _,(Kp.refl _ _).push _,gp b03,gp b13⟩,.inl rfl⟩
 obtain ⟨hpf,hrf⟩:=hpf;have hlen:lenS rf=some (.int .i64 d.formals.length):=by have:=hpf.fv.len;rwa [qag _ _ _ _ (by omega)] at this
 simp[↓qap,hlen];refine qQ (fun e X=>Pf c w (n+t.length) (enters c.toPw h (qd (d.formals.map Fo.name) n)) F D F1 D1 S d U3 ((rew c.toPw (qd (d.formals.map Fo.name) n::Scx ts) d.formals).map Fo.v) rf X∧e.get 8=some rf∧e.get 7=some r∧e.get 0=some (.ptr w 0 0 1)∧e.get 4=some (.ptr S.length 0 0 1)∧e.get 6=some (.ptr (S.length+1) 0 0 1)) ?_ ?_
 ·refine qw (fun j e X=>∃i:Nat,j=d.formals.length - i∧i≤d.formals.length∧Pf c w (n+t.length) (enters c.toPw h (qd (d.formals.map Fo.name) n)) F D F1 D1 S d U3 (qct c.toPw (qd (d.formals.map Fo.name) n::Scx ts) d.formals i) rf X∧
    e=[(20,.int .i64 i),(19,.int .i64 d.formals.length),(8,rf),(7,r),(0,.ptr w 0 0 1),(4,.ptr S.length 0 0 1),(6,.ptr (S.length+1) 0 0 1)]) d.formals.length _ ?_ ⟨0,by simp,by omega,hpf,rfl⟩ ?_
  ·exact Env.so (by simp)
  rintro j e X ⟨i,rfl,hi,hp,rfl⟩;by_cases hlt:i<d.formals.length
  ·have hpsc:=hsc3.mono hp.sg fun l hh=>.inl hh
   have hfind:=Ys hpsc d.formals[i].name;have hat:=ZV (t::ts) d.formals[i].name;rw[hscx] at hat
   obtain ⟨q,hq⟩:∃q,fnd (t::ts) d.formals[i].name=some q:=by
    have:=zJ (d.formals.map Fo.name) n (Scx ts) d.formals[i].name (qrG (qra hlt));rw[hat] at this
    cases hf:fnd (t::ts) d.formals[i].name with
    | none=>rw[hf] at this;cases this
    | some q=>exact ⟨q,rfl⟩
   have hv:ZT (t::ts) d.formals[i].name=.ptr q.2 0 0 1:=by simp[ZT,hq]
   have hr:ZF c.toPw (qd (d.formals.map Fo.name) n::Scx ts) d.formals[i].name=c.f q.1 d.formals[i].name:=by unfold ZF;rw[hat,hq];rfl
   rw[hv] at hfind;have hg1:=hpsc.fnd_get hq;unfold plc at hg1;have hne:d.formals≠[]:=by intro hh;rw[hh] at hlt;simp at hlt
   have hrf':=hrf.resolve_right hne;subst hrf';have hl:=qag c.toPw (qd (d.formals.map Fo.name) n::Scx ts) d.formals i (by omega);have hget:=qie c.toPw (qd (d.formals.map Fo.name) n::Scx ts) d.formals i hlt;have hset:=qhS c.toPw (qd (d.formals.map Fo.name) n::Scx ts) d.formals i hlt;have hl':=qag c.toPw (qd (d.formals.map Fo.name) n::Scx ts) d.formals (i+1) (by omega);rcases hp.fv with ⟨h1,_⟩|⟨fl,wr,z1,z2,z3,z4,z5⟩
   ·rw[h1] at hl;simp at hl;omega
   rw[hl] at z3 z5;cases z3
   have hupd:V.upd d.formals[i].v 0 1 (.str (c.f q.1 d.formals[i].name))=some (Fo.wr c.toPw (qd (d.formals.map Fo.name) n::Scx ts) d.formals[i]).v:=by
    rw[qoY,qh];unfold Fo.wr;rw[hr];rfl
   have hia:iaS X 4 (.arr U3.length 0 d.formals.length d.formals.length) (i:Int)=some (.ptr U3.length i 0 d.formals.length):=by
    simp[iaS,z4,z5,hlt]
   have hld:ldS X (.ptr U3.length i 0 d.formals.length) none=some (.str d.formals[i].name):=by
    simp[ldS,z4,z5,hlt,hget]
   have hst:stS X (.ptr U3.length i 0 d.formals.length) 1 (.str (c.f q.1 d.formals[i].name))=some (X.set U3.length (.arr (qct c.toPw (qd (d.formals.map Fo.name) n::Scx ts) d.formals (i+1)) 4 d.formals.length)):=by
    simp[stS,z4,hl,hget,hupd,hset]
   simp[hlt,hia,hld];refine qg hfind ?_;have hld2:ldS X (.ptr q.2 0 2 1) none=some (.str (c.f q.1 d.formals[i].name)):=by simp[ldS,hg1]
   simp[zY,hia,hld2,hst,zk (n:=(i:Int)+1)];have hltX:U3.length<X.length:=(qqT.1 z4).1;refine ⟨_,?_,_,?_,i+1,rfl,by omega,⟨.inr ⟨U3.length,d.formals.length,z1,z2,by rw[hl'],qqV hltX,by rw[hl'];exact qqY _⟩,hp.wk.set ok _ z2.1 z2.2.1 z2.2.2,hp.st.set _ (by omega),hp.sg.set _ (.inr (qqY _)),?_,?_⟩,rfl⟩
   ·omega
   ·exact Env.so (by simp)
   ·rw[qqX (by omega)];exact hp.b0
   ·rw[qqX (by omega)];exact hp.b1
  ·have:i=d.formals.length:=by omega
   subst this;have he:qct c.toPw (qd (d.formals.map Fo.name) n::Scx ts) d.formals d.formals.length=(rew c.toPw (qd (d.formals.map Fo.name) n::Scx ts) d.formals).map Fo.v:=by simp[qct]
   rw[he] at hp;simp;exact hp
 rintro e X ⟨hp,g8,g7,g0,g4,g6⟩;obtain ⟨f1,f2,f3⟩:=hp.fv.flat;have fl':=hp.fv.flat;obtain ⟨X1,hX1⟩:∃X1:St,X1=X.set S.length (.arr [.agg [.int .i64 d.kind,.bool d.own,.int .i64 d.type,.sl false (d.names.map .str),.sl false (d.exps.map Ex.v),rf,.sl false (d.body.map Sm.v)]] 7 1):=⟨_,rfl⟩;have lX:S.length<X.length:=glt hp.b0;have q0:X1[S.length]?=some (.arr [.agg [.int .i64 d.kind,.bool d.own,.int .i64 d.type,.sl false (d.names.map .str),.sl false (d.exps.map Ex.v),rf,.sl false (d.body.map Sm.v)]] 7 1):=by rw[hX1,qqV lX]
 have q1:X1[S.length+1]?=some (.arr [.agg [.int .i64 0,.bool false,.int .i64 0,.sl true [],.sl true [],.sl true [],.sl true []]] 7 1):=by rw[hX1,qqX (by omega)];exact hp.b1
 have kX:Wk c w (n+t.length) (enters c.toPw h (qd (d.formals.map Fo.name) n)) F1 D1 X1:=by rw[hX1];exact hp.wk.set ok _ p0.1 p0.2.1 p0.2.2
 have sX:Stp w F D S F1 D1 X1:=by rw[hX1];exact hp.st.set _ (qqY _)
 have scX:ScR c.toPw (fun l=>l=w∨F1 l) X1 r (t::ts):=by
  rw[hX1];exact (hsc3.mono (hp.sg.set _ (.inl (.inr (.inr (.inl rfl))))) fun l hh=>.inl hh).sub fun l hh=>hh.imp id .inl
 have fvX:Fv (S.length+2) w F1 D1 ((rew c.toPw (qd (d.formals.map Fo.name) n::Scx ts) d.formals).map Fo.v) rf X1:=by
  rcases hp.fv with hh|⟨fl,wr,z1,z2,z3,z4,z5⟩
  ·exact .inl hh
  ·exact .inr ⟨fl,wr,z1,z2,z3,by rw[hX1,qqX (by omega)];exact z4,z5⟩
 simp[g8,g7,g0,g4,stS,hp.b0,qba,qh,f1,f2,f3];rw[←hX1];simp[ldS,q0,g8,g7,g0,g4,g6];have q2:=YE c ok w d.body false H hb hbs _ _ F1 D1 X1 r (t::ts) kX scX (by omega);rw[hscx] at q2;refine qi q2 ?_;rintro r2 U5 ⟨rfl,F2,D2,k5,s5⟩;have c0:=s5.at p0 q0;have c1:=s5.at p1 q1;obtain ⟨av,hav⟩:∃av:V,av=.agg [.int .i64 d.kind,.bool d.own,.int .i64 d.type,.sl false (d.names.map .str),.sl false (d.exps.map Ex.v),rf,.sl false ((Sm.wr1 c.toPw (qd (d.formals.map Fo.name) n::Scx ts) (n+t.length) d.body).map Sm.v)]:=⟨_,rfl⟩;have c0':(U5.set S.length (.arr [av] 7 1))[S.length]?=some (.arr [av] 7 1):=qqV (glt c0);have c1':(U5.set S.length (.arr [av] 7 1))[S.length+1]?=some (.arr [.agg [.int .i64 0,.bool false,.int .i64 0,.sl true [],.sl true [],.sl true [],.sl true []]] 7 1):=by rw[qqX (by omega)];exact c1
 have lt1:S.length+1<U5.length:=glt c1;have lX1:S.length+1<X1.length:=glt q1;have p0':=p0.next (by omega) s5;have p1':=p1.next (by omega) s5;have kf:=(k5.set ok (.arr [av] 7 1) p0'.1 p0'.2.1 p0'.2.2).set ok (.arr [av] 7 1) p1'.1 p1'.2.1 p1'.2.2;have sf:=((sX.trans s5).set (.arr [av] 7 1) (qqY S.length)).set (l:=S.length+1) (.arr [av] 7 1) (by omega)
 have ff:Fv (S.length+2) w F2 D2 ((rew c.toPw (qd (d.formals.map Fo.name) n::Scx ts) d.formals).map Fo.v) rf ((U5.set S.length (.arr [av] 7 1)).set (S.length+1) (.arr [av] 7 1)):=by
  rcases fvX.step s5 with hh|⟨fl,wr,z1,z2,z3,z4,z5⟩
  ·exact .inl hh
  ·exact .inr ⟨fl,wr,z1,z2,z3,by rw[qqX (by omega),qqX (by omega)];exact z4,z5⟩
 have hget:((U5.set S.length (.arr [av] 7 1)).set (S.length+1) (.arr [av] 7 1))[S.length+1]?=some (.arr [av] 7 1):=qqV (by simp;omega);simp[g4,stS,c0,qh,f1,f2,f3];rw[←hav];have hpart:V.part av 0 (some 7)=some av:=by rw[hav,yI];rfl
 have hsz:av.size=7:=by rw[hav];rfl
 have hcl:av.cells.all V.flat=true:=by rw[hav];simp[f2]
 have hcl':∀x,x∈av.cells→x.flat=true:=by simpa[qri] using hcl
 simp[stS,ldS,c0',c1',g4,g6,qh,hpart,hsz];rw[if_pos hcl'];obtain ⟨U6,g,k6,s6⟩:=ff.fin ok (by omega) kf sf (S0:=S) (F0:=F) (D0:=D) (a:=[.int .i64 d.kind,.bool d.own,.int .i64 d.type,.sl false (d.names.map .str),.sl false (d.exps.map Ex.v)]) (b:=[.sl false ((Sm.wr1 c.toPw (qd (d.formals.map Fo.name) n::Scx ts) (n+t.length) d.body).map Sm.v)])
  (by simp[V.underL,V.under]) (by simp[V.underL,V.under]) (by simp only[V.weakL,V.weak,qeM,wEx]) (by simp only[V.weakL,V.weak,wSm])
 simp only[qrp,qr9,wFo] at g;rw[←hav] at g;refine ⟨[av],by simp[rvs,g6,ldS,hget,hpart],_,U6,g,?_,F2,D2,?_,s6⟩
 ·unfold De.pr;rw[De.v_eq,←htl];rfl
 ·have:n+t.length+Sm.nb1 d.body=n+d.prN:=by unfold De.prN;omega
  rw[this] at k6;unfold De.prH;rw[←htl];exact k6
def De.d1(p:Pw)(own sc:Scs)(d:De):De:=.mk d.kind d.own d.type (JA p own d.names) (Ex.wrl p (if d.kind=2 then sc else own) false d.exps) d.formals d.body
theorem De.wr_eq(p:Pw)(own sc:Scs)(n:Nat)(d:De):d.wr p own sc n=if d.kind=4 then (d.d1 p own sc).pr p own n else d.d1 p own sc:=by
 cases d with
 | mk k o t nm e fo b=>
  rw[De.wr];show _=if k=4 then (De.d1 p own sc (.mk k o t nm e fo b)).pr p own n else De.d1 p own sc (.mk k o t nm e fo b)
  by_cases h:k=4
  ·subst h;rfl
  ·rw[if_neg h,if_neg h];rfl
theorem De.hs_eq(p:Pw)(own sc:Scs)(n:Nat)(h:p.H)(d:De):d.hs p own sc n h=if d.kind=4 then (d.d1 p own sc).prH p own n (Ex.hsl p (if d.kind=2 then sc else own) false h d.exps) else Ex.hsl p (if d.kind=2 then sc else own) false h d.exps:=by
 cases d with
 | mk k o t nm e fo b=>
  rw[De.hs];show _=if k=4 then (De.d1 p own sc (.mk k o t nm e fo b)).prH p own n (Ex.hsl p (if k=2 then sc else own) false h e) else Ex.hsl p (if k=2 then sc else own) false h e
  by_cases h:k=4
  ·subst h;rfl
  ·rw[if_neg h,if_neg h]
theorem De.nb_eq(d:De):d.nb=if d.kind=4 then d.prN else 0:=by
 cases d with
 | mk k o t nm e fo b=>rw[De.nb];rfl
theorem De.size_parts(d:De):(Pa.de d).size=1+d.names.length+d.formals.length+qK (d.exps.map Pa.ex)+qK (d.body.map Pa.st):=by
 rw[Pa.size_eq];simp only[Pa.own,Pa.kids,zm];omega
theorem qdN(p:Pw)(own sc:Scs):∀(m:List De) (n:Nat),(De.wrl p own sc n m).length=m.length
 | [],_=>rfl
 | x::m,n=>by simp only[De.wrl,qrk,qdN p own sc m]
theorem Gw.lt{sz n0 w:Nat}{F D:Np}{xs:List V}{v:V}{S:St}(h:Gw sz n0 w F D xs v S):∀l a b c,v=.arr l a b c→l<S.length:=by
 intro l a b c hv;rcases h with ⟨_,rfl⟩|⟨l',wr,_,_,rfl,h4,_⟩
 ·cases hv
 ·cases hv;exact (qqT.1 h4).1
theorem Gw.set{sz n0 w:Nat}{F D:Np}{xs:List V}{v:V}{S:St}(h:Gw sz n0 w F D xs v S){b:Nat}(o:Ob)(hne:∀l x y z,v=.arr l x y z→l<b):Gw sz n0 w F D xs v (S.set b o):=by
 rcases h with h|⟨l,wr,h1,h2,h3,h4,h5⟩
 ·exact .inl h
 ·exact .inr ⟨l,wr,h1,h2,h3,by rw[qqX (Nat.ne_of_gt (hne _ _ _ _ h3))];exact h4,h5⟩
theorem qdV(c:Cb)(ok:c.Ok)(w:Nat)(l:List De)(hl:qK (l.map Pa.de)≤4000)(H:∀d,d∈l→∀s,s∈d.body→qmm c w s)(hok:∀d,d∈l→∀s,s∈d.body→s.ok)(n:Nat)(h:c.H)(F D:Np)(S:St)(v1 v2:V)(tso ts:List Sct)(hk:Wk c w n h F D S)
  (hsc1:ScR c.toPw (fun l=>l=w∨F l) S v1 tso) (hsc2:ScR c.toPw (fun l=>l=w∨F l) S v2 ts) (hin:∀d,d∈l→qeJ (Scx tso) d.names) (hn:n+De.nbl l≤c.lim):
  qt prog 220 [.ptr w 0 0 1,.sl false (l.map De.v),v1,v2] S (fun r U=>Wd c w (n+De.nbl l) (De.hsl c.toPw (Scx tso) (Scx ts) n h l) F D S (.sl false ((De.wrl c.toPw (Scx tso) (Scx ts) n l).map De.v)) r U):=by
 have hlen:l.length≤4000:=by have:=zQ (l.map Pa.de);rw[qq2] at this;omega
 refine qt.ib func220 ok220 ?_;simp[c220];refine qQ (Ww c 7 w (n+De.nbl l) (De.hsl c.toPw (Scx tso) (Scx ts) n h l) F D S 9 ((De.wrl c.toPw (Scx tso) (Scx ts) n l).map De.v)) ?_ ?_
 ·refine qw (Lw c 7 w F D S l.length (fun i=>n+De.nbl (l.take i)) (fun i=>De.hsl c.toPw (Scx tso) (Scx ts) n h (l.take i)) (fun i=>(De.wrl c.toPw (Scx tso) (Scx ts) n (l.take i)).map De.v)
   (fun i gv=>[(14,.int .i64 i),(13,.int .i64 l.length),(12,.sl false (l.map De.v)),(9,gv),(0,.ptr w 0 0 1),(2,v1),(3,v2)])) l.length _ ?_ ⟨0,_,F,D,by simp,by omega,Gw.nil _ _ _ _ _ _,hk,Stp.refl _ _ _ _,rfl⟩ ?_
  ·exact Env.so (by simp)
  rintro j e U ⟨i,gv,F1,D1,rfl,hi,hg,hk1,hs1,rfl⟩;dsimp only at hg hk1;by_cases hlt:i<l.length
  case neg=>
   have:i=l.length:=by omega
   subst this;simp only[qrP] at hg hk1;simp;exact ⟨gv,F1,D1,rfl,hg,hk1,hs1⟩
  have hmem:l[i]∈l:=qra hlt;have ht:l.take (i+1)=l.take i++[l[i]]:=by rw[qrj,qqZ hlt];rfl
  have hnb:De.nbl (l.take (i+1))=De.nbl (l.take i)+l[i].nb:=by rw[ht,De.nbl_append];simp[De.nbl]
  have hnl:De.nbl (l.take (i+1))≤De.nbl l:=by
   have:De.nbl l=De.nbl (l.take (i+1))+De.nbl (l.drop (i+1)):=by rw[←De.nbl_append,qsd]
   omega
  have hszd:(Pa.de l[i]).size≤4000:=by
   have:=zK (l:=l.map Pa.de) (i:=i) (q:=Pa.de l[i]) (by simp[hlt]);omega
  rw[De.size_parts] at hszd;have hbl:l[i].body.length≤4000:=by have:=zQ (l[i].body.map Pa.st);rw[qq2] at this;omega
  obtain ⟨d,hd⟩:∃d:De,d=l[i]:=⟨_,rfl⟩;have hv0:Ob.arr [l[i].v] 7 1=.arr [.agg [.int .i64 d.kind,.bool d.own,.int .i64 d.type,.sl false (d.names.map .str),.sl false (d.exps.map Ex.v),.sl false (d.formals.map Fo.v),.sl false (d.body.map Sm.v)]] 7 1:=by rw[←hd,De.v_eq]
  obtain ⟨U1,hU1⟩:∃U1:St,U1=U++[.arr [l[i].v] 7 1]:=⟨_,rfl⟩;have b1:U1[U.length]?=some (.arr [l[i].v] 7 1):=by rw[hU1];simp
  have k1:=hk1.push ok [.arr [l[i].v] 7 1];rw[←hU1] at k1;have s1:Stp w F D S F1 D1 U1:=by rw[hU1];exact hs1.push _
  have g1:Gw 7 S.length w F1 D1 ((De.wrl c.toPw (Scx tso) (Scx ts) n (l.take i)).map De.v) gv U1:=by rw[hU1];exact hg.push _
  have o1:Off w F1 D1 U.length:=hk1.out ok (qqY _);have lU1:U1.length=U.length+1:=by rw[hU1];simp
  have lSU:=hs1.k.len;simp[hlt,qm3,qG,stS,qh,ldS];rw[←hU1];refine qi (qfa c ok w l[i].names (by omega) _ _ F1 D1 U1 v1 tso (hin _ hmem) k1 (hsc1.step s1)) ?_;rintro r U2 ⟨rfl,F2,D2,k2,s2⟩;have b2:=s2.at o1 b1;have o2:=o1.next (by omega) s2;have g2:=g1.step s2;have s12:=s1.trans s2;have l2:=s2.k.len;obtain ⟨d1,hd1⟩:∃d1:De,d1=.mk d.kind d.own d.type (JA c.toPw (Scx tso) d.names) d.exps d.formals d.body:=⟨_,rfl⟩;have hd1v:d1.v=.agg [.int .i64 d.kind,.bool d.own,.int .i64 d.type,.sl false ((JA c.toPw (Scx tso) d.names).map .str),.sl false (d.exps.map Ex.v),.sl false (d.formals.map Fo.v),.sl false (d.body.map Sm.v)]:=by rw[hd1,De.v_eq];rfl
  obtain ⟨U3,hU3⟩:∃U3:St,U3=U2.set U.length (.arr [d1.v] 7 1):=⟨_,rfl⟩;have b3:U3[U.length]?=some (.arr [d1.v] 7 1):=by rw[hU3,qqV (glt b2)]
  have k3:=k2.set ok (.arr [d1.v] 7 1) o2.1 o2.2.1 o2.2.2;rw[←hU3] at k3;have s3:Stp w F D S F2 D2 U3:=by rw[hU3];exact s12.set _ lSU
  have g3:Gw 7 S.length w F2 D2 ((De.wrl c.toPw (Scx tso) (Scx ts) n (l.take i)).map De.v) gv U3:=by rw[hU3];exact g2.set _ hg.lt
  simp[ldS,b2,stS,qba,qh];rw[←hd,←hd1v,←hU3];have d1k:d1.kind=d.kind:=by rw[hd1];rfl
  have d1e:d1.exps=d.exps:=by rw[hd1];rfl
  obtain ⟨tse,htse⟩:∃tse,tse=if d.kind=2 then ts else tso:=⟨_,rfl⟩
  have htse':Scx tse=if d.kind=2 then Scx ts else Scx tso:=by rw[htse];split <;> rfl
  have hexp:∀(ve:V),ScR c.toPw (fun l=>l=w∨F l) S ve tse→qt prog 134 [.ptr w 0 0 1,.sl false (d.exps.map Ex.v),ve,.bool false] U3 (fun r U=>Wd c w (n+De.nbl (l.take i)) (Ex.hsl c.toPw (Scx tse) false (De.hsl c.toPw (Scx tso) (Scx ts) n h (l.take i)) d.exps) F2 D2 U3 (.sl false ((Ex.wrl c.toPw (Scx tse) false d.exps).map Ex.v)) r U):=fun ve hve=>
   jn c ok w d.exps (by rw[hd];omega) _ _ F2 D2 U3 ve tse false k3 (hve.step s3)
  have l3:U3.length=U2.length:=by rw[hU3];simp
  have o3:Off w F2 D2 U.length:=o2;obtain ⟨d2,hd2⟩:∃d2:De,d2=d.d1 c.toPw (Scx tso) (Scx ts):=⟨_,rfl⟩
  have hd2v:d2.v=.agg [.int .i64 d1.kind,.bool d1.own,.int .i64 d1.type,.sl false (d1.names.map .str),.sl false ((Ex.wrl c.toPw (Scx tse) false d.exps).map Ex.v),.sl false (d1.formals.map Fo.v),.sl false (d1.body.map Sm.v)]:=by
   rw[hd2,De.v_eq,hd1,htse'];rfl
  have d2k:d2.kind=d.kind:=by rw[hd2];rfl
  have hw:l[i].wr c.toPw (Scx tso) (Scx ts) (n+De.nbl (l.take i))=if d.kind=4 then d2.pr c.toPw (Scx tso) (n+De.nbl (l.take i)) else d2:=by rw[←hd,De.wr_eq,hd2]
  have hhs:De.hs c.toPw (Scx tso) (Scx ts) (n+De.nbl (l.take i)) (De.hsl c.toPw (Scx tso) (Scx ts) n h (l.take i)) l[i]=if d.kind=4 then d2.prH c.toPw (Scx tso) (n+De.nbl (l.take i)) (Ex.hsl c.toPw (Scx tse) false (De.hsl c.toPw (Scx tso) (Scx ts) n h (l.take i)) d.exps) else Ex.hsl c.toPw (Scx tse) false (De.hsl c.toPw (Scx tso) (Scx ts) n h (l.take i)) d.exps:=by rw[←hd,De.hs_eq,hd2,htse']
  have hnb':l[i].nb=if d.kind=4 then d2.prN else 0:=by rw[←hd,De.nb_eq,hd2];rfl
  have fin:∀(F' D':Np) (X:St),Wk c w (n+De.nbl (l.take i)+l[i].nb) (De.hs c.toPw (Scx tso) (Scx ts) (n+De.nbl (l.take i)) (De.hsl c.toPw (Scx tso) (Scx ts) n h (l.take i)) l[i]) F' D' X→Stp w F D S F' D' X→Gw 7 S.length w F' D' ((De.wrl c.toPw (Scx tso) (Scx ts) n (l.take i)).map De.v) gv X→
    ∃v' X',Jz X 7 120 gv (.sl true [(l[i].wr c.toPw (Scx tso) (Scx ts) (n+De.nbl (l.take i))).v])=some (v',X')∧Gw 7 S.length w F' D' ((De.wrl c.toPw (Scx tso) (Scx ts) n (l.take (i+1))).map De.v) v' X'∧Wk c w (n+De.nbl (l.take (i+1))) (De.hsl c.toPw (Scx tso) (Scx ts) n h (l.take (i+1))) F' D' X'∧Stp w F D S F' D' X':=fun F' D' X hk hs hg=>by
   obtain ⟨v',X',ha,hg3,hk3,hs4⟩:=hg.app1 ok (bytes:=120) (b:=true) hk hs (De.fits1 (l[i].wr c.toPw (Scx tso) (Scx ts) (n+De.nbl (l.take i)))) (by
    rw[qq2,qdN,qsf];omega)
   have hn1:(De.wrl c.toPw (Scx tso) (Scx ts) n (l.take i)).map De.v++[(l[i].wr c.toPw (Scx tso) (Scx ts) (n+De.nbl (l.take i))).v]=(De.wrl c.toPw (Scx tso) (Scx ts) n (l.take (i+1))).map De.v:=by
    rw[ht,De.wrl_append,qrg];rfl
   have hn2:De.hs c.toPw (Scx tso) (Scx ts) (n+De.nbl (l.take i)) (De.hsl c.toPw (Scx tso) (Scx ts) n h (l.take i)) l[i]=De.hsl c.toPw (Scx tso) (Scx ts) n h (l.take (i+1)):=by
    rw[ht,De.hsl_append];rfl
   rw[hn1] at hg3;rw[hn2,qrF,←hnb] at hk3;exact ⟨v',X',ha,hg3,hk3,hs4⟩
  rw[hw] at fin;by_cases h2:d.kind=2
  all_goals
   simp[ldS,b3,d1k,d1e,h2]
   refine qi (hexp _ (by rw[htse];first|(rw[if_pos h2];exact hsc2)|(rw[if_neg h2];exact hsc1))) ?_
   rintro r U4 ⟨rfl,F3,D3,k4,s4⟩
   have b4:=s4.at o3 b3
   have lU3:U.length<U3.length:=glt b3
   have o4:=o3.next lU3 s4
   have g4:=(g3.step s4).set (.arr [d2.v] 7 1) hg.lt
   have s34:=(s3.trans s4).set (.arr [d2.v] 7 1) lSU
   have k5:=k4.set ok (.arr [d2.v] 7 1) o4.1 o4.2.1 o4.2.2
   have b5:(U4.set U.length (.arr [d2.v] 7 1))[U.length]?=some (.arr [d2.v] 7 1):=qqV (glt b4)
   simp[ldS,b4,stS,qba,qh]
   rw[←hd2v]
   generalize U4.set U.length (.arr [d2.v] 7 1)=U5 at g4 s34 k5 b5 ⊢
   by_cases h4:d.kind=4
   ·have q:=qen c ok w d2 (by rw[hd2,hd];exact H l[i] hmem) (by rw[hd2,hd];exact hbl) (by rw[hd2,hd];exact hok l[i] hmem) (by rw[hd2,hd];show l[i].formals.length≤4000;omega) _ _ F3 D3 U5 v1 tso k5 (hsc1.step s34) (by rw[if_pos h4] at hnb';omega);simp[ldS,b5,d2k,h4];refine qi q ?_;rintro r U6 ⟨rfl,F4,D4,k6,s6⟩;have b6:=s6.at o4 b5;have lU5:U.length<U5.length:=glt b5;have o6:=o4.next lU5 s6;obtain ⟨d3,hd3⟩:∃d3:De,d3=d2.pr c.toPw (Scx tso) (n+De.nbl (l.take i)):=⟨_,rfl⟩;rw[hnb',if_pos h4,hhs,if_pos h4,if_pos h4,←hd3] at fin;rw[←hd3];have g6:=(g4.step s6).set (.arr [d3.v] 7 1) hg.lt;have s56:=(s34.trans s6).set (.arr [d3.v] 7 1) lSU;have k7:=k6.set ok (.arr [d3.v] 7 1) o6.1 o6.2.1 o6.2.2;have b7:(U6.set U.length (.arr [d3.v] 7 1))[U.length]?=some (.arr [d3.v] 7 1):=qqV (glt b6);obtain ⟨v',X',ha,hg3,hk3,hs4⟩:=fin F4 D4 _ k7 s56 g6;simp[ldS,b6,stS,qba,qh];generalize U6.set U.length (.arr [d3.v] 7 1)=U7 at ha b7 ⊢;simp[ldS,b7,De.fits1,ha,zk (n:=(i:Int)+1)];refine ⟨_,?_,_,?_,i+1,v',F4,D4,rfl,by omega,hg3,hk3,hs4,rfl⟩
    ·omega
    ·exact Env.so (by simp)
   ·rw[hnb',if_neg h4,hhs,if_neg h4,if_neg h4] at fin;obtain ⟨v',X',ha,hg3,hk3,hs4⟩:=fin F3 D3 U5 k5 s34 g4;simp[ldS,b5,d2k,h4,De.fits1,ha,zk (n:=(i:Int)+1)];refine ⟨_,?_,_,?_,i+1,v',F3,D3,rfl,by omega,hg3,hk3,hs4,rfl⟩
    ·omega
    ·exact Env.so (by simp)
 rintro e U ⟨gv,F1,D1,g9,hg,hk1,hs1⟩;simp[g9];exact YT ok rfl hg hk1 hs1 (by rw[←zc,wDe])
theorem Sm.wr_eq(p:Pw)(sc:Scs)(n:Nat)(s:Sm):s.wr p sc n=
  if s.kind=7 then .mk (JA p sc s.labels) s.kind s.text (Ex.wrl p sc true s.targets) s.exps s.elems (De.wrl p (qd (qe s.decls s.body) n::sc) sc (n+(qd (qe s.decls s.body) n).length) s.decls) (Sm.wrl p (qd (qe s.decls s.body) n::sc) (n+(qd (qe s.decls s.body) n).length+De.nbl s.decls) s.body)
  else if s.kind=8 then .mk (JA p sc s.labels) s.kind s.text (Ex.wrl p sc true s.targets) s.exps s.elems s.decls (Sm.wrl p (qd (qk s.body) n::sc) (n+(qd (qk s.body) n).length) s.body)
  else .mk (JA p sc s.labels) s.kind (p.clE sc s.kind s.text) (Ex.wrl p sc true s.targets) (Ex.wrl p sc false s.exps) (El.wrl p sc s.elems) s.decls (Sm.wr1 p sc n s.body):=by
 cases s;rw[Sm.wr];rfl
theorem Sm.hs_eq(p:Pw)(sc:Scs)(n:Nat)(h:p.H)(s:Sm):s.hs p sc n h=
  if s.kind=7 then Sm.hsl p (qd (qe s.decls s.body) n::sc) (n+(qd (qe s.decls s.body) n).length+De.nbl s.decls) (De.hsl p (qd (qe s.decls s.body) n::sc) sc (n+(qd (qe s.decls s.body) n).length) (enters p (Ex.hsl p sc true h s.targets) (qd (qe s.decls s.body) n)) s.decls) s.body
  else if s.kind=8 then Sm.hsl p (qd (qk s.body) n::sc) (n+(qd (qk s.body) n).length) (enters p (Ex.hsl p sc true h s.targets) (qd (qk s.body) n)) s.body
  else p.clS sc s.kind (Sm.hs1 p sc n (El.hsl p sc (Ex.hsl p sc false (Ex.hsl p sc true h s.targets) s.exps) s.elems) s.body) s.text:=by
 cases s;rw[Sm.hs];rfl
theorem Sm.nb_eq(s:Sm):s.nb=if s.kind=7 then (qd (qe s.decls s.body) 0).length+De.nbl s.decls+Sm.nbl s.body else if s.kind=8 then (qd (qk s.body) 0).length+Sm.nbl s.body else Sm.nb1 s.body:=by
 cases s;rw[Sm.nb];rfl
theorem Sm.size_parts(s:Sm):(Pa.st s).size=1+s.labels.length+qK (s.targets.map Pa.ex)+qK (s.exps.map Pa.ex)+qK (s.elems.map Pa.el)+qK (s.decls.map Pa.de)+qK (s.body.map Pa.st):=by
 rw[Pa.size_eq];simp only[Pa.own,Pa.kids,zm];omega
theorem gpp{U:St}{x:Nat}{o:Ob}{os:List Ob}(h:U[x]?=some o):(U++os)[x]?=some o:=by rw[qqW (qqT.1 h).1];exact h
abbrev smZ:V:=.agg [.sl true [],.int .i64 0,.str ⟨⟨[]⟩⟩,.sl true [],.sl true [],.sl true [],.sl true [],.sl true []]
theorem ScR.yb{p:Pw}{w:Nat}{F D F' D':Np}{S X:St}{v:V}{ts:List Sct}(h:ScR p (fun l=>l=w∨F l) S v ts)(s:Stp w F D S F' D' X):ScR p (fun l=>l=w∨F' l∨(l=S.length∨l=S.length+1)) X v ts:=
 h.mono s.k fun l hh=>by
  rcases hh with hh|hh|hh|hh
  ·exact .inl (.inl hh)
  ·exact (s.gF l hh).imp .inr id
  ·exact .inr (by omega)
  ·exact .inr (by omega)
structure Bx(c:Cb)(w n:Nat)(h:c.H)(F D:Np)(S:St)(y:Sm)(F' D':Np)(X:St):Prop where
 b0:X[S.length]?=some (.arr [y.v] 8 1)
 b1:X[S.length+1]?=some (.arr [smZ] 8 1)
 wk:Wk c w n h F' D' X
 st:Stp w F D S F' D' X
 o0:Off w F' D' S.length
 o1:Off w F' D' (S.length+1)
section
variable {c:Cb} (ok:c.Ok) {w n:Nat} {h:c.H} {F D F' D':Np} {S X:St} {y:Sm} (b:Bx c w n h F D S y F' D' X)
include b
theorem Bx.call{n':Nat}{h':c.H}{x r:V}{U:St}(d:Wd c w n' h' F' D' X x r U):r=x∧∃F2 D2,Bx c w n' h' F D S y F2 D2 U:=by
 obtain ⟨rfl,F2,D2,k,s⟩:=d;have l0:=glt b.b0;have l1:=glt b.b1;exact ⟨rfl,F2,D2,s.at b.o0 b.b0,s.at b.o1 b.b1,k,b.st.trans s,b.o0.next l0 s,b.o1.next l1 s⟩
theorem Bx.step{n':Nat}{h':c.H}{F2 D2:Np}{U:St}(k:Wk c w n' h' F2 D2 U)(s:Stp w F' D' X F2 D2 U):Bx c w n' h' F D S y F2 D2 U:=by
 have l0:=glt b.b0;have l1:=glt b.b1;exact ⟨s.at b.o0 b.b0,s.at b.o1 b.b1,k,b.st.trans s,b.o0.next l0 s,b.o1.next l1 s⟩
omit b in
def Yb(S:St)(l:Nat):Prop:=l=S.length∨l=S.length+1
include ok
theorem Bx.put(y':Sm):Bx c w n h F D S y' F' D' (X.set S.length (.arr [y'.v] 8 1)):=by
 have l1:=glt b.b1;exact ⟨qqV (glt b.b0),by rw[qqX (by omega)];exact b.b1,b.wk.set ok _ b.o0.1 b.o0.2.1 b.o0.2.2,b.st.set _ (qqY _),b.o0,b.o1⟩
theorem Bx.push(os:List Ob):Bx c w n h F D S y F' D' (X++os):=⟨gpp b.b0,gpp b.b1,b.wk.push ok _,b.st.push _,b.o0,b.o1⟩
theorem Bx.fin{e:Env}(he:e.get 6=some (.ptr (S.length+1) 0 0 1)):JQ [.cell 6 (some 8)] S.length (fun r U=>Wd c w n h F D S y.v r U) .ret e (X.set (S.length+1) (.arr [y.v] 8 1)):=by
 have hz:(X.set (S.length+1) (.arr [y.v] 8 1))[S.length+1]?=some (.arr [y.v] 8 1):=qqV (glt b.b1);exact qf (vs:=[y.v]) (by simp[rvs,he,ldS,hz]) ⟨rfl,F',D',b.wk.set ok _ b.o1.1 b.o1.2.1 b.o1.2.2,b.st.set _ (by omega)⟩
end
theorem smV(a:List Bz)(k:Int)(t:Bz)(g e:List Ex)(l:List El)(d:List De)(b:List Sm):V.agg [.sl false (a.map .str),.int .i64 k,.str t,.sl false (g.map Ex.v),.sl false (e.map Ex.v),.sl false (l.map El.v),.sl false (d.map De.v),.sl false (b.map Sm.v)]=(Sm.mk a k t g e l d b).v:=by rw[Sm.v_eq];rfl
theorem qeG{c:Cb}(ok:c.Ok){w n:Nat}{h:c.H}{F D Y:Np}{S:St}{v:V}{ts:List Sct}(hk:Wk c w n h F D S)(hY:∀l,Y l→l<S.length)(hsc:ScR c.toPw (fun l=>l=w∨F l∨Y l) S v ts)(s:Sco)(hc:c.cn (enters c.toPw h s) (n+s.length)):∃r U,qo0 c w n h F D Y ts s S r U:=by
 obtain ⟨F',D',U0,q1,q2,q3,q4⟩:=ok.real hk.st (enters c.toPw h s);obtain ⟨⟨ka,kb,kd⟩,st⟩:=hk.call0 ok q1 q2 q3 q4;have hlt:=(qqT.1 ka).1;have hl0:=st.k.len;obtain ⟨t,ht⟩:∃t:Sct,t=s.zipIdx.map fun e=>(e.1.1,e.1.2,U0.length+3+e.2):=⟨_,rfl⟩
 have hts:t.sco=s:=by
  rw[ht];unfold Sct.sco;rw[qr2];apply qrM;intro i;simp only[qq7,List.getElem?_zipIdx];cases s[i]? <;> rfl
 have htl:=Sco.len_of hts;obtain ⟨os,hos⟩:∃os:List Ob,os=[.arr [.agg [v]] 1 1,.map (t.map qeO) (kC t.length) t.length,.arr [.agg [.ptr U0.length 0 0 1,.map (U0.length+1)]] 2 1]++s.map fun e=>plc e.1 e.2 (c.f e.2 e.1):=⟨_,rfl⟩
 have g:∀j o,os[j]?=some o→(U0.set w (wkr c (n+t.length))++os)[U0.length+j]?=some o:=fun j o ho=>by
  rw[qqU (by simp),List.length_set,qsi];exact ho
 have kk:Wk c w (n+t.length) (enters c.toPw h s) F' D' (U0.set w (wkr c (n+t.length))++os):=Wk.push ok ⟨qqV hlt,ok.fr (M:=fun l=>l=w) q1 ((Kp.refl _ _).set _ (.inl rfl)) (fun l hl _=>by rw[hl];exact ⟨kb,kd⟩),kb,kd,by rw[htl];exact hc⟩ _;have ss:Stp w F D S F' D' (U0.set w (wkr c (n+t.length))++os):=⟨(st.k.set _ (.inl (.inl rfl))).push _,st.gF,st.gD⟩
 have out:∀l,U0.length≤l→¬ (l=w∨F' l∨Y l):=by
  rintro l hl (rfl|hf|hy)
  ·omega
  ·have:=ok.lt q1 l (.inl hf);omega
  ·have:=hY l hy;omega
 refine ⟨.ptr (U0.length+2) 0 0 1,_,t,F',D',hts,kk,ss,U0.length+2,U0.length,U0.length+1,v,_,_,rfl,⟨out _ (by omega),out _ (qqY _),out _ (by omega)⟩,g 2 _ (by rw[hos];rfl),g 0 _ (by rw[hos];rfl),g 1 _ (by rw[hos];rfl),fun e he=>?_,hsc.mono (ss.k.mono fun l _ hh=>hh.imp id .inl) fun l hh=>?_⟩
 ·obtain ⟨j,hj⟩:=qrI he;rw[ht,qq7,List.getElem?_zipIdx] at hj
  cases hs:s[j]? with
  | none=>rw[hs] at hj;simp at hj
  | some x=>
   rw[hs] at hj;simp at hj;subst hj;refine ⟨out _ (by simp only;omega),?_⟩;rw[show U0.length+3+j=U0.length+(3+j) by omega];refine g _ _ ?_;rw[hos,qqU (by simp)];simp[hs]
 ·rcases hh with hh|hh|hh
  ·exact .inl (.inl hh)
  ·exact (q3 l hh).imp (fun a=>.inr (.inl a)) id
  ·exact .inl (.inr (.inr hh))
theorem qcn(c:Cb)(ok:c.Ok)(w:Nat):∀(m:Nat) (s:Sm),(Pa.st s).size≤m→m≤4000→s.ok→qmm c w s
 | 0,s,hx,_,_=>by have:=(Pa.st s).size_pos;omega
 | m+1,s,hx,hm,hok=>by
  intro n h F D S v ts hk hsc hin hn;have O:=(Sm.ok_iff s).1 hok;have hsz:=Sm.size_parts s
  have IHb:∀y,y∈s.body→qmm c w y:=fun y hy=>qcn c ok w m y (by
   obtain ⟨i,hi⟩:=qrI (qrG (f:=Pa.st) hy);have:=zK hi;omega) (by omega) (Sm.okL_mem O.body.2 y hy)
  have IHd:∀d,d∈s.decls→∀y,y∈d.body→qmm c w y:=fun d hd y hy=>qcn c ok w m y (by
   obtain ⟨i,hi⟩:=qrI (qrG (f:=Pa.de) hd);have h1:=zK hi;have h2:=De.size_parts d;obtain ⟨j,hj⟩:=qrI (qrG (f:=Pa.st) hy);have:=zK hj;omega) (by omega) (Sm.okL_mem ((De.ok_iff d).1 (De.okL_mem O.decls.2 d hd)).body.2 y hy)
  have hokd:∀d,d∈s.decls→∀y,y∈d.body→y.ok:=fun d hd y hy=>Sm.okL_mem ((De.ok_iff d).1 (De.okL_mem O.decls.2 d hd)).body.2 y hy
  have hokb:∀y,y∈s.body→y.ok:=fun y hy=>Sm.okL_mem O.body.2 y hy
  have hbl:s.body.length≤4000:=by have:=zQ (s.body.map Pa.st);rw[qq2] at this;omega
  refine qt.ib func186 ok186 ?_;obtain ⟨S1,hS1⟩:∃S1:St,S1=S++[.arr [s.v] 8 1,.arr [smZ] 8 1]:=⟨_,rfl⟩
  have B1:Bx c w n h F D S s F D S1:=by
   rw[hS1];exact ⟨by rw[qqU (by omega)];simp,by rw[qqU (by omega)];simp,hk.push ok _,(Stp.refl _ _ _ _).push _,hk.out ok (by omega),hk.out ok (by omega)⟩
  simp[c186,qG,ldS,qh];rw[←hS1];refine qi (qfa c ok w s.labels (by omega) n h F D S1 v ts hin B1.wk (hsc.step B1.st)) ?_;intro r U hU;obtain ⟨rfl,F2,D2,B2⟩:=B1.call hU;clear hU;obtain ⟨y1,hy1⟩:∃y1:Sm,y1=.mk (JA c.toPw (Scx ts) s.labels) s.kind s.text s.targets s.exps s.elems s.decls s.body:=⟨_,rfl⟩;have B3:=B2.put ok y1;simp[stS,ldS,B2.b0,Zt,qh];rw[smV,←hy1];generalize U.set S.length (.arr [y1.v] 8 1)=U3 at B3 ⊢;have e1:y1.targets=s.targets:=by rw[hy1];rfl
  simp[ldS,B3.b0,e1];refine qi (jn c ok w s.targets (by omega) n h F2 D2 U3 v ts true B3.wk (hsc.step B3.st)) ?_;intro r U hU;obtain ⟨rfl,F3,D3,B4⟩:=B3.call hU;clear hU;obtain ⟨y2,hy2⟩:∃y2:Sm,y2=.mk (JA c.toPw (Scx ts) s.labels) s.kind s.text (Ex.wrl c.toPw (Scx ts) true s.targets) s.exps s.elems s.decls s.body:=⟨_,rfl⟩;have B5:=B4.put ok y2;simp[stS,ldS,B4.b0,Zt,qh];have hy2v:V.agg [.sl false (y1.labels.map .str),.int .i64 y1.kind,.str y1.text,.sl false ((Ex.wrl c.toPw (Scx ts) true s.targets).map Ex.v),.sl false (y1.exps.map Ex.v),.sl false (y1.elems.map El.v),.sl false (y1.decls.map De.v),.sl false (y1.body.map Sm.v)]=y2.v:=by rw[smV,hy1,hy2];rfl
  rw[hy2v];generalize U.set S.length (.arr [y2.v] 8 1)=U5 at B5 ⊢;have k2:y2.kind=s.kind:=by rw[hy2];rfl
  have x2:y2.exps=s.exps:=by rw[hy2];rfl
  have l2:y2.elems=s.elems:=by rw[hy2];rfl
  have d2:y2.decls=s.decls:=by rw[hy2];rfl
  have t2:y2.body=s.body:=by rw[hy2];rfl
  obtain ⟨h2,hh2⟩:∃h2,h2=Ex.hsl c.toPw (Scx ts) true h s.targets:=⟨_,rfl⟩;rw[←hh2] at B5;have hw:=Sm.wr_eq c.toPw (Scx ts) n s;have hh:=Sm.hs_eq c.toPw (Scx ts) n h s;have hnb:=Sm.nb_eq s;rw[←hh2] at hh;simp[ldS,B5.b0,k2];by_cases h7:s.kind=7
  ·rw[if_pos h7] at hw hh hnb;have hbn:=qq (qe s.decls s.body) n 0;simp[h7,ldS,B5.b0];refine qi (qko y2 U5) ?_;rintro r U6 ⟨rfl,hU6⟩;have B6:=B5.push ok [.arr [y2.v] 8 1];rw[←hU6] at B6;have c6:U6[U5.length]?=some (.arr [y2.v] 8 1):=by rw[hU6];simp
   have hy:=qfw y2 (by rw[d2];exact O.decls) (by rw[t2];exact O.body) U5.length;rw[d2,t2] at hy;have lS5:=B5.st.k.len;simp;refine qi (kL c ok w n h2 F3 D3 v ts (qe s.decls s.body) 255 [.ptr U5.length 0 0 1] U5.length _ hy (by simp) U6 B6.wk (Yb S) (by rintro l (rfl|rfl);exact glt B6.b0;exact glt B6.b1) (hsc.yb B6.st) c6 (B5.wk.out ok (qqY _)) (by omega)) ?_;rintro r U7 ⟨t,F4,D4,hts,k7,s7,sc7⟩;have htl:=Sco.len_of hts;have hscx:Scx (t::ts)=qd (qe s.decls s.body) n::Scx ts:=by simp only[Scx,qq8,hts]
   have B7:=B6.step k7 s7;simp[ldS,B7.b0,d2]
   have q:=qdV c ok w s.decls (by omega) IHd hokd _ _ F4 D4 U7 r v (t::ts) ts B7.wk (sc7.sub fun l hl=>hl.imp id .inl) (hsc.step B7.st) (by
    intro d hd;rw[hscx];exact (zJ _ _ _).sub fun x hx=>qq6 _ (qr6.2 ⟨d,hd,hx⟩)) (by omega)
   rw[hscx] at q;refine qi q ?_;rintro r2 U8 ⟨rfl,F5,D5,k8,s8⟩;have B8:=B7.step k8 s8;obtain ⟨y3,hy3⟩:∃y3:Sm,y3=.mk (JA c.toPw (Scx ts) s.labels) s.kind s.text (Ex.wrl c.toPw (Scx ts) true s.targets) s.exps s.elems (De.wrl c.toPw (qd (qe s.decls s.body) n::Scx ts) (Scx ts) (n+t.length) s.decls) s.body:=⟨_,rfl⟩;have hy3v:V.agg [.sl false (y2.labels.map .str),.int .i64 y2.kind,.str y2.text,.sl false (y2.targets.map Ex.v),.sl false (y2.exps.map Ex.v),.sl false (y2.elems.map El.v),.sl false ((De.wrl c.toPw (qd (qe s.decls s.body) n::Scx ts) (Scx ts) (n+t.length) s.decls).map De.v),.sl false (y2.body.map Sm.v)]=y3.v:=by rw[smV,hy2,hy3];rfl
   have B9:=B8.put ok y3
   have sc9:ScR c.toPw (fun l=>l=w∨F5 l) (U8.set S.length (.arr [y3.v] 8 1)) r (t::ts):=by
    refine (sc7.mono ((s8.k.mono fun l _ hh=>hh.imp id .inl).set _ (.inl (.inr (.inr (.inl rfl))))) (X':=fun l=>l=w∨F5 l) fun l hh=>?_);rcases hh with hh|hh
    ·exact .inl (.inl hh)
    ·exact (s8.gF l hh).imp (fun a=>.inr (.inl a)) id
   simp[stS,B8.b0,Zt,qh];rw[hy3v];generalize U8.set S.length (.arr [y3.v] 8 1)=U9 at B9 sc9 ⊢;have b3:y3.body=s.body:=by rw[hy3];rfl
   simp[ldS,B9.b0,b3];have q3:=YI c ok w s.body false IHb hbl _ _ F5 D5 U9 r (t::ts) B9.wk sc9 (by rw[hscx];exact (zJ _ _ _).sub fun x hx=>qq9 _ hx) (by omega);rw[hscx] at q3;refine qi q3 ?_;rintro r3 U10 ⟨rfl,F6,D6,k10,s10⟩;have B10:=B9.step k10 s10;obtain ⟨y4,hy4⟩:∃y4:Sm,y4=.mk (JA c.toPw (Scx ts) s.labels) s.kind s.text (Ex.wrl c.toPw (Scx ts) true s.targets) s.exps s.elems (De.wrl c.toPw (qd (qe s.decls s.body) n::Scx ts) (Scx ts) (n+t.length) s.decls) (Sm.wrl c.toPw (qd (qe s.decls s.body) n::Scx ts) (n+t.length+De.nbl s.decls) s.body):=⟨_,rfl⟩;have hy4v:V.agg [.sl false (y3.labels.map .str),.int .i64 y3.kind,.str y3.text,.sl false (y3.targets.map Ex.v),.sl false (y3.exps.map Ex.v),.sl false (y3.elems.map El.v),.sl false (y3.decls.map De.v),.sl false ((Sm.wrl c.toPw (qd (qe s.decls s.body) n::Scx ts) (n+t.length+De.nbl s.decls) s.body).map Sm.v)]=y4.v:=by rw[smV,hy3,hy4];rfl
   have B11:=B10.put ok y4;simp[stS,B10.b0,Zt,qh];rw[hy4v];generalize U10.set S.length (.arr [y4.v] 8 1)=U11 at B11 ⊢;have k4:y4.kind=7:=by rw[hy4,←h7];rfl
   simp[ldS,B11.b0,B11.b1,k4,stS,qh];rw[hw,hh,hnb,←htl,←hy4,show n+((qd (qe s.decls s.body) 0).length+De.nbl s.decls+Sm.nbl s.body)=n+t.length+De.nbl s.decls+Sm.nbl s.body by omega];exact B11.fin ok rfl
  by_cases h8:s.kind=8
  ·rw[if_neg h7,if_pos h8] at hw hh hnb;have hbn:=qq (qk s.body) n 0;simp[h8,ldS,B5.b0,t2];refine Qd (qbN s.body false U5) ⟨_,_,rfl,rfl⟩ ?_;rintro r U6 ⟨rfl,hU6⟩;have B6:=B5.push ok [.arr [.sl false (s.body.map Sm.v)] 1 1];rw[←hU6] at B6;have c6:U6[U5.length]?=some (.arr [.sl false (s.body.map Sm.v)] 1 1):=by rw[hU6];simp
   have hy:=jv s.body O.body.1 O.body.2 U5.length;have hYb:∀l,Yb S l→l<U6.length:=by rintro l (rfl|rfl);exact glt B6.b0;exact glt B6.b1
   have scY:=hsc.yb B6.st;have lS5:=B5.st.k.len;simp;refine Qd (kL c ok w n h2 F3 D3 v ts (qk s.body) 187 [.ptr U5.length 0 0 1] U5.length _ hy (by simp) U6 B6.wk (Yb S) hYb scY c6 (B5.wk.out ok (qqY _)) (by omega)) (qeG ok B6.wk hYb scY _ (qoy ok _ B6.wk.cn)) ?_;rintro r U7 ⟨t,F4,D4,hts,k7,s7,sc7⟩;have htl:=Sco.len_of hts;have hscx:Scx (t::ts)=qd (qk s.body) n::Scx ts:=by simp only[Scx,qq8,hts]
   have B7:=B6.step k7 s7;simp;have q3:=YI c ok w s.body false IHb hbl _ _ F4 D4 U7 r (t::ts) B7.wk (sc7.sub fun l hl=>hl.imp id .inl) (by rw[hscx];exact zJ _ _ _) (by omega);rw[hscx] at q3;refine Qd q3 (Wd.some ok B7.wk _ (qoe ok _ _ B7.wk.cn) _) ?_;rintro r3 U10 ⟨rfl,F6,D6,k10,s10⟩;have B10:=B7.step k10 s10;obtain ⟨y4,hy4⟩:∃y4:Sm,y4=.mk (JA c.toPw (Scx ts) s.labels) s.kind s.text (Ex.wrl c.toPw (Scx ts) true s.targets) s.exps s.elems s.decls (Sm.wrl c.toPw (qd (qk s.body) n::Scx ts) (n+t.length) s.body):=⟨_,rfl⟩;have hy4v:V.agg [.sl false (y2.labels.map .str),.int .i64 y2.kind,.str y2.text,.sl false (y2.targets.map Ex.v),.sl false (y2.exps.map Ex.v),.sl false (y2.elems.map El.v),.sl false (y2.decls.map De.v),.sl false ((Sm.wrl c.toPw (qd (qk s.body) n::Scx ts) (n+t.length) s.body).map Sm.v)]=y4.v:=by rw[smV,hy2,hy4];rfl
   have B11:=B10.put ok y4;simp[stS,B10.b0,Zt,qh,QZ,zW,yp,ldS,B5.b0,B6.b0,B7.b0,t2];rw[hy4v];generalize U10.set S.length (.arr [y4.v] 8 1)=U11 at B11 ⊢;have k4:y4.kind=8:=by rw[hy4,←h8];rfl
   simp[ldS,B11.b0,B11.b1,k4,stS,qh];rw[hw,hh,hnb,←htl,←hy4,show n+((qd (qk s.body) 0).length+Sm.nbl s.body)=n+t.length+Sm.nbl s.body by omega];exact B11.fin ok rfl
  rw[if_neg h7,if_neg h8] at hw hh hnb;simp[h7,h8,ldS,B5.b0,x2];refine qi (jn c ok w s.exps (by omega) n h2 F3 D3 U5 v ts false B5.wk (hsc.step B5.st)) ?_;rintro r U6 ⟨rfl,F4,D4,k6,s6⟩;have B6:=B5.step k6 s6;obtain ⟨y3,hy3⟩:∃y3:Sm,y3=.mk (JA c.toPw (Scx ts) s.labels) s.kind s.text (Ex.wrl c.toPw (Scx ts) true s.targets) (Ex.wrl c.toPw (Scx ts) false s.exps) s.elems s.decls s.body:=⟨_,rfl⟩;have hy3v:V.agg [.sl false (y2.labels.map .str),.int .i64 y2.kind,.str y2.text,.sl false (y2.targets.map Ex.v),.sl false ((Ex.wrl c.toPw (Scx ts) false s.exps).map Ex.v),.sl false (y2.elems.map El.v),.sl false (y2.decls.map De.v),.sl false (y2.body.map Sm.v)]=y3.v:=by rw[smV,hy2,hy3];rfl
  have B7:=B6.put ok y3;simp[stS,B6.b0,Zt,qh];rw[hy3v];generalize U6.set S.length (.arr [y3.v] 8 1)=U7 at B7 ⊢;have l3:y3.elems=s.elems:=by rw[hy3];rfl
  simp[ldS,B7.b0,l3];refine qi (qkN c ok w s.elems (by omega) n _ F4 D4 U7 v ts B7.wk (hsc.step B7.st)) ?_;rintro r U8 ⟨rfl,F5,D5,k8,s8⟩;have B8:=B7.step k8 s8;obtain ⟨y4,hy4⟩:∃y4:Sm,y4=.mk (JA c.toPw (Scx ts) s.labels) s.kind s.text (Ex.wrl c.toPw (Scx ts) true s.targets) (Ex.wrl c.toPw (Scx ts) false s.exps) (El.wrl c.toPw (Scx ts) s.elems) s.decls s.body:=⟨_,rfl⟩;have hy4v:V.agg [.sl false (y3.labels.map .str),.int .i64 y3.kind,.str y3.text,.sl false (y3.targets.map Ex.v),.sl false (y3.exps.map Ex.v),.sl false ((El.wrl c.toPw (Scx ts) s.elems).map El.v),.sl false (y3.decls.map De.v),.sl false (y3.body.map Sm.v)]=y4.v:=by rw[smV,hy3,hy4];rfl
  have B9:=B8.put ok y4;simp[stS,B8.b0,Zt,qh];rw[hy4v];generalize U8.set S.length (.arr [y4.v] 8 1)=U9 at B9 ⊢;have b4:y4.body=s.body:=by rw[hy4];rfl
  simp[ldS,B9.b0,b4];refine qi (YE c ok w s.body false IHb hbl hokb n _ F5 D5 U9 v ts B9.wk (hsc.step B9.st) (by omega)) ?_;rintro r U10 ⟨rfl,F6,D6,k10,s10⟩;have B10:=B9.step k10 s10;obtain ⟨y5,hy5⟩:∃y5:Sm,y5=.mk (JA c.toPw (Scx ts) s.labels) s.kind s.text (Ex.wrl c.toPw (Scx ts) true s.targets) (Ex.wrl c.toPw (Scx ts) false s.exps) (El.wrl c.toPw (Scx ts) s.elems) s.decls (Sm.wr1 c.toPw (Scx ts) n s.body):=⟨_,rfl⟩;have hy5v:V.agg [.sl false (y4.labels.map .str),.int .i64 y4.kind,.str y4.text,.sl false (y4.targets.map Ex.v),.sl false (y4.exps.map Ex.v),.sl false (y4.elems.map El.v),.sl false (y4.decls.map De.v),.sl false ((Sm.wr1 c.toPw (Scx ts) n s.body).map Sm.v)]=y5.v:=by rw[smV,hy4,hy5];rfl
  have B11:=B10.put ok y5;simp[stS,B10.b0,Zt,qh];rw[hy5v];generalize U10.set S.length (.arr [y5.v] 8 1)=U11 at B11 ⊢;have k5:y5.kind=s.kind:=by rw[hy5];rfl
  have t5:y5.text=s.text:=by rw[hy5];rfl
  obtain ⟨h3,hh3⟩:∃h3,h3=Sm.hs1 c.toPw (Scx ts) n (El.hsl c.toPw (Scx ts) (Ex.hsl c.toPw (Scx ts) false h2 s.exps) s.elems) s.body:=⟨_,rfl⟩;rw[←hh3] at B11 hh;rw[hw,hh,hnb];by_cases h6:s.kind=6
  case neg=>
   simp[ldS,B11.b0,B11.b1,k5,h6,stS,qh];have e1:c.toPw.clE (Scx ts) s.kind s.text=s.text:=by unfold Pw.clE;rw[if_neg h6]
   have e2:c.toPw.clS (Scx ts) s.kind h3 s.text=h3:=by unfold Pw.clS;rw[if_neg h6]
   rw[e1,e2,←hy5];exact B11.fin ok rfl
  have tw:=B11.wk.tw;unfold wkr at tw;have smT:∀z:Bz,V.agg [.sl false (y5.labels.map .str),.int .i64 y5.kind,.str z,.sl false (y5.targets.map Ex.v),.sl false (y5.exps.map Ex.v),.sl false (y5.elems.map El.v),.sl false (y5.decls.map De.v),.sl false (y5.body.map Sm.v)]=(Sm.mk (JA c.toPw (Scx ts) s.labels) s.kind z (Ex.wrl c.toPw (Scx ts) true s.targets) (Ex.wrl c.toPw (Scx ts) false s.exps) (El.wrl c.toPw (Scx ts) s.elems) s.decls (Sm.wr1 c.toPw (Scx ts) n s.body)).v:=fun z=>by rw[smV,hy5];rfl
  have hsc3:=hsc.step B11.st
  cases hcl:c.cl with
  | none=>
   have hfc:c.fc=.nilfn:=by have:=ok.cl;rw[hcl] at this;exact this
   rw[hfc] at tw;have hfind:=Ys hsc3 s.text;have e2:c.toPw.clS (Scx ts) s.kind h3 s.text=h3:=by unfold Pw.clS;rw[hcl];simp
   have e1:c.toPw.clE (Scx ts) s.kind s.text=ZF c.toPw (Scx ts) s.text:=by unfold Pw.clE;rw[if_pos h6,hcl]
   rw[e1,e2];have hat:=ZV ts s.text
   cases hf:fnd ts s.text with
   | none=>
    have hr:ZF c.toPw (Scx ts) s.text=s.text:=by unfold ZF;rw[hat,hf];rfl
    have hv:ZT ts s.text=.nilp:=by simp[ZT,hf]
    rw[hv] at hfind;rw[hr,←hy5];simp[ldS,B11.b0,k5,t5,h6,zY,tw,zT,eqV];refine qg hfind ?_;simp[ldS,B11.b0,B11.b1,zT,eqV,stS,qh];exact B11.fin ok rfl
   | some q=>
    have hr:ZF c.toPw (Scx ts) s.text=c.f q.1 s.text:=by unfold ZF;rw[hat,hf];rfl
    have hv:ZT ts s.text=.ptr q.2 0 0 1:=by simp[ZT,hf]
    rw[hv] at hfind;have hq:=hsc3.fnd_get hf;unfold plc at hq;rw[hr];simp[ldS,B11.b0,k5,t5,h6,zY,tw,zT,eqV];refine qg hfind ?_;obtain ⟨z,hz⟩:∃z:Sm,z=.mk (JA c.toPw (Scx ts) s.labels) s.kind (c.f q.1 s.text) (Ex.wrl c.toPw (Scx ts) true s.targets) (Ex.wrl c.toPw (Scx ts) false s.exps) (El.wrl c.toPw (Scx ts) s.elems) s.decls (Sm.wr1 c.toPw (Scx ts) n s.body):=⟨_,rfl⟩;have hzv:=smT (c.f q.1 s.text);rw[←hz] at hzv;have B12:=B11.put ok z;rw[h6] at hz;rw[←hz];rw[k5,h6] at hzv;simp[ldS,B11.b0,zT,eqV,zY,hq,stS,Zt,qh,k5,h6];rw[hzv];generalize U11.set S.length (.arr [z.v] 8 1)=U12 at B12 ⊢;simp[ldS,B12.b0,stS,B12.b1,qh];exact B12.fin ok rfl
  | some g=>
   have hcb:=ok.cl;rw[hcl] at hcb;obtain ⟨kf,cs,hfc,hsp⟩:=hcb;rw[hfc] at tw;have e2:c.toPw.clS (Scx ts) s.kind h3 s.text=c.clH h3 s.text (Scx ts):=by unfold Pw.clS;rw[if_pos h6,hcl]
   have e1:c.toPw.clE (Scx ts) s.kind s.text=g s.text (Scx ts):=by unfold Pw.clE;rw[if_pos h6,hcl]
   rw[e1,e2];have hsp3:=hsp U11 s.text v ts w h3 F6 D6 hsc3 B11.wk.st;obtain ⟨Fi,Di,Ui,hi⟩:=ok.real B11.wk.st (c.clH h3 s.text (Scx ts));simp[ldS,B11.b0,k5,t5,h6,zY,tw,zT,eqV];refine Qd hsp3 ⟨_,Ui,rfl,Fi,Di,hi⟩ ?_;rintro r U12 ⟨rfl,F7,D7,q1,q2,q3,q4⟩;obtain ⟨k12,s12⟩:=B11.wk.call ok (ok.cc _ _ B11.wk.cn) q1 q2 q3 q4;have B12:=B11.step k12 s12;obtain ⟨z,hz⟩:∃z:Sm,z=.mk (JA c.toPw (Scx ts) s.labels) s.kind (g s.text (Scx ts)) (Ex.wrl c.toPw (Scx ts) true s.targets) (Ex.wrl c.toPw (Scx ts) false s.exps) (El.wrl c.toPw (Scx ts) s.elems) s.decls (Sm.wr1 c.toPw (Scx ts) n s.body):=⟨_,rfl⟩;have hzv:=smT (g s.text (Scx ts));rw[←hz] at hzv;have B13:=B12.put ok z;rw[h6] at hz;rw[←hz];rw[k5,h6] at hzv;simp[stS,B12.b0,Zt,qh,QZ,zW,k5,h6];rw[hzv];generalize U12.set S.length (.arr [z.v] 8 1)=U13 at B13 ⊢;simp[ldS,B13.b0,stS,B13.b1,qh];exact B13.fin ok rfl
theorem qa5(c:Cb)(ok:c.Ok)(w:Nat)(s:Sm)(hs:s.ok)(hsz:(Pa.st s).size≤4000)(h:c.H)(F D:Np)(S:St)(hk:Wk c w 0 h F D S)(hn:Sm.nb1 [s]≤c.lim):
  qt prog 62 [.ptr w 0 0 1,s.v] S (fun r U=>Wd c w (Sm.nb1 [s]) (s.wholeH c.toPw h) F D S (s.wholeR c.toPw).v r U):=by
 refine qt.ib func62 ok62 ?_;obtain ⟨S1,hS1⟩:∃S1:St,S1=S++[.arr [s.v] 8 1,.arr [smZ] 8 1]:=⟨_,rfl⟩;have b0:S1[S.length]?=some (.arr [s.v] 8 1):=by rw[hS1,qqU (by omega)];simp
 have b1:S1[S.length+1]?=some (.arr [smZ] 8 1):=by rw[hS1,qqU (by omega)];simp
 have k1:Wk c w 0 h F D S1:=by rw[hS1];exact hk.push ok _
 have s1:Stp w F D S F D S1:=by rw[hS1];exact (Stp.refl _ _ _ _).push _
 have hf:=Sm.fits1 s;simp[c62,qG,ldS,qh,Sm.fits1];rw[←hS1];have q:=YE c ok w [s] true (fun x hx=>by simp at hx;subst hx;exact qcn c ok w 4000 x hsz (by omega) hs) (by simp) (fun x hx=>by simp at hx;subst hx;exact hs) 0 h F D S1 .nilp [] k1 rfl (by omega);simp only[qq8,qrY,qr1] at q;refine qi q ?_;rintro r U ⟨rfl,F2,D2,k2,s2⟩;have o1:Off w F D (S.length+1):=hk.out ok (by omega);have l1:S.length+1<S1.length:=glt b1;have c1:=s2.at o1 b1;have p1:=o1.next l1 s2;have he:Sm.wr1 c.toPw (Scx []) 0 [s]=[s.wholeR c.toPw]:=by simp only[Sm.wr1,Sm.wholeR,Scx,qrY,qr1]
 have he2:Sm.hs1 c.toPw (Scx []) 0 h [s]=s.wholeH c.toPw h:=by simp only[Sm.hs1,Sm.wholeH,Scx,qrY,qr1]
 rw[he2] at k2;rw[he];simp only[qq8,qrY];have hia:iaS U 8 (.sl false [(s.wholeR c.toPw).v]) 0=some (.iptr (s.wholeR c.toPw).v 0):=by simp[iaS]
 simp[hia,ldS,stS,c1,qh];have hz:(U.set (S.length+1) (.arr [(s.wholeR c.toPw).v] 8 1))[S.length+1]?=some (.arr [(s.wholeR c.toPw).v] 8 1):=qqV (glt c1);exact qf (vs:=[(s.wholeR c.toPw).v]) (by simp[rvs,ldS,hz]) ⟨rfl,F2,D2,k2.set ok _ p1.1 p1.2.1 p1.2.2,(s1.trans s2).set _ (by omega)⟩
def yn(k:Nat):Bz:=⟨⟨[35]⟩⟩++⟨(dig k).toArray⟩
theorem Jj:∀(m n:Nat),n≤m→(dig n).length≤n+1
 | 0,n,h=>by rw[z6 (by omega)];simp
 | m+1,n,h=>by
  by_cases hn:n<10
  ·rw[z6 hn];simp
  ·rw[Qa hn,qrd];have:=Jj m (n / 10) (by omega);simp only[qrk,qrX];omega
theorem qlM(p k:Nat)(x y:Bz)(hk:k≤100000)(U:St)(hp:U[p]?=some (plc x k y)):qt prog 128 [.ptr p 0 0 1] U (fun _ U'=>U'=U.set p (plc x k (yn k))):=by
 refine qt.ib func128 ok128 ?_;unfold plc at hp ⊢;simp[c128,zY,ldS,hp];refine qi (qfb k (by omega) U) ?_;rintro r U2 ⟨rfl,rfl⟩
 have hs:qcp .add ⟨⟨[35]⟩⟩ ⟨(dig k).toArray⟩=some (.str (yn k)):=by
  have:=Jj k k (qqY _);unfold qcp yn;rw[if_pos];show (((⟨⟨[35]⟩⟩:Bz).size+(⟨(dig k).toArray⟩:Bz).size:Nat):Int)≤9223372036854775807;have h1:(⟨⟨[35]⟩⟩:Bz).size=1:=rfl;have h2:(⟨(dig k).toArray⟩:Bz).size=(dig k).length:=by simp[ByteArray.size]
  omega
 simp[zY,stS,hp,qh,hs];exact qA rfl rfl
def nuP(f:Nat→Bz):Pw where
 H:=Unit
 f k _:=f k
 nm:=none
 cl:=none
 ent _ _ _:=()
 nmH _ _ _ _:=()
 clH _ _ _:=()
def nuC:Cb where
 toPw:=nuP yn
 fe:=.fn (.func 128) [] []
 fn:=.nilfn
 fc:=.nilfn
 I _ F D _:=∀l,¬ F l∧¬ D l
 cn _ _:=True
 lim:=100001
theorem qoH:nuC.Ok where
 lim:=qqY _
 lt hI l hl:=hl.elim (fun hf=>absurd hf (hI l).1) fun hd=>absurd hd (hI l).2
 fr hI _ _:=hI
 lp hI l _ _:=hI l
 ce _ _:=trivial
 cm _ _ _ _:=trivial
 cc _ _ _:=trivial
 real {h F D S} hI h':=⟨F,D,S,hI,Kp.refl _ _,grow.refl _ _,grow.refl _ _⟩
 en:=.inr ⟨128,[],rfl,fun U p k x h F D hp hF hD hk _ hI=>by
  refine qt.mono (qlM p k x x (Nat.le_of_lt_succ hk) U hp) fun v U' hU=>?_
  subst hU;exact ⟨F,D,hI,qqV (qqT.1 hp).1,(Kp.refl _ _).set _ (.inl (.inl rfl)),grow.refl _ _,fun _ h=>.inl h⟩⟩
 nm:=rfl
 cl:=rfl
theorem qjj(s:Sm)(hs:s.ok)(hsz:(Pa.st s).size≤4000)(hn:Sm.nb1 [s]≤100000)(S:St):qt prog 70 [s.v] S (fun r U=>r=(s.wholeR (nuP yn)).v∧Kp (fun _=>False) S U):=by
 refine qt.ib func70 ok70 ?_;simp[c70,qG,ldS,qh,qF,qB];obtain ⟨S1,hS1⟩:∃S1:St,S1=S++[.arr [s.v] 8 1,.arr [smZ] 8 1,.arr [.agg [.int .i64 0,.fn (.func 128) [] [],.nilfn,.nilfn]] 4 1]:=⟨_,rfl⟩;rw[←hS1];have b1:S1[S.length+1]?=some (.arr [smZ] 8 1):=by rw[hS1,qqU (by omega)];simp
 have b2:S1[S.length+2]?=some (wkr nuC 0):=by rw[hS1,qqU (by omega)];simp[wkr,nuC]
 have l1:S1.length=S.length+3:=by rw[hS1];simp
 have kS:Kp (fun _=>False) S S1:=by rw[hS1];exact (Kp.refl _ _).push _
 refine qi (qa5 nuC qoH (S.length+2) s hs hsz () (fun _=>False) (fun _=>False) S1 ⟨b2,fun _=>⟨id,id⟩,id,id,trivial⟩ (Nat.le_succ_of_le hn)) ?_;rintro r U ⟨rfl,F2,D2,k2,s2⟩;have c1:=s2.k.at b1 (by rintro (hh|hh);omega;exact hh);simp[stS,c1,qh];have hz:(U.set (S.length+1) (.arr [(s.wholeR nuC.toPw).v] 8 1))[S.length+1]?=some (.arr [(s.wholeR nuC.toPw).v] 8 1):=qqV (glt c1);refine qf (vs:=[(s.wholeR nuC.toPw).v]) (by simp[rvs,ldS,hz]) ⟨rfl,Kp.set ⟨qrt kS.len s2.k.len,fun l hl hn=>?_⟩ _ (.inr (by omega))⟩;rw[s2.k.get l (by omega) (by rintro (hh|hh);omega;exact hh)];exact kS.get l hl hn
theorem qg2(a b:Sm):qF (V.agg [V.sl true [],V.int IntKind.i64 0,V.str ⟨⟨[]⟩⟩,V.sl true [],V.sl true [],V.sl true [],V.sl true [],V.sl true [],V.sl true [],V.int IntKind.i64 0,V.str ⟨⟨[]⟩⟩,V.sl true [],V.sl true [],V.sl true [],V.sl true [],V.sl true []]) [(0,8,a.v),(8,8,b.v)]=some (.agg (a.v.cells++b.v.cells)):=by
 simp[qF,qh]
theorem qil(a b:Sm)(i:Nat)(hi:i<2):V.part (.agg (a.v.cells++b.v.cells)) (i * 8) (some 8)=some (if i=0 then a.v else b.v):=by
 have h:i=0∨i=1:=by omega
 rcases h with rfl|rfl
 ·rw[yI,Sm.v_cells,Sm.v_cells,Sm.v_eq a];simp
 ·rw[yI,Sm.v_cells,Sm.v_cells,Sm.v_eq b];simp
open Classical in
theorem qoX(a b:Sm)(ha:a.ok)(hb:b.ok)(za:(Pa.st a).size≤4000)(zb:(Pa.st b).size≤4000)(hn:Sm.nb1 [a]≤100000)(hm:Sm.nb1 [b]≤100000)(na:(Pa.st a).err qb=0→(a.wholeR (nuP yn)).ok)(S:St):
  qt prog 24 [a.v,b.v] S (fun r U=>r=.tup [.bool (decide ((Pa.st a).err qb=0∧(Pa.st b).err qb=0∧a.wholeR (nuP yn)=b.wholeR (nuP yn))),.int .i64 (if (Pa.st a).err qb=0 then (Pa.st b).err qb else (Pa.st a).err qb)]∧Kp (fun _=>False) S U):=by
 refine qt.ib func24 ok24 ?_;obtain ⟨S1,hS1⟩:∃S1:St,S1=S++[.arr [a.v] 8 1,.arr [b.v] 8 1]:=⟨_,rfl⟩;have b0:S1[S.length]?=some (.arr [a.v] 8 1):=by rw[hS1,qqU (by omega)];simp
 have b1:S1[S.length+1]?=some (.arr [b.v] 8 1):=by rw[hS1,qqU (by omega)];simp
 have kS:Kp (fun _=>False) S S1:=by rw[hS1];exact (Kp.refl _ _).push _
 simp[c24,qG,ldS,qB];rw[qg2];rw[←hS1];obtain ⟨ab,hab⟩:∃ab,ab=V.agg (a.v.cells++b.v.cells):=⟨_,rfl⟩;have hagg:ab.isAgg=true:=by rw[hab];rfl
 rw[←hab];simp;refine qQ (fun e U=>(Pa.st a).err qb=0∧(Pa.st b).err qb=0∧Kp (fun _=>False) S1 U∧e.get 2=some (.ptr S.length 0 0 1)∧e.get 3=some (.ptr (S.length+1) 0 0 1)) ?_ ?_
 ·refine qw (fun j e U=>∃i:Nat,j=2 - i∧i≤2∧(1≤i→(Pa.st a).err qb=0)∧(2≤i→(Pa.st b).err qb=0)∧Kp (fun _=>False) S1 U∧
   e=[(12,.int .i64 i),(11,ab),(2,.ptr S.length 0 0 1),(3,.ptr (S.length+1) 0 0 1)]) 2 _ ?_ ⟨0,by simp,by omega,by omega,by omega,Kp.refl _ _,rfl⟩ ?_
  ·exact Env.so (by simp)
  rintro j e U ⟨i,rfl,hi,h1,h2,hk,rfl⟩;by_cases hlt:i<2
  ·have hp:=qil a b i hlt;obtain ⟨y,hy⟩:∃y:Sm,y=if i=0 then a else b:=⟨_,rfl⟩
   rw[←hab] at hp;have hyv:(if i=0 then a.v else b.v)=y.v:=by rw[hy];split <;> rfl
   rw[hyv] at hp;have hyo:y.ok:=by rw[hy];split <;> assumption
   have hi2:(i:Int)<2:=by omega
   simp[hi2,evX,hp,hagg,qG,stS,qh,ldS];refine qg (jU y hyo _) ?_;by_cases he:(Pa.st y).err qb=0
   ·simp[he,zk (n:=(i:Int)+1)];refine ⟨_,?_,_,?_,i+1,rfl,by omega,fun hh=>?_,fun hh=>?_,hk.push _,rfl⟩
    ·omega
    ·exact Env.so (by simp)
    ·by_cases h0:i=0
     ·rw[if_pos h0] at hy;rw[←hy];exact he
     ·exact h1 (by omega)
    ·rw[if_neg (by omega)] at hy;rw[←hy];exact he
   ·simp[he,jG];refine qf rfl ?_;refine ⟨?_,(kS.trans hk).push _⟩;by_cases h0:i=0
    ·rw[if_pos h0] at hy;rw[hy] at he ⊢;simp[qo,he]
    ·rw[if_neg h0] at hy;rw[hy] at he ⊢;simp[qo,he,h1 (by omega)]
  ·have:i=2:=by omega
   subst this;simp;exact ⟨h1 (by omega),h2 (by omega),hk⟩
 rintro e U ⟨h1,h2,hk,g2,g3⟩;have c0:=hk.at b0 id;have c1:=hk.at b1 id;simp[g2,g3,ldS,c0];refine Qd (qjj a ha za hn U) ⟨_,U,rfl,Kp.refl _ _⟩ ?_;rintro r U2 ⟨rfl,k2⟩;have d0:=k2.at c0 id;have d1:=k2.at c1 id;simp[Sm.fits1,g3,ldS,d1];refine Qd (qjj b hb zb hm U2) ⟨_,U2,rfl,Kp.refl _ _⟩ ?_;rintro r U3 ⟨rfl,k3⟩;have q:=qnA [a.wholeR (nuP yn)] [b.wholeR (nuP yn)] (by unfold B50;simp) ⟨na h1,trivial⟩ U3;simp only[qq8,qrY] at q
 have q':Fn prog 69 [.sl true [(a.wholeR (nuP yn)).v],.sl true [(b.wholeR (nuP yn)).v]] U3 (.bool (decide ([a.wholeR (nuP yn)]=[b.wholeR (nuP yn)]))):=by
  refine qt.weakA ?_;simp only[V.weakL,V.weak,Sm.v_weak];exact q
 simp[Sm.fits1];refine Qs q' ?_;simp[QZ,zW,yp,ldS,g3,c1,d1];exact qf rfl ⟨by simp[qo,h1,h2],(kS.trans hk).trans (k2.trans k3)⟩
section
variable {p:Pw} {f:Nat→Bz} (hn:p.nm=none) (hc:p.cl=none) (hf:∀k x,p.f k x=f k)
include hf
theorem Yz(sc:Scs)(x:Bz):ZF p sc x=zH f sc x:=by
 unfold ZF zH;cases sc.at x <;> simp[hf]
theorem Yu(sc:Scs)(l:List Bz):l.map (ZF p sc)=l.map (zH f sc):=qrx fun x _=>Yz hf sc x
include hn
mutual
theorem Ex.wr_w(sc:Scs)(tg:Bool):∀x:Ex,x.wr p sc tg=x.w f sc
 | .mk k o n m e t a=>by
  rw[Ex.wr,Ex.w,Ex.wrl_w sc false a];unfold Pw.nmE;rw[hn];simp only[Ex.kind,Ex.op,Ex.n,Ex.man,Ex.exp,Ex.text,Ex.args,Yz hf];split <;> rfl
theorem Ex.wrl_w(sc:Scs)(tg:Bool):∀l:List Ex,Ex.wrl p sc tg l=Ex.wl f sc l
 | []=>rfl
 | x::l=>by rw[Ex.wrl,Ex.wl,Ex.wr_w sc tg x,Ex.wrl_w sc tg l]
end
theorem El.wr_w(sc:Scs)(e:El):e.wr p sc=e.w f sc:=by
 unfold El.wr El.w;rw[Ex.wrl_w hn hf,Ex.wl_map]
theorem Fo.wr_w(sc:Scs)(x:Fo):x.wr p sc=x.w f sc:=by
 unfold Fo.wr Fo.w;rw[Yz hf]
end
theorem Sm.valid_block{nm:Bz→Bool}{l:List Bz}{k:Int}{t:Bz}{g e:List Ex}{h:List El}{d:List De}{b:List Sm}(v:(Pa.st (.mk l k t g e h d b)).valid nm=true):
  (k=7→g=[]∧e=[]∧h=[])∧(k=8→g=[]∧e=[]∧h=[]∧d=[])∧(k≠7→k≠8→d=[]):=by
 have h1:=(Pa.valid_iff.1 v).1;simp only[Pa.vOwn,Sm.vOwn,qq5] at h1;have h1:=h1.2;refine ⟨?_,?_,?_⟩
 ·rintro rfl;simp at h1;simp[h1]
 ·rintro rfl;simp at h1;simp[h1]
 ·intro h7 h8
  repeat' split at h1
  all_goals first
   | (simp at h1;done)
   | (simp at h1;simp[h1];done)
   | omega
theorem De.valid_proc{nm:Bz→Bool}{k:Int}{o:Bool}{t:Int}{n:List Bz}{e:List Ex}{f:List Fo}{b:List Sm}(v:(Pa.de (.mk k o t n e f b)).valid nm=true):
  (k=4→e=[])∧(k≠4→f=[]∧b=[]):=by
 have h1:=(Pa.valid_iff.1 v).1;simp only[Pa.vOwn,De.vOwn,qq5] at h1;have h1:=h1.2;refine ⟨?_,?_⟩
 ·rintro rfl;simp at h1;simp[h1]
 ·intro h4
  repeat' split at h1
  all_goals first
   | (simp at h1;done)
   | (simp at h1;simp[h1];done)
   | omega
section
variable {p:Pw} {f:Nat→Bz} (hn:p.nm=none) (hc:p.cl=none) (hf:∀k x,p.f k x=f k) {nm:Bz→Bool}
include hn hc hf
mutual
theorem Sm.wr_w:∀(s:Sm) (sc:Scs) (n:Nat),(Pa.st s).valid nm=true→s.wr p sc n=s.w f sc n
 | .mk l k t g e h d b,sc,n,v=>by
  obtain ⟨v7,v8,v9⟩:=Sm.valid_block v;have vd:=Sm.valid_decls v;have vb:=Sm.valid_body v;simp only[Sm.decls,Sm.body] at vd vb;rw[Sm.wr,Sm.w];by_cases h7:k=7
  ·obtain ⟨rfl,rfl,rfl⟩:=v7 h7;rw[if_pos h7,if_pos h7,Yu hf,De.wrl_w d _ _ _ vd,Sm.wrl_w b _ _ vb];rfl
  ·rw[if_neg h7,if_neg h7];by_cases h8:k=8
   ·obtain ⟨rfl,rfl,rfl,rfl⟩:=v8 h8;rw[if_pos h8,if_pos h8,Yu hf,Sm.wrl_w b _ _ vb];rfl
   ·obtain rfl:=v9 h7 h8;have hcl:p.clE sc k t=if k=6 then zH f sc t else t:=by unfold Pw.clE;rw[hc];simp only[Yz hf]
    rw[if_neg h8,if_neg h8,Yu hf,Ex.wrl_w hn hf,Ex.wrl_w hn hf,Sm.wr1_w b _ _ vb,hcl,qrx fun x _=>El.wr_w hn hf sc x]
theorem De.wr_w:∀(s:De) (own sc:Scs) (n:Nat),(Pa.de s).valid nm=true→s.wr p own sc n=s.w f own sc n
 | .mk k o t ns e fo b,own,sc,n,v=>by
  obtain ⟨v4,v5⟩:=De.valid_proc v;have vb:=De.valid_body v;simp only[De.body] at vb;rw[De.wr,De.w];by_cases h4:k=4
  ·obtain rfl:=v4 h4;rw[if_pos h4,if_pos h4,Yu hf,Sm.wr1_w b _ _ vb,qrx fun x _=>Fo.wr_w hn hf _ x];rfl
  ·obtain ⟨rfl,rfl⟩:=v5 h4;rw[if_neg h4,if_neg h4,Yu hf,Ex.wrl_w hn hf]
theorem De.wrl_w:∀(l:List De) (own sc:Scs) (n:Nat),(∀x,x∈l→(Pa.de x).valid nm=true)→De.wrl p own sc n l=De.wl f own sc n l
 | [],_,_,_,_=>rfl
 | x::l,own,sc,n,v=>by rw[De.wrl,De.wl,De.wr_w x own sc n (v x (by simp)),De.wrl_w l own sc _ fun y hy=>v y (by simp[hy])]
theorem Sm.wrl_w:∀(l:List Sm) (sc:Scs) (n:Nat),(∀x,x∈l→(Pa.st x).valid nm=true)→Sm.wrl p sc n l=Sm.wl f sc n l
 | [],_,_,_=>rfl
 | x::l,sc,n,v=>by rw[Sm.wrl,Sm.wl,Sm.wr_w x sc n (v x (by simp)),Sm.wrl_w l sc _ fun y hy=>v y (by simp[hy])]
theorem Sm.wr1_w:∀(l:List Sm) (sc:Scs) (n:Nat),(∀x,x∈l→(Pa.st x).valid nm=true)→Sm.wr1 p sc n l=Sm.w1 f sc n l
 | [],_,_,_=>rfl
 | x::l,sc,n,v=>by rw[Sm.wr1,Sm.w1,Sm.wr_w x _ _ (v x (by simp)),Sm.wr1_w l sc _ fun y hy=>v y (by simp[hy])]
end
theorem Sm.wholeR_w(s:Sm)(v:(Pa.st s).valid nm=true):s.wholeR p=s.whole f:=Sm.wr_w hn hc hf s _ _ v
end
def Pbd(N:Nat)(sc:Scs):Prop:=∀x k,sc.at x=some k→k<N
theorem qan(base:Nat):∀(l:List Bz) (s:Sco) (n:Nat),(∀e,e∈s→e.2<base+s.length)→n=base+s.length→∀e,e∈binds l s n→e.2<base+(binds l s n).length
 | [],s,n,h,_=>h
 | x::l,s,n,h,hn=>by
  simp only[binds];split
  ·exact qan base l s n h hn
  ·refine qan base l _ _ (fun e he=>?_) (by simp;omega);rcases qq0.1 he with he|he
   ·have:=h e he;simp;omega
   ·simp at he;subst he;simp;omega
theorem Pbd.bind{N:Nat}{sc:Scs}(h:Pbd N sc)(l:List Bz)(n:Nat)(hn:n+(qd l n).length≤N):Pbd N (qd l n::sc):=by
 intro x k hk;unfold Scs.at at hk
 cases ha:Sco.at (qd l n) x with
 | none=>rw[ha] at hk;exact h x k hk
 | some j=>
  rw[ha] at hk;cases hk;unfold Sco.at at ha;rw[qq3] at ha;obtain ⟨e,he,rfl⟩:=ha;have:=qan n l [] n (by simp) (by simp) e (qsH he);unfold qd at hn;omega
structure RwOk(r:Rp)(g:Nat→Bz)(N:Nat):Prop where
 fresh:∀k,k<N→r.fresh[k]?=some (g k)
 fro:r.fro=[]
theorem yj(l:List Bz)(n:Nat):(qd l n).length=(qd l 0).length:=qq l n 0
section
variable {r:Rp} {g:Nat→Bz} {N:Nat} (ok:RwOk r g N) {nm:Bz→Bool}
include ok
theorem qc9(sc:Scs)(x:Bz):rmt r sc x=none:=by
 unfold rmt mt;rw[ok.fro];cases sc.at x <;> simp[mtL]
theorem Yj{sc:Scs}(h:Pbd N sc)(x:Bz):qdc r sc x=zH g sc x:=by
 unfold qdc zH
 cases ha:sc.at x with
 | none=>rfl
 | some k=>simp[ok.fresh k (h x k ha)]
theorem jx{sc:Scs}(h:Pbd N sc)(x:Bz):jb r sc x=zH g sc x:=by
 unfold jb;rw[qc9 ok];exact Yj ok h x
theorem Yl{sc:Scs}(h:Pbd N sc)(l:List Bz):l.map (qdc r sc)=l.map (zH g sc):=qrx fun x _=>Yj ok h x
mutual
theorem Ex.rw_w{sc:Scs}(h:Pbd N sc):∀x:Ex,(Pa.ex x).valid nm=true→x.rw r sc=x.w g sc
 | .mk k o n m e t a,v=>by
  have va:=Ex.valid_args v;simp only[Ex.args] at va;have h1:=(Pa.valid_iff.1 v).1;rw[Ex.rw,Ex.w,Ex.rwl_w h a va];by_cases h6:k=6
  ·subst h6;simp[Pa.vOwn,Ex.vOwn] at h1;obtain ⟨⟨⟨⟨_,rfl⟩,rfl⟩,rfl⟩,rfl,rfl⟩:=h1;rw[if_pos rfl,qc9 ok,Yj ok h];rfl
  ·rw[if_neg h6];by_cases h78:k=7∨k=8
   ·have:Ex.named k=true:=by unfold Ex.named;rcases h78 with rfl|rfl <;> rfl
    rw[if_pos h78,this,jx ok h];rfl
   ·have:Ex.named k=false:=by unfold Ex.named;simp;omega
    rw[if_neg h78,this];rfl
theorem Ex.rwl_w{sc:Scs}(h:Pbd N sc):∀l:List Ex,(∀x,x∈l→(Pa.ex x).valid nm=true)→Ex.rwl r sc l=Ex.wl g sc l
 | [],_=>rfl
 | x::l,v=>by rw[Ex.rwl,Ex.wl,Ex.rw_w h x (v x (by simp)),Ex.rwl_w h l fun y hy=>v y (by simp[hy])]
end
theorem El.rw_w{sc:Scs}(h:Pbd N sc)(e:El)(v:(Pa.el e).valid nm=true):e.rw r sc=e.w g sc:=by
 unfold El.rw El.w;rw[Ex.rwl_w ok h e.exps fun x hx=>(Pa.valid_iff.1 v).2 _ (by simp only[Pa.kids,qrf];exact ⟨x,hx,rfl⟩),Ex.wl_map]
theorem Fo.rw_w{sc:Scs}(h:Pbd N sc)(x:Fo):x.rw r sc=x.w g sc:=by
 unfold Fo.rw Fo.w;rw[Yj ok h]
mutual
theorem Sm.rw_w:∀(s:Sm) (sc:Scs) (n:Nat),Pbd N sc→n+s.nb≤N→(Pa.st s).valid nm=true→s.rw r sc n=s.w g sc n
 | .mk l k t gs e hh d b,sc,n,h,hN,v=>by
  obtain ⟨v7,v8,v9⟩:=Sm.valid_block v;have vd:=Sm.valid_decls v;have vb:=Sm.valid_body v;have vg:=Sm.valid_targets v;have ve:=Sm.valid_exps v;have vh:=Sm.valid_elems v;simp only[Sm.decls,Sm.body,Sm.targets,Sm.exps,Sm.elems] at vd vb vg ve vh;rw[Sm.nb] at hN;rw[Sm.rw,Sm.w];by_cases h7:k=7
  ·rw[if_pos h7] at hN;obtain ⟨rfl,rfl,rfl⟩:=v7 h7;have hb:=yj (qe d b) n;have h':=h.bind (qe d b) n (by omega);rw[if_pos h7,if_pos h7,Yl ok h,De.rwl_w d _ _ _ h' h (by omega) vd,Sm.rwl_w b _ _ h' (by omega) vb]
  ·rw[if_neg h7] at hN;rw[if_neg h7,if_neg h7];by_cases h8:k=8
   ·rw[if_pos h8] at hN;obtain ⟨rfl,rfl,rfl,rfl⟩:=v8 h8;have hb:=yj (qk b) n;rw[if_pos h8,if_pos h8,Yl ok h,Sm.rwl_w b _ _ (h.bind (qk b) n (by omega)) (by omega) vb]
   ·rw[if_neg h8] at hN;obtain rfl:=v9 h7 h8;rw[if_neg h8,if_neg h8,Yl ok h,Ex.rwl_w ok h gs vg,Ex.rwl_w ok h e ve,Sm.rw1_w b _ _ h (by omega) vb,qrx fun x hx=>El.rw_w ok h x (vh x hx),jx ok h]
theorem De.rw_w:∀(s:De) (own sc:Scs) (n:Nat),Pbd N own→Pbd N sc→n+s.nb≤N→(Pa.de s).valid nm=true→s.rw r own sc n=s.w g own sc n
 | .mk k o t ns e fo b,own,sc,n,h,h2,hN,v=>by
  obtain ⟨v4,v5⟩:=De.valid_proc v;have vb:=De.valid_body v;have ve:=De.valid_exps v;simp only[De.body,De.exps] at vb ve;rw[De.nb] at hN;rw[De.rw,De.w];by_cases h4:k=4
  ·rw[if_pos h4] at hN;obtain rfl:=v4 h4;have hb:=yj (fo.map Fo.name) n;have h':=h.bind (fo.map Fo.name) n (by omega);rw[if_pos h4,if_pos h4,Yl ok h,Sm.rw1_w b _ _ h' (by omega) vb,qrx fun x _=>Fo.rw_w ok h' x];rfl
  ·obtain ⟨rfl,rfl⟩:=v5 h4;have h':Pbd N (if k=2 then sc else own):=by split <;> assumption
   rw[if_neg h4,if_neg h4,Yl ok h,Ex.rwl_w ok h' e ve]
theorem De.rwl_w:∀(l:List De) (own sc:Scs) (n:Nat),Pbd N own→Pbd N sc→n+De.nbl l≤N→(∀x,x∈l→(Pa.de x).valid nm=true)→De.rwl r own sc n l=De.wl g own sc n l
 | [],_,_,_,_,_,_,_=>rfl
 | x::l,own,sc,n,h,h2,hN,v=>by
  rw[De.nbl] at hN;rw[De.rwl,De.wl,De.rw_w x own sc n h h2 (by omega) (v x (by simp)),De.rwl_w l own sc _ h h2 (by omega) fun y hy=>v y (by simp[hy])]
theorem Sm.rwl_w:∀(l:List Sm) (sc:Scs) (n:Nat),Pbd N sc→n+Sm.nbl l≤N→(∀x,x∈l→(Pa.st x).valid nm=true)→Sm.rwl r sc n l=Sm.wl g sc n l
 | [],_,_,_,_,_=>rfl
 | x::l,sc,n,h,hN,v=>by
  rw[Sm.nbl] at hN;rw[Sm.rwl,Sm.wl,Sm.rw_w x sc n h (by omega) (v x (by simp)),Sm.rwl_w l sc _ h (by omega) fun y hy=>v y (by simp[hy])]
theorem Sm.rw1_w:∀(l:List Sm) (sc:Scs) (n:Nat),Pbd N sc→n+Sm.nb1 l≤N→(∀x,x∈l→(Pa.st x).valid nm=true)→Sm.rw1 r sc n l=Sm.w1 g sc n l
 | [],_,_,_,_,_=>rfl
 | x::l,sc,n,h,hN,v=>by
  rw[Sm.nb1] at hN;have hb:=yj x.labels n;rw[Sm.rw1,Sm.w1,Sm.rw_w x _ _ (h.bind x.labels n (by omega)) (by omega) (v x (by simp)),Sm.rw1_w l sc _ h (by omega) fun y hy=>v y (by simp[hy])]
end
end
theorem kP{l:List Bz}(h:okS l){f:Bz→Bz}(hf:∀x,x∈l→(f x).size≤B50):okS (l.map f):=by
 refine ⟨by rw[qq2];exact h.1,fun s hs=>?_⟩;obtain ⟨x,hx,rfl⟩:=qrf.1 hs;exact hf x hx
theorem Sm.wl_len(f:Nat→Bz)(sc:Scs):∀(m:List Sm) (n:Nat),(Sm.wl f sc n m).length=m.length
 | [],_=>by rw[Sm.wl]
 | x::m,n=>by simp only[Sm.wl,qrk,Sm.wl_len f sc m]
theorem Sm.w1_len(f:Nat→Bz)(sc:Scs):∀(m:List Sm) (n:Nat),(Sm.w1 f sc n m).length=m.length
 | [],_=>by rw[Sm.w1]
 | x::m,n=>by simp only[Sm.w1,qrk,Sm.w1_len f sc m]
theorem De.wl_len(f:Nat→Bz)(own sc:Scs):∀(m:List De) (n:Nat),(De.wl f own sc n m).length=m.length
 | [],_=>by rw[De.wl]
 | x::m,n=>by simp only[De.wl,qrk,De.wl_len f own sc m]
section
variable {f:Nat→Bz} {N:Nat} (hf:∀k,k<N→(f k).size≤B50)
include hf
theorem Zr{sc:Scs}(h:Pbd N sc){x:Bz}(hx:x.size≤B50):(zH f sc x).size≤B50:=by
 unfold zH
 cases ha:sc.at x with
 | none=>exact hx
 | some k=>exact hf k (h x k ha)
mutual
theorem Ex.w_ok{sc:Scs}(h:Pbd N sc):∀x:Ex,x.ok→(x.w f sc).ok
 | .mk k o n m e t a,v=>by
  obtain ⟨h1,h2,h3⟩:=v;rw[Ex.w];refine ⟨?_,by rw[Ex.wl_map,qq2];exact h2,Ex.wl_ok h a h3⟩;split
  ·exact Zr hf h h1
  ·exact h1
theorem Ex.wl_ok{sc:Scs}(h:Pbd N sc):∀l:List Ex,Ex.okL l→Ex.okL (Ex.wl f sc l)
 | [],_=>trivial
 | x::l,⟨h1,h2⟩=>⟨Ex.w_ok h x h1,Ex.wl_ok h l h2⟩
end
theorem El.w_ok{sc:Scs}(h:Pbd N sc)(e:El)(v:e.ok):(e.w f sc).ok:=by
 have:=Ex.wl_ok hf h e.exps v.2;rw[Ex.wl_map] at this;exact ⟨by unfold El.w;rw[qq2];exact v.1,this⟩
mutual
theorem Sm.w_ok:∀(s:Sm) (sc:Scs) (n:Nat),Pbd N sc→n+s.nb≤N→s.ok→(s.w f sc n).ok
 | .mk l k t gs e hh d b,sc,n,h,hN,v=>by
  have V:=(Sm.ok_iff _).1 v;have hl:=kP V.labels fun x hx=>Zr hf h (V.labels.2 x hx)
  rw[Sm.nb] at hN;rw[Sm.w];by_cases h7:k=7
  ·rw[if_pos h7] at hN;have hb:=yj (qe d b) n;have h':=h.bind (qe d b) n (by omega);rw[if_pos h7];refine (Sm.ok_iff _).2 ⟨hl,V.text,⟨qrA _,trivial⟩,⟨qrA _,trivial⟩,⟨qrA _,fun x hx=>by cases hx⟩,⟨?_,De.wl_ok d _ _ _ h' h (by omega) V.decls.2⟩,?_,Sm.wl_ok b _ _ h' (by omega) V.body.2⟩
   ·have:=V.decls.1;simp only[Sm.decls] at this ⊢;rw[De.wl_len];exact this
   ·have:=V.body.1;simp only[Sm.body] at this ⊢;rw[Sm.wl_len];exact this
  ·rw[if_neg h7] at hN;rw[if_neg h7];by_cases h8:k=8
   ·rw[if_pos h8] at hN;have hb:=yj (qk b) n;rw[if_pos h8];refine (Sm.ok_iff _).2 ⟨hl,V.text,⟨qrA _,trivial⟩,⟨qrA _,trivial⟩,⟨qrA _,fun x hx=>by cases hx⟩,⟨qrA _,trivial⟩,?_,Sm.wl_ok b _ _ (h.bind _ _ (by omega)) (by omega) V.body.2⟩;have:=V.body.1;simp only[Sm.body] at this ⊢;rw[Sm.wl_len];exact this
   ·rw[if_neg h8] at hN;rw[if_neg h8];refine (Sm.ok_iff _).2 ⟨hl,?_,⟨?_,Ex.wl_ok hf h gs V.targets.2⟩,⟨?_,Ex.wl_ok hf h e V.exps.2⟩,⟨?_,?_⟩,⟨qrA _,trivial⟩,?_,Sm.w1_ok b _ _ h (by omega) V.body.2⟩
    ·have:=V.text;simp only[Sm.text] at this ⊢;split
     ·exact Zr hf h this
     ·exact this
    ·have:=V.targets.1;simp only[Sm.targets] at this ⊢;rw[Ex.wl_map,qq2];exact this
    ·have:=V.exps.1;simp only[Sm.exps] at this ⊢;rw[Ex.wl_map,qq2];exact this
    ·have:=V.elems.1;simp only[Sm.elems] at this ⊢;rw[qq2];exact this
    ·intro x hx;simp only[Sm.elems] at hx;obtain ⟨y,hy,rfl⟩:=qrf.1 hx;exact El.w_ok hf h y (V.elems.2 y hy)
    ·have:=V.body.1;simp only[Sm.body] at this ⊢;rw[Sm.w1_len];exact this
theorem De.w_ok:∀(s:De) (own sc:Scs) (n:Nat),Pbd N own→Pbd N sc→n+s.nb≤N→s.ok→(s.w f own sc n).ok
 | .mk k o t ns e fo b,own,sc,n,h,h2,hN,v=>by
  have V:=(De.ok_iff _).1 v;have hl:=kP V.names fun x hx=>Zr hf h (V.names.2 x hx)
  rw[De.nb] at hN;rw[De.w];by_cases h4:k=4
  ·rw[if_pos h4] at hN;have hb:=yj (fo.map Fo.name) n;have h':=h.bind (fo.map Fo.name) n (by omega);rw[if_pos h4];refine (De.ok_iff _).2 ⟨hl,⟨qrA _,trivial⟩,⟨?_,?_⟩,?_,Sm.w1_ok b _ _ h' (by omega) V.body.2⟩
   ·have:=V.formals.1;simp only[De.formals] at this ⊢;rw[qq2];exact this
   ·intro x hx;simp only[De.formals] at hx;obtain ⟨y,hy,rfl⟩:=qrf.1 hx;exact Zr hf h' (V.formals.2 y hy)
   ·have:=V.body.1;simp only[De.body] at this ⊢;rw[Sm.w1_len];exact this
  ·have h':Pbd N (if k=2 then sc else own):=by split <;> assumption
   rw[if_neg h4];refine (De.ok_iff _).2 ⟨hl,⟨?_,Ex.wl_ok hf h' e V.exps.2⟩,⟨qrA _,fun x hx=>by cases hx⟩,qrA _,trivial⟩;have:=V.exps.1;simp only[De.exps] at this ⊢;rw[Ex.wl_map,qq2];exact this
theorem De.wl_ok:∀(l:List De) (own sc:Scs) (n:Nat),Pbd N own→Pbd N sc→n+De.nbl l≤N→De.okL l→De.okL (De.wl f own sc n l)
 | [],_,_,_,_,_,_,_=>by rw[De.wl];exact trivial
 | x::l,own,sc,n,h,h2,hN,v=>by
  rw[De.nbl] at hN;rw[De.okL] at v;rw[De.wl,De.okL];exact ⟨De.w_ok x own sc n h h2 (by omega) v.1,De.wl_ok l own sc _ h h2 (by omega) v.2⟩
theorem Sm.wl_ok:∀(l:List Sm) (sc:Scs) (n:Nat),Pbd N sc→n+Sm.nbl l≤N→Sm.okL l→Sm.okL (Sm.wl f sc n l)
 | [],_,_,_,_,_=>by rw[Sm.wl];exact trivial
 | x::l,sc,n,h,hN,v=>by
  rw[Sm.nbl] at hN;rw[Sm.okL] at v;rw[Sm.wl,Sm.okL];exact ⟨Sm.w_ok x sc n h (by omega) v.1,Sm.wl_ok l sc _ h (by omega) v.2⟩
theorem Sm.w1_ok:∀(l:List Sm) (sc:Scs) (n:Nat),Pbd N sc→n+Sm.nb1 l≤N→Sm.okL l→Sm.okL (Sm.w1 f sc n l)
 | [],_,_,_,_,_=>by rw[Sm.w1];exact trivial
 | x::l,sc,n,h,hN,v=>by
  rw[Sm.nb1] at hN;rw[Sm.okL] at v;have hb:=yj x.labels n;rw[Sm.w1,Sm.okL];exact ⟨Sm.w_ok x _ _ (h.bind x.labels n (by omega)) (by omega) v.1,Sm.w1_ok l sc _ h (by omega) v.2⟩
end
theorem Sm.whole_ok(s:Sm)(hN:Sm.nb1 [s]≤N)(v:s.ok):(s.whole f).ok:=by
 simp only[Sm.nb1,qsV] at hN;have hb:Pbd N [qd s.labels 0]:=Pbd.bind (sc:=[]) (fun x k h=>by cases h) s.labels 0 (by omega);exact Sm.w_ok hf s _ _ hb (by omega) v
end
theorem qgX{l:List Ex}{deep n:Int}(h:n≤0):Ex.leftL l deep n≤0:=by
 unfold Ex.leftL;split
 ·omega
 ·rw[Ex.leftG_neg l deep n h];exact h
mutual
theorem Ex.left_size:∀(x:Ex) (deep n:Int),0<x.left deep n→x.left deep n=n - (Pa.ex x).size
 | .mk k o n' m e t a,deep,n,h=>by
  have hsz:(Pa.ex (.mk k o n' m e t a)).size=1+qK (a.map Pa.ex):=by rw[Pa.size_eq];rfl
  rw[Ex.left] at h ⊢;split at h
  ·omega
  ·rename_i hd;rw[if_neg hd,Ex.leftG_size a _ _ h];omega
theorem Ex.leftG_size:∀(l:List Ex) (deep n:Int),0<Ex.leftG l deep n→Ex.leftG l deep n=n - qK (l.map Pa.ex)
 | [],_,n,h=>by simp[Ex.leftG]
 | x::l,deep,n,h=>by
  rw[Ex.leftG] at h ⊢;split at h
  ·rename_i h0;rw[if_pos h0];by_cases hx:0<x.left deep n
   ·rw[Ex.leftG_size l _ _ h,Ex.left_size x deep n hx,qq8,sizes_cons];omega
   ·rw[Ex.leftG_neg l _ _ (by omega)] at h;omega
  ·omega
end
theorem Ex.leftL_size(l:List Ex)(deep n:Int)(h:0<Ex.leftL l deep n):Ex.leftL l deep n=n - qK (l.map Pa.ex):=by
 unfold Ex.leftL at h ⊢;split at h
 ·omega
 ·rename_i hd;rw[if_neg hd,Ex.leftG_size l _ _ h]
theorem El.leftG_size:∀(l:List El) (deep n:Int),0<El.leftG l deep n→El.leftG l deep n=n - qK (l.map Pa.el)
 | [],_,n,h=>by simp[El.leftG]
 | x::l,deep,n,h=>by
  have hsz:(Pa.el x).size=1+qK (x.exps.map Pa.ex):=by rw[Pa.size_eq];rfl
  rw[El.leftG] at h ⊢;split at h
  ·rename_i h0;rw[if_pos h0];by_cases hx:0<Ex.leftL x.exps (deep+1) (n - 1)
   ·rw[El.leftG_size l _ _ h,Ex.leftL_size _ _ _ hx,qq8,sizes_cons];omega
   ·have:El.leftG l deep (Ex.leftL x.exps (deep+1) (n - 1))=Ex.leftL x.exps (deep+1) (n - 1):=by cases l <;> simp[El.leftG,hx]
    rw[this] at h;omega
  ·omega
theorem El.leftG_neg'{l:List El}{deep n:Int}(h:¬ 0<n):El.leftG l deep n=n:=by cases l <;> simp[El.leftG,h]
theorem De.leftG_neg'{l:List De}{deep n:Int}(h:¬ 0<n):De.leftG l deep n=n:=by cases l <;> simp[De.leftG,h]
theorem Sm.leftG_neg'{l:List Sm}{deep n:Int}(h:¬ 0<n):Sm.leftG l deep n=n:=by cases l <;> simp[Sm.leftG,h]
theorem Sm.size_parts'(s:Sm):(Pa.st s).size=1+s.labels.length+qK (s.targets.map Pa.ex)+qK (s.exps.map Pa.ex)+qK (s.elems.map Pa.el)+qK (s.decls.map Pa.de)+qK (s.body.map Pa.st):=by
 rw[Pa.size_eq];simp only[Pa.own,Pa.kids,zm];omega
theorem De.size_parts'(d:De):(Pa.de d).size=1+d.names.length+d.formals.length+qK (d.exps.map Pa.ex)+qK (d.body.map Pa.st):=by
 rw[Pa.size_eq];simp only[Pa.own,Pa.kids,zm];omega
mutual
theorem Sm.left_size:∀(s:Sm) (deep n:Int),0<s.left deep n→s.left deep n=n - (Pa.st s).size
 | .mk l k t g e f d b,deep,n,h=>by
  have hsz:=Sm.size_parts' (.mk l k t g e f d b);simp only[Sm.labels,Sm.targets,Sm.exps,Sm.elems,Sm.decls,Sm.body] at hsz;rw[Sm.left] at h ⊢;split at h
  ·omega
  ·rename_i hd;rw[if_neg hd];have h5:=Sm.leftG_size b _ _ h
   have h4:0<De.leftG d deep (El.leftG f deep (Ex.leftL g (deep+1) (Ex.leftL e (deep+1) (n - 1 - l.length)))):=by
    by_cases hh:0<De.leftG d deep (El.leftG f deep (Ex.leftL g (deep+1) (Ex.leftL e (deep+1) (n - 1 - l.length))))
    ·exact hh
    ·rw[Sm.leftG_neg' hh] at h;exact h
   have h4':=De.leftG_size d _ _ h4
   have h3:0<El.leftG f deep (Ex.leftL g (deep+1) (Ex.leftL e (deep+1) (n - 1 - l.length))):=by
    by_cases hh:0<El.leftG f deep (Ex.leftL g (deep+1) (Ex.leftL e (deep+1) (n - 1 - l.length)))
    ·exact hh
    ·rw[De.leftG_neg' hh] at h4;exact h4
   have h3':=El.leftG_size f _ _ h3
   have h2:0<Ex.leftL g (deep+1) (Ex.leftL e (deep+1) (n - 1 - l.length)):=by
    by_cases hh:0<Ex.leftL g (deep+1) (Ex.leftL e (deep+1) (n - 1 - l.length))
    ·exact hh
    ·rw[El.leftG_neg' hh] at h3;exact h3
   have h2':=Ex.leftL_size g _ _ h2
   have h1:0<Ex.leftL e (deep+1) (n - 1 - l.length):=by
    by_cases hh:0<Ex.leftL e (deep+1) (n - 1 - l.length)
    ·exact hh
    ·have:=qgX (l:=g) (deep:=deep+1) (n:=Ex.leftL e (deep+1) (n - 1 - l.length)) (by omega);omega
   have h1':=Ex.leftL_size e _ _ h1;omega
theorem De.left_size:∀(s:De) (deep n:Int),0<s.left deep n→s.left deep n=n - (Pa.de s).size
 | .mk k o t nm e f b,deep,n,h=>by
  have hsz:=De.size_parts' (.mk k o t nm e f b);simp only[De.names,De.formals,De.exps,De.body] at hsz;rw[De.left] at h ⊢;have h5:=Sm.leftG_size b _ _ h
  have h1:0<Ex.leftL e (deep+1) (n - 1 - nm.length - f.length):=by
   by_cases hh:0<Ex.leftL e (deep+1) (n - 1 - nm.length - f.length)
   ·exact hh
   ·rw[Sm.leftG_neg' hh] at h;exact h
  have h1':=Ex.leftL_size e _ _ h1;omega
theorem De.leftG_size:∀(l:List De) (deep n:Int),0<De.leftG l deep n→De.leftG l deep n=n - qK (l.map Pa.de)
 | [],_,n,h=>by simp[De.leftG]
 | x::l,deep,n,h=>by
  rw[De.leftG] at h ⊢;split at h
  ·rename_i h0;rw[if_pos h0];by_cases hx:0<x.left deep n
   ·rw[De.leftG_size l _ _ h,De.left_size x deep n hx,qq8,sizes_cons];omega
   ·rw[De.leftG_neg' hx] at h;omega
  ·omega
theorem Sm.leftG_size:∀(l:List Sm) (deep n:Int),0<Sm.leftG l deep n→Sm.leftG l deep n=n - qK (l.map Pa.st)
 | [],_,n,h=>by simp[Sm.leftG]
 | x::l,deep,n,h=>by
  rw[Sm.leftG] at h ⊢;split at h
  ·rename_i h0;rw[if_pos h0];by_cases hx:0<x.left deep n
   ·rw[Sm.leftG_size l _ _ h,Sm.left_size x deep n hx,qq8,sizes_cons];omega
   ·rw[Sm.leftG_neg' hx] at h;omega
  ·omega
end
theorem YQ:∀(l:List Bz) (s:Sco) (n:Nat),(binds l s n).length≤s.length+l.length
 | [],s,n=>by simp[binds]
 | x::l,s,n=>by
  simp only[binds];split
  ·have:=YQ l s n;simp;omega
  ·have:=YQ l (s++[(x,n)]) (n+1);simp at this ⊢;omega
theorem JS(l:List Bz)(n:Nat):(qd l n).length≤l.length:=by have:=YQ l [] n;simpa[qd] using this
theorem kK(x:Sm)(l:List Sm):(qk (x::l)).length=x.labels.length+(qk l).length:=by simp[qk]
theorem qbg(x:De)(l:List De):((x::l).flatMap De.names).length=x.names.length+(l.flatMap De.names).length:=by simp
mutual
theorem Sm.nb_size:∀s:Sm,s.labels.length+s.nb≤(Pa.st s).size
 | .mk l k t g e f d b=>by
  have hsz:=Sm.size_parts' (.mk l k t g e f d b);have hd:=De.nbl_size d;have hb:=Sm.nbl_size b;have h1:=Sm.nb1_size b;simp only[Sm.labels,Sm.targets,Sm.exps,Sm.elems,Sm.decls,Sm.body] at hsz ⊢;rw[Sm.nb];split
  ·have:=JS (qe d b) 0;unfold qe at this ⊢;rw[qrd] at this;omega
  ·split
   ·have:=JS (qk b) 0;omega
   ·omega
theorem De.nb_size:∀s:De,s.names.length+s.nb≤(Pa.de s).size
 | .mk k o t nm e f b=>by
  have hsz:=De.size_parts' (.mk k o t nm e f b);have h1:=Sm.nb1_size b;simp only[De.names,De.formals,De.exps,De.body] at hsz ⊢;rw[De.nb];split
  ·have:=JS (f.map Fo.name) 0;rw[qq2] at this;omega
  ·omega
theorem De.nbl_size:∀l:List De,(l.flatMap De.names).length+De.nbl l≤qK (l.map Pa.de)
 | []=>by simp[De.nbl]
 | x::l=>by
  have h1:=De.nb_size x;have h2:=De.nbl_size l;rw[qbg,De.nbl,qq8,sizes_cons];omega
theorem Sm.nbl_size:∀l:List Sm,(qk l).length+Sm.nbl l≤qK (l.map Pa.st)
 | []=>by simp[Sm.nbl,qk]
 | x::l=>by
  have h1:=Sm.nb_size x;have h2:=Sm.nbl_size l;rw[kK,Sm.nbl,qq8,sizes_cons];omega
theorem Sm.nb1_size:∀l:List Sm,Sm.nb1 l≤qK (l.map Pa.st)
 | []=>by simp[Sm.nb1]
 | x::l=>by
  have h1:=Sm.nb_size x;have h2:=Sm.nb1_size l;have h3:=JS x.labels 0;rw[Sm.nb1,qq8,sizes_cons];omega
end
theorem qi6(c:UInt8)(l:List UInt8):((⟨⟨[c]⟩⟩:Bz)++⟨l.toArray⟩).data.toList=c::l:=by
 simp[ByteArray.data_append]
theorem qmJ{c:UInt8}{l:List UInt8}(h:isL c.toNat=false):qb ((⟨⟨[c]⟩⟩:Bz)++⟨l.toArray⟩)=false:=by
 unfold qb;rw[qi6];simp[qiH,h]
theorem ZG(k:Nat):qb (yn k)=false:=qmJ (by decide)
theorem qfR(k:Nat)(hk:k<1000):(yn k).size≤B50:=by
 have:=Jj k k (qqY _);unfold yn B50;have h1:(⟨⟨[35]⟩⟩:Bz).size=1:=rfl;have h2:(⟨(dig k).toArray⟩:Bz).size=(dig k).length:=by simp[ByteArray.size]
 rw[ByteArray.size_append];omega
theorem qI{p:Pa}{nm:Bz→Bool}(h:p.err nm=0):p.fits∧p.valid nm=true:=by
 unfold Pa.err at h;split at h
 ·rename_i hf;split at h
  ·rename_i hv;exact ⟨hf,hv⟩
  ·omega
 ·omega
theorem ky{s:Sm}(h:s.light=true):(Pa.st s).size<150:=by
 unfold Sm.light at h;rw[decide_eq_true_eq] at h;have:=Sm.left_size s 0 150 h;omega
theorem qn6{s:Sm}(h:s.light=true):Sm.nb1 [s]<150:=by
 have h1:=ky h;have h2:=Sm.nb1_size [s];simp at h2;omega
theorem jp{s:Sm}(v:(Pa.st s).valid qb=true):s.wholeR (nuP yn)=s.whole yn:=Sm.wholeR_w rfl rfl (fun _ _=>rfl) s v
end Go.Proofs.YtbifpocccfkhhaaGreatDoor
namespace Go.Proofs.YtbifpocccfkhhaaGreatDoor
open Go Go.ChangeShapes Go.WideShapes Go.ChangeAt Go.RowKit
def CR(W:World)(vs:List V)(cs:List Value):Prop:=vs.length=cs.length∧∀(j:Nat) (v:V) (c:Value),vs[j]?=some v→cs[j]?=some c→VR (E0 W) v c
def Fitw{H:Type}(t:TypeId)(d:DataW H):Prop:=∀n,n∈d.weights Tryz.prog t→n≤reachBytes
theorem reach_le{n:Nat}(h:n≤reachBytes):n≤B50:=by unfold reachBytes at h;unfold B50;omega
section
variable {H:Type} {enc:TypeId×Value→H} {W:World}
theorem weightsAll_mem{e:TypeId}{n:Nat}:∀{l:List (DataW H)} {d:DataW H},d∈l→n∈d.weights Tryz.prog e→n∈DataW.weightsAll Tryz.prog e l
 | x::l,d,hd,hn=>by
  rw[DataW.weightsAll];rcases qrl.1 hd with rfl|hd
  ·exact qq6 _ hn
  ·exact qq9 _ (weightsAll_mem hd hn)
theorem weightsEach_mem{n:Nat}:∀{ts:List TypeId} {l:List (DataW H)} {i:Nat} {t:TypeId} {d:DataW H},ts[i]?=some t→l[i]?=some d→n∈d.weights Tryz.prog t→n∈DataW.weightsEach Tryz.prog ts l
 | t0::ts,d0::l,0,t,d,ht,hd,hn=>by
  simp at ht hd;subst ht;subst hd;rw[DataW.weightsEach];exact qq6 _ hn
 | t0::ts,d0::l,i+1,t,d,ht,hd,hn=>by
  rw[DataW.weightsEach];exact qq9 _ (weightsEach_mem (i:=i) (by simpa using ht) (by simpa using hd) hn)
theorem Fitw.part{t:TypeId}{fs:Array Field}(ht:Tryz.prog.underlying t=some (.struct fs)){l:List (DataW H)}(h:Fitw t (.agg l)){i:Nat}{f:Field}{d:DataW H}(hf:fs[i]?=some f)(hd:l[i]?=some d):Fitw f.type d:=fun n hn=>h n (by
 rw[DataW.weights,ht];exact weightsEach_mem (i:=i) (t:=f.type) (by simp[hf]) hd hn)
theorem Fitw.elem{t e:TypeId}(ht:Tryz.prog.underlying t=some (.slice e)){l r:List (DataW H)}(h:Fitw t (.slice l r)){d:DataW H}(hd:d∈l):Fitw e d:=fun n hn=>h n (by
 rw[DataW.weights,ht];exact qrV _ (qq6 _ (weightsAll_mem hd hn)))
theorem Fitw.len{t e:TypeId}(ht:Tryz.prog.underlying t=some (.slice e))(hb:0<Tryz.prog.bytesOf e){l r:List (DataW H)}(h:Fitw t (.slice l r)):l.length≤B50:=by
 have:=h ((l.length+r.length) * Tryz.prog.bytesOf e) (by rw[DataW.weights,ht];exact qsG ..);refine reach_le (qrt ?_ this)
 calc l.length≤(l.length+r.length) * 1:=by omega
  _≤_:=Nat.mul_le_mul_left _ hb
theorem spot_none{a:Addr}{v:Value}(h:W.cell? a=some v):a.spot=none:=by
 unfold World.cell? at h;split at h
 ·split at h
  ·cases h
  ·rename_i hs;simpa using hs
 ·cases h
theorem add_off{b o k:Nat}:(Addr.add ⟨b,o,none⟩ k)=⟨b,o+k,none⟩:=by
 unfold Addr.add;split
 ·rename_i h;subst h;rfl
 ·rfl
theorem slice_in{α:Type}(f:α→V)(ok:α→Prop){sz:Nat}(hsz:∀a,(f a).cells.length=sz)(hz:0<sz){t e:TypeId}(ht:Tryz.prog.underlying t=some (.slice e))(hc:Tryz.prog.cellsOf e=sz)(hb:0<Tryz.prog.bytesOf e){fuel:Nat}
  (hel:∀n,n<fuel→∀cs (x:DataW H×List MemPlace),DataW.trod enc Tryz.prog W 0 (fun _=>true) true n e cs=some x→Fitw e x.1→∃a,ok a∧CR W (f a).cells cs)
  {cs:List Value} {x:DataW H×List MemPlace} (h:DataW.trod enc Tryz.prog W 0 (fun _=>true) true fuel t cs=some x) (hw:Fitw t x.1):
  ∃l:List α,(∀a,a∈l→ok a)∧l.length≤B50∧∃v,cs=[v]∧VR (E0 W) (.sl false (l.map f)) v:=by
 rcases DataW.trod_slice ht h with ⟨rfl,_⟩|⟨a,len,cap,elems,rest,n,rfl,rfl,rfl,_,hl,_,hlen,h1,h2,_⟩
 ·exact ⟨[],fun a ha=>(by cases ha),qrA _,_,rfl,.slnil _⟩
 obtain ⟨h2a,h2b⟩:=h2 rfl;rw[hc] at h1 h2b;have hle:=Fitw.len ht hb hw;rw[qq2] at hle
 have each:∀i,i<len→∃b,ok b∧∃cs',W.cells? 0 (a.add (i * sz)) sz=some cs'∧CR W (f b).cells cs':=fun i hi=>by
  have hi':i<elems.length:=by omega
  have:=h1 i hi;rw[qqZ hi',qrK] at this;obtain ⟨cs',k1,k2⟩:=this;obtain ⟨b,k3,k4⟩:=hel n (by omega) cs' _ k2 (Fitw.elem ht hw (qrG (qra hi')));exact ⟨b,k3,cs',k1,k4⟩
 by_cases hcap:cap=0
 ·have:len=0:=by omega
  subst hcap;subst this;exact ⟨[],fun a ha=>(by cases ha),qrA _,_,rfl,.slz _ _⟩
 have hspot:a.spot=none:=by
  have read:∀cs',W.cells? 0 (a.add (0 * sz)) sz=some cs'→a.spot=none:=fun cs' k=>by
   obtain ⟨_,q1,q2⟩:=World.cells?_some k;have:=q2 0 hz;have hcs:0<cs'.length:=by omega
   rw[qqZ hcs] at this;have:=spot_none this;simpa[Addr.add] using this
  by_cases h0:0<len
  ·obtain ⟨_,_,cs',k,_⟩:=each 0 h0;exact read cs' k
  ·have hl0:len=0:=by omega
   have:=h2b 0 (by omega);obtain ⟨y0,hy0⟩:∃y,rest[0]?=some y:=⟨_,qqZ (by omega)⟩;rw[hy0,qrK] at this;obtain ⟨cs',k,_⟩:=this;rw[hl0] at k;exact read cs' (by simpa using k)
 obtain ⟨b,o,spot⟩:=a;simp only at hspot;subst hspot;obtain ⟨g,hg⟩:∃g:Fin len→α,∀i,ok (g i)∧∃cs',W.cells? 0 (Addr.add ⟨b,o,none⟩ (i.1 * sz)) sz=some cs'∧CR W (f (g i)).cells cs':=⟨fun i=>Classical.choose (each i.1 i.2),fun i=>Classical.choose_spec (each i.1 i.2)⟩;have hll:(List.ofFn g).length=len:=List.length_ofFn;have hl2:((List.ofFn g).map f).length=len:=by rw[qq2,hll]
 have cell:∀i (hi:i<len) j,j<sz→∃c,W.cell? ⟨b,o+i * sz+j,none⟩=some c∧∀v,(f (g ⟨i,hi⟩)).cells[j]?=some v→VR (E0 W) v c:=fun i hi j hj=>by
  obtain ⟨_,cs',k1,k2,k3⟩:=hg ⟨i,hi⟩;obtain ⟨_,q1,q2⟩:=World.cells?_some k1;have q:=q2 j hj;have hj':j<cs'.length:=by omega
  rw[qqZ hj',add_off,add_off] at q;exact ⟨_,q,fun v hv=>k3 j v _ hv (qqZ hj')⟩
 refine ⟨List.ofFn g,fun a ha=>?_,by omega,_,rfl,?_⟩
 ·obtain ⟨i,rfl⟩:=List.mem_ofFn.1 ha;exact (hg i).1
 ·have:=@VR.sl (E0 W) false ((List.ofFn g).map f) b o cap sz (by omega) (fun h=>by cases h) (fun v hv=>?_) (fun i j hi hj=>?_) (fun i v j c' c hv hc hI=>?_)
  ·rw[hl2] at this;exact this
  ·obtain ⟨y,_,rfl⟩:=qrf.1 hv;exact hsz y
  ·rw[hl2] at hi;obtain ⟨c,hc,_⟩:=cell i hi j hj;simp only[E0,hc];rfl
  ·rw[qq7,qq3] at hv;obtain ⟨y,hy,rfl⟩:=hv;rw[List.getElem?_ofFn] at hy;split at hy
   ·rename_i hi;cases hy;have hj:j<sz:=by have:=(qqT.1 hc).1;rw[hsz] at this;exact this
    obtain ⟨c2,hc2,hv2⟩:=cell i hi j hj;simp only[E0,hc2] at hI;cases hI;exact hv2 _ hc
   ·cases hy
theorem piece{cs l:List Value}{o k i:Nat}(h:(cs.drop o).take k=l)(hi:i<k):cs[o+i]?=l[i]?:=by
 rw[←h,qrr hi,qrB]
theorem CR_of{vs:List V}{cs:List Value}(hl:vs.length=cs.length)(h:∀(j:Nat) (v:V),vs[j]?=some v→∃c,cs[j]?=some c∧VR (E0 W) v c):CR W vs cs:=
 ⟨hl,fun j v c hv hc=>by
  obtain ⟨c',h1,h2⟩:=h j v hv;rw[h1] at hc;cases hc;exact h2⟩
theorem Ex.okL_of:∀{l:List Ex},(∀x,x∈l→x.ok)→Ex.okL l
 | [],_=>trivial
 | x::l,h=>⟨h x (by simp),Ex.okL_of fun y hy=>h y (by simp[hy])⟩
theorem De.okL_of:∀{l:List De},(∀x,x∈l→x.ok)→De.okL l
 | [],_=>by rw[De.okL];exact trivial
 | x::l,h=>by rw[De.okL];exact ⟨h x (by simp),De.okL_of fun y hy=>h y (by simp[hy])⟩
theorem Sm.okL_of:∀{l:List Sm},(∀x,x∈l→x.ok)→Sm.okL l
 | [],_=>by rw[Sm.okL];exact trivial
 | x::l,h=>by rw[Sm.okL];exact ⟨h x (by simp),Sm.okL_of fun y hy=>h y (by simp[hy])⟩
theorem kc3:Tryz.prog.cellsOf 3=1:=by kernel_rfl
theorem kc4t:Tryz.prog.cellsOf 4=1:=by kernel_rfl
theorem kc9:Tryz.prog.cellsOf 9=1:=by kernel_rfl
theorem kc22:Tryz.prog.cellsOf 22=1:=by kernel_rfl
theorem kc23:Tryz.prog.cellsOf 23=1:=by kernel_rfl
theorem kc24t:Tryz.prog.cellsOf 24=1:=by kernel_rfl
theorem kc25t:Tryz.prog.cellsOf 25=1:=by kernel_rfl
theorem kc26t:Tryz.prog.cellsOf 26=1:=by kernel_rfl
theorem kc40t:Tryz.prog.cellsOf 40=1:=by kernel_rfl
theorem kc52t:Tryz.prog.cellsOf 52=2:=by kernel_rfl
theorem kc54:Tryz.prog.cellsOf 54=7:=by kernel_rfl
theorem kc135t:Tryz.prog.cellsOf 135=2:=by kernel_rfl
theorem kc87t:Tryz.prog.cellsOf 87=4:=by kernel_rfl
theorem kc42t:Tryz.prog.cellsOf 42=7:=by kernel_rfl
theorem kc28t:Tryz.prog.cellsOf 28=8:=by kernel_rfl
theorem y9:0<Tryz.prog.bytesOf 9:=by decide+kernel
theorem y54:0<Tryz.prog.bytesOf 54:=by decide+kernel
theorem y135:0<Tryz.prog.bytesOf 135:=by decide+kernel
theorem y87:0<Tryz.prog.bytesOf 87:=by decide+kernel
theorem y42:0<Tryz.prog.bytesOf 42:=by decide+kernel
theorem y28:0<Tryz.prog.bytesOf 28:=by decide+kernel
theorem int_at{n o:Nat}{cs:List Value}{y:DataW H×List MemPlace}(h:DataW.trod enc Tryz.prog W 0 (fun _=>true) true n 3 ((cs.drop o).take (Tryz.prog.cellsOf 3))=some y):∃k,cs[o]?=some (.int .i64 k):=by
 obtain ⟨k,hk,_⟩:=DataW.trod_int Tryz.underlying3 h;rw[kc3] at hk;exact ⟨k,by have:=piece hk (i:=0) (by omega);simpa using this⟩
theorem bool_at{n o:Nat}{cs:List Value}{y:DataW H×List MemPlace}(h:DataW.trod enc Tryz.prog W 0 (fun _=>true) true n 4 ((cs.drop o).take (Tryz.prog.cellsOf 4))=some y):∃k,cs[o]?=some (.bool k):=by
 obtain ⟨k,hk,_⟩:=DataW.trod_bool Tryz.underlying4 h;rw[kc4t] at hk;exact ⟨k,by have:=piece hk (i:=0) (by omega);simpa using this⟩
theorem str_at{n o:Nat}{cs:List Value}{y:DataW H×List MemPlace}(h:DataW.trod enc Tryz.prog W 0 (fun _=>true) true n 9 ((cs.drop o).take (Tryz.prog.cellsOf 9))=some y)(hw:Fitw 9 y.1):∃s:ByteArray,cs[o]?=some (.string s)∧s.size≤B50:=by
 obtain ⟨k,hk,hy,_⟩:=DataW.trod_string Tryz.underlying9 h;rw[kc9] at hk;refine ⟨k,by have:=piece hk (i:=0) (by omega);simpa using this,?_⟩;have:=hw k.size (by rw[hy,DataW.weights];exact qrN.2 (by rw[qr0];rfl));exact reach_le this
theorem slice_at{α:Type}(f:α→V)(ok:α→Prop){sz:Nat}(hsz:∀a,(f a).cells.length=sz)(hz:0<sz){t e:TypeId}(ht:Tryz.prog.underlying t=some (.slice e))(hc:Tryz.prog.cellsOf e=sz)(hb:0<Tryz.prog.bytesOf e)(h1:Tryz.prog.cellsOf t=1){n o:Nat}
  (hel:∀m,m<n→∀cs (x:DataW H×List MemPlace),DataW.trod enc Tryz.prog W 0 (fun _=>true) true m e cs=some x→Fitw e x.1→∃a,ok a∧CR W (f a).cells cs)
  {cs:List Value} {y:DataW H×List MemPlace} (h:DataW.trod enc Tryz.prog W 0 (fun _=>true) true n t ((cs.drop o).take (Tryz.prog.cellsOf t))=some y) (hw:Fitw t y.1):
  ∃l:List α,(∀a,a∈l→ok a)∧l.length≤B50∧∃v,cs[o]?=some v∧VR (E0 W) (.sl false (l.map f)) v:=by
 obtain ⟨l,k1,k2,v,k3,k4⟩:=slice_in f ok hsz hz ht hc hb hel h hw;rw[h1] at k3;exact ⟨l,k1,k2,v,by have:=piece k3 (i:=0) (by omega);simpa using this,k4⟩
theorem strs_el{n:Nat}:∀m,m<n→∀cs (x:DataW H×List MemPlace),DataW.trod enc Tryz.prog W 0 (fun _=>true) true m 9 cs=some x→Fitw 9 x.1→∃s:ByteArray,s.size≤B50∧CR W (V.str s).cells cs:=by
 intro m _ cs x h hw;obtain ⟨k,rfl,hy,_⟩:=DataW.trod_string Tryz.underlying9 h;refine ⟨k,reach_le (hw k.size (by rw[hy,DataW.weights];exact qrN.2 (by rw[qr0];rfl))),rfl,fun j v c hv hc=>?_⟩
 match j,hv,hc with
 | 0,hv,hc=>simp at hv hc;subst hv;subst hc;exact .str k
theorem parts{t:TypeId}{fs:Array Field}(ht:Tryz.prog.underlying t=some (.struct fs)){fuel:Nat}{cs:List Value}{x:DataW H×List MemPlace}(h:DataW.trod enc Tryz.prog W 0 (fun _=>true) true fuel t cs=some x)(hw:Fitw t x.1):
  ∃n,n<fuel∧cs.length=Tryz.prog.cellsOf t∧∀(i:Nat) (f:Field),fs[i]?=some f→∃y:DataW H×List MemPlace,DataW.trod enc Tryz.prog W 0 (fun _=>true) true n f.type ((cs.drop f.offset).take (Tryz.prog.cellsOf f.type))=some y∧Fitw f.type y.1:=by
 obtain ⟨xs,n,rfl,rfl,h1,h2,h3⟩:=DataW.trod_struct ht h;refine ⟨n,by omega,h1,fun i f hf=>?_⟩
 have hi:i<xs.length:=by
  have:=(qrb.1 hf).1;omega
 have:=h3 i f hf;rw[qqZ hi] at this;exact ⟨xs[i],this,Fitw.part ht hw hf (by simp[hi])⟩
theorem ex_in:∀(m fuel:Nat),fuel≤m→∀cs (x:DataW H×List MemPlace),DataW.trod enc Tryz.prog W 0 (fun _=>true) true fuel 54 cs=some x→Fitw 54 x.1→∃a:Ex,a.ok∧CR W a.v.cells cs
 | 0,fuel,hm,cs,x,h,hw=>by
  obtain ⟨n,hn,_⟩:=parts Tryz.underlying54 h hw;omega
 | m+1,fuel,hm,cs,x,h,hw=>by
  obtain ⟨n,hn,hl,hp⟩:=parts Tryz.underlying54 h hw;obtain ⟨y0,p0,q0⟩:=hp 0 _ rfl;obtain ⟨y1,p1,q1⟩:=hp 1 _ rfl;obtain ⟨y2,p2,q2⟩:=hp 2 _ rfl;obtain ⟨y3,p3,q3⟩:=hp 3 _ rfl;obtain ⟨y4,p4,q4⟩:=hp 4 _ rfl;obtain ⟨y5,p5,q5⟩:=hp 5 _ rfl;obtain ⟨k0,e0⟩:=int_at p0;obtain ⟨k1,e1⟩:=int_at p1;obtain ⟨k2,e2⟩:=int_at p2;obtain ⟨n3,hn3,hl3,hp3⟩:=parts Tryz.underlying52 p3 q3;obtain ⟨z0,r0,_⟩:=hp3 0 _ rfl;obtain ⟨z1,r1,_⟩:=hp3 1 _ rfl;obtain ⟨k3,e3⟩:=int_at r0;obtain ⟨k4,e4⟩:=int_at r1;obtain ⟨s,e5,hs⟩:=str_at p4 q4;obtain ⟨l,hlo,hll,v,e6,hv⟩:=slice_at Ex.v Ex.ok (sz:=7) (fun a=>by simp) (by omega) Tryz.underlying23 kc54 y54 kc23 (fun m' hm'=>ex_in m m' (by omega)) p5 q5;have e3:((cs.drop 3).take 2)[0]?=some (.int .i64 k3):=by rw[←kc52t];exact e3
  have e4:((cs.drop 3).take 2)[1]?=some (.int .i64 k4):=by rw[←kc52t];exact e4
  rw[qrr (by omega),qrB] at e3 e4;refine ⟨.mk k0 k1 k2 k3 k4 s l,⟨hs,hll,Ex.okL_of hlo⟩,CR_of ?_ ?_⟩
  ·rw[hl,kc54];simp
  ·intro j w hw';rw[Ex.v_cells] at hw'
   match j,hw' with
   | 0,hw'=>cases hw';exact ⟨_,e0,.int _ _⟩
   | 1,hw'=>cases hw';exact ⟨_,e1,.int _ _⟩
   | 2,hw'=>cases hw';exact ⟨_,e2,.int _ _⟩
   | 3,hw'=>cases hw';exact ⟨_,e3,.int _ _⟩
   | 4,hw'=>cases hw';exact ⟨_,e4,.int _ _⟩
   | 5,hw'=>cases hw';exact ⟨_,e5,.str _⟩
   | 6,hw'=>cases hw';exact ⟨_,e6,hv⟩
theorem el_in{fuel:Nat}{cs:List Value}{x:DataW H×List MemPlace}(h:DataW.trod enc Tryz.prog W 0 (fun _=>true) true fuel 135 cs=some x)(hw:Fitw 135 x.1):∃a:El,a.ok∧CR W a.v.cells cs:=by
 obtain ⟨n,hn,hl,hp⟩:=parts Tryz.underlying135 h hw;obtain ⟨y0,p0,q0⟩:=hp 0 _ rfl;obtain ⟨y1,p1,q1⟩:=hp 1 _ rfl;obtain ⟨k0,e0⟩:=int_at p0;obtain ⟨l,hlo,hll,v,e1,hv⟩:=slice_at Ex.v Ex.ok (sz:=7) (fun a=>by simp) (by omega) Tryz.underlying23 kc54 y54 kc23 (fun m' hm'=>ex_in m' m' (qqY _)) p1 q1;refine ⟨⟨k0,l⟩,⟨hll,Ex.okL_of hlo⟩,CR_of ?_ ?_⟩
 ·rw[hl,kc135t];rfl
 ·intro j w hw';rw[El.v_cells] at hw'
  match j,hw' with
  | 0,hw'=>cases hw';exact ⟨_,e0,.int _ _⟩
  | 1,hw'=>cases hw';exact ⟨_,e1,hv⟩
theorem fo_in{fuel:Nat}{cs:List Value}{x:DataW H×List MemPlace}(h:DataW.trod enc Tryz.prog W 0 (fun _=>true) true fuel 87 cs=some x)(hw:Fitw 87 x.1):∃a:Fo,a.ok∧CR W a.v.cells cs:=by
 obtain ⟨n,hn,hl,hp⟩:=parts Tryz.underlying87 h hw;obtain ⟨y0,p0,q0⟩:=hp 0 _ rfl;obtain ⟨y1,p1,q1⟩:=hp 1 _ rfl;obtain ⟨y2,p2,q2⟩:=hp 2 _ rfl;obtain ⟨y3,p3,q3⟩:=hp 3 _ rfl;obtain ⟨s,e0,hs⟩:=str_at p0 q0;obtain ⟨k1,e1⟩:=bool_at p1;obtain ⟨k2,e2⟩:=int_at p2;obtain ⟨k3,e3⟩:=int_at p3;refine ⟨⟨s,k1,k2,k3⟩,hs,CR_of ?_ ?_⟩
 ·rw[hl,kc87t];rfl
 ·intro j w hw';rw[Fo.v_cells] at hw'
  match j,hw' with
  | 0,hw'=>cases hw';exact ⟨_,e0,.str _⟩
  | 1,hw'=>cases hw';exact ⟨_,e1,.bool _⟩
  | 2,hw'=>cases hw';exact ⟨_,e2,.int _ _⟩
  | 3,hw'=>cases hw';exact ⟨_,e3,.int _ _⟩
theorem exs_at{n o:Nat}{cs:List Value}{y:DataW H×List MemPlace}(h:DataW.trod enc Tryz.prog W 0 (fun _=>true) true n 23 ((cs.drop o).take (Tryz.prog.cellsOf 23))=some y)(hw:Fitw 23 y.1):
  ∃l:List Ex,(l.length≤B50∧Ex.okL l)∧∃v,cs[o]?=some v∧VR (E0 W) (.sl false (l.map Ex.v)) v:=by
 obtain ⟨l,hlo,hll,hv⟩:=slice_at Ex.v Ex.ok (sz:=7) (fun a=>by simp) (by omega) Tryz.underlying23 kc54 y54 kc23 (fun m' hm'=>ex_in m' m' (qqY _)) h hw;exact ⟨l,⟨hll,Ex.okL_of hlo⟩,hv⟩
theorem strs_at{n o:Nat}{cs:List Value}{y:DataW H×List MemPlace}(h:DataW.trod enc Tryz.prog W 0 (fun _=>true) true n 22 ((cs.drop o).take (Tryz.prog.cellsOf 22))=some y)(hw:Fitw 22 y.1):
  ∃l:List ByteArray,okS l∧∃v,cs[o]?=some v∧VR (E0 W) (.sl false (l.map .str)) v:=by
 obtain ⟨l,hlo,hll,hv⟩:=slice_at V.str (fun s=>s.size≤B50) (sz:=1) (fun a=>rfl) (by omega) Tryz.underlying22 kc9 y9 kc22 strs_el h hw;exact ⟨l,⟨hll,hlo⟩,hv⟩
theorem tree_in:∀(m fuel:Nat),fuel≤m→(∀cs (x:DataW H×List MemPlace),DataW.trod enc Tryz.prog W 0 (fun _=>true) true fuel 42 cs=some x→Fitw 42 x.1→∃a:De,a.ok∧CR W a.v.cells cs)∧
  ∀cs (x:DataW H×List MemPlace),DataW.trod enc Tryz.prog W 0 (fun _=>true) true fuel 28 cs=some x→Fitw 28 x.1→∃a:Sm,a.ok∧CR W a.v.cells cs
 | 0,fuel,hm=>by
  refine ⟨fun cs x h hw=>?_,fun cs x h hw=>?_⟩
  ·obtain ⟨n,hn,_⟩:=parts Tryz.underlying42 h hw;omega
  ·obtain ⟨n,hn,_⟩:=parts Tryz.underlying28 h hw;omega
 | m+1,fuel,hm=>by
  refine ⟨fun cs x h hw=>?_,fun cs x h hw=>?_⟩
  ·obtain ⟨n,hn,hl,hp⟩:=parts Tryz.underlying42 h hw;obtain ⟨y0,p0,q0⟩:=hp 0 _ rfl;obtain ⟨y1,p1,q1⟩:=hp 1 _ rfl;obtain ⟨y2,p2,q2⟩:=hp 2 _ rfl;obtain ⟨y3,p3,q3⟩:=hp 3 _ rfl;obtain ⟨y4,p4,q4⟩:=hp 4 _ rfl;obtain ⟨y5,p5,q5⟩:=hp 5 _ rfl;obtain ⟨y6,p6,q6⟩:=hp 6 _ rfl;obtain ⟨k0,e0⟩:=int_at p0;obtain ⟨k1,e1⟩:=bool_at p1;obtain ⟨k2,e2⟩:=int_at p2;obtain ⟨nm,on,v3,e3,h3⟩:=strs_at p3 q3;obtain ⟨ex,oe,v4,e4,h4⟩:=exs_at p4 q4;obtain ⟨fo,of,lf,v5,e5,h5⟩:=slice_at Fo.v Fo.ok (sz:=4) (fun a=>rfl) (by omega) Tryz.underlying40 kc87t y87 kc40t (fun m' hm' cs x=>fo_in) p5 q5;obtain ⟨bo,ob,lb,v6,e6,h6⟩:=slice_at Sm.v Sm.ok (sz:=8) (fun a=>by simp) (by omega) Tryz.underlying26 kc28t y28 kc26t (fun m' hm'=>(tree_in m m' (by omega)).2) p6 q6;refine ⟨.mk k0 k1 k2 nm ex fo bo,(De.ok_iff _).2 ⟨on,oe,⟨lf,of⟩,⟨lb,Sm.okL_of ob⟩⟩,CR_of ?_ ?_⟩
   ·rw[hl,kc42t];simp
   ·intro j w hw';rw[De.v_cells] at hw'
    match j,hw' with
    | 0,hw'=>cases hw';exact ⟨_,e0,.int _ _⟩
    | 1,hw'=>cases hw';exact ⟨_,e1,.bool _⟩
    | 2,hw'=>cases hw';exact ⟨_,e2,.int _ _⟩
    | 3,hw'=>cases hw';exact ⟨_,e3,h3⟩
    | 4,hw'=>cases hw';exact ⟨_,e4,h4⟩
    | 5,hw'=>cases hw';exact ⟨_,e5,h5⟩
    | 6,hw'=>cases hw';exact ⟨_,e6,h6⟩
  ·obtain ⟨n,hn,hl,hp⟩:=parts Tryz.underlying28 h hw;obtain ⟨y0,p0,q0⟩:=hp 0 _ rfl;obtain ⟨y1,p1,q1⟩:=hp 1 _ rfl;obtain ⟨y2,p2,q2⟩:=hp 2 _ rfl;obtain ⟨y3,p3,q3⟩:=hp 3 _ rfl;obtain ⟨y4,p4,q4⟩:=hp 4 _ rfl;obtain ⟨y5,p5,q5⟩:=hp 5 _ rfl;obtain ⟨y6,p6,q6⟩:=hp 6 _ rfl;obtain ⟨y7,p7,q7⟩:=hp 7 _ rfl;obtain ⟨lb,ol,v0,e0,h0⟩:=strs_at p0 q0;obtain ⟨k1,e1⟩:=int_at p1;obtain ⟨s,e2,hs⟩:=str_at p2 q2;obtain ⟨tg,ot,v3,e3,h3⟩:=exs_at p3 q3;obtain ⟨ex,oe,v4,e4,h4⟩:=exs_at p4 q4;obtain ⟨el,oel,lel,v5,e5,h5⟩:=slice_at El.v El.ok (sz:=2) (fun a=>rfl) (by omega) Tryz.underlying24 kc135t y135 kc24t (fun m' hm' cs x=>el_in) p5 q5;obtain ⟨de,od,ld,v6,e6,h6⟩:=slice_at De.v De.ok (sz:=7) (fun a=>by simp) (by omega) Tryz.underlying25 kc42t y42 kc25t (fun m' hm'=>(tree_in m m' (by omega)).1) p6 q6;obtain ⟨bo,ob,lbo,v7,e7,h7⟩:=slice_at Sm.v Sm.ok (sz:=8) (fun a=>by simp) (by omega) Tryz.underlying26 kc28t y28 kc26t (fun m' hm'=>(tree_in m m' (by omega)).2) p7 q7;refine ⟨.mk lb k1 s tg ex el de bo,(Sm.ok_iff _).2 ⟨ol,hs,ot,oe,⟨lel,oel⟩,⟨ld,De.okL_of od⟩,⟨lbo,Sm.okL_of ob⟩⟩,CR_of ?_ ?_⟩
   ·rw[hl,kc28t];simp
   ·intro j w hw';rw[Sm.v_cells] at hw'
    match j,hw' with
    | 0,hw'=>cases hw';exact ⟨_,e0,h0⟩
    | 1,hw'=>cases hw';exact ⟨_,e1,.int _ _⟩
    | 2,hw'=>cases hw';exact ⟨_,e2,.str _⟩
    | 3,hw'=>cases hw';exact ⟨_,e3,h3⟩
    | 4,hw'=>cases hw';exact ⟨_,e4,h4⟩
    | 5,hw'=>cases hw';exact ⟨_,e5,h5⟩
    | 6,hw'=>cases hw';exact ⟨_,e6,h6⟩
    | 7,hw'=>cases hw';exact ⟨_,e7,h7⟩
set_option maxRecDepth 100000
theorem agg_of{vs:List V}{v:Value}{cs:Array Value}(hv:v=.agg cs)(h:CR W vs v.cells.toList):VR (E0 W) (.agg vs) v:=by
 subst hv;refine .agg (by have:=h.1;simpa[Value.cells] using this) fun i x u hx hu=>h.2 i x u hx (by simpa[Value.cells] using hu)
theorem stmt_in{base:Nat}{v:Value}{d:DataW H}{p:List MemPlace}(hval:Value.okWide Tryz.prog W .any base 28 v)(h:DataW.Trod enc Tryz.prog W 0 (fun _=>true) true 28 v d p)(hw:Fitw 28 d):∃s:Sm,s.ok∧VR (E0 W) s.v v:=by
 obtain ⟨fuel,h⟩:=h;obtain ⟨s,hs,hc⟩:=(tree_in fuel fuel (qqY _)).2 _ _ h hw;unfold Value.okWide at hval;rw[Tryz.underlying28] at hval;obtain ⟨cs,hv,_⟩:=hval;rw[Sm.v_cells] at hc;exact ⟨s,hs,by rw[Sm.v_eq];exact agg_of hv hc⟩
theorem exp_in{base:Nat}{v:Value}{d:DataW H}{p:List MemPlace}(hval:Value.okWide Tryz.prog W .any base 54 v)(h:DataW.Trod enc Tryz.prog W 0 (fun _=>true) true 54 v d p)(hw:Fitw 54 d):∃s:Ex,s.ok∧VR (E0 W) s.v v:=by
 obtain ⟨fuel,h⟩:=h;obtain ⟨s,hs,hc⟩:=ex_in fuel fuel (qqY _) _ _ h hw;unfold Value.okWide at hval;rw[Tryz.underlying54] at hval;obtain ⟨cs,hv,_⟩:=hval;rw[Ex.v_cells] at hc;exact ⟨s,hs,by rw[Ex.v_eq];exact agg_of hv hc⟩
theorem fitw_of{ts:List TypeId}{ds:List (DataW H)}(h:(DataW.weightsEach Tryz.prog ts ds).all (·≤reachBytes)=true){i:Nat}{t:TypeId}{d:DataW H}(ht:ts[i]?=some t)(hd:ds[i]?=some d):Fitw t d:=fun n hn=>by
 have:=qri.1 h n (weightsEach_mem ht hd hn);simpa using this
end
end Go.Proofs.YtbifpocccfkhhaaGreatDoor
namespace Go.Proofs.YtbifpocccfkhhaaGreatDoor
open Go Go.ChangeShapes Go.WideShapes Go.ChangeAt Go.RowKit
set_option maxRecDepth 100000
section
variable {H:Type} {enc:TypeId×Value→H} {W:World}
theorem trodAll_cons{P:Program}{t:TypeId}{ts:List TypeId}{vs:List Value}{ds:List (DataW H)}{ps:List MemPlace}(h:DataW.TrodAll enc P W 0 (fun _=>true) true (t::ts) vs ds ps):
  ∃v vs' d ds' p q,vs=v::vs'∧ds=d::ds'∧DataW.Trod enc P W 0 (fun _=>true) true t v d p∧DataW.TrodAll enc P W 0 (fun _=>true) true ts vs' ds' q:=by
 cases vs with
 | nil=>exact h.elim
 | cons v vs=>
  cases ds with
  | nil=>exact h.elim
  | cons d ds=>
   obtain ⟨p,q,h1,h2,_⟩:=h;exact ⟨v,vs,d,ds,p,q,rfl,rfl,h1,h2⟩
theorem trodAll_nil{P:Program}{vs:List Value}{ds:List (DataW H)}{ps:List MemPlace}(h:DataW.TrodAll enc P W 0 (fun _=>true) true [] vs ds ps):vs=[]∧ds=[]:=by
 cases vs with
 | nil=>
  cases ds with
  | nil=>exact ⟨rfl,rfl⟩
  | cons d ds=>exact h.elim
 | cons v vs=>cases ds <;> exact h.elim
theorem text_in{base:Nat}{v:Value}{d:DataW H}{p:List MemPlace}(hval:Value.okWide Tryz.prog W .any base 9 v)(h:DataW.Trod enc Tryz.prog W 0 (fun _=>true) true 9 v d p)(hw:Fitw 9 d):∃s:ByteArray,s.size≤B50∧VR (E0 W) (.str s) v:=by
 obtain ⟨s,rfl,_⟩:=ChangeMaps.open_string Tryz.underlying9 hval h;obtain ⟨fuel,hf⟩:=h;obtain ⟨k,hk,hy,_⟩:=DataW.trod_string Tryz.underlying9 hf;simp[Value.cells] at hk;subst hk;have hy:d=.lit (.string s.data.toList):=(Prod.mk.inj hy).1;refine ⟨s,reach_le (hw s.size ?_),.str s⟩;rw[hy,DataW.weights];exact qrN.2 (by rw[qr0];rfl)
end
open Go.Proofs.Tryz
set_option maxRecDepth 20000
noncomputable def c148:F':=⟨32,[.t 6],.k [.a 6 (.str ⟨⟨[]⟩⟩)] (.k [.l 10 2,.m 11 0,.o 12 (.ex (.lkp .str zX true (.t 10) (.t 11))),.m 9 12,.e 13 0 9,.e 14 1 9,.o 7 (.new zX),.s 7 7 13,.m 8 14] (.seq (.k [.m 15 8,.o 16 (.un .not (.t 15)),.m 17 16,.V 18 17 false 1,.V 19 17 false 0,.v 20 17 false (.call (.f 60) [(.t 18),(.t 19)]),.v 21 17 false (.eq .ptr true (.t 20) (.c .nilp)),.z 22 17 21] (.d 22 (.k [.m 23 0,.m 6 23] .ret) .skip)) (.k [.l 24 3,.m 25 24,.v 26 25 false (.fa 0 (.t 7)),.M 27 25 false 26,.v 28 25 false (.bin .neq (.t 27) (.c (.int .i64 6))),.z 29 25 28,.s 1 3 29] (.k [.f 30 5 7,.l 31 30,.m 6 31] .ret))))⟩
theorem ok148:okF f148 c148:=okI
def idP:Pw where
 H:=Unit
 f _ x:=x
 nm:=none
 cl:=none
 ent h _ _:=h
 nmH h _ _ _:=h
 clH h _ _:=h
def idC:Cb where
 toPw:=idP
 fe:=.nilfn
 fn:=.nilfn
 fc:=.nilfn
 I _ F D _:=∀l,¬ F l∧¬ D l
 cn _ _:=True
 lim:=100001
theorem qnI:idC.Ok where
 lim:=qqY _
 lt:=fun {h F D S} k l hl=>by
  have k:∀l,¬ F l∧¬ D l:=k;exact (hl.elim (k l).1 (k l).2).elim
 fr:=fun {h F D S U M} k hk hM=>k
 lp:=fun {h F D S} k l o ho=>(show ∀l,¬ F l∧¬ D l from k) l
 ce _ _:=trivial
 cm _ _ _ _:=trivial
 cc _ _ _:=trivial
 real:=fun {h F D S} k h'=>⟨F,D,S,k,Kp.refl _ _,grow.refl _ _,grow.refl _ _⟩
 en:=.inl ⟨rfl,fun _ _=>rfl,fun _ _ _=>rfl⟩
 nm:=rfl
 cl:=rfl
mutual
theorem Ex.wr_same:∀(x:Ex) (tg:Bool),Ex.wr idP [] tg x=x
 | .mk k o n m e t a,tg=>by
  rw[Ex.wr,Ex.wrl_same a false];unfold Pw.nmE;show (if Ex.named k=true then _ else _)=_;split <;> rfl
theorem Ex.wrl_same:∀(l:List Ex) (tg:Bool),Ex.wrl idP [] tg l=l
 | [],_=>rfl
 | x::l,tg=>by rw[Ex.wrl,Ex.wr_same x tg,Ex.wrl_same l tg]
end
def zeX:V:=.agg [.int .i64 0,.int .i64 0,.int .i64 0,.int .i64 0,.int .i64 0,.str ⟨⟨[]⟩⟩,.sl true []]
theorem qdt(x:Ex)(hx:(Pa.ex x).size≤4000)(S:St):qt prog 80 [x.v] S (fun r U=>r=x.v∧Kp (fun _=>False) S U):=by
 refine qt.ib func80 ok80 ?_;simp[c80,qG,ldS,stS,qF,qB,evX];obtain ⟨S1,hS1⟩:∃S1:St,S1=S++[.arr [x.v] 7 1,.arr [zeX] 7 1,.arr [.agg [.int .i64 0,.nilfn,.nilfn,.nilfn]] 4 1]:=⟨_,rfl⟩;have l1:S1.length=S.length+3:=by rw[hS1];simp
 have b1:S1[S.length+1]?=some (.arr [zeX] 7 1):=by rw[hS1,qqU (by omega)];simp
 have b2:S1[S.length+2]?=some (.arr [.agg [.int .i64 0,.nilfn,.nilfn,.nilfn]] 4 1):=by rw[hS1,qqU (by omega)];simp
 have kS:Kp (fun _=>False) S S1:=by rw[hS1];exact (Kp.refl _ _).push _
 have hw:Wk idC (S.length+2) 0 () (fun _=>False) (fun _=>False) S1:=⟨b2,fun _=>⟨id,id⟩,id,id,trivial⟩;rw[show zeX=V.agg [.int .i64 0,.int .i64 0,.int .i64 0,.int .i64 0,.int .i64 0,.str ⟨⟨[]⟩⟩,.sl true []] from rfl] at hS1;rw[←hS1];refine qi (qeZ idC qnI (S.length+2) 4000 x hx (qqY _) 0 () _ _ S1 .nilp [] false hw rfl) ?_;rintro r U ⟨rfl,F2,D2,k2,s2⟩;have hx2:Ex.wr idP (Scx []) false x=x:=Ex.wr_same x false;rw[show Ex.wr idC.toPw (Scx []) false x=x from hx2];have c1:=s2.k.at b1 (by rintro (hh|hh) <;> omega);unfold zeX at c1;simp[stS,c1,qh];have hz:(U.set (S.length+1) (.arr [x.v] 7 1))[S.length+1]?=some (.arr [x.v] 7 1):=qqV (glt c1);refine qf (vs:=[x.v]) (by simp[rvs,ldS,hz]) ⟨rfl,?_⟩
 have kU:Kp (fun _=>False) S U:=⟨qrt kS.len s2.k.len,fun l hl hn=>by
  rw[s2.k.get l (by have:=kS.len;omega) (by rintro (hh|hh) <;> omega)];exact kS.get l hl hn⟩
 exact kU.set _ (.inr (by omega))
abbrev Oc:=Bz×Scs
mutual
def Ex.ev(sc:Scs):Ex→List Oc
 | .mk k _ _ _ _ t a=>Ex.evl sc a++(if Ex.named k then [(t,sc)] else [])
def Ex.evl(sc:Scs):List Ex→List Oc
 | []=>[]
 | x::l=>Ex.ev sc x++Ex.evl sc l
end
def El.evl(sc:Scs):List El→List Oc
 | []=>[]
 | x::l=>Ex.evl sc x.exps++El.evl sc l
mutual
def Sm.ev(sc:Scs)(n:Nat):Sm→List Oc
 | .mk _ k t g e h d b=>
  if k=7 then De.evl (qd (qe d b) n::sc) sc (n+(qd (qe d b) n).length) d++Sm.evl (qd (qe d b) n::sc) (n+(qd (qe d b) n).length+De.nbl d) b
  else if k=8 then Sm.evl (qd (qk b) n::sc) (n+(qd (qk b) n).length) b
  else Ex.evl sc g++Ex.evl sc e++El.evl sc h++Sm.ev1 sc n b++(if k=6 then [(t,sc)] else [])
def De.ev(own sc:Scs)(n:Nat):De→List Oc
 | .mk k _ _ _ e fo b=>
  if k=4 then Sm.ev1 (qd (fo.map Fo.name) n::own) (n+(qd (fo.map Fo.name) n).length) b
  else Ex.evl (if k=2 then sc else own) e
def De.evl(own sc:Scs)(n:Nat):List De→List Oc
 | []=>[]
 | x::l=>De.ev own sc n x++De.evl own sc (n+De.nb x) l
def Sm.evl(sc:Scs)(n:Nat):List Sm→List Oc
 | []=>[]
 | x::l=>Sm.ev sc n x++Sm.evl sc (n+Sm.nb x) l
def Sm.ev1(sc:Scs)(n:Nat):List Sm→List Oc
 | []=>[]
 | x::l=>Sm.ev (qd x.labels n::sc) (n+(qd x.labels n).length) x++Sm.ev1 sc (n+(qd x.labels n).length+Sm.nb x) l
end
structure Obs(p:Pw)(α:Type)(ob:p.H→α)(w:α→Oc→α):Prop where
 nm:p.nm≠none
 cl:p.cl≠none
 n:∀h x sc tg,ob (p.nmH h x sc tg)=w (ob h) (x.text,sc)
 c:∀h x sc,ob (p.clH h x sc)=w (ob h) (x,sc)
 e:∀h k x,ob (p.ent h k x)=ob h
section
variable {p:Pw} {α:Type} {ob:p.H→α} {w:α→Oc→α} (i:Obs p α ob w) {nm:Bz→Bool}
include i
theorem Obs.enters(s:Sco):∀h:p.H,ob (Go.Proofs.YtbifpocccfkhhaaGreatDoor.enters p h s)=ob h:=by
 induction s with
 | nil=>intro h;rfl
 | cons e s ih=>intro h;exact (ih _).trans (i.e _ _ _)
theorem Obs.nmS(sc:Scs)(tg:Bool)(h:p.H)(x:Ex):ob (p.nmS sc tg h x)=if Ex.named x.kind then w (ob h) (x.text,sc) else ob h:=by
 unfold Pw.nmS;split
 ·cases hn:p.nm with
  | none=>exact absurd hn i.nm
  | some g=>exact i.n _ _ _ _
 ·rfl
theorem Obs.clS(sc:Scs)(k:Int)(h:p.H)(t:Bz):ob (p.clS sc k h t)=if k=6 then w (ob h) (t,sc) else ob h:=by
 unfold Pw.clS;split
 ·cases hn:p.cl with
  | none=>exact absurd hn i.cl
  | some g=>exact i.c _ _ _
 ·rfl
mutual
theorem Obs.ex(sc:Scs)(tg:Bool):∀(x:Ex) (h:p.H),ob (Ex.hs p sc tg h x)=(Ex.ev sc x).foldl w (ob h)
 | .mk k o n m e t a,h=>by
  have h1:ob (p.nmS sc tg (Ex.hsl p sc false h a) (.mk k o n m e t (Ex.wrl p sc false a)))=if Ex.named k=true then w (ob (Ex.hsl p sc false h a)) (t,sc) else ob (Ex.hsl p sc false h a):=i.nmS sc tg _ _
  rw[Ex.hs,h1,Obs.exl sc false a h,Ex.ev,qrD];by_cases hk:Ex.named k=true
  ·rw[if_pos hk,if_pos hk];rfl
  ·rw[if_neg hk,if_neg hk];rfl
theorem Obs.exl(sc:Scs)(tg:Bool):∀(l:List Ex) (h:p.H),ob (Ex.hsl p sc tg h l)=(Ex.evl sc l).foldl w (ob h)
 | [],h=>by rw[Ex.hsl,Ex.evl];rfl
 | x::l,h=>by rw[Ex.hsl,Ex.evl,qrD,Obs.exl sc tg l,Obs.ex sc tg x]
end
theorem Obs.ell(sc:Scs):∀(l:List El) (h:p.H),ob (El.hsl p sc h l)=(El.evl sc l).foldl w (ob h)
 | [],h=>rfl
 | x::l,h=>by
  show ob (El.hsl p sc (Ex.hsl p sc false h x.exps) l)=_;rw[Obs.ell sc l,i.exl,El.evl,qrD]
mutual
theorem Obs.sm:∀(s:Sm) (sc:Scs) (n:Nat) (h:p.H),(Pa.st s).valid nm=true→ob (Sm.hs p sc n h s)=(Sm.ev sc n s).foldl w (ob h)
 | .mk l k t g e el d b,sc,n,h,v=>by
  obtain ⟨v7,v8,v9⟩:=Sm.valid_block v;have vd:=Sm.valid_decls v;have vb:=Sm.valid_body v;simp only[Sm.decls,Sm.body] at vd vb;rw[Sm.hs,Sm.ev];by_cases h7:k=7
  ·obtain ⟨rfl,rfl,rfl⟩:=v7 h7;rw[if_pos h7,if_pos h7,qrD,Obs.sml b _ _ _ vb,Obs.del d _ _ _ _ vd,i.enters,i.exl,Ex.evl];rfl
  ·rw[if_neg h7,if_neg h7];by_cases h8:k=8
   ·obtain ⟨rfl,rfl,rfl,rfl⟩:=v8 h8;rw[if_pos h8,if_pos h8,Obs.sml b _ _ _ vb,i.enters,i.exl,Ex.evl];rfl
   ·rw[if_neg h8,if_neg h8,i.clS,Obs.sm1 b _ _ _ vb,i.ell,i.exl,i.exl];simp only[qrD];split <;> rfl
theorem Obs.de:∀(s:De) (own sc:Scs) (n:Nat) (h:p.H),(Pa.de s).valid nm=true→ob (De.hs p own sc n h s)=(De.ev own sc n s).foldl w (ob h)
 | .mk k o t ns e fo b,own,sc,n,h,v=>by
  obtain ⟨v4,v5⟩:=De.valid_proc v;have vb:=De.valid_body v;simp only[De.body] at vb;rw[De.hs,De.ev];by_cases h4:k=4
  ·obtain rfl:=v4 h4;rw[if_pos h4,if_pos h4,Obs.sm1 b _ _ _ vb,i.enters,i.exl,Ex.evl];rfl
  ·rw[if_neg h4,if_neg h4,i.exl]
theorem Obs.del:∀(l:List De) (own sc:Scs) (n:Nat) (h:p.H),(∀x,x∈l→(Pa.de x).valid nm=true)→ob (De.hsl p own sc n h l)=(De.evl own sc n l).foldl w (ob h)
 | [],_,_,_,h,_=>by rw[De.hsl,De.evl];rfl
 | x::l,own,sc,n,h,v=>by
  rw[De.hsl,De.evl,qrD,Obs.del l own sc _ _ fun y hy=>v y (by simp[hy]),Obs.de x own sc n h (v x (by simp))]
theorem Obs.sml:∀(l:List Sm) (sc:Scs) (n:Nat) (h:p.H),(∀x,x∈l→(Pa.st x).valid nm=true)→ob (Sm.hsl p sc n h l)=(Sm.evl sc n l).foldl w (ob h)
 | [],_,_,h,_=>by rw[Sm.hsl,Sm.evl];rfl
 | x::l,sc,n,h,v=>by
  rw[Sm.hsl,Sm.evl,qrD,Obs.sml l sc _ _ fun y hy=>v y (by simp[hy]),Obs.sm x sc n h (v x (by simp))]
theorem Obs.sm1:∀(l:List Sm) (sc:Scs) (n:Nat) (h:p.H),(∀x,x∈l→(Pa.st x).valid nm=true)→ob (Sm.hs1 p sc n h l)=(Sm.ev1 sc n l).foldl w (ob h)
 | [],_,_,h,_=>by rw[Sm.hs1,Sm.ev1];rfl
 | x::l,sc,n,h,v=>by
  rw[Sm.hs1,Sm.ev1,qrD,Obs.sm1 l sc _ _ fun y hy=>v y (by simp[hy]),Obs.sm x _ _ _ (v x (by simp)),i.enters]
end
end
structure Robs(r:Rp)(ob:Rst→Prop)(q:Oc→Prop):Prop where
 u:∀sc x st,ob (qnB r sc x st)↔ob st∨q (x,sc)
 b:∀st c,ob { st with bad:=c }↔ob st
section
variable {r:Rp} {ob:Rst→Prop} {q:Oc→Prop} (i:Robs r ob q) {nm:Bz→Bool}
def qaL(q:Oc→Prop)(l:List Oc):Prop:=∃e,e∈l∧q e
theorem zI{q:Oc→Prop}{l m:List Oc}:qaL q (l++m)↔qaL q l∨qaL q m:=by
 unfold qaL;constructor
 ·rintro ⟨e,he,h⟩;exact (qq0.1 he).imp (fun g=>⟨e,g,h⟩) fun g=>⟨e,g,h⟩
 ·rintro (⟨e,he,h⟩|⟨e,he,h⟩)
  ·exact ⟨e,qq6 _ he,h⟩
  ·exact ⟨e,qq9 _ he,h⟩
theorem Qb{q:Oc→Prop}:¬ qaL q []:=fun ⟨_,h,_⟩=>by cases h
theorem JR{q:Oc→Prop}{e:Oc}:qaL q [e]↔q e:=⟨fun ⟨_,h,g⟩=>by simp at h;subst h;exact g,fun h=>⟨e,by simp,h⟩⟩
include i
theorem Robs.t(sc:Scs)(x:Bz)(st:Rst):ob (qcd r sc x st)↔ob st∨q (x,sc):=(i.b _ _).trans (i.u _ _ _)
mutual
theorem Robs.ex(sc:Scs):∀(x:Ex) (st:Rst),(Pa.ex x).valid nm=true→(ob (Ex.rs r sc st x)↔ob st∨qaL q (Ex.ev sc x))
 | .mk k o n m e t a,st,v=>by
  have va:=Ex.valid_args v;simp only[Ex.args] at va;have h1:=(Pa.valid_iff.1 v).1;rw[Ex.rs,Ex.ev,zI];by_cases h6:k=6
  ·subst h6;have hn:Ex.named 6=true:=rfl;simp[Pa.vOwn,Ex.vOwn] at h1;obtain ⟨⟨⟨⟨_,rfl⟩,rfl⟩,rfl⟩,rfl,rfl⟩:=h1;rw[if_pos rfl,i.u,hn,if_pos rfl,JR,Ex.evl];simp[Qb]
  ·rw[if_neg h6,Robs.exl sc a _ va];by_cases h78:k=7∨k=8
   ·have hn:Ex.named k=true:=by unfold Ex.named;rcases h78 with rfl|rfl <;> rfl
    rw[if_pos h78,hn,if_pos rfl,i.t,JR];constructor
    ·rintro ((h|h)|h) <;> simp[h]
    ·rintro (h|h|h) <;> simp[h]
   ·have hn:Ex.named k=false:=by unfold Ex.named;simp;omega
    rw[if_neg h78,hn];simp[Qb]
theorem Robs.exl(sc:Scs):∀(l:List Ex) (st:Rst),(∀x,x∈l→(Pa.ex x).valid nm=true)→(ob (Ex.rsl r sc st l)↔ob st∨qaL q (Ex.evl sc l))
 | [],st,_=>by rw[Ex.rsl,Ex.evl];simp[Qb]
 | x::l,st,v=>by
  rw[Ex.rsl,Ex.evl,Robs.exl sc l _ fun y hy=>v y (by simp[hy]),Robs.ex sc x st (v x (by simp)),zI,or_assoc]
end
theorem Robs.ell(sc:Scs):∀(l:List El) (st:Rst),(∀x,x∈l→(Pa.el x).valid nm=true)→(ob (El.rsl r sc st l)↔ob st∨qaL q (El.evl sc l))
 | [],st,_=>by rw[El.evl];simp[Qb,El.rsl]
 | x::l,st,v=>by
  have h1:=i.exl sc x.exps st (fun y hy=>(Pa.valid_iff.1 (v x (by simp))).2 _ (by simp only[Pa.kids];exact qrG hy));have h2:=Robs.ell sc l (Ex.rsl r sc st x.exps) fun y hy=>v y (by simp[hy])
  show ob (El.rsl r sc (Ex.rsl r sc st x.exps) l)↔_;rw[h2,h1,El.evl,zI,or_assoc]
mutual
theorem Robs.sm:∀(s:Sm) (sc:Scs) (n:Nat) (st:Rst),(Pa.st s).valid nm=true→(ob (Sm.rs r sc n st s)↔ob st∨qaL q (Sm.ev sc n s))
 | .mk l k t g e el d b,sc,n,st,v=>by
  have vd:=Sm.valid_decls v;have vb:=Sm.valid_body v;have vg:=Sm.valid_targets v;have ve:=Sm.valid_exps v;have vl:=Sm.valid_elems v;simp only[Sm.decls,Sm.body,Sm.targets,Sm.exps,Sm.elems] at vd vb vg ve vl;rw[Sm.rs,Sm.ev];by_cases h7:k=7
  ·rw[if_pos h7,if_pos h7,zI,Robs.sml b _ _ _ vb,Robs.del d _ _ _ _ vd,or_assoc]
  ·rw[if_neg h7,if_neg h7];by_cases h8:k=8
   ·rw[if_pos h8,if_pos h8,Robs.sml b _ _ _ vb]
   ·have h2:∀st',ob (tgS r sc st' g)↔ob (Ex.rsl r sc st' g):=fun _=>i.b _ _
    rw[if_neg h8,if_neg h8,Robs.sm1 b _ _ _ vb,i.exl sc e _ ve,i.ell sc el _ vl,h2,i.exl sc g _ vg];simp only[zI];by_cases h6:k=6
    ·rw[if_pos h6,if_pos h6,i.t,JR];constructor
     ·rintro (((((h|h)|h)|h)|h)|h) <;> simp[h]
     ·rintro (h|(((h|h)|h)|h)|h) <;> simp[h]
    ·rw[if_neg h6,if_neg h6];constructor
     ·rintro ((((h|h)|h)|h)|h) <;> simp[h]
     ·rintro (h|(((h|h)|h)|h)|h)
      ·simp[h]
      ·simp[h]
      ·simp[h]
      ·simp[h]
      ·simp[h]
      ·exact absurd h Qb
theorem Robs.de:∀(s:De) (own sc:Scs) (n:Nat) (st:Rst),(Pa.de s).valid nm=true→(ob (De.rs r own sc n st s)↔ob st∨qaL q (De.ev own sc n s))
 | .mk k o t ns e fo b,own,sc,n,st,v=>by
  obtain ⟨v4,v5⟩:=De.valid_proc v;have vb:=De.valid_body v;have ve:=De.valid_exps v;simp only[De.body,De.exps] at vb ve;rw[De.rs,De.ev];by_cases h4:k=4
  ·obtain rfl:=v4 h4;rw[if_pos h4,if_pos h4,Robs.sm1 b _ _ _ vb];rfl
  ·rw[if_neg h4,if_neg h4];exact i.exl _ e st ve
theorem Robs.del:∀(l:List De) (own sc:Scs) (n:Nat) (st:Rst),(∀x,x∈l→(Pa.de x).valid nm=true)→(ob (De.rsl r own sc n st l)↔ob st∨qaL q (De.evl own sc n l))
 | [],_,_,_,st,_=>by rw[De.rsl,De.evl];simp[Qb]
 | x::l,own,sc,n,st,v=>by
  rw[De.rsl,De.evl,zI,Robs.del l own sc _ _ fun y hy=>v y (by simp[hy]),Robs.de x own sc n st (v x (by simp)),or_assoc]
theorem Robs.sml:∀(l:List Sm) (sc:Scs) (n:Nat) (st:Rst),(∀x,x∈l→(Pa.st x).valid nm=true)→(ob (Sm.rsl r sc n st l)↔ob st∨qaL q (Sm.evl sc n l))
 | [],_,_,st,_=>by rw[Sm.rsl,Sm.evl];simp[Qb]
 | x::l,sc,n,st,v=>by
  rw[Sm.rsl,Sm.evl,zI,Robs.sml l sc _ _ fun y hy=>v y (by simp[hy]),Robs.sm x sc n st (v x (by simp)),or_assoc]
theorem Robs.sm1:∀(l:List Sm) (sc:Scs) (n:Nat) (st:Rst),(∀x,x∈l→(Pa.st x).valid nm=true)→(ob (Sm.rs1 r sc n st l)↔ob st∨qaL q (Sm.ev1 sc n l))
 | [],_,_,st,_=>by rw[Sm.rs1,Sm.ev1];simp[Qb]
 | x::l,sc,n,st,v=>by
  rw[Sm.rs1,Sm.ev1,zI,Robs.sm1 l sc _ _ fun y hy=>v y (by simp[hy]),Robs.sm x _ _ st (v x (by simp)),or_assoc]
end
end
end Go.Proofs.YtbifpocccfkhhaaGreatDoor
end
