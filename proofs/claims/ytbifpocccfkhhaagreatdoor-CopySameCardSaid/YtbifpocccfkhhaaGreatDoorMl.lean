/- Part of the proof. -/
import Derived.Test.YtbifpocccfkhhaaGreatDoorMk
import Derived.Test.YtbifpocccfkhhaaGreatDoorMh
set_option linter.all false
noncomputable section
namespace Go.Proofs.YtbifpocccfkhhaaGreatDoor
open Go Go.Proofs.Tryz
def De.d1(p:Pw)(own sc:Scs)(d:De):De:=.mk d.kind d.own d.type (rets p own d.names) (Ex.wrl p (if d.kind=2 then sc else own) false d.exps) d.formals d.body
theorem De.wr_eq(p:Pw)(own sc:Scs)(n:Nat)(d:De):d.wr p own sc n=if d.kind=4 then (d.d1 p own sc).pr p own n else d.d1 p own sc:=by
 cases d with
 | mk k o t nm e fo b=>
  rw[De.wr];show _=if k=4 then (De.d1 p own sc (.mk k o t nm e fo b)).pr p own n else De.d1 p own sc (.mk k o t nm e fo b)
  by_cases h:k=4
  ·subst h;rfl
  ·rw[if_neg h,if_neg h];rfl
theorem De.hs_eq(p:Pw)(own sc:Scs)(n:Nat)(h:p.H)(d:De):d.hs p own sc n h=if d.kind=4 then (d.d1 p own sc).prH p own n (Ex.hsl p (if d.kind=2 then sc else own) false h d.exps) else Ex.hsl p (if d.kind=2 then sc else own) false h d.exps:=by
 cases d with
 | mk k o t nm e fo b=>
  rw[De.hs];show _=if k=4 then (De.d1 p own sc (.mk k o t nm e fo b)).prH p own n (Ex.hsl p (if k=2 then sc else own) false h e) else Ex.hsl p (if k=2 then sc else own) false h e
  by_cases h:k=4
  ·subst h;rfl
  ·rw[if_neg h,if_neg h]
theorem De.nb_eq(d:De):d.nb=if d.kind=4 then d.prN else 0:=by
 cases d with
 | mk k o t nm e fo b=>rw[De.nb];rfl
theorem De.size_parts(d:De):(Pa.de d).size=1+d.names.length+d.formals.length+qaN (d.exps.map Pa.ex)+qaN (d.body.map Pa.st):=by
 rw[Pa.size_eq];simp only[Pa.own,Pa.kids,qa7];omega
theorem qir(p:Pw)(own sc:Scs):∀(m:List De) (n:Nat),(De.wrl p own sc n m).length=m.length
 | [],_=>rfl
 | x::m,n=>by simp only[De.wrl,qrz,qir p own sc m]
theorem Gw.lt{sz n0 w:Nat}{F D:Nat→Prop}{xs:List V}{v:V}{S:St}(h:Gw sz n0 w F D xs v S):∀l a b c,v=.arr l a b c→l<S.length:=by
 intro l a b c hv;rcases h with ⟨_,rfl⟩|⟨l',wr,_,_,rfl,h4,_⟩
 ·cases hv
 ·cases hv;exact (qq2.1 h4).1
theorem Gw.set{sz n0 w:Nat}{F D:Nat→Prop}{xs:List V}{v:V}{S:St}(h:Gw sz n0 w F D xs v S){b:Nat}(o:Ob)(hne:∀l x y z,v=.arr l x y z→l<b):Gw sz n0 w F D xs v (S.set b o):=by
 rcases h with h|⟨l,wr,h1,h2,h3,h4,h5⟩
 ·exact .inl h
 ·exact .inr ⟨l,wr,h1,h2,h3,by rw[qq6 (Nat.ne_of_gt (hne _ _ _ _ h3))];exact h4,h5⟩
theorem qiY(c:Cb)(ok:c.Ok)(w:Nat)(l:List De)(hl:qaN (l.map Pa.de)≤4000)(H:∀d,d∈l→∀s,s∈d.body→P186 c w s)(hok:∀d,d∈l→∀s,s∈d.body→s.ok)(n:Nat)(h:c.H)(F D:Nat→Prop)(S:St)(v1 v2:V)(tso ts:List Sct)(hk:Wk c w n h F D S)
  (hsc1:ScR c.toPw (fun l=>l=w∨F l) S v1 tso) (hsc2:ScR c.toPw (fun l=>l=w∨F l) S v2 ts) (hin:∀d,d∈l→inSc (Scx tso) d.names) (hn:n+De.nbl l≤100000):
  Spec prog 220 [.ptr w 0 0 1,.sl false (l.map De.v),v1,v2] S (fun r U=>Wd c w (n+De.nbl l) (De.hsl c.toPw (Scx tso) (Scx ts) n h l) F D S (.sl false ((De.wrl c.toPw (Scx tso) (Scx ts) n l).map De.v)) r U):=by
 have hlen:l.length≤4000:=by have:=qbV (l.map Pa.de);rw[qrh] at this;omega
 refine Spec.intro func220 ok220 (by simp[c220]) ?_;simp[c220];refine qaY (Ww c 7 w (n+De.nbl l) (De.hsl c.toPw (Scx tso) (Scx ts) n h l) F D S 9 ((De.wrl c.toPw (Scx tso) (Scx ts) n l).map De.v)) ?_ ?_
 ·refine qax (Lw c 7 w F D S l.length (fun i=>n+De.nbl (l.take i)) (fun i=>De.hsl c.toPw (Scx tso) (Scx ts) n h (l.take i)) (fun i=>(De.wrl c.toPw (Scx tso) (Scx ts) n (l.take i)).map De.v)
   (fun i gv=>[(14,.int .i64 i),(13,.int .i64 l.length),(12,.sl false (l.map De.v)),(9,gv),(0,.ptr w 0 0 1),(2,v1),(3,v2)])) l.length _ ?_ ⟨0,_,F,D,by simp,by omega,Gw.nil _ _ _ _ _ _,hk,Stp.refl _ _ _ _,rfl⟩ ?_
  ·exact Env.so (by simp)
  rintro j e U ⟨i,gv,F1,D1,rfl,hi,hg,hk1,hs1,rfl⟩;dsimp only at hg hk1;by_cases hlt:i<l.length
  case neg=>
   have:i=l.length:=by omega
   subst this;simp only[qrT] at hg hk1;simp;exact ⟨gv,F1,D1,rfl,hg,hk1,hs1⟩
  have hmem:l[i]∈l:=qrf hlt;have ht:l.take (i+1)=l.take i++[l[i]]:=by rw[qrv,qrd hlt];rfl
  have hnb:De.nbl (l.take (i+1))=De.nbl (l.take i)+l[i].nb:=by rw[ht,De.nbl_append];simp[De.nbl]
  have hnl:De.nbl (l.take (i+1))≤De.nbl l:=by
   have:De.nbl l=De.nbl (l.take (i+1))+De.nbl (l.drop (i+1)):=by rw[←De.nbl_append,qr7]
   omega
  have hszd:(Pa.de l[i]).size≤4000:=by
   have:=qbD (l:=l.map Pa.de) (i:=i) (q:=Pa.de l[i]) (by simp[hlt]);omega
  rw[De.size_parts] at hszd;have hbl:l[i].body.length≤4000:=by have:=qbV (l[i].body.map Pa.st);rw[qrh] at this;omega
  obtain ⟨d,hd⟩:∃d:De,d=l[i]:=⟨_,rfl⟩;have hv0:Ob.arr [l[i].v] 7 1=.arr [.agg [.int .i64 d.kind,.bool d.own,.int .i64 d.type,.sl false (d.names.map .str),.sl false (d.exps.map Ex.v),.sl false (d.formals.map Fo.v),.sl false (d.body.map Sm.v)]] 7 1:=by rw[←hd,De.v_eq]
  obtain ⟨U1,hU1⟩:∃U1:St,U1=U++[.arr [l[i].v] 7 1]:=⟨_,rfl⟩;have b1:U1[U.length]?=some (.arr [l[i].v] 7 1):=by rw[hU1];simp
  have k1:=hk1.push ok [.arr [l[i].v] 7 1];rw[←hU1] at k1;have s1:Stp w F D S F1 D1 U1:=by rw[hU1];exact hs1.push _
  have g1:Gw 7 S.length w F1 D1 ((De.wrl c.toPw (Scx tso) (Scx ts) n (l.take i)).map De.v) gv U1:=by rw[hU1];exact hg.push _
  have o1:Off w F1 D1 U.length:=hk1.out ok (qq8 _);have lU1:U1.length=U.length+1:=by rw[hU1];simp
  have lSU:=hs1.k.len;simp[hlt,iaDe,boxS,stS,qaq,ldS];rw[←hU1];refine qan (qkm c ok w l[i].names (by omega) _ _ F1 D1 U1 v1 tso (hin _ hmem) k1 (hsc1.step s1)) ?_;rintro r U2 ⟨rfl,F2,D2,k2,s2⟩;have b2:=s2.at o1 b1;have o2:=o1.next (by omega) s2;have g2:=g1.step s2;have s12:=s1.trans s2;have l2:=s2.k.len;obtain ⟨d1,hd1⟩:∃d1:De,d1=.mk d.kind d.own d.type (rets c.toPw (Scx tso) d.names) d.exps d.formals d.body:=⟨_,rfl⟩;have hd1v:d1.v=.agg [.int .i64 d.kind,.bool d.own,.int .i64 d.type,.sl false ((rets c.toPw (Scx tso) d.names).map .str),.sl false (d.exps.map Ex.v),.sl false (d.formals.map Fo.v),.sl false (d.body.map Sm.v)]:=by rw[hd1,De.v_eq];rfl
  obtain ⟨U3,hU3⟩:∃U3:St,U3=U2.set U.length (.arr [d1.v] 7 1):=⟨_,rfl⟩;have b3:U3[U.length]?=some (.arr [d1.v] 7 1):=by rw[hU3,qq5 (glt b2)]
  have k3:=k2.set ok (.arr [d1.v] 7 1) o2.1 o2.2.1 o2.2.2;rw[←hU3] at k3;have s3:Stp w F D S F2 D2 U3:=by rw[hU3];exact s12.set _ lSU
  have g3:Gw 7 S.length w F2 D2 ((De.wrl c.toPw (Scx tso) (Scx ts) n (l.take i)).map De.v) gv U3:=by rw[hU3];exact g2.set _ hg.lt
  simp[ldS,b2,stS,qgO,qaq];rw[←hd,←hd1v,←hU3];have d1k:d1.kind=d.kind:=by rw[hd1];rfl
  have d1e:d1.exps=d.exps:=by rw[hd1];rfl
  obtain ⟨tse,htse⟩:∃tse,tse=if d.kind=2 then ts else tso:=⟨_,rfl⟩
  have htse':Scx tse=if d.kind=2 then Scx ts else Scx tso:=by rw[htse];split <;> rfl
  have hexp:∀(ve:V),ScR c.toPw (fun l=>l=w∨F l) S ve tse→Spec prog 134 [.ptr w 0 0 1,.sl false (d.exps.map Ex.v),ve,.bool false] U3 (fun r U=>Wd c w (n+De.nbl (l.take i)) (Ex.hsl c.toPw (Scx tse) false (De.hsl c.toPw (Scx tso) (Scx ts) n h (l.take i)) d.exps) F2 D2 U3 (.sl false ((Ex.wrl c.toPw (Scx tse) false d.exps).map Ex.v)) r U):=fun ve hve=>
   qfI c ok w d.exps (by rw[hd];omega) _ _ F2 D2 U3 ve tse false k3 (hve.step s3)
  have l3:U3.length=U2.length:=by rw[hU3];simp
  have o3:Off w F2 D2 U.length:=o2;obtain ⟨d2,hd2⟩:∃d2:De,d2=d.d1 c.toPw (Scx tso) (Scx ts):=⟨_,rfl⟩
  have hd2v:d2.v=.agg [.int .i64 d1.kind,.bool d1.own,.int .i64 d1.type,.sl false (d1.names.map .str),.sl false ((Ex.wrl c.toPw (Scx tse) false d.exps).map Ex.v),.sl false (d1.formals.map Fo.v),.sl false (d1.body.map Sm.v)]:=by
   rw[hd2,De.v_eq,hd1,htse'];rfl
  have d2k:d2.kind=d.kind:=by rw[hd2];rfl
  have hw:l[i].wr c.toPw (Scx tso) (Scx ts) (n+De.nbl (l.take i))=if d.kind=4 then d2.pr c.toPw (Scx tso) (n+De.nbl (l.take i)) else d2:=by rw[←hd,De.wr_eq,hd2]
  have hhs:De.hs c.toPw (Scx tso) (Scx ts) (n+De.nbl (l.take i)) (De.hsl c.toPw (Scx tso) (Scx ts) n h (l.take i)) l[i]=if d.kind=4 then d2.prH c.toPw (Scx tso) (n+De.nbl (l.take i)) (Ex.hsl c.toPw (Scx tse) false (De.hsl c.toPw (Scx tso) (Scx ts) n h (l.take i)) d.exps) else Ex.hsl c.toPw (Scx tse) false (De.hsl c.toPw (Scx tso) (Scx ts) n h (l.take i)) d.exps:=by rw[←hd,De.hs_eq,hd2,htse']
  have hnb':l[i].nb=if d.kind=4 then d2.prN else 0:=by rw[←hd,De.nb_eq,hd2];rfl
  have fin:∀(F' D':Nat→Prop) (X:St),Wk c w (n+De.nbl (l.take i)+l[i].nb) (De.hs c.toPw (Scx tso) (Scx ts) (n+De.nbl (l.take i)) (De.hsl c.toPw (Scx tso) (Scx ts) n h (l.take i)) l[i]) F' D' X→Stp w F D S F' D' X→Gw 7 S.length w F' D' ((De.wrl c.toPw (Scx tso) (Scx ts) n (l.take i)).map De.v) gv X→
    ∃v' X',appS X 7 120 gv (.sl true [(l[i].wr c.toPw (Scx tso) (Scx ts) (n+De.nbl (l.take i))).v])=some (v',X')∧Gw 7 S.length w F' D' ((De.wrl c.toPw (Scx tso) (Scx ts) n (l.take (i+1))).map De.v) v' X'∧Wk c w (n+De.nbl (l.take (i+1))) (De.hsl c.toPw (Scx tso) (Scx ts) n h (l.take (i+1))) F' D' X'∧Stp w F D S F' D' X':=fun F' D' X hk hs hg=>by
   obtain ⟨v',X',ha,hg3,hk3,hs4⟩:=hg.app1 ok (bytes:=120) (b:=true) hk hs (De.fits1 (l[i].wr c.toPw (Scx tso) (Scx ts) (n+De.nbl (l.take i)))) (by
    rw[qrh,qir,qsq];omega)
   have hn1:(De.wrl c.toPw (Scx tso) (Scx ts) n (l.take i)).map De.v++[(l[i].wr c.toPw (Scx tso) (Scx ts) (n+De.nbl (l.take i))).v]=(De.wrl c.toPw (Scx tso) (Scx ts) n (l.take (i+1))).map De.v:=by
    rw[ht,De.wrl_append,qrO];rfl
   have hn2:De.hs c.toPw (Scx tso) (Scx ts) (n+De.nbl (l.take i)) (De.hsl c.toPw (Scx tso) (Scx ts) n h (l.take i)) l[i]=De.hsl c.toPw (Scx tso) (Scx ts) n h (l.take (i+1)):=by
    rw[ht,De.hsl_append];rfl
   rw[hn1] at hg3;rw[hn2,qrU,←hnb] at hk3;exact ⟨v',X',ha,hg3,hk3,hs4⟩
  rw[hw] at fin;by_cases h2:d.kind=2
  all_goals
   simp[ldS,b3,d1k,d1e,h2]
   refine qan (hexp _ (by rw[htse];first|(rw[if_pos h2];exact hsc2)|(rw[if_neg h2];exact hsc1))) ?_
   rintro r U4 ⟨rfl,F3,D3,k4,s4⟩
   have b4:=s4.at o3 b3
   have lU3:U.length<U3.length:=glt b3
   have o4:=o3.next lU3 s4
   have g4:=(g3.step s4).set (.arr [d2.v] 7 1) hg.lt
   have s34:=(s3.trans s4).set (.arr [d2.v] 7 1) lSU
   have k5:=k4.set ok (.arr [d2.v] 7 1) o4.1 o4.2.1 o4.2.2
   have b5:(U4.set U.length (.arr [d2.v] 7 1))[U.length]?=some (.arr [d2.v] 7 1):=qq5 (glt b4)
   simp[ldS,b4,stS,qgO,qaq]
   rw[←hd2v]
   generalize U4.set U.length (.arr [d2.v] 7 1)=U5 at g4 s34 k5 b5 ⊢
   by_cases h4:d.kind=4
   ·have q:=qiF c ok w d2 (by rw[hd2,hd];exact H l[i] hmem) (by rw[hd2,hd];exact hbl) (by rw[hd2,hd];exact hok l[i] hmem) (by rw[hd2,hd];show l[i].formals.length≤4000;omega) _ _ F3 D3 U5 v1 tso k5 (hsc1.step s34) (by rw[if_pos h4] at hnb';omega);simp[ldS,b5,d2k,h4];refine qan q ?_;rintro r U6 ⟨rfl,F4,D4,k6,s6⟩;have b6:=s6.at o4 b5;have lU5:U.length<U5.length:=glt b5;have o6:=o4.next lU5 s6;obtain ⟨d3,hd3⟩:∃d3:De,d3=d2.pr c.toPw (Scx tso) (n+De.nbl (l.take i)):=⟨_,rfl⟩;rw[hnb',if_pos h4,hhs,if_pos h4,if_pos h4,←hd3] at fin;rw[←hd3];have g6:=(g4.step s6).set (.arr [d3.v] 7 1) hg.lt;have s56:=(s34.trans s6).set (.arr [d3.v] 7 1) lSU;have k7:=k6.set ok (.arr [d3.v] 7 1) o6.1 o6.2.1 o6.2.2;have b7:(U6.set U.length (.arr [d3.v] 7 1))[U.length]?=some (.arr [d3.v] 7 1):=qq5 (glt b6);obtain ⟨v',X',ha,hg3,hk3,hs4⟩:=fin F4 D4 _ k7 s56 g6;simp[ldS,b6,stS,qgO,qaq];generalize U6.set U.length (.arr [d3.v] 7 1)=U7 at ha b7 ⊢;simp[ldS,b7,De.fits1,ha,qa6 (n:=(i:Int)+1)];refine ⟨_,?_,_,?_,i+1,v',F4,D4,rfl,by omega,hg3,hk3,hs4,rfl⟩
    ·omega
    ·exact Env.so (by simp)
   ·rw[hnb',if_neg h4,hhs,if_neg h4,if_neg h4] at fin;obtain ⟨v',X',ha,hg3,hk3,hs4⟩:=fin F3 D3 U5 k5 s34 g4;simp[ldS,b5,d2k,h4,De.fits1,ha,qa6 (n:=(i:Int)+1)];refine ⟨_,?_,_,?_,i+1,v',F3,D3,rfl,by omega,hg3,hk3,hs4,rfl⟩
    ·omega
    ·exact Env.so (by simp)
 rintro e U ⟨gv,F1,D1,g9,hg,hk1,hs1⟩;simp[g9];exact qd1 ok rfl hg hk1 hs1 (by rw[←qaP,wDe])
theorem Sm.wr_eq(p:Pw)(sc:Scs)(n:Nat)(s:Sm):s.wr p sc n=
  if s.kind=7 then .mk (rets p sc s.labels) s.kind s.text (Ex.wrl p sc true s.targets) s.exps s.elems (De.wrl p (qaf (qae s.decls s.body) n::sc) sc (n+(qaf (qae s.decls s.body) n).length) s.decls) (Sm.wrl p (qaf (qae s.decls s.body) n::sc) (n+(qaf (qae s.decls s.body) n).length+De.nbl s.decls) s.body)
  else if s.kind=8 then .mk (rets p sc s.labels) s.kind s.text (Ex.wrl p sc true s.targets) s.exps s.elems s.decls (Sm.wrl p (qaf (qap s.body) n::sc) (n+(qaf (qap s.body) n).length) s.body)
  else .mk (rets p sc s.labels) s.kind (p.clE sc s.kind s.text) (Ex.wrl p sc true s.targets) (Ex.wrl p sc false s.exps) (El.wrl p sc s.elems) s.decls (Sm.wr1 p sc n s.body):=by
 cases s;rw[Sm.wr];rfl
theorem Sm.hs_eq(p:Pw)(sc:Scs)(n:Nat)(h:p.H)(s:Sm):s.hs p sc n h=
  if s.kind=7 then Sm.hsl p (qaf (qae s.decls s.body) n::sc) (n+(qaf (qae s.decls s.body) n).length+De.nbl s.decls) (De.hsl p (qaf (qae s.decls s.body) n::sc) sc (n+(qaf (qae s.decls s.body) n).length) (enters p (Ex.hsl p sc true h s.targets) (qaf (qae s.decls s.body) n)) s.decls) s.body
  else if s.kind=8 then Sm.hsl p (qaf (qap s.body) n::sc) (n+(qaf (qap s.body) n).length) (enters p (Ex.hsl p sc true h s.targets) (qaf (qap s.body) n)) s.body
  else p.clS sc s.kind (Sm.hs1 p sc n (El.hsl p sc (Ex.hsl p sc false (Ex.hsl p sc true h s.targets) s.exps) s.elems) s.body) s.text:=by
 cases s;rw[Sm.hs];rfl
theorem Sm.nb_eq(s:Sm):s.nb=if s.kind=7 then (qaf (qae s.decls s.body) 0).length+De.nbl s.decls+Sm.nbl s.body else if s.kind=8 then (qaf (qap s.body) 0).length+Sm.nbl s.body else Sm.nb1 s.body:=by
 cases s;rw[Sm.nb];rfl
theorem Sm.size_parts(s:Sm):(Pa.st s).size=1+s.labels.length+qaN (s.targets.map Pa.ex)+qaN (s.exps.map Pa.ex)+qaN (s.elems.map Pa.el)+qaN (s.decls.map Pa.de)+qaN (s.body.map Pa.st):=by
 rw[Pa.size_eq];simp only[Pa.own,Pa.kids,qa7];omega
theorem gpp{U:St}{x:Nat}{o:Ob}{os:List Ob}(h:U[x]?=some o):(U++os)[x]?=some o:=by rw[qq4 (qq2.1 h).1];exact h
abbrev smZ:V:=.agg [.sl true [],.int .i64 0,.str ⟨⟨[]⟩⟩,.sl true [],.sl true [],.sl true [],.sl true [],.sl true []]
theorem ScR.yb{p:Pw}{w:Nat}{F D F' D':Nat→Prop}{S X:St}{v:V}{ts:List Sct}(h:ScR p (fun l=>l=w∨F l) S v ts)(s:Stp w F D S F' D' X):ScR p (fun l=>l=w∨F' l∨(l=S.length∨l=S.length+1)) X v ts:=
 h.mono s.k fun l hh=>by
  rcases hh with hh|hh|hh|hh
  ·exact .inl (.inl hh)
  ·exact (s.gF l hh).imp .inr id
  ·exact .inr (by omega)
  ·exact .inr (by omega)
structure Bx(c:Cb)(w n:Nat)(h:c.H)(F D:Nat→Prop)(S:St)(y:Sm)(F' D':Nat→Prop)(X:St):Prop where
 b0:X[S.length]?=some (.arr [y.v] 8 1)
 b1:X[S.length+1]?=some (.arr [smZ] 8 1)
 wk:Wk c w n h F' D' X
 st:Stp w F D S F' D' X
 o0:Off w F' D' S.length
 o1:Off w F' D' (S.length+1)
section
variable {c:Cb} (ok:c.Ok) {w n:Nat} {h:c.H} {F D F' D':Nat→Prop} {S X:St} {y:Sm} (b:Bx c w n h F D S y F' D' X)
include b
theorem Bx.call{n':Nat}{h':c.H}{x r:V}{U:St}(d:Wd c w n' h' F' D' X x r U):r=x∧∃F2 D2,Bx c w n' h' F D S y F2 D2 U:=by
 obtain ⟨rfl,F2,D2,k,s⟩:=d;have l0:=glt b.b0;have l1:=glt b.b1;exact ⟨rfl,F2,D2,s.at b.o0 b.b0,s.at b.o1 b.b1,k,b.st.trans s,b.o0.next l0 s,b.o1.next l1 s⟩
theorem Bx.step{n':Nat}{h':c.H}{F2 D2:Nat→Prop}{U:St}(k:Wk c w n' h' F2 D2 U)(s:Stp w F' D' X F2 D2 U):Bx c w n' h' F D S y F2 D2 U:=by
 have l0:=glt b.b0;have l1:=glt b.b1;exact ⟨s.at b.o0 b.b0,s.at b.o1 b.b1,k,b.st.trans s,b.o0.next l0 s,b.o1.next l1 s⟩
omit b in
def Yb(S:St)(l:Nat):Prop:=l=S.length∨l=S.length+1
include ok
theorem Bx.put(y':Sm):Bx c w n h F D S y' F' D' (X.set S.length (.arr [y'.v] 8 1)):=by
 have l1:=glt b.b1;exact ⟨qq5 (glt b.b0),by rw[qq6 (by omega)];exact b.b1,b.wk.set ok _ b.o0.1 b.o0.2.1 b.o0.2.2,b.st.set _ (qq8 _),b.o0,b.o1⟩
theorem Bx.push(os:List Ob):Bx c w n h F D S y F' D' (X++os):=⟨gpp b.b0,gpp b.b1,b.wk.push ok _,b.st.push _,b.o0,b.o1⟩
theorem Bx.fin{e:Env}(he:e.get 6=some (.ptr (S.length+1) 0 0 1)):endp [.cell 6 (some 8)] S.length (fun r U=>Wd c w n h F D S y.v r U) .ret e (X.set (S.length+1) (.arr [y.v] 8 1)):=by
 have hz:(X.set (S.length+1) (.arr [y.v] 8 1))[S.length+1]?=some (.arr [y.v] 8 1):=qq5 (glt b.b1);exact qah (vs:=[y.v]) (by simp[rvs,he,ldS,hz]) ⟨rfl,F',D',b.wk.set ok _ b.o1.1 b.o1.2.1 b.o1.2.2,b.st.set _ (by omega)⟩
end
theorem smV(a:List ByteArray)(k:Int)(t:ByteArray)(g e:List Ex)(l:List El)(d:List De)(b:List Sm):V.agg [.sl false (a.map .str),.int .i64 k,.str t,.sl false (g.map Ex.v),.sl false (e.map Ex.v),.sl false (l.map El.v),.sl false (d.map De.v),.sl false (b.map Sm.v)]=(Sm.mk a k t g e l d b).v:=by rw[Sm.v_eq];rfl
theorem qi7{c:Cb}(ok:c.Ok){w n:Nat}{h:c.H}{F D Y:Nat→Prop}{S:St}{v:V}{ts:List Sct}(hk:Wk c w n h F D S)(hY:∀l,Y l→l<S.length)(hsc:ScR c.toPw (fun l=>l=w∨F l∨Y l) S v ts)(s:Sco)(hc:c.cn (enters c.toPw h s) (n+s.length)):∃r U,qqO c w n h F D Y ts s S r U:=by
 obtain ⟨F',D',U0,q1,q2,q3,q4⟩:=ok.real hk.st (enters c.toPw h s);obtain ⟨⟨ka,kb,kd⟩,st⟩:=hk.call0 ok q1 q2 q3 q4;have hlt:=(qq2.1 ka).1;have hl0:=st.k.len;obtain ⟨t,ht⟩:∃t:Sct,t=s.zipIdx.map fun e=>(e.1.1,e.1.2,U0.length+3+e.2):=⟨_,rfl⟩
 have hts:t.sco=s:=by
  rw[ht];unfold Sct.sco;rw[List.map_map];apply qr6;intro i;simp only[qre,List.getElem?_zipIdx];cases s[i]? <;> rfl
 have htl:=Sco.len_of hts;obtain ⟨os,hos⟩:∃os:List Ob,os=[.arr [.agg [v]] 1 1,.map (t.map entT) (qfk t.length) t.length,.arr [.agg [.ptr U0.length 0 0 1,.map (U0.length+1)]] 2 1]++s.map fun e=>plc e.1 e.2 (c.f e.2 e.1):=⟨_,rfl⟩
 have g:∀j o,os[j]?=some o→(U0.set w (wkr c (n+t.length))++os)[U0.length+j]?=some o:=fun j o ho=>by
  rw[qq3 (by simp),List.length_set,qsd];exact ho
 have kk:Wk c w (n+t.length) (enters c.toPw h s) F' D' (U0.set w (wkr c (n+t.length))++os):=Wk.push ok ⟨qq5 hlt,ok.fr (M:=fun l=>l=w) q1 ((Kp.refl _ _).set _ (.inl rfl)) (fun l hl _=>by rw[hl];exact ⟨kb,kd⟩),kb,kd,by rw[htl];exact hc⟩ _;have ss:Stp w F D S F' D' (U0.set w (wkr c (n+t.length))++os):=⟨(st.k.set _ (.inl (.inl rfl))).push _,st.gF,st.gD⟩
 have out:∀l,U0.length≤l→¬ (l=w∨F' l∨Y l):=by
  rintro l hl (rfl|hf|hy)
  ·omega
  ·have:=ok.lt q1 l (.inl hf);omega
  ·have:=hY l hy;omega
 refine ⟨.ptr (U0.length+2) 0 0 1,_,t,F',D',hts,kk,ss,U0.length+2,U0.length,U0.length+1,v,_,_,rfl,⟨out _ (by omega),out _ (qq8 _),out _ (by omega)⟩,g 2 _ (by rw[hos];rfl),g 0 _ (by rw[hos];rfl),g 1 _ (by rw[hos];rfl),fun e he=>?_,hsc.mono (ss.k.mono fun l _ hh=>hh.imp id .inl) fun l hh=>?_⟩
 ·obtain ⟨j,hj⟩:=qrC he;rw[ht,qre,List.getElem?_zipIdx] at hj
  cases hs:s[j]? with
  | none=>rw[hs] at hj;simp at hj
  | some x=>
   rw[hs] at hj;simp at hj;subst hj;refine ⟨out _ (by simp only;omega),?_⟩;rw[show U0.length+3+j=U0.length+(3+j) by omega];refine g _ _ ?_;rw[hos,qq3 (by simp)];simp[hs]
 ·rcases hh with hh|hh|hh
  ·exact .inl (.inl hh)
  ·exact (q3 l hh).imp (fun a=>.inr (.inl a)) id
  ·exact .inl (.inr (.inr hh))
theorem qhp(c:Cb)(ok:c.Ok)(w:Nat):∀(m:Nat) (s:Sm),(Pa.st s).size≤m→m≤4000→s.ok→P186 c w s
 | 0,s,hx,_,_=>by have:=(Pa.st s).size_pos;omega
 | m+1,s,hx,hm,hok=>by
  intro n h F D S v ts hk hsc hin hn;have O:=(Sm.ok_iff s).1 hok;have hsz:=Sm.size_parts s
  have IHb:∀y,y∈s.body→P186 c w y:=fun y hy=>qhp c ok w m y (by
   obtain ⟨i,hi⟩:=qrC (qrR (f:=Pa.st) hy);have:=qbD hi;omega) (by omega) (Sm.okL_mem O.body.2 y hy)
  have IHd:∀d,d∈s.decls→∀y,y∈d.body→P186 c w y:=fun d hd y hy=>qhp c ok w m y (by
   obtain ⟨i,hi⟩:=qrC (qrR (f:=Pa.de) hd);have h1:=qbD hi;have h2:=De.size_parts d;obtain ⟨j,hj⟩:=qrC (qrR (f:=Pa.st) hy);have:=qbD hj;omega) (by omega) (Sm.okL_mem ((De.ok_iff d).1 (De.okL_mem O.decls.2 d hd)).body.2 y hy)
  have hokd:∀d,d∈s.decls→∀y,y∈d.body→y.ok:=fun d hd y hy=>Sm.okL_mem ((De.ok_iff d).1 (De.okL_mem O.decls.2 d hd)).body.2 y hy
  have hokb:∀y,y∈s.body→y.ok:=fun y hy=>Sm.okL_mem O.body.2 y hy
  have hbl:s.body.length≤4000:=by have:=qbV (s.body.map Pa.st);rw[qrh] at this;omega
  refine Spec.intro func186 ok186 (by simp[c186]) ?_;obtain ⟨S1,hS1⟩:∃S1:St,S1=S++[.arr [s.v] 8 1,.arr [smZ] 8 1]:=⟨_,rfl⟩
  have B1:Bx c w n h F D S s F D S1:=by
   rw[hS1];exact ⟨by rw[qq3 (by omega)];simp,by rw[qq3 (by omega)];simp,hk.push ok _,(Stp.refl _ _ _ _).push _,hk.out ok (by omega),hk.out ok (by omega)⟩
  simp[c186,boxS,ldS,qaq];rw[←hS1];refine qan (qkm c ok w s.labels (by omega) n h F D S1 v ts hin B1.wk (hsc.step B1.st)) ?_;intro r U hU;obtain ⟨rfl,F2,D2,B2⟩:=B1.call hU;clear hU;obtain ⟨y1,hy1⟩:∃y1:Sm,y1=.mk (rets c.toPw (Scx ts) s.labels) s.kind s.text s.targets s.exps s.elems s.decls s.body:=⟨_,rfl⟩;have B3:=B2.put ok y1;simp[stS,ldS,B2.b0,qcR,qaq];rw[smV,←hy1];generalize U.set S.length (.arr [y1.v] 8 1)=U3 at B3 ⊢;have e1:y1.targets=s.targets:=by rw[hy1];rfl
  simp[ldS,B3.b0,e1];refine qan (qfI c ok w s.targets (by omega) n h F2 D2 U3 v ts true B3.wk (hsc.step B3.st)) ?_;intro r U hU;obtain ⟨rfl,F3,D3,B4⟩:=B3.call hU;clear hU;obtain ⟨y2,hy2⟩:∃y2:Sm,y2=.mk (rets c.toPw (Scx ts) s.labels) s.kind s.text (Ex.wrl c.toPw (Scx ts) true s.targets) s.exps s.elems s.decls s.body:=⟨_,rfl⟩;have B5:=B4.put ok y2;simp[stS,ldS,B4.b0,qcR,qaq];have hy2v:V.agg [.sl false (y1.labels.map .str),.int .i64 y1.kind,.str y1.text,.sl false ((Ex.wrl c.toPw (Scx ts) true s.targets).map Ex.v),.sl false (y1.exps.map Ex.v),.sl false (y1.elems.map El.v),.sl false (y1.decls.map De.v),.sl false (y1.body.map Sm.v)]=y2.v:=by rw[smV,hy1,hy2];rfl
  rw[hy2v];generalize U.set S.length (.arr [y2.v] 8 1)=U5 at B5 ⊢;have k2:y2.kind=s.kind:=by rw[hy2];rfl
  have x2:y2.exps=s.exps:=by rw[hy2];rfl
  have l2:y2.elems=s.elems:=by rw[hy2];rfl
  have d2:y2.decls=s.decls:=by rw[hy2];rfl
  have t2:y2.body=s.body:=by rw[hy2];rfl
  obtain ⟨h2,hh2⟩:∃h2,h2=Ex.hsl c.toPw (Scx ts) true h s.targets:=⟨_,rfl⟩;rw[←hh2] at B5;have hw:=Sm.wr_eq c.toPw (Scx ts) n s;have hh:=Sm.hs_eq c.toPw (Scx ts) n h s;have hnb:=Sm.nb_eq s;rw[←hh2] at hh;simp[ldS,B5.b0,k2];by_cases h7:s.kind=7
  ·rw[if_pos h7] at hw hh hnb;have hbn:=qaS (qae s.decls s.body) n 0;simp[h7,ldS,B5.b0];refine qan (qoS y2 U5) ?_;rintro r U6 ⟨rfl,hU6⟩;have B6:=B5.push ok [.arr [y2.v] 8 1];rw[←hU6] at B6;have c6:U6[U5.length]?=some (.arr [y2.v] 8 1):=by rw[hU6];simp
   have hy:=qlj y2 (by rw[d2];exact O.decls) (by rw[t2];exact O.body) U5.length;rw[d2,t2] at hy;have lS5:=B5.st.k.len;simp;refine qan (qfE c ok w n h2 F3 D3 v ts (qae s.decls s.body) 255 [.ptr U5.length 0 0 1] U5.length _ hy (by simp) U6 B6.wk (Yb S) (by rintro l (rfl|rfl);exact glt B6.b0;exact glt B6.b1) (hsc.yb B6.st) c6 (B5.wk.out ok (qq8 _)) (by omega)) ?_;rintro r U7 ⟨t,F4,D4,hts,k7,s7,sc7⟩;have htl:=Sco.len_of hts;have hscx:Scx (t::ts)=qaf (qae s.decls s.body) n::Scx ts:=by simp only[Scx,qrm,hts]
   have B7:=B6.step k7 s7;simp[ldS,B7.b0,d2]
   have q:=qiY c ok w s.decls (by omega) IHd hokd _ _ F4 D4 U7 r v (t::ts) ts B7.wk (sc7.sub fun l hl=>hl.imp id .inl) (hsc.step B7.st) (by
    intro d hd;rw[hscx];exact (qcG _ _ _).sub fun x hx=>qsy _ (List.mem_flatMap.2 ⟨d,hd,hx⟩)) (by omega)
   rw[hscx] at q;refine qan q ?_;rintro r2 U8 ⟨rfl,F5,D5,k8,s8⟩;have B8:=B7.step k8 s8;obtain ⟨y3,hy3⟩:∃y3:Sm,y3=.mk (rets c.toPw (Scx ts) s.labels) s.kind s.text (Ex.wrl c.toPw (Scx ts) true s.targets) s.exps s.elems (De.wrl c.toPw (qaf (qae s.decls s.body) n::Scx ts) (Scx ts) (n+t.length) s.decls) s.body:=⟨_,rfl⟩;have hy3v:V.agg [.sl false (y2.labels.map .str),.int .i64 y2.kind,.str y2.text,.sl false (y2.targets.map Ex.v),.sl false (y2.exps.map Ex.v),.sl false (y2.elems.map El.v),.sl false ((De.wrl c.toPw (qaf (qae s.decls s.body) n::Scx ts) (Scx ts) (n+t.length) s.decls).map De.v),.sl false (y2.body.map Sm.v)]=y3.v:=by rw[smV,hy2,hy3];rfl
   have B9:=B8.put ok y3
   have sc9:ScR c.toPw (fun l=>l=w∨F5 l) (U8.set S.length (.arr [y3.v] 8 1)) r (t::ts):=by
    refine (sc7.mono ((s8.k.mono fun l _ hh=>hh.imp id .inl).set _ (.inl (.inr (.inr (.inl rfl))))) (X':=fun l=>l=w∨F5 l) fun l hh=>?_);rcases hh with hh|hh
    ·exact .inl (.inl hh)
    ·exact (s8.gF l hh).imp (fun a=>.inr (.inl a)) id
   simp[stS,B8.b0,qcR,qaq];rw[hy3v];generalize U8.set S.length (.arr [y3.v] 8 1)=U9 at B9 sc9 ⊢;have b3:y3.body=s.body:=by rw[hy3];rfl
   simp[ldS,B9.b0,b3];have q3:=qd0 c ok w s.body false IHb hbl _ _ F5 D5 U9 r (t::ts) B9.wk sc9 (by rw[hscx];exact (qcG _ _ _).sub fun x hx=>qsx _ hx) (by omega);rw[hscx] at q3;refine qan q3 ?_;rintro r3 U10 ⟨rfl,F6,D6,k10,s10⟩;have B10:=B9.step k10 s10;obtain ⟨y4,hy4⟩:∃y4:Sm,y4=.mk (rets c.toPw (Scx ts) s.labels) s.kind s.text (Ex.wrl c.toPw (Scx ts) true s.targets) s.exps s.elems (De.wrl c.toPw (qaf (qae s.decls s.body) n::Scx ts) (Scx ts) (n+t.length) s.decls) (Sm.wrl c.toPw (qaf (qae s.decls s.body) n::Scx ts) (n+t.length+De.nbl s.decls) s.body):=⟨_,rfl⟩;have hy4v:V.agg [.sl false (y3.labels.map .str),.int .i64 y3.kind,.str y3.text,.sl false (y3.targets.map Ex.v),.sl false (y3.exps.map Ex.v),.sl false (y3.elems.map El.v),.sl false (y3.decls.map De.v),.sl false ((Sm.wrl c.toPw (qaf (qae s.decls s.body) n::Scx ts) (n+t.length+De.nbl s.decls) s.body).map Sm.v)]=y4.v:=by rw[smV,hy3,hy4];rfl
   have B11:=B10.put ok y4;simp[stS,B10.b0,qcR,qaq];rw[hy4v];generalize U10.set S.length (.arr [y4.v] 8 1)=U11 at B11 ⊢;have k4:y4.kind=7:=by rw[hy4,←h7];rfl
   simp[ldS,B11.b0,B11.b1,k4,stS,qaq];rw[hw,hh,hnb,←htl,←hy4,show n+((qaf (qae s.decls s.body) 0).length+De.nbl s.decls+Sm.nbl s.body)=n+t.length+De.nbl s.decls+Sm.nbl s.body by omega];exact B11.fin ok rfl
  by_cases h8:s.kind=8
  ·rw[if_neg h7,if_pos h8] at hw hh hnb;have hbn:=qaS (qap s.body) n 0;simp[h8,ldS,B5.b0,t2];refine qb1 (qg8 s.body false U5) ⟨_,_,rfl,rfl⟩ ?_;rintro r U6 ⟨rfl,hU6⟩;have B6:=B5.push ok [.arr [.sl false (s.body.map Sm.v)] 1 1];rw[←hU6] at B6;have c6:U6[U5.length]?=some (.arr [.sl false (s.body.map Sm.v)] 1 1):=by rw[hU6];simp
   have hy:=qeL s.body O.body.1 O.body.2 U5.length;have hYb:∀l,Yb S l→l<U6.length:=by rintro l (rfl|rfl);exact glt B6.b0;exact glt B6.b1
   have scY:=hsc.yb B6.st;have lS5:=B5.st.k.len;simp;refine qb1 (qfE c ok w n h2 F3 D3 v ts (qap s.body) 187 [.ptr U5.length 0 0 1] U5.length _ hy (by simp) U6 B6.wk (Yb S) hYb scY c6 (B5.wk.out ok (qq8 _)) (by omega)) (qi7 ok B6.wk hYb scY _ (qp2 ok _ B6.wk.cn)) ?_;rintro r U7 ⟨t,F4,D4,hts,k7,s7,sc7⟩;have htl:=Sco.len_of hts;have hscx:Scx (t::ts)=qaf (qap s.body) n::Scx ts:=by simp only[Scx,qrm,hts]
   have B7:=B6.step k7 s7;simp;have q3:=qd0 c ok w s.body false IHb hbl _ _ F4 D4 U7 r (t::ts) B7.wk (sc7.sub fun l hl=>hl.imp id .inl) (by rw[hscx];exact qcG _ _ _) (by omega);rw[hscx] at q3;refine qb1 q3 (Wd.some ok B7.wk _ (qqi ok _ _ B7.wk.cn) _) ?_;rintro r3 U10 ⟨rfl,F6,D6,k10,s10⟩;have B10:=B7.step k10 s10;obtain ⟨y4,hy4⟩:∃y4:Sm,y4=.mk (rets c.toPw (Scx ts) s.labels) s.kind s.text (Ex.wrl c.toPw (Scx ts) true s.targets) s.exps s.elems s.decls (Sm.wrl c.toPw (qaf (qap s.body) n::Scx ts) (n+t.length) s.body):=⟨_,rfl⟩;have hy4v:V.agg [.sl false (y2.labels.map .str),.int .i64 y2.kind,.str y2.text,.sl false (y2.targets.map Ex.v),.sl false (y2.exps.map Ex.v),.sl false (y2.elems.map El.v),.sl false (y2.decls.map De.v),.sl false ((Sm.wrl c.toPw (qaf (qap s.body) n::Scx ts) (n+t.length) s.body).map Sm.v)]=y4.v:=by rw[smV,hy2,hy4];rfl
   have B11:=B10.put ok y4;simp[stS,B10.b0,qcR,qaq,dend,qcs,qc5,ldS,B5.b0,B6.b0,B7.b0,t2];rw[hy4v];generalize U10.set S.length (.arr [y4.v] 8 1)=U11 at B11 ⊢;have k4:y4.kind=8:=by rw[hy4,←h8];rfl
   simp[ldS,B11.b0,B11.b1,k4,stS,qaq];rw[hw,hh,hnb,←htl,←hy4,show n+((qaf (qap s.body) 0).length+Sm.nbl s.body)=n+t.length+Sm.nbl s.body by omega];exact B11.fin ok rfl
  rw[if_neg h7,if_neg h8] at hw hh hnb;simp[h7,h8,ldS,B5.b0,x2];refine qan (qfI c ok w s.exps (by omega) n h2 F3 D3 U5 v ts false B5.wk (hsc.step B5.st)) ?_;rintro r U6 ⟨rfl,F4,D4,k6,s6⟩;have B6:=B5.step k6 s6;obtain ⟨y3,hy3⟩:∃y3:Sm,y3=.mk (rets c.toPw (Scx ts) s.labels) s.kind s.text (Ex.wrl c.toPw (Scx ts) true s.targets) (Ex.wrl c.toPw (Scx ts) false s.exps) s.elems s.decls s.body:=⟨_,rfl⟩;have hy3v:V.agg [.sl false (y2.labels.map .str),.int .i64 y2.kind,.str y2.text,.sl false (y2.targets.map Ex.v),.sl false ((Ex.wrl c.toPw (Scx ts) false s.exps).map Ex.v),.sl false (y2.elems.map El.v),.sl false (y2.decls.map De.v),.sl false (y2.body.map Sm.v)]=y3.v:=by rw[smV,hy2,hy3];rfl
  have B7:=B6.put ok y3;simp[stS,B6.b0,qcR,qaq];rw[hy3v];generalize U6.set S.length (.arr [y3.v] 8 1)=U7 at B7 ⊢;have l3:y3.elems=s.elems:=by rw[hy3];rfl
  simp[ldS,B7.b0,l3];refine qan (qny c ok w s.elems (by omega) n _ F4 D4 U7 v ts B7.wk (hsc.step B7.st)) ?_;rintro r U8 ⟨rfl,F5,D5,k8,s8⟩;have B8:=B7.step k8 s8;obtain ⟨y4,hy4⟩:∃y4:Sm,y4=.mk (rets c.toPw (Scx ts) s.labels) s.kind s.text (Ex.wrl c.toPw (Scx ts) true s.targets) (Ex.wrl c.toPw (Scx ts) false s.exps) (El.wrl c.toPw (Scx ts) s.elems) s.decls s.body:=⟨_,rfl⟩;have hy4v:V.agg [.sl false (y3.labels.map .str),.int .i64 y3.kind,.str y3.text,.sl false (y3.targets.map Ex.v),.sl false (y3.exps.map Ex.v),.sl false ((El.wrl c.toPw (Scx ts) s.elems).map El.v),.sl false (y3.decls.map De.v),.sl false (y3.body.map Sm.v)]=y4.v:=by rw[smV,hy3,hy4];rfl
  have B9:=B8.put ok y4;simp[stS,B8.b0,qcR,qaq];rw[hy4v];generalize U8.set S.length (.arr [y4.v] 8 1)=U9 at B9 ⊢;have b4:y4.body=s.body:=by rw[hy4];rfl
  simp[ldS,B9.b0,b4];refine qan (qdP c ok w s.body false IHb hbl hokb n _ F5 D5 U9 v ts B9.wk (hsc.step B9.st) (by omega)) ?_;rintro r U10 ⟨rfl,F6,D6,k10,s10⟩;have B10:=B9.step k10 s10;obtain ⟨y5,hy5⟩:∃y5:Sm,y5=.mk (rets c.toPw (Scx ts) s.labels) s.kind s.text (Ex.wrl c.toPw (Scx ts) true s.targets) (Ex.wrl c.toPw (Scx ts) false s.exps) (El.wrl c.toPw (Scx ts) s.elems) s.decls (Sm.wr1 c.toPw (Scx ts) n s.body):=⟨_,rfl⟩;have hy5v:V.agg [.sl false (y4.labels.map .str),.int .i64 y4.kind,.str y4.text,.sl false (y4.targets.map Ex.v),.sl false (y4.exps.map Ex.v),.sl false (y4.elems.map El.v),.sl false (y4.decls.map De.v),.sl false ((Sm.wr1 c.toPw (Scx ts) n s.body).map Sm.v)]=y5.v:=by rw[smV,hy4,hy5];rfl
  have B11:=B10.put ok y5;simp[stS,B10.b0,qcR,qaq];rw[hy5v];generalize U10.set S.length (.arr [y5.v] 8 1)=U11 at B11 ⊢;have k5:y5.kind=s.kind:=by rw[hy5];rfl
  have t5:y5.text=s.text:=by rw[hy5];rfl
  obtain ⟨h3,hh3⟩:∃h3,h3=Sm.hs1 c.toPw (Scx ts) n (El.hsl c.toPw (Scx ts) (Ex.hsl c.toPw (Scx ts) false h2 s.exps) s.elems) s.body:=⟨_,rfl⟩;rw[←hh3] at B11 hh;rw[hw,hh,hnb];by_cases h6:s.kind=6
  case neg=>
   simp[ldS,B11.b0,B11.b1,k5,h6,stS,qaq];have e1:c.toPw.clE (Scx ts) s.kind s.text=s.text:=by unfold Pw.clE;rw[if_neg h6]
   have e2:c.toPw.clS (Scx ts) s.kind h3 s.text=h3:=by unfold Pw.clS;rw[if_neg h6]
   rw[e1,e2,←hy5];exact B11.fin ok rfl
  have tw:=B11.wk.tw;unfold wkr at tw;have smT:∀z:ByteArray,V.agg [.sl false (y5.labels.map .str),.int .i64 y5.kind,.str z,.sl false (y5.targets.map Ex.v),.sl false (y5.exps.map Ex.v),.sl false (y5.elems.map El.v),.sl false (y5.decls.map De.v),.sl false (y5.body.map Sm.v)]=(Sm.mk (rets c.toPw (Scx ts) s.labels) s.kind z (Ex.wrl c.toPw (Scx ts) true s.targets) (Ex.wrl c.toPw (Scx ts) false s.exps) (El.wrl c.toPw (Scx ts) s.elems) s.decls (Sm.wr1 c.toPw (Scx ts) n s.body)).v:=fun z=>by rw[smV,hy5];rfl
  have hsc3:=hsc.step B11.st
  cases hcl:c.cl with
  | none=>
   have hfc:c.fc=.nilfn:=by have:=ok.cl;rw[hcl] at this;exact this
   rw[hfc] at tw;have hfind:=qgV hsc3 s.text;have e2:c.toPw.clS (Scx ts) s.kind h3 s.text=h3:=by unfold Pw.clS;rw[hcl];simp
   have e1:c.toPw.clE (Scx ts) s.kind s.text=retp c.toPw (Scx ts) s.text:=by unfold Pw.clE;rw[if_pos h6,hcl]
   rw[e1,e2];have hat:=qfg ts s.text
   cases hf:fnd ts s.text with
   | none=>
    have hr:retp c.toPw (Scx ts) s.text=s.text:=by unfold retp;rw[hat,hf];rfl
    have hv:fndV ts s.text=.nilp:=by simp[fndV,hf]
    rw[hv] at hfind;rw[hr,←hy5];simp[ldS,B11.b0,k5,t5,h6,qbP,tw,eqOk,eqV];refine qad hfind ?_;simp[ldS,B11.b0,B11.b1,eqOk,eqV,stS,qaq];exact B11.fin ok rfl
   | some q=>
    have hr:retp c.toPw (Scx ts) s.text=c.f q.1 s.text:=by unfold retp;rw[hat,hf];rfl
    have hv:fndV ts s.text=.ptr q.2 0 0 1:=by simp[fndV,hf]
    rw[hv] at hfind;have hq:=hsc3.fnd_get hf;unfold plc at hq;rw[hr];simp[ldS,B11.b0,k5,t5,h6,qbP,tw,eqOk,eqV];refine qad hfind ?_;obtain ⟨z,hz⟩:∃z:Sm,z=.mk (rets c.toPw (Scx ts) s.labels) s.kind (c.f q.1 s.text) (Ex.wrl c.toPw (Scx ts) true s.targets) (Ex.wrl c.toPw (Scx ts) false s.exps) (El.wrl c.toPw (Scx ts) s.elems) s.decls (Sm.wr1 c.toPw (Scx ts) n s.body):=⟨_,rfl⟩;have hzv:=smT (c.f q.1 s.text);rw[←hz] at hzv;have B12:=B11.put ok z;rw[h6] at hz;rw[←hz];rw[k5,h6] at hzv;simp[ldS,B11.b0,eqOk,eqV,qbP,hq,stS,qcR,qaq,k5,h6];rw[hzv];generalize U11.set S.length (.arr [z.v] 8 1)=U12 at B12 ⊢;simp[ldS,B12.b0,stS,B12.b1,qaq];exact B12.fin ok rfl
  | some g=>
   have hcb:=ok.cl;rw[hcl] at hcb;obtain ⟨kf,cs,hfc,hsp⟩:=hcb;rw[hfc] at tw;have e2:c.toPw.clS (Scx ts) s.kind h3 s.text=c.clH h3 s.text (Scx ts):=by unfold Pw.clS;rw[if_pos h6,hcl]
   have e1:c.toPw.clE (Scx ts) s.kind s.text=g s.text (Scx ts):=by unfold Pw.clE;rw[if_pos h6,hcl]
   rw[e1,e2];have hsp3:=hsp U11 s.text v ts w h3 F6 D6 hsc3 B11.wk.st;obtain ⟨Fi,Di,Ui,hi⟩:=ok.real B11.wk.st (c.clH h3 s.text (Scx ts));simp[ldS,B11.b0,k5,t5,h6,qbP,tw,eqOk,eqV];refine qb1 hsp3 ⟨_,Ui,rfl,Fi,Di,hi⟩ ?_;rintro r U12 ⟨rfl,F7,D7,q1,q2,q3,q4⟩;obtain ⟨k12,s12⟩:=B11.wk.call ok (ok.cc _ _ B11.wk.cn) q1 q2 q3 q4;have B12:=B11.step k12 s12;obtain ⟨z,hz⟩:∃z:Sm,z=.mk (rets c.toPw (Scx ts) s.labels) s.kind (g s.text (Scx ts)) (Ex.wrl c.toPw (Scx ts) true s.targets) (Ex.wrl c.toPw (Scx ts) false s.exps) (El.wrl c.toPw (Scx ts) s.elems) s.decls (Sm.wr1 c.toPw (Scx ts) n s.body):=⟨_,rfl⟩;have hzv:=smT (g s.text (Scx ts));rw[←hz] at hzv;have B13:=B12.put ok z;rw[h6] at hz;rw[←hz];rw[k5,h6] at hzv;simp[stS,B12.b0,qcR,qaq,dend,qcs,k5,h6];rw[hzv];generalize U12.set S.length (.arr [z.v] 8 1)=U13 at B13 ⊢;simp[ldS,B13.b0,stS,B13.b1,qaq];exact B13.fin ok rfl
theorem qmW(c:Cb)(ok:c.Ok)(w:Nat)(s:Sm)(hs:s.ok)(hsz:(Pa.st s).size≤4000)(h:c.H)(F D:Nat→Prop)(S:St)(hk:Wk c w 0 h F D S)(hn:Sm.nb1 [s]≤100000):
  Spec prog 62 [.ptr w 0 0 1,s.v] S (fun r U=>Wd c w (Sm.nb1 [s]) (s.wholeH c.toPw h) F D S (s.wholeR c.toPw).v r U):=by
 refine Spec.intro func62 ok62 (by simp[c62]) ?_;obtain ⟨S1,hS1⟩:∃S1:St,S1=S++[.arr [s.v] 8 1,.arr [smZ] 8 1]:=⟨_,rfl⟩;have b0:S1[S.length]?=some (.arr [s.v] 8 1):=by rw[hS1,qq3 (by omega)];simp
 have b1:S1[S.length+1]?=some (.arr [smZ] 8 1):=by rw[hS1,qq3 (by omega)];simp
 have k1:Wk c w 0 h F D S1:=by rw[hS1];exact hk.push ok _
 have s1:Stp w F D S F D S1:=by rw[hS1];exact (Stp.refl _ _ _ _).push _
 have hf:=Sm.fits1 s;simp[c62,boxS,ldS,qaq,Sm.fits1];rw[←hS1];have q:=qdP c ok w [s] true (fun x hx=>by simp at hx;subst hx;exact qhp c ok w 4000 x hsz (by omega) hs) (by simp) (fun x hx=>by simp at hx;subst hx;exact hs) 0 h F D S1 .nilp [] k1 rfl (by omega);simp only[qrm,qsw,qr1] at q;refine qan q ?_;rintro r U ⟨rfl,F2,D2,k2,s2⟩;have o1:Off w F D (S.length+1):=hk.out ok (by omega);have l1:S.length+1<S1.length:=glt b1;have c1:=s2.at o1 b1;have p1:=o1.next l1 s2;have he:Sm.wr1 c.toPw (Scx []) 0 [s]=[s.wholeR c.toPw]:=by simp only[Sm.wr1,Sm.wholeR,Scx,qsw,qr1]
 have he2:Sm.hs1 c.toPw (Scx []) 0 h [s]=s.wholeH c.toPw h:=by simp only[Sm.hs1,Sm.wholeH,Scx,qsw,qr1]
 rw[he2] at k2;rw[he];simp only[qrm,qsw];have hia:iaS U 8 (.sl false [(s.wholeR c.toPw).v]) 0=some (.iptr (s.wholeR c.toPw).v 0):=by simp[iaS]
 simp[hia,ldS,stS,c1,qaq];have hz:(U.set (S.length+1) (.arr [(s.wholeR c.toPw).v] 8 1))[S.length+1]?=some (.arr [(s.wholeR c.toPw).v] 8 1):=qq5 (glt c1);exact qah (vs:=[(s.wholeR c.toPw).v]) (by simp[rvs,ldS,hz]) ⟨rfl,F2,D2,k2.set ok _ p1.1 p1.2.1 p1.2.2,(s1.trans s2).set _ (by omega)⟩
def numF(k:Nat):ByteArray:=⟨⟨[35]⟩⟩++⟨(dig k).toArray⟩
theorem qdV:∀(m n:Nat),n≤m→(dig n).length≤n+1
 | 0,n,h=>by rw[qgr (by omega)];simp
 | m+1,n,h=>by
  by_cases hn:n<10
  ·rw[qgr hn];simp
  ·rw[qmQ hn,qrl];have:=qdV m (n / 10) (by omega);simp only[qrz,qsk];omega
theorem qoy(p k:Nat)(x y:ByteArray)(hk:k≤100000)(U:St)(hp:U[p]?=some (plc x k y)):Spec prog 128 [.ptr p 0 0 1] U (fun _ U'=>U'=U.set p (plc x k (numF k))):=by
 refine Spec.intro func128 ok128 (by simp[c128]) ?_;unfold plc at hp ⊢;simp[c128,qbP,ldS,hp];refine qan (qn4 k (by omega) U) ?_;rintro r U2 ⟨rfl,rfl⟩
 have hs:strV .add ⟨⟨[35]⟩⟩ ⟨(dig k).toArray⟩=some (.str (numF k)):=by
  have:=qdV k k (qq8 _);unfold strV numF;rw[if_pos];show (((⟨⟨[35]⟩⟩:ByteArray).size+(⟨(dig k).toArray⟩:ByteArray).size:Nat):Int)≤9223372036854775807;have h1:(⟨⟨[35]⟩⟩:ByteArray).size=1:=rfl;have h2:(⟨(dig k).toArray⟩:ByteArray).size=(dig k).length:=by simp[ByteArray.size]
  omega
 simp[qbP,stS,hp,qaq,hs];exact qav rfl rfl
def nuP(f:Nat→ByteArray):Pw where
 H:=Unit
 f k _:=f k
 nm:=none
 cl:=none
 ent _ _ _:=()
 nmH _ _ _ _:=()
 clH _ _ _:=()
def nuC:Cb where
 toPw:=nuP numF
 fe:=.fn (.func 128) [] []
 fn:=.nilfn
 fc:=.nilfn
 I _ F D _:=∀l,¬ F l∧¬ D l
 cn _ _:=True
theorem qqg:nuC.Ok where
 lt hI l hl:=hl.elim (fun hf=>absurd hf (hI l).1) fun hd=>absurd hd (hI l).2
 fr hI _ _:=hI
 lp hI l _ _:=hI l
 ce _ _:=trivial
 cm _ _ _ _:=trivial
 cc _ _ _:=trivial
 real {h F D S} hI h':=⟨F,D,S,hI,Kp.refl _ _,grow.refl _ _,grow.refl _ _⟩
 en:=.inr ⟨128,[],rfl,fun U p k x h F D hp hF hD hk _ hI=>by
  refine Spec.mono (qoy p k x x hk U hp) fun v U' hU=>?_
  subst hU;exact ⟨F,D,hI,qq5 (qq2.1 hp).1,(Kp.refl _ _).set _ (.inl (.inl rfl)),grow.refl _ _,fun _ h=>.inl h⟩⟩
 nm:=rfl
 cl:=rfl
theorem qmX(s:Sm)(hs:s.ok)(hsz:(Pa.st s).size≤4000)(hn:Sm.nb1 [s]≤100000)(S:St):Spec prog 70 [s.v] S (fun r U=>r=(s.wholeR (nuP numF)).v∧Kp (fun _=>False) S U):=by
 refine Spec.intro func70 ok70 (by simp[c70]) ?_;simp[c70,boxS,ldS,qaq,qa2,qaQ];obtain ⟨S1,hS1⟩:∃S1:St,S1=S++[.arr [s.v] 8 1,.arr [smZ] 8 1,.arr [.agg [.int .i64 0,.fn (.func 128) [] [],.nilfn,.nilfn]] 4 1]:=⟨_,rfl⟩;rw[←hS1];have b1:S1[S.length+1]?=some (.arr [smZ] 8 1):=by rw[hS1,qq3 (by omega)];simp
 have b2:S1[S.length+2]?=some (wkr nuC 0):=by rw[hS1,qq3 (by omega)];simp[wkr,nuC]
 have l1:S1.length=S.length+3:=by rw[hS1];simp
 have kS:Kp (fun _=>False) S S1:=by rw[hS1];exact (Kp.refl _ _).push _
 refine qan (qmW nuC qqg (S.length+2) s hs hsz () (fun _=>False) (fun _=>False) S1 ⟨b2,fun _=>⟨id,id⟩,id,id,trivial⟩ hn) ?_;rintro r U ⟨rfl,F2,D2,k2,s2⟩;have c1:=s2.k.at b1 (by rintro (hh|hh);omega;exact hh);simp[stS,c1,qaq];have hz:(U.set (S.length+1) (.arr [(s.wholeR nuC.toPw).v] 8 1))[S.length+1]?=some (.arr [(s.wholeR nuC.toPw).v] 8 1):=qq5 (glt c1);refine qah (vs:=[(s.wholeR nuC.toPw).v]) (by simp[rvs,ldS,hz]) ⟨rfl,Kp.set ⟨qrJ kS.len s2.k.len,fun l hl hn=>?_⟩ _ (.inr (by omega))⟩;rw[s2.k.get l (by omega) (by rintro (hh|hh);omega;exact hh)];exact kS.get l hl hn
theorem qjP(a b:Sm):qa2 (V.agg [V.sl true [],V.int IntKind.i64 0,V.str ⟨⟨[]⟩⟩,V.sl true [],V.sl true [],V.sl true [],V.sl true [],V.sl true [],V.sl true [],V.int IntKind.i64 0,V.str ⟨⟨[]⟩⟩,V.sl true [],V.sl true [],V.sl true [],V.sl true [],V.sl true []]) [(0,8,a.v),(8,8,b.v)]=some (.agg (a.v.cells++b.v.cells)):=by
 simp[qa2,qaq]
theorem qml(a b:Sm)(i:Nat)(hi:i<2):V.part (.agg (a.v.cells++b.v.cells)) (i * 8) (some 8)=some (if i=0 then a.v else b.v):=by
 have h:i=0∨i=1:=by omega
 rcases h with rfl|rfl
 ·rw[qct,Sm.v_cells,Sm.v_cells,Sm.v_eq a];simp
 ·rw[qct,Sm.v_cells,Sm.v_cells,Sm.v_eq b];simp
open Classical in
theorem qqL(a b:Sm)(ha:a.ok)(hb:b.ok)(za:(Pa.st a).size≤4000)(zb:(Pa.st b).size≤4000)(hn:Sm.nb1 [a]≤100000)(hm:Sm.nb1 [b]≤100000)(na:(Pa.st a).err qac=0→(a.wholeR (nuP numF)).ok)(S:St):
  Spec prog 24 [a.v,b.v] S (fun r U=>r=.tup [.bool (decide ((Pa.st a).err qac=0∧(Pa.st b).err qac=0∧a.wholeR (nuP numF)=b.wholeR (nuP numF))),.int .i64 (if (Pa.st a).err qac=0 then (Pa.st b).err qac else (Pa.st a).err qac)]∧Kp (fun _=>False) S U):=by
 refine Spec.intro func24 ok24 (by simp[c24]) ?_;obtain ⟨S1,hS1⟩:∃S1:St,S1=S++[.arr [a.v] 8 1,.arr [b.v] 8 1]:=⟨_,rfl⟩;have b0:S1[S.length]?=some (.arr [a.v] 8 1):=by rw[hS1,qq3 (by omega)];simp
 have b1:S1[S.length+1]?=some (.arr [b.v] 8 1):=by rw[hS1,qq3 (by omega)];simp
 have kS:Kp (fun _=>False) S S1:=by rw[hS1];exact (Kp.refl _ _).push _
 simp[c24,boxS,ldS,qaQ];rw[qjP];rw[←hS1];obtain ⟨ab,hab⟩:∃ab,ab=V.agg (a.v.cells++b.v.cells):=⟨_,rfl⟩;have hagg:ab.isAgg=true:=by rw[hab];rfl
 rw[←hab];simp;refine qaY (fun e U=>(Pa.st a).err qac=0∧(Pa.st b).err qac=0∧Kp (fun _=>False) S1 U∧e.get 2=some (.ptr S.length 0 0 1)∧e.get 3=some (.ptr (S.length+1) 0 0 1)) ?_ ?_
 ·refine qax (fun j e U=>∃i:Nat,j=2 - i∧i≤2∧(1≤i→(Pa.st a).err qac=0)∧(2≤i→(Pa.st b).err qac=0)∧Kp (fun _=>False) S1 U∧
   e=[(12,.int .i64 i),(11,ab),(2,.ptr S.length 0 0 1),(3,.ptr (S.length+1) 0 0 1)]) 2 _ ?_ ⟨0,by simp,by omega,by omega,by omega,Kp.refl _ _,rfl⟩ ?_
  ·exact Env.so (by simp)
  rintro j e U ⟨i,rfl,hi,h1,h2,hk,rfl⟩;by_cases hlt:i<2
  ·have hp:=qml a b i hlt;obtain ⟨y,hy⟩:∃y:Sm,y=if i=0 then a else b:=⟨_,rfl⟩
   rw[←hab] at hp;have hyv:(if i=0 then a.v else b.v)=y.v:=by rw[hy];split <;> rfl
   rw[hyv] at hp;have hyo:y.ok:=by rw[hy];split <;> assumption
   have hi2:(i:Int)<2:=by omega
   simp[hi2,evX,hp,hagg,boxS,stS,qaq,ldS];refine qad (qmV y hyo _) ?_;by_cases he:(Pa.st y).err qac=0
   ·simp[he,qa6 (n:=(i:Int)+1)];refine ⟨_,?_,_,?_,i+1,rfl,by omega,fun hh=>?_,fun hh=>?_,hk.push _,rfl⟩
    ·omega
    ·exact Env.so (by simp)
    ·by_cases h0:i=0
     ·rw[if_pos h0] at hy;rw[←hy];exact he
     ·exact h1 (by omega)
    ·rw[if_neg (by omega)] at hy;rw[←hy];exact he
   ·simp[he,qeK];refine qah rfl ?_;refine ⟨?_,(kS.trans hk).push _⟩;by_cases h0:i=0
    ·rw[if_pos h0] at hy;rw[hy] at he ⊢;simp[retV,he]
    ·rw[if_neg h0] at hy;rw[hy] at he ⊢;simp[retV,he,h1 (by omega)]
  ·have:i=2:=by omega
   subst this;simp;exact ⟨h1 (by omega),h2 (by omega),hk⟩
 rintro e U ⟨h1,h2,hk,g2,g3⟩;have c0:=hk.at b0 id;have c1:=hk.at b1 id;simp[g2,g3,ldS,c0];refine qb1 (qmX a ha za hn U) ⟨_,U,rfl,Kp.refl _ _⟩ ?_;rintro r U2 ⟨rfl,k2⟩;have d0:=k2.at c0 id;have d1:=k2.at c1 id;simp[Sm.fits1,g3,ldS,d1];refine qb1 (qmX b hb zb hm U2) ⟨_,U2,rfl,Kp.refl _ _⟩ ?_;rintro r U3 ⟨rfl,k3⟩;have q:=qpO [a.wholeR (nuP numF)] [b.wholeR (nuP numF)] (by unfold B50;simp) ⟨na h1,trivial⟩ U3;simp only[qrm,qsw] at q
 have q':Fn prog 69 [.sl true [(a.wholeR (nuP numF)).v],.sl true [(b.wholeR (nuP numF)).v]] U3 (.bool (decide ([a.wholeR (nuP numF)]=[b.wholeR (nuP numF)]))):=by
  refine Spec.weakA ?_;simp only[V.weakL,V.weak,Sm.v_weak];exact q
 simp[Sm.fits1];refine qfZ q' ?_;simp[dend,qcs,qc5,ldS,g3,c1,d1];exact qah rfl ⟨by simp[retV,h1,h2],(kS.trans hk).trans (k2.trans k3)⟩
section
variable {p:Pw} {f:Nat→ByteArray} (hn:p.nm=none) (hc:p.cl=none) (hf:∀k x,p.f k x=f k)
include hf
theorem qdv(sc:Scs)(x:ByteArray):retp p sc x=reto f sc x:=by
 unfold retp reto;cases sc.at x <;> simp[hf]
theorem qdx(sc:Scs)(l:List ByteArray):l.map (retp p sc)=l.map (reto f sc):=qsi fun x _=>qdv hf sc x
include hn
mutual
theorem Ex.wr_w(sc:Scs)(tg:Bool):∀x:Ex,x.wr p sc tg=x.w f sc
 | .mk k o n m e t a=>by
  rw[Ex.wr,Ex.w,Ex.wrl_w sc false a];unfold Pw.nmE;rw[hn];simp only[Ex.kind,Ex.op,Ex.n,Ex.man,Ex.exp,Ex.text,Ex.args,qdv hf];split <;> rfl
theorem Ex.wrl_w(sc:Scs)(tg:Bool):∀l:List Ex,Ex.wrl p sc tg l=Ex.wl f sc l
 | []=>rfl
 | x::l=>by rw[Ex.wrl,Ex.wl,Ex.wr_w sc tg x,Ex.wrl_w sc tg l]
end
theorem El.wr_w(sc:Scs)(e:El):e.wr p sc=e.w f sc:=by
 unfold El.wr El.w;rw[Ex.wrl_w hn hf,Ex.wl_map]
theorem Fo.wr_w(sc:Scs)(x:Fo):x.wr p sc=x.w f sc:=by
 unfold Fo.wr Fo.w;rw[qdv hf]
end
theorem Sm.valid_block{nm:ByteArray→Bool}{l:List ByteArray}{k:Int}{t:ByteArray}{g e:List Ex}{h:List El}{d:List De}{b:List Sm}(v:(Pa.st (.mk l k t g e h d b)).valid nm=true):
  (k=7→g=[]∧e=[]∧h=[])∧(k=8→g=[]∧e=[]∧h=[]∧d=[])∧(k≠7→k≠8→d=[]):=by
 have h1:=(Pa.valid_iff.1 v).1;simp only[Pa.vOwn,Sm.vOwn,qri] at h1;have h1:=h1.2;refine ⟨?_,?_,?_⟩
 ·rintro rfl;simp at h1;simp[h1]
 ·rintro rfl;simp at h1;simp[h1]
 ·intro h7 h8
  repeat' split at h1
  all_goals first
   | (simp at h1;done)
   | (simp at h1;simp[h1];done)
   | omega
theorem De.valid_proc{nm:ByteArray→Bool}{k:Int}{o:Bool}{t:Int}{n:List ByteArray}{e:List Ex}{f:List Fo}{b:List Sm}(v:(Pa.de (.mk k o t n e f b)).valid nm=true):
  (k=4→e=[])∧(k≠4→f=[]∧b=[]):=by
 have h1:=(Pa.valid_iff.1 v).1;simp only[Pa.vOwn,De.vOwn,qri] at h1;have h1:=h1.2;refine ⟨?_,?_⟩
 ·rintro rfl;simp at h1;simp[h1]
 ·intro h4
  repeat' split at h1
  all_goals first
   | (simp at h1;done)
   | (simp at h1;simp[h1];done)
   | omega
section
variable {p:Pw} {f:Nat→ByteArray} (hn:p.nm=none) (hc:p.cl=none) (hf:∀k x,p.f k x=f k) {nm:ByteArray→Bool}
include hn hc hf
mutual
theorem Sm.wr_w:∀(s:Sm) (sc:Scs) (n:Nat),(Pa.st s).valid nm=true→s.wr p sc n=s.w f sc n
 | .mk l k t g e h d b,sc,n,v=>by
  obtain ⟨v7,v8,v9⟩:=Sm.valid_block v;have vd:=Sm.valid_decls v;have vb:=Sm.valid_body v;simp only[Sm.decls,Sm.body] at vd vb;rw[Sm.wr,Sm.w];by_cases h7:k=7
  ·obtain ⟨rfl,rfl,rfl⟩:=v7 h7;rw[if_pos h7,if_pos h7,qdx hf,De.wrl_w d _ _ _ vd,Sm.wrl_w b _ _ vb];rfl
  ·rw[if_neg h7,if_neg h7];by_cases h8:k=8
   ·obtain ⟨rfl,rfl,rfl,rfl⟩:=v8 h8;rw[if_pos h8,if_pos h8,qdx hf,Sm.wrl_w b _ _ vb];rfl
   ·obtain rfl:=v9 h7 h8;have hcl:p.clE sc k t=if k=6 then reto f sc t else t:=by unfold Pw.clE;rw[hc];simp only[qdv hf]
    rw[if_neg h8,if_neg h8,qdx hf,Ex.wrl_w hn hf,Ex.wrl_w hn hf,Sm.wr1_w b _ _ vb,hcl,qsi fun x _=>El.wr_w hn hf sc x]
theorem De.wr_w:∀(s:De) (own sc:Scs) (n:Nat),(Pa.de s).valid nm=true→s.wr p own sc n=s.w f own sc n
 | .mk k o t ns e fo b,own,sc,n,v=>by
  obtain ⟨v4,v5⟩:=De.valid_proc v;have vb:=De.valid_body v;simp only[De.body] at vb;rw[De.wr,De.w];by_cases h4:k=4
  ·obtain rfl:=v4 h4;rw[if_pos h4,if_pos h4,qdx hf,Sm.wr1_w b _ _ vb,qsi fun x _=>Fo.wr_w hn hf _ x];rfl
  ·obtain ⟨rfl,rfl⟩:=v5 h4;rw[if_neg h4,if_neg h4,qdx hf,Ex.wrl_w hn hf]
theorem De.wrl_w:∀(l:List De) (own sc:Scs) (n:Nat),(∀x,x∈l→(Pa.de x).valid nm=true)→De.wrl p own sc n l=De.wl f own sc n l
 | [],_,_,_,_=>rfl
 | x::l,own,sc,n,v=>by rw[De.wrl,De.wl,De.wr_w x own sc n (v x (by simp)),De.wrl_w l own sc _ fun y hy=>v y (by simp[hy])]
theorem Sm.wrl_w:∀(l:List Sm) (sc:Scs) (n:Nat),(∀x,x∈l→(Pa.st x).valid nm=true)→Sm.wrl p sc n l=Sm.wl f sc n l
 | [],_,_,_=>rfl
 | x::l,sc,n,v=>by rw[Sm.wrl,Sm.wl,Sm.wr_w x sc n (v x (by simp)),Sm.wrl_w l sc _ fun y hy=>v y (by simp[hy])]
theorem Sm.wr1_w:∀(l:List Sm) (sc:Scs) (n:Nat),(∀x,x∈l→(Pa.st x).valid nm=true)→Sm.wr1 p sc n l=Sm.w1 f sc n l
 | [],_,_,_=>rfl
 | x::l,sc,n,v=>by rw[Sm.wr1,Sm.w1,Sm.wr_w x _ _ (v x (by simp)),Sm.wr1_w l sc _ fun y hy=>v y (by simp[hy])]
end
theorem Sm.wholeR_w(s:Sm)(v:(Pa.st s).valid nm=true):s.wholeR p=s.whole f:=Sm.wr_w hn hc hf s _ _ v
end
def Pbd(N:Nat)(sc:Scs):Prop:=∀x k,sc.at x=some k→k<N
theorem qf6(base:Nat):∀(l:List ByteArray) (s:Sco) (n:Nat),(∀e,e∈s→e.2<base+s.length)→n=base+s.length→∀e,e∈binds l s n→e.2<base+(binds l s n).length
 | [],s,n,h,_=>h
 | x::l,s,n,h,hn=>by
  simp only[binds];split
  ·exact qf6 base l s n h hn
  ·refine qf6 base l _ _ (fun e he=>?_) (by simp;omega);rcases qrw.1 he with he|he
   ·have:=h e he;simp;omega
   ·simp at he;subst he;simp;omega
theorem Pbd.bind{N:Nat}{sc:Scs}(h:Pbd N sc)(l:List ByteArray)(n:Nat)(hn:n+(qaf l n).length≤N):Pbd N (qaf l n::sc):=by
 intro x k hk;unfold Scs.at at hk
 cases ha:Sco.at (qaf l n) x with
 | none=>rw[ha] at hk;exact h x k hk
 | some j=>
  rw[ha] at hk;cases hk;unfold Sco.at at ha;rw[qq9] at ha;obtain ⟨e,he,rfl⟩:=ha;have:=qf6 n l [] n (by simp) (by simp) e (List.mem_of_find?_eq_some he);unfold qaf at hn;omega
structure RwOk(r:Rp)(g:Nat→ByteArray)(N:Nat):Prop where
 fresh:∀k,k<N→r.fresh[k]?=some (g k)
 fro:r.fro=[]
theorem qbl(l:List ByteArray)(n:Nat):(qaf l n).length=(qaf l 0).length:=qaS l n 0
section
variable {r:Rp} {g:Nat→ByteArray} {N:Nat} (ok:RwOk r g N) {nm:ByteArray→Bool}
include ok
theorem qhG(sc:Scs)(x:ByteArray):rmt r sc x=none:=by
 unfold rmt mt;rw[ok.fro];cases sc.at x <;> simp[mtL]
theorem qdm{sc:Scs}(h:Pbd N sc)(x:ByteArray):rren r sc x=reto g sc x:=by
 unfold rren reto
 cases ha:sc.at x with
 | none=>rfl
 | some k=>simp[ok.fresh k (h x k ha)]
theorem qeT{sc:Scs}(h:Pbd N sc)(x:ByteArray):qhQ r sc x=reto g sc x:=by
 unfold qhQ;rw[qhG ok];exact qdm ok h x
theorem qdu{sc:Scs}(h:Pbd N sc)(l:List ByteArray):l.map (rren r sc)=l.map (reto g sc):=qsi fun x _=>qdm ok h x
mutual
theorem Ex.rw_w{sc:Scs}(h:Pbd N sc):∀x:Ex,(Pa.ex x).valid nm=true→x.rw r sc=x.w g sc
 | .mk k o n m e t a,v=>by
  have va:=Ex.valid_args v;simp only[Ex.args] at va;have h1:=(Pa.valid_iff.1 v).1;rw[Ex.rw,Ex.w,Ex.rwl_w h a va];by_cases h6:k=6
  ·subst h6;simp[Pa.vOwn,Ex.vOwn] at h1;obtain ⟨⟨⟨⟨_,rfl⟩,rfl⟩,rfl⟩,rfl,rfl⟩:=h1;rw[if_pos rfl,qhG ok,qdm ok h];rfl
  ·rw[if_neg h6];by_cases h78:k=7∨k=8
   ·have:Ex.named k=true:=by unfold Ex.named;rcases h78 with rfl|rfl <;> rfl
    rw[if_pos h78,this,qeT ok h];rfl
   ·have:Ex.named k=false:=by unfold Ex.named;simp;omega
    rw[if_neg h78,this];rfl
theorem Ex.rwl_w{sc:Scs}(h:Pbd N sc):∀l:List Ex,(∀x,x∈l→(Pa.ex x).valid nm=true)→Ex.rwl r sc l=Ex.wl g sc l
 | [],_=>rfl
 | x::l,v=>by rw[Ex.rwl,Ex.wl,Ex.rw_w h x (v x (by simp)),Ex.rwl_w h l fun y hy=>v y (by simp[hy])]
end
theorem El.rw_w{sc:Scs}(h:Pbd N sc)(e:El)(v:(Pa.el e).valid nm=true):e.rw r sc=e.w g sc:=by
 unfold El.rw El.w;rw[Ex.rwl_w ok h e.exps fun x hx=>(Pa.valid_iff.1 v).2 _ (by simp only[Pa.kids,qrp];exact ⟨x,hx,rfl⟩),Ex.wl_map]
theorem Fo.rw_w{sc:Scs}(h:Pbd N sc)(x:Fo):x.rw r sc=x.w g sc:=by
 unfold Fo.rw Fo.w;rw[qdm ok h]
mutual
theorem Sm.rw_w:∀(s:Sm) (sc:Scs) (n:Nat),Pbd N sc→n+s.nb≤N→(Pa.st s).valid nm=true→s.rw r sc n=s.w g sc n
 | .mk l k t gs e hh d b,sc,n,h,hN,v=>by
  obtain ⟨v7,v8,v9⟩:=Sm.valid_block v;have vd:=Sm.valid_decls v;have vb:=Sm.valid_body v;have vg:=Sm.valid_targets v;have ve:=Sm.valid_exps v;have vh:=Sm.valid_elems v;simp only[Sm.decls,Sm.body,Sm.targets,Sm.exps,Sm.elems] at vd vb vg ve vh;rw[Sm.nb] at hN;rw[Sm.rw,Sm.w];by_cases h7:k=7
  ·rw[if_pos h7] at hN;obtain ⟨rfl,rfl,rfl⟩:=v7 h7;have hb:=qbl (qae d b) n;have h':=h.bind (qae d b) n (by omega);rw[if_pos h7,if_pos h7,qdu ok h,De.rwl_w d _ _ _ h' h (by omega) vd,Sm.rwl_w b _ _ h' (by omega) vb]
  ·rw[if_neg h7] at hN;rw[if_neg h7,if_neg h7];by_cases h8:k=8
   ·rw[if_pos h8] at hN;obtain ⟨rfl,rfl,rfl,rfl⟩:=v8 h8;have hb:=qbl (qap b) n;rw[if_pos h8,if_pos h8,qdu ok h,Sm.rwl_w b _ _ (h.bind (qap b) n (by omega)) (by omega) vb]
   ·rw[if_neg h8] at hN;obtain rfl:=v9 h7 h8;rw[if_neg h8,if_neg h8,qdu ok h,Ex.rwl_w ok h gs vg,Ex.rwl_w ok h e ve,Sm.rw1_w b _ _ h (by omega) vb,qsi fun x hx=>El.rw_w ok h x (vh x hx),qeT ok h]
theorem De.rw_w:∀(s:De) (own sc:Scs) (n:Nat),Pbd N own→Pbd N sc→n+s.nb≤N→(Pa.de s).valid nm=true→s.rw r own sc n=s.w g own sc n
 | .mk k o t ns e fo b,own,sc,n,h,h2,hN,v=>by
  obtain ⟨v4,v5⟩:=De.valid_proc v;have vb:=De.valid_body v;have ve:=De.valid_exps v;simp only[De.body,De.exps] at vb ve;rw[De.nb] at hN;rw[De.rw,De.w];by_cases h4:k=4
  ·rw[if_pos h4] at hN;obtain rfl:=v4 h4;have hb:=qbl (fo.map Fo.name) n;have h':=h.bind (fo.map Fo.name) n (by omega);rw[if_pos h4,if_pos h4,qdu ok h,Sm.rw1_w b _ _ h' (by omega) vb,qsi fun x _=>Fo.rw_w ok h' x];rfl
  ·obtain ⟨rfl,rfl⟩:=v5 h4;have h':Pbd N (if k=2 then sc else own):=by split <;> assumption
   rw[if_neg h4,if_neg h4,qdu ok h,Ex.rwl_w ok h' e ve]
theorem De.rwl_w:∀(l:List De) (own sc:Scs) (n:Nat),Pbd N own→Pbd N sc→n+De.nbl l≤N→(∀x,x∈l→(Pa.de x).valid nm=true)→De.rwl r own sc n l=De.wl g own sc n l
 | [],_,_,_,_,_,_,_=>rfl
 | x::l,own,sc,n,h,h2,hN,v=>by
  rw[De.nbl] at hN;rw[De.rwl,De.wl,De.rw_w x own sc n h h2 (by omega) (v x (by simp)),De.rwl_w l own sc _ h h2 (by omega) fun y hy=>v y (by simp[hy])]
theorem Sm.rwl_w:∀(l:List Sm) (sc:Scs) (n:Nat),Pbd N sc→n+Sm.nbl l≤N→(∀x,x∈l→(Pa.st x).valid nm=true)→Sm.rwl r sc n l=Sm.wl g sc n l
 | [],_,_,_,_,_=>rfl
 | x::l,sc,n,h,hN,v=>by
  rw[Sm.nbl] at hN;rw[Sm.rwl,Sm.wl,Sm.rw_w x sc n h (by omega) (v x (by simp)),Sm.rwl_w l sc _ h (by omega) fun y hy=>v y (by simp[hy])]
theorem Sm.rw1_w:∀(l:List Sm) (sc:Scs) (n:Nat),Pbd N sc→n+Sm.nb1 l≤N→(∀x,x∈l→(Pa.st x).valid nm=true)→Sm.rw1 r sc n l=Sm.w1 g sc n l
 | [],_,_,_,_,_=>rfl
 | x::l,sc,n,h,hN,v=>by
  rw[Sm.nb1] at hN;have hb:=qbl x.labels n;rw[Sm.rw1,Sm.w1,Sm.rw_w x _ _ (h.bind x.labels n (by omega)) (by omega) (v x (by simp)),Sm.rw1_w l sc _ h (by omega) fun y hy=>v y (by simp[hy])]
end
end
theorem qj6{l:List ByteArray}(h:okS l){f:ByteArray→ByteArray}(hf:∀x,x∈l→(f x).size≤B50):okS (l.map f):=by
 refine ⟨by rw[qrh];exact h.1,fun s hs=>?_⟩;obtain ⟨x,hx,rfl⟩:=qrp.1 hs;exact hf x hx
theorem Sm.wl_len(f:Nat→ByteArray)(sc:Scs):∀(m:List Sm) (n:Nat),(Sm.wl f sc n m).length=m.length
 | [],_=>by rw[Sm.wl]
 | x::m,n=>by simp only[Sm.wl,qrz,Sm.wl_len f sc m]
theorem Sm.w1_len(f:Nat→ByteArray)(sc:Scs):∀(m:List Sm) (n:Nat),(Sm.w1 f sc n m).length=m.length
 | [],_=>by rw[Sm.w1]
 | x::m,n=>by simp only[Sm.w1,qrz,Sm.w1_len f sc m]
theorem De.wl_len(f:Nat→ByteArray)(own sc:Scs):∀(m:List De) (n:Nat),(De.wl f own sc n m).length=m.length
 | [],_=>by rw[De.wl]
 | x::m,n=>by simp only[De.wl,qrz,De.wl_len f own sc m]
section
variable {f:Nat→ByteArray} {N:Nat} (hf:∀k,k<N→(f k).size≤B50)
include hf
theorem qcO{sc:Scs}(h:Pbd N sc){x:ByteArray}(hx:x.size≤B50):(reto f sc x).size≤B50:=by
 unfold reto
 cases ha:sc.at x with
 | none=>exact hx
 | some k=>exact hf k (h x k ha)
mutual
theorem Ex.w_ok{sc:Scs}(h:Pbd N sc):∀x:Ex,x.ok→(x.w f sc).ok
 | .mk k o n m e t a,v=>by
  obtain ⟨h1,h2,h3⟩:=v;rw[Ex.w];refine ⟨?_,by rw[Ex.wl_map,qrh];exact h2,Ex.wl_ok h a h3⟩;split
  ·exact qcO hf h h1
  ·exact h1
theorem Ex.wl_ok{sc:Scs}(h:Pbd N sc):∀l:List Ex,Ex.okL l→Ex.okL (Ex.wl f sc l)
 | [],_=>trivial
 | x::l,⟨h1,h2⟩=>⟨Ex.w_ok h x h1,Ex.wl_ok h l h2⟩
end
theorem El.w_ok{sc:Scs}(h:Pbd N sc)(e:El)(v:e.ok):(e.w f sc).ok:=by
 have:=Ex.wl_ok hf h e.exps v.2;rw[Ex.wl_map] at this;exact ⟨by unfold El.w;rw[qrh];exact v.1,this⟩
mutual
theorem Sm.w_ok:∀(s:Sm) (sc:Scs) (n:Nat),Pbd N sc→n+s.nb≤N→s.ok→(s.w f sc n).ok
 | .mk l k t gs e hh d b,sc,n,h,hN,v=>by
  have V:=(Sm.ok_iff _).1 v;have hl:=qj6 V.labels fun x hx=>qcO hf h (V.labels.2 x hx)
  rw[Sm.nb] at hN;rw[Sm.w];by_cases h7:k=7
  ·rw[if_pos h7] at hN;have hb:=qbl (qae d b) n;have h':=h.bind (qae d b) n (by omega);rw[if_pos h7];refine (Sm.ok_iff _).2 ⟨hl,V.text,⟨qrH _,trivial⟩,⟨qrH _,trivial⟩,⟨qrH _,fun x hx=>by cases hx⟩,⟨?_,De.wl_ok d _ _ _ h' h (by omega) V.decls.2⟩,?_,Sm.wl_ok b _ _ h' (by omega) V.body.2⟩
   ·have:=V.decls.1;simp only[Sm.decls] at this ⊢;rw[De.wl_len];exact this
   ·have:=V.body.1;simp only[Sm.body] at this ⊢;rw[Sm.wl_len];exact this
  ·rw[if_neg h7] at hN;rw[if_neg h7];by_cases h8:k=8
   ·rw[if_pos h8] at hN;have hb:=qbl (qap b) n;rw[if_pos h8];refine (Sm.ok_iff _).2 ⟨hl,V.text,⟨qrH _,trivial⟩,⟨qrH _,trivial⟩,⟨qrH _,fun x hx=>by cases hx⟩,⟨qrH _,trivial⟩,?_,Sm.wl_ok b _ _ (h.bind _ _ (by omega)) (by omega) V.body.2⟩;have:=V.body.1;simp only[Sm.body] at this ⊢;rw[Sm.wl_len];exact this
   ·rw[if_neg h8] at hN;rw[if_neg h8];refine (Sm.ok_iff _).2 ⟨hl,?_,⟨?_,Ex.wl_ok hf h gs V.targets.2⟩,⟨?_,Ex.wl_ok hf h e V.exps.2⟩,⟨?_,?_⟩,⟨qrH _,trivial⟩,?_,Sm.w1_ok b _ _ h (by omega) V.body.2⟩
    ·have:=V.text;simp only[Sm.text] at this ⊢;split
     ·exact qcO hf h this
     ·exact this
    ·have:=V.targets.1;simp only[Sm.targets] at this ⊢;rw[Ex.wl_map,qrh];exact this
    ·have:=V.exps.1;simp only[Sm.exps] at this ⊢;rw[Ex.wl_map,qrh];exact this
    ·have:=V.elems.1;simp only[Sm.elems] at this ⊢;rw[qrh];exact this
    ·intro x hx;simp only[Sm.elems] at hx;obtain ⟨y,hy,rfl⟩:=qrp.1 hx;exact El.w_ok hf h y (V.elems.2 y hy)
    ·have:=V.body.1;simp only[Sm.body] at this ⊢;rw[Sm.w1_len];exact this
theorem De.w_ok:∀(s:De) (own sc:Scs) (n:Nat),Pbd N own→Pbd N sc→n+s.nb≤N→s.ok→(s.w f own sc n).ok
 | .mk k o t ns e fo b,own,sc,n,h,h2,hN,v=>by
  have V:=(De.ok_iff _).1 v;have hl:=qj6 V.names fun x hx=>qcO hf h (V.names.2 x hx)
  rw[De.nb] at hN;rw[De.w];by_cases h4:k=4
  ·rw[if_pos h4] at hN;have hb:=qbl (fo.map Fo.name) n;have h':=h.bind (fo.map Fo.name) n (by omega);rw[if_pos h4];refine (De.ok_iff _).2 ⟨hl,⟨qrH _,trivial⟩,⟨?_,?_⟩,?_,Sm.w1_ok b _ _ h' (by omega) V.body.2⟩
   ·have:=V.formals.1;simp only[De.formals] at this ⊢;rw[qrh];exact this
   ·intro x hx;simp only[De.formals] at hx;obtain ⟨y,hy,rfl⟩:=qrp.1 hx;exact qcO hf h' (V.formals.2 y hy)
   ·have:=V.body.1;simp only[De.body] at this ⊢;rw[Sm.w1_len];exact this
  ·have h':Pbd N (if k=2 then sc else own):=by split <;> assumption
   rw[if_neg h4];refine (De.ok_iff _).2 ⟨hl,⟨?_,Ex.wl_ok hf h' e V.exps.2⟩,⟨qrH _,fun x hx=>by cases hx⟩,qrH _,trivial⟩;have:=V.exps.1;simp only[De.exps] at this ⊢;rw[Ex.wl_map,qrh];exact this
theorem De.wl_ok:∀(l:List De) (own sc:Scs) (n:Nat),Pbd N own→Pbd N sc→n+De.nbl l≤N→De.okL l→De.okL (De.wl f own sc n l)
 | [],_,_,_,_,_,_,_=>by rw[De.wl];exact trivial
 | x::l,own,sc,n,h,h2,hN,v=>by
  rw[De.nbl] at hN;rw[De.okL] at v;rw[De.wl,De.okL];exact ⟨De.w_ok x own sc n h h2 (by omega) v.1,De.wl_ok l own sc _ h h2 (by omega) v.2⟩
theorem Sm.wl_ok:∀(l:List Sm) (sc:Scs) (n:Nat),Pbd N sc→n+Sm.nbl l≤N→Sm.okL l→Sm.okL (Sm.wl f sc n l)
 | [],_,_,_,_,_=>by rw[Sm.wl];exact trivial
 | x::l,sc,n,h,hN,v=>by
  rw[Sm.nbl] at hN;rw[Sm.okL] at v;rw[Sm.wl,Sm.okL];exact ⟨Sm.w_ok x sc n h (by omega) v.1,Sm.wl_ok l sc _ h (by omega) v.2⟩
theorem Sm.w1_ok:∀(l:List Sm) (sc:Scs) (n:Nat),Pbd N sc→n+Sm.nb1 l≤N→Sm.okL l→Sm.okL (Sm.w1 f sc n l)
 | [],_,_,_,_,_=>by rw[Sm.w1];exact trivial
 | x::l,sc,n,h,hN,v=>by
  rw[Sm.nb1] at hN;rw[Sm.okL] at v;have hb:=qbl x.labels n;rw[Sm.w1,Sm.okL];exact ⟨Sm.w_ok x _ _ (h.bind x.labels n (by omega)) (by omega) v.1,Sm.w1_ok l sc _ h (by omega) v.2⟩
end
theorem Sm.whole_ok(s:Sm)(hN:Sm.nb1 [s]≤N)(v:s.ok):(s.whole f).ok:=by
 simp only[Sm.nb1,Nat.add_zero] at hN;have hb:Pbd N [qaf s.labels 0]:=Pbd.bind (sc:=[]) (fun x k h=>by cases h) s.labels 0 (by omega);exact Sm.w_ok hf s _ _ hb (by omega) v
end
theorem qjF{l:List Ex}{deep n:Int}(h:n≤0):Ex.leftL l deep n≤0:=by
 unfold Ex.leftL;split
 ·omega
 ·rw[Ex.leftG_neg l deep n h];exact h
mutual
theorem Ex.left_size:∀(x:Ex) (deep n:Int),0<x.left deep n→x.left deep n=n - (Pa.ex x).size
 | .mk k o n' m e t a,deep,n,h=>by
  have hsz:(Pa.ex (.mk k o n' m e t a)).size=1+qaN (a.map Pa.ex):=by rw[Pa.size_eq];rfl
  rw[Ex.left] at h ⊢;split at h
  ·omega
  ·rename_i hd;rw[if_neg hd,Ex.leftG_size a _ _ h];omega
theorem Ex.leftG_size:∀(l:List Ex) (deep n:Int),0<Ex.leftG l deep n→Ex.leftG l deep n=n - qaN (l.map Pa.ex)
 | [],_,n,h=>by simp[Ex.leftG]
 | x::l,deep,n,h=>by
  rw[Ex.leftG] at h ⊢;split at h
  ·rename_i h0;rw[if_pos h0];by_cases hx:0<x.left deep n
   ·rw[Ex.leftG_size l _ _ h,Ex.left_size x deep n hx,qrm,sizes_cons];omega
   ·rw[Ex.leftG_neg l _ _ (by omega)] at h;omega
  ·omega
end
theorem Ex.leftL_size(l:List Ex)(deep n:Int)(h:0<Ex.leftL l deep n):Ex.leftL l deep n=n - qaN (l.map Pa.ex):=by
 unfold Ex.leftL at h ⊢;split at h
 ·omega
 ·rename_i hd;rw[if_neg hd,Ex.leftG_size l _ _ h]
theorem El.leftG_size:∀(l:List El) (deep n:Int),0<El.leftG l deep n→El.leftG l deep n=n - qaN (l.map Pa.el)
 | [],_,n,h=>by simp[El.leftG]
 | x::l,deep,n,h=>by
  have hsz:(Pa.el x).size=1+qaN (x.exps.map Pa.ex):=by rw[Pa.size_eq];rfl
  rw[El.leftG] at h ⊢;split at h
  ·rename_i h0;rw[if_pos h0];by_cases hx:0<Ex.leftL x.exps (deep+1) (n - 1)
   ·rw[El.leftG_size l _ _ h,Ex.leftL_size _ _ _ hx,qrm,sizes_cons];omega
   ·have:El.leftG l deep (Ex.leftL x.exps (deep+1) (n - 1))=Ex.leftL x.exps (deep+1) (n - 1):=by cases l <;> simp[El.leftG,hx]
    rw[this] at h;omega
  ·omega
theorem El.leftG_neg'{l:List El}{deep n:Int}(h:¬ 0<n):El.leftG l deep n=n:=by cases l <;> simp[El.leftG,h]
theorem De.leftG_neg'{l:List De}{deep n:Int}(h:¬ 0<n):De.leftG l deep n=n:=by cases l <;> simp[De.leftG,h]
theorem Sm.leftG_neg'{l:List Sm}{deep n:Int}(h:¬ 0<n):Sm.leftG l deep n=n:=by cases l <;> simp[Sm.leftG,h]
theorem Sm.size_parts'(s:Sm):(Pa.st s).size=1+s.labels.length+qaN (s.targets.map Pa.ex)+qaN (s.exps.map Pa.ex)+qaN (s.elems.map Pa.el)+qaN (s.decls.map Pa.de)+qaN (s.body.map Pa.st):=by
 rw[Pa.size_eq];simp only[Pa.own,Pa.kids,qa7];omega
theorem De.size_parts'(d:De):(Pa.de d).size=1+d.names.length+d.formals.length+qaN (d.exps.map Pa.ex)+qaN (d.body.map Pa.st):=by
 rw[Pa.size_eq];simp only[Pa.own,Pa.kids,qa7];omega
mutual
theorem Sm.left_size:∀(s:Sm) (deep n:Int),0<s.left deep n→s.left deep n=n - (Pa.st s).size
 | .mk l k t g e f d b,deep,n,h=>by
  have hsz:=Sm.size_parts' (.mk l k t g e f d b);simp only[Sm.labels,Sm.targets,Sm.exps,Sm.elems,Sm.decls,Sm.body] at hsz;rw[Sm.left] at h ⊢;split at h
  ·omega
  ·rename_i hd;rw[if_neg hd];have h5:=Sm.leftG_size b _ _ h
   have h4:0<De.leftG d deep (El.leftG f deep (Ex.leftL g (deep+1) (Ex.leftL e (deep+1) (n - 1 - l.length)))):=by
    by_cases hh:0<De.leftG d deep (El.leftG f deep (Ex.leftL g (deep+1) (Ex.leftL e (deep+1) (n - 1 - l.length))))
    ·exact hh
    ·rw[Sm.leftG_neg' hh] at h;exact h
   have h4':=De.leftG_size d _ _ h4
   have h3:0<El.leftG f deep (Ex.leftL g (deep+1) (Ex.leftL e (deep+1) (n - 1 - l.length))):=by
    by_cases hh:0<El.leftG f deep (Ex.leftL g (deep+1) (Ex.leftL e (deep+1) (n - 1 - l.length)))
    ·exact hh
    ·rw[De.leftG_neg' hh] at h4;exact h4
   have h3':=El.leftG_size f _ _ h3
   have h2:0<Ex.leftL g (deep+1) (Ex.leftL e (deep+1) (n - 1 - l.length)):=by
    by_cases hh:0<Ex.leftL g (deep+1) (Ex.leftL e (deep+1) (n - 1 - l.length))
    ·exact hh
    ·rw[El.leftG_neg' hh] at h3;exact h3
   have h2':=Ex.leftL_size g _ _ h2
   have h1:0<Ex.leftL e (deep+1) (n - 1 - l.length):=by
    by_cases hh:0<Ex.leftL e (deep+1) (n - 1 - l.length)
    ·exact hh
    ·have:=qjF (l:=g) (deep:=deep+1) (n:=Ex.leftL e (deep+1) (n - 1 - l.length)) (by omega);omega
   have h1':=Ex.leftL_size e _ _ h1;omega
theorem De.left_size:∀(s:De) (deep n:Int),0<s.left deep n→s.left deep n=n - (Pa.de s).size
 | .mk k o t nm e f b,deep,n,h=>by
  have hsz:=De.size_parts' (.mk k o t nm e f b);simp only[De.names,De.formals,De.exps,De.body] at hsz;rw[De.left] at h ⊢;have h5:=Sm.leftG_size b _ _ h
  have h1:0<Ex.leftL e (deep+1) (n - 1 - nm.length - f.length):=by
   by_cases hh:0<Ex.leftL e (deep+1) (n - 1 - nm.length - f.length)
   ·exact hh
   ·rw[Sm.leftG_neg' hh] at h;exact h
  have h1':=Ex.leftL_size e _ _ h1;omega
theorem De.leftG_size:∀(l:List De) (deep n:Int),0<De.leftG l deep n→De.leftG l deep n=n - qaN (l.map Pa.de)
 | [],_,n,h=>by simp[De.leftG]
 | x::l,deep,n,h=>by
  rw[De.leftG] at h ⊢;split at h
  ·rename_i h0;rw[if_pos h0];by_cases hx:0<x.left deep n
   ·rw[De.leftG_size l _ _ h,De.left_size x deep n hx,qrm,sizes_cons];omega
   ·rw[De.leftG_neg' hx] at h;omega
  ·omega
theorem Sm.leftG_size:∀(l:List Sm) (deep n:Int),0<Sm.leftG l deep n→Sm.leftG l deep n=n - qaN (l.map Pa.st)
 | [],_,n,h=>by simp[Sm.leftG]
 | x::l,deep,n,h=>by
  rw[Sm.leftG] at h ⊢;split at h
  ·rename_i h0;rw[if_pos h0];by_cases hx:0<x.left deep n
   ·rw[Sm.leftG_size l _ _ h,Sm.left_size x deep n hx,qrm,sizes_cons];omega
   ·rw[Sm.leftG_neg' hx] at h;omega
  ·omega
end
theorem qdL:∀(l:List ByteArray) (s:Sco) (n:Nat),(binds l s n).length≤s.length+l.length
 | [],s,n=>by simp[binds]
 | x::l,s,n=>by
  simp only[binds];split
  ·have:=qdL l s n;simp;omega
  ·have:=qdL l (s++[(x,n)]) (n+1);simp at this ⊢;omega
theorem qek(l:List ByteArray)(n:Nat):(qaf l n).length≤l.length:=by have:=qdL l [] n;simpa[qaf] using this
theorem qfD(x:Sm)(l:List Sm):(qap (x::l)).length=x.labels.length+(qap l).length:=by simp[qap]
theorem qgm(x:De)(l:List De):((x::l).flatMap De.names).length=x.names.length+(l.flatMap De.names).length:=by simp
mutual
theorem Sm.nb_size:∀s:Sm,s.labels.length+s.nb≤(Pa.st s).size
 | .mk l k t g e f d b=>by
  have hsz:=Sm.size_parts' (.mk l k t g e f d b);have hd:=De.nbl_size d;have hb:=Sm.nbl_size b;have h1:=Sm.nb1_size b;simp only[Sm.labels,Sm.targets,Sm.exps,Sm.elems,Sm.decls,Sm.body] at hsz ⊢;rw[Sm.nb];split
  ·have:=qek (qae d b) 0;unfold qae at this ⊢;rw[qrl] at this;omega
  ·split
   ·have:=qek (qap b) 0;omega
   ·omega
theorem De.nb_size:∀s:De,s.names.length+s.nb≤(Pa.de s).size
 | .mk k o t nm e f b=>by
  have hsz:=De.size_parts' (.mk k o t nm e f b);have h1:=Sm.nb1_size b;simp only[De.names,De.formals,De.exps,De.body] at hsz ⊢;rw[De.nb];split
  ·have:=qek (f.map Fo.name) 0;rw[qrh] at this;omega
  ·omega
theorem De.nbl_size:∀l:List De,(l.flatMap De.names).length+De.nbl l≤qaN (l.map Pa.de)
 | []=>by simp[De.nbl]
 | x::l=>by
  have h1:=De.nb_size x;have h2:=De.nbl_size l;rw[qgm,De.nbl,qrm,sizes_cons];omega
theorem Sm.nbl_size:∀l:List Sm,(qap l).length+Sm.nbl l≤qaN (l.map Pa.st)
 | []=>by simp[Sm.nbl,qap]
 | x::l=>by
  have h1:=Sm.nb_size x;have h2:=Sm.nbl_size l;rw[qfD,Sm.nbl,qrm,sizes_cons];omega
theorem Sm.nb1_size:∀l:List Sm,Sm.nb1 l≤qaN (l.map Pa.st)
 | []=>by simp[Sm.nb1]
 | x::l=>by
  have h1:=Sm.nb_size x;have h2:=Sm.nb1_size l;have h3:=qek x.labels 0;rw[Sm.nb1,qrm,sizes_cons];omega
end
theorem qmp(c:UInt8)(l:List UInt8):((⟨⟨[c]⟩⟩:ByteArray)++⟨l.toArray⟩).data.toList=c::l:=by
 simp[ByteArray.data_append]
theorem qov{c:UInt8}{l:List UInt8}(h:isL c.toNat=false):qac ((⟨⟨[c]⟩⟩:ByteArray)++⟨l.toArray⟩)=false:=by
 unfold qac;rw[qmp];simp[qon,h]
theorem qfO(k:Nat):qac (numF k)=false:=qov (by decide)
theorem qkd(k:Nat)(hk:k<1000):(numF k).size≤B50:=by
 have:=qdV k k (qq8 _);unfold numF B50;have h1:(⟨⟨[35]⟩⟩:ByteArray).size=1:=rfl;have h2:(⟨(dig k).toArray⟩:ByteArray).size=(dig k).length:=by simp[ByteArray.size]
 rw[ByteArray.size_append];omega
theorem qdy{p:Pa}{nm:ByteArray→Bool}(h:p.err nm=0):p.fits∧p.valid nm=true:=by
 unfold Pa.err at h;split at h
 ·rename_i hf;split at h
  ·rename_i hv;exact ⟨hf,hv⟩
  ·omega
 ·omega
theorem qcV{s:Sm}(h:s.light=true):(Pa.st s).size<150:=by
 unfold Sm.light at h;rw[decide_eq_true_eq] at h;have:=Sm.left_size s 0 150 h;omega
theorem qjN{s:Sm}(h:s.light=true):Sm.nb1 [s]<150:=by
 have h1:=qcV h;have h2:=Sm.nb1_size [s];simp at h2;omega
theorem qew{s:Sm}(v:(Pa.st s).valid qac=true):s.wholeR (nuP numF)=s.whole numF:=Sm.wholeR_w rfl rfl (fun _ _=>rfl) s v
end Go.Proofs.YtbifpocccfkhhaaGreatDoor
namespace Go.Proofs.YtbifpocccfkhhaaGreatDoor
open Go Go.ChangeShapes Go.WideShapes Go.ChangeAt Go.RowKit
def CR(W:World)(vs:List V)(cs:List Value):Prop:=vs.length=cs.length∧∀(j:Nat) (v:V) (c:Value),vs[j]?=some v→cs[j]?=some c→VR (E0 W) v c
def Fitw{H:Type}(t:TypeId)(d:DataW H):Prop:=∀n,n∈d.weights Tryz.prog t→n≤reachBytes
theorem reach_le{n:Nat}(h:n≤reachBytes):n≤B50:=by unfold reachBytes at h;unfold B50;omega
section
variable {H:Type} {enc:TypeId×Value→H} {W:World}
theorem weightsAll_mem{e:TypeId}{n:Nat}:∀{l:List (DataW H)} {d:DataW H},d∈l→n∈d.weights Tryz.prog e→n∈DataW.weightsAll Tryz.prog e l
 | x::l,d,hd,hn=>by
  rw[DataW.weightsAll];rcases qrE.1 hd with rfl|hd
  ·exact qsy _ hn
  ·exact qsx _ (weightsAll_mem hd hn)
theorem weightsEach_mem{n:Nat}:∀{ts:List TypeId} {l:List (DataW H)} {i:Nat} {t:TypeId} {d:DataW H},ts[i]?=some t→l[i]?=some d→n∈d.weights Tryz.prog t→n∈DataW.weightsEach Tryz.prog ts l
 | t0::ts,d0::l,0,t,d,ht,hd,hn=>by
  simp at ht hd;subst ht;subst hd;rw[DataW.weightsEach];exact qsy _ hn
 | t0::ts,d0::l,i+1,t,d,ht,hd,hn=>by
  rw[DataW.weightsEach];exact qsx _ (weightsEach_mem (i:=i) (by simpa using ht) (by simpa using hd) hn)
theorem Fitw.part{t:TypeId}{fs:Array Field}(ht:Tryz.prog.underlying t=some (.struct fs)){l:List (DataW H)}(h:Fitw t (.agg l)){i:Nat}{f:Field}{d:DataW H}(hf:fs[i]?=some f)(hd:l[i]?=some d):Fitw f.type d:=fun n hn=>h n (by
 rw[DataW.weights,ht];exact weightsEach_mem (i:=i) (t:=f.type) (by simp[hf]) hd hn)
theorem Fitw.elem{t e:TypeId}(ht:Tryz.prog.underlying t=some (.slice e)){l r:List (DataW H)}(h:Fitw t (.slice l r)){d:DataW H}(hd:d∈l):Fitw e d:=fun n hn=>h n (by
 rw[DataW.weights,ht];exact List.mem_cons_of_mem _ (qsy _ (weightsAll_mem hd hn)))
theorem Fitw.len{t e:TypeId}(ht:Tryz.prog.underlying t=some (.slice e))(hb:0<Tryz.prog.bytesOf e){l r:List (DataW H)}(h:Fitw t (.slice l r)):l.length≤B50:=by
 have:=h ((l.length+r.length) * Tryz.prog.bytesOf e) (by rw[DataW.weights,ht];exact List.mem_cons_self ..);refine reach_le (qrJ ?_ this)
 calc l.length≤(l.length+r.length) * 1:=by omega
  _≤_:=Nat.mul_le_mul_left _ hb
theorem spot_none{a:Addr}{v:Value}(h:W.cell? a=some v):a.spot=none:=by
 unfold World.cell? at h;split at h
 ·split at h
  ·cases h
  ·rename_i hs;simpa using hs
 ·cases h
theorem add_off{b o k:Nat}:(Addr.add ⟨b,o,none⟩ k)=⟨b,o+k,none⟩:=by
 unfold Addr.add;split
 ·rename_i h;subst h;rfl
 ·rfl
theorem slice_in{α:Type}(f:α→V)(ok:α→Prop){sz:Nat}(hsz:∀a,(f a).cells.length=sz)(hz:0<sz){t e:TypeId}(ht:Tryz.prog.underlying t=some (.slice e))(hc:Tryz.prog.cellsOf e=sz)(hb:0<Tryz.prog.bytesOf e){fuel:Nat}
  (hel:∀n,n<fuel→∀cs (x:DataW H×List MemPlace),DataW.trod enc Tryz.prog W 0 (fun _=>true) true n e cs=some x→Fitw e x.1→∃a,ok a∧CR W (f a).cells cs)
  {cs:List Value} {x:DataW H×List MemPlace} (h:DataW.trod enc Tryz.prog W 0 (fun _=>true) true fuel t cs=some x) (hw:Fitw t x.1):
  ∃l:List α,(∀a,a∈l→ok a)∧l.length≤B50∧∃v,cs=[v]∧VR (E0 W) (.sl false (l.map f)) v:=by
 rcases DataW.trod_slice ht h with ⟨rfl,_⟩|⟨a,len,cap,elems,rest,n,rfl,rfl,rfl,_,hl,_,hlen,h1,h2,_⟩
 ·exact ⟨[],fun a ha=>(by cases ha),qrH _,_,rfl,.slnil _⟩
 obtain ⟨h2a,h2b⟩:=h2 rfl;rw[hc] at h1 h2b;have hle:=Fitw.len ht hb hw;rw[qrh] at hle
 have each:∀i,i<len→∃b,ok b∧∃cs',W.cells? 0 (a.add (i * sz)) sz=some cs'∧CR W (f b).cells cs':=fun i hi=>by
  have hi':i<elems.length:=by omega
  have:=h1 i hi;rw[qrd hi',qrI] at this;obtain ⟨cs',k1,k2⟩:=this;obtain ⟨b,k3,k4⟩:=hel n (by omega) cs' _ k2 (Fitw.elem ht hw (qrR (qrf hi')));exact ⟨b,k3,cs',k1,k4⟩
 by_cases hcap:cap=0
 ·have:len=0:=by omega
  subst hcap;subst this;exact ⟨[],fun a ha=>(by cases ha),qrH _,_,rfl,.slz _ _⟩
 have hspot:a.spot=none:=by
  have read:∀cs',W.cells? 0 (a.add (0 * sz)) sz=some cs'→a.spot=none:=fun cs' k=>by
   obtain ⟨_,q1,q2⟩:=World.cells?_some k;have:=q2 0 hz;have hcs:0<cs'.length:=by omega
   rw[qrd hcs] at this;have:=spot_none this;simpa[Addr.add] using this
  by_cases h0:0<len
  ·obtain ⟨_,_,cs',k,_⟩:=each 0 h0;exact read cs' k
  ·have hl0:len=0:=by omega
   have:=h2b 0 (by omega);obtain ⟨y0,hy0⟩:∃y,rest[0]?=some y:=⟨_,qrd (by omega)⟩;rw[hy0,qrI] at this;obtain ⟨cs',k,_⟩:=this;rw[hl0] at k;exact read cs' (by simpa using k)
 obtain ⟨b,o,spot⟩:=a;simp only at hspot;subst hspot;obtain ⟨g,hg⟩:∃g:Fin len→α,∀i,ok (g i)∧∃cs',W.cells? 0 (Addr.add ⟨b,o,none⟩ (i.1 * sz)) sz=some cs'∧CR W (f (g i)).cells cs':=⟨fun i=>Classical.choose (each i.1 i.2),fun i=>Classical.choose_spec (each i.1 i.2)⟩;have hll:(List.ofFn g).length=len:=List.length_ofFn;have hl2:((List.ofFn g).map f).length=len:=by rw[qrh,hll]
 have cell:∀i (hi:i<len) j,j<sz→∃c,W.cell? ⟨b,o+i * sz+j,none⟩=some c∧∀v,(f (g ⟨i,hi⟩)).cells[j]?=some v→VR (E0 W) v c:=fun i hi j hj=>by
  obtain ⟨_,cs',k1,k2,k3⟩:=hg ⟨i,hi⟩;obtain ⟨_,q1,q2⟩:=World.cells?_some k1;have q:=q2 j hj;have hj':j<cs'.length:=by omega
  rw[qrd hj',add_off,add_off] at q;exact ⟨_,q,fun v hv=>k3 j v _ hv (qrd hj')⟩
 refine ⟨List.ofFn g,fun a ha=>?_,by omega,_,rfl,?_⟩
 ·obtain ⟨i,rfl⟩:=List.mem_ofFn.1 ha;exact (hg i).1
 ·have:=@VR.sl (E0 W) false ((List.ofFn g).map f) b o cap sz (by omega) (fun h=>by cases h) (fun v hv=>?_) (fun i j hi hj=>?_) (fun i v j c' c hv hc hI=>?_)
  ·rw[hl2] at this;exact this
  ·obtain ⟨y,_,rfl⟩:=qrp.1 hv;exact hsz y
  ·rw[hl2] at hi;obtain ⟨c,hc,_⟩:=cell i hi j hj;simp only[E0,hc];rfl
  ·rw[qre,qq9] at hv;obtain ⟨y,hy,rfl⟩:=hv;rw[List.getElem?_ofFn] at hy;split at hy
   ·rename_i hi;cases hy;have hj:j<sz:=by have:=(qq2.1 hc).1;rw[hsz] at this;exact this
    obtain ⟨c2,hc2,hv2⟩:=cell i hi j hj;simp only[E0,hc2] at hI;cases hI;exact hv2 _ hc
   ·cases hy
theorem piece{cs l:List Value}{o k i:Nat}(h:(cs.drop o).take k=l)(hi:i<k):cs[o+i]?=l[i]?:=by
 rw[←h,qrs hi,qrB]
theorem CR_of{vs:List V}{cs:List Value}(hl:vs.length=cs.length)(h:∀(j:Nat) (v:V),vs[j]?=some v→∃c,cs[j]?=some c∧VR (E0 W) v c):CR W vs cs:=
 ⟨hl,fun j v c hv hc=>by
  obtain ⟨c',h1,h2⟩:=h j v hv;rw[h1] at hc;cases hc;exact h2⟩
theorem Ex.okL_of:∀{l:List Ex},(∀x,x∈l→x.ok)→Ex.okL l
 | [],_=>trivial
 | x::l,h=>⟨h x (by simp),Ex.okL_of fun y hy=>h y (by simp[hy])⟩
theorem De.okL_of:∀{l:List De},(∀x,x∈l→x.ok)→De.okL l
 | [],_=>by rw[De.okL];exact trivial
 | x::l,h=>by rw[De.okL];exact ⟨h x (by simp),De.okL_of fun y hy=>h y (by simp[hy])⟩
theorem Sm.okL_of:∀{l:List Sm},(∀x,x∈l→x.ok)→Sm.okL l
 | [],_=>by rw[Sm.okL];exact trivial
 | x::l,h=>by rw[Sm.okL];exact ⟨h x (by simp),Sm.okL_of fun y hy=>h y (by simp[hy])⟩
theorem kc3:Tryz.prog.cellsOf 3=1:=by kernel_rfl
theorem kc4t:Tryz.prog.cellsOf 4=1:=by kernel_rfl
theorem kc9:Tryz.prog.cellsOf 9=1:=by kernel_rfl
theorem kc22:Tryz.prog.cellsOf 22=1:=by kernel_rfl
theorem kc23:Tryz.prog.cellsOf 23=1:=by kernel_rfl
theorem kc24t:Tryz.prog.cellsOf 24=1:=by kernel_rfl
theorem kc25t:Tryz.prog.cellsOf 25=1:=by kernel_rfl
theorem kc26t:Tryz.prog.cellsOf 26=1:=by kernel_rfl
theorem kc40t:Tryz.prog.cellsOf 40=1:=by kernel_rfl
theorem kc52t:Tryz.prog.cellsOf 52=2:=by kernel_rfl
theorem kc54:Tryz.prog.cellsOf 54=7:=by kernel_rfl
theorem kc135t:Tryz.prog.cellsOf 135=2:=by kernel_rfl
theorem kc87t:Tryz.prog.cellsOf 87=4:=by kernel_rfl
theorem kc42t:Tryz.prog.cellsOf 42=7:=by kernel_rfl
theorem kc28t:Tryz.prog.cellsOf 28=8:=by kernel_rfl
theorem y9:0<Tryz.prog.bytesOf 9:=by decide+kernel
theorem y54:0<Tryz.prog.bytesOf 54:=by decide+kernel
theorem y135:0<Tryz.prog.bytesOf 135:=by decide+kernel
theorem y87:0<Tryz.prog.bytesOf 87:=by decide+kernel
theorem y42:0<Tryz.prog.bytesOf 42:=by decide+kernel
theorem y28:0<Tryz.prog.bytesOf 28:=by decide+kernel
theorem int_at{n o:Nat}{cs:List Value}{y:DataW H×List MemPlace}(h:DataW.trod enc Tryz.prog W 0 (fun _=>true) true n 3 ((cs.drop o).take (Tryz.prog.cellsOf 3))=some y):∃k,cs[o]?=some (.int .i64 k):=by
 obtain ⟨k,hk,_⟩:=DataW.trod_int Tryz.underlying3 h;rw[kc3] at hk;exact ⟨k,by have:=piece hk (i:=0) (by omega);simpa using this⟩
theorem bool_at{n o:Nat}{cs:List Value}{y:DataW H×List MemPlace}(h:DataW.trod enc Tryz.prog W 0 (fun _=>true) true n 4 ((cs.drop o).take (Tryz.prog.cellsOf 4))=some y):∃k,cs[o]?=some (.bool k):=by
 obtain ⟨k,hk,_⟩:=DataW.trod_bool Tryz.underlying4 h;rw[kc4t] at hk;exact ⟨k,by have:=piece hk (i:=0) (by omega);simpa using this⟩
theorem str_at{n o:Nat}{cs:List Value}{y:DataW H×List MemPlace}(h:DataW.trod enc Tryz.prog W 0 (fun _=>true) true n 9 ((cs.drop o).take (Tryz.prog.cellsOf 9))=some y)(hw:Fitw 9 y.1):∃s:ByteArray,cs[o]?=some (.string s)∧s.size≤B50:=by
 obtain ⟨k,hk,hy,_⟩:=DataW.trod_string Tryz.underlying9 h;rw[kc9] at hk;refine ⟨k,by have:=piece hk (i:=0) (by omega);simpa using this,?_⟩;have:=hw k.size (by rw[hy,DataW.weights];exact qrV.2 (by rw[qrX];rfl));exact reach_le this
theorem slice_at{α:Type}(f:α→V)(ok:α→Prop){sz:Nat}(hsz:∀a,(f a).cells.length=sz)(hz:0<sz){t e:TypeId}(ht:Tryz.prog.underlying t=some (.slice e))(hc:Tryz.prog.cellsOf e=sz)(hb:0<Tryz.prog.bytesOf e)(h1:Tryz.prog.cellsOf t=1){n o:Nat}
  (hel:∀m,m<n→∀cs (x:DataW H×List MemPlace),DataW.trod enc Tryz.prog W 0 (fun _=>true) true m e cs=some x→Fitw e x.1→∃a,ok a∧CR W (f a).cells cs)
  {cs:List Value} {y:DataW H×List MemPlace} (h:DataW.trod enc Tryz.prog W 0 (fun _=>true) true n t ((cs.drop o).take (Tryz.prog.cellsOf t))=some y) (hw:Fitw t y.1):
  ∃l:List α,(∀a,a∈l→ok a)∧l.length≤B50∧∃v,cs[o]?=some v∧VR (E0 W) (.sl false (l.map f)) v:=by
 obtain ⟨l,k1,k2,v,k3,k4⟩:=slice_in f ok hsz hz ht hc hb hel h hw;rw[h1] at k3;exact ⟨l,k1,k2,v,by have:=piece k3 (i:=0) (by omega);simpa using this,k4⟩
theorem strs_el{n:Nat}:∀m,m<n→∀cs (x:DataW H×List MemPlace),DataW.trod enc Tryz.prog W 0 (fun _=>true) true m 9 cs=some x→Fitw 9 x.1→∃s:ByteArray,s.size≤B50∧CR W (V.str s).cells cs:=by
 intro m _ cs x h hw;obtain ⟨k,rfl,hy,_⟩:=DataW.trod_string Tryz.underlying9 h;refine ⟨k,reach_le (hw k.size (by rw[hy,DataW.weights];exact qrV.2 (by rw[qrX];rfl))),rfl,fun j v c hv hc=>?_⟩
 match j,hv,hc with
 | 0,hv,hc=>simp at hv hc;subst hv;subst hc;exact .str k
theorem parts{t:TypeId}{fs:Array Field}(ht:Tryz.prog.underlying t=some (.struct fs)){fuel:Nat}{cs:List Value}{x:DataW H×List MemPlace}(h:DataW.trod enc Tryz.prog W 0 (fun _=>true) true fuel t cs=some x)(hw:Fitw t x.1):
  ∃n,n<fuel∧cs.length=Tryz.prog.cellsOf t∧∀(i:Nat) (f:Field),fs[i]?=some f→∃y:DataW H×List MemPlace,DataW.trod enc Tryz.prog W 0 (fun _=>true) true n f.type ((cs.drop f.offset).take (Tryz.prog.cellsOf f.type))=some y∧Fitw f.type y.1:=by
 obtain ⟨xs,n,rfl,rfl,h1,h2,h3⟩:=DataW.trod_struct ht h;refine ⟨n,by omega,h1,fun i f hf=>?_⟩
 have hi:i<xs.length:=by
  have:=(qrc.1 hf).1;omega
 have:=h3 i f hf;rw[qrd hi] at this;exact ⟨xs[i],this,Fitw.part ht hw hf (by simp[hi])⟩
theorem ex_in:∀(m fuel:Nat),fuel≤m→∀cs (x:DataW H×List MemPlace),DataW.trod enc Tryz.prog W 0 (fun _=>true) true fuel 54 cs=some x→Fitw 54 x.1→∃a:Ex,a.ok∧CR W a.v.cells cs
 | 0,fuel,hm,cs,x,h,hw=>by
  obtain ⟨n,hn,_⟩:=parts Tryz.underlying54 h hw;omega
 | m+1,fuel,hm,cs,x,h,hw=>by
  obtain ⟨n,hn,hl,hp⟩:=parts Tryz.underlying54 h hw;obtain ⟨y0,p0,q0⟩:=hp 0 _ rfl;obtain ⟨y1,p1,q1⟩:=hp 1 _ rfl;obtain ⟨y2,p2,q2⟩:=hp 2 _ rfl;obtain ⟨y3,p3,q3⟩:=hp 3 _ rfl;obtain ⟨y4,p4,q4⟩:=hp 4 _ rfl;obtain ⟨y5,p5,q5⟩:=hp 5 _ rfl;obtain ⟨k0,e0⟩:=int_at p0;obtain ⟨k1,e1⟩:=int_at p1;obtain ⟨k2,e2⟩:=int_at p2;obtain ⟨n3,hn3,hl3,hp3⟩:=parts Tryz.underlying52 p3 q3;obtain ⟨z0,r0,_⟩:=hp3 0 _ rfl;obtain ⟨z1,r1,_⟩:=hp3 1 _ rfl;obtain ⟨k3,e3⟩:=int_at r0;obtain ⟨k4,e4⟩:=int_at r1;obtain ⟨s,e5,hs⟩:=str_at p4 q4;obtain ⟨l,hlo,hll,v,e6,hv⟩:=slice_at Ex.v Ex.ok (sz:=7) (fun a=>by simp) (by omega) Tryz.underlying23 kc54 y54 kc23 (fun m' hm'=>ex_in m m' (by omega)) p5 q5;have e3:((cs.drop 3).take 2)[0]?=some (.int .i64 k3):=by rw[←kc52t];exact e3
  have e4:((cs.drop 3).take 2)[1]?=some (.int .i64 k4):=by rw[←kc52t];exact e4
  rw[qrs (by omega),qrB] at e3 e4;refine ⟨.mk k0 k1 k2 k3 k4 s l,⟨hs,hll,Ex.okL_of hlo⟩,CR_of ?_ ?_⟩
  ·rw[hl,kc54];simp
  ·intro j w hw';rw[Ex.v_cells] at hw'
   match j,hw' with
   | 0,hw'=>cases hw';exact ⟨_,e0,.int _ _⟩
   | 1,hw'=>cases hw';exact ⟨_,e1,.int _ _⟩
   | 2,hw'=>cases hw';exact ⟨_,e2,.int _ _⟩
   | 3,hw'=>cases hw';exact ⟨_,e3,.int _ _⟩
   | 4,hw'=>cases hw';exact ⟨_,e4,.int _ _⟩
   | 5,hw'=>cases hw';exact ⟨_,e5,.str _⟩
   | 6,hw'=>cases hw';exact ⟨_,e6,hv⟩
theorem el_in{fuel:Nat}{cs:List Value}{x:DataW H×List MemPlace}(h:DataW.trod enc Tryz.prog W 0 (fun _=>true) true fuel 135 cs=some x)(hw:Fitw 135 x.1):∃a:El,a.ok∧CR W a.v.cells cs:=by
 obtain ⟨n,hn,hl,hp⟩:=parts Tryz.underlying135 h hw;obtain ⟨y0,p0,q0⟩:=hp 0 _ rfl;obtain ⟨y1,p1,q1⟩:=hp 1 _ rfl;obtain ⟨k0,e0⟩:=int_at p0;obtain ⟨l,hlo,hll,v,e1,hv⟩:=slice_at Ex.v Ex.ok (sz:=7) (fun a=>by simp) (by omega) Tryz.underlying23 kc54 y54 kc23 (fun m' hm'=>ex_in m' m' (qq8 _)) p1 q1;refine ⟨⟨k0,l⟩,⟨hll,Ex.okL_of hlo⟩,CR_of ?_ ?_⟩
 ·rw[hl,kc135t];rfl
 ·intro j w hw';rw[El.v_cells] at hw'
  match j,hw' with
  | 0,hw'=>cases hw';exact ⟨_,e0,.int _ _⟩
  | 1,hw'=>cases hw';exact ⟨_,e1,hv⟩
theorem fo_in{fuel:Nat}{cs:List Value}{x:DataW H×List MemPlace}(h:DataW.trod enc Tryz.prog W 0 (fun _=>true) true fuel 87 cs=some x)(hw:Fitw 87 x.1):∃a:Fo,a.ok∧CR W a.v.cells cs:=by
 obtain ⟨n,hn,hl,hp⟩:=parts Tryz.underlying87 h hw;obtain ⟨y0,p0,q0⟩:=hp 0 _ rfl;obtain ⟨y1,p1,q1⟩:=hp 1 _ rfl;obtain ⟨y2,p2,q2⟩:=hp 2 _ rfl;obtain ⟨y3,p3,q3⟩:=hp 3 _ rfl;obtain ⟨s,e0,hs⟩:=str_at p0 q0;obtain ⟨k1,e1⟩:=bool_at p1;obtain ⟨k2,e2⟩:=int_at p2;obtain ⟨k3,e3⟩:=int_at p3;refine ⟨⟨s,k1,k2,k3⟩,hs,CR_of ?_ ?_⟩
 ·rw[hl,kc87t];rfl
 ·intro j w hw';rw[Fo.v_cells] at hw'
  match j,hw' with
  | 0,hw'=>cases hw';exact ⟨_,e0,.str _⟩
  | 1,hw'=>cases hw';exact ⟨_,e1,.bool _⟩
  | 2,hw'=>cases hw';exact ⟨_,e2,.int _ _⟩
  | 3,hw'=>cases hw';exact ⟨_,e3,.int _ _⟩
theorem exs_at{n o:Nat}{cs:List Value}{y:DataW H×List MemPlace}(h:DataW.trod enc Tryz.prog W 0 (fun _=>true) true n 23 ((cs.drop o).take (Tryz.prog.cellsOf 23))=some y)(hw:Fitw 23 y.1):
  ∃l:List Ex,(l.length≤B50∧Ex.okL l)∧∃v,cs[o]?=some v∧VR (E0 W) (.sl false (l.map Ex.v)) v:=by
 obtain ⟨l,hlo,hll,hv⟩:=slice_at Ex.v Ex.ok (sz:=7) (fun a=>by simp) (by omega) Tryz.underlying23 kc54 y54 kc23 (fun m' hm'=>ex_in m' m' (qq8 _)) h hw;exact ⟨l,⟨hll,Ex.okL_of hlo⟩,hv⟩
theorem strs_at{n o:Nat}{cs:List Value}{y:DataW H×List MemPlace}(h:DataW.trod enc Tryz.prog W 0 (fun _=>true) true n 22 ((cs.drop o).take (Tryz.prog.cellsOf 22))=some y)(hw:Fitw 22 y.1):
  ∃l:List ByteArray,okS l∧∃v,cs[o]?=some v∧VR (E0 W) (.sl false (l.map .str)) v:=by
 obtain ⟨l,hlo,hll,hv⟩:=slice_at V.str (fun s=>s.size≤B50) (sz:=1) (fun a=>rfl) (by omega) Tryz.underlying22 kc9 y9 kc22 strs_el h hw;exact ⟨l,⟨hll,hlo⟩,hv⟩
theorem tree_in:∀(m fuel:Nat),fuel≤m→(∀cs (x:DataW H×List MemPlace),DataW.trod enc Tryz.prog W 0 (fun _=>true) true fuel 42 cs=some x→Fitw 42 x.1→∃a:De,a.ok∧CR W a.v.cells cs)∧
  ∀cs (x:DataW H×List MemPlace),DataW.trod enc Tryz.prog W 0 (fun _=>true) true fuel 28 cs=some x→Fitw 28 x.1→∃a:Sm,a.ok∧CR W a.v.cells cs
 | 0,fuel,hm=>by
  refine ⟨fun cs x h hw=>?_,fun cs x h hw=>?_⟩
  ·obtain ⟨n,hn,_⟩:=parts Tryz.underlying42 h hw;omega
  ·obtain ⟨n,hn,_⟩:=parts Tryz.underlying28 h hw;omega
 | m+1,fuel,hm=>by
  refine ⟨fun cs x h hw=>?_,fun cs x h hw=>?_⟩
  ·obtain ⟨n,hn,hl,hp⟩:=parts Tryz.underlying42 h hw;obtain ⟨y0,p0,q0⟩:=hp 0 _ rfl;obtain ⟨y1,p1,q1⟩:=hp 1 _ rfl;obtain ⟨y2,p2,q2⟩:=hp 2 _ rfl;obtain ⟨y3,p3,q3⟩:=hp 3 _ rfl;obtain ⟨y4,p4,q4⟩:=hp 4 _ rfl;obtain ⟨y5,p5,q5⟩:=hp 5 _ rfl;obtain ⟨y6,p6,q6⟩:=hp 6 _ rfl;obtain ⟨k0,e0⟩:=int_at p0;obtain ⟨k1,e1⟩:=bool_at p1;obtain ⟨k2,e2⟩:=int_at p2;obtain ⟨nm,on,v3,e3,h3⟩:=strs_at p3 q3;obtain ⟨ex,oe,v4,e4,h4⟩:=exs_at p4 q4;obtain ⟨fo,of,lf,v5,e5,h5⟩:=slice_at Fo.v Fo.ok (sz:=4) (fun a=>rfl) (by omega) Tryz.underlying40 kc87t y87 kc40t (fun m' hm' cs x=>fo_in) p5 q5;obtain ⟨bo,ob,lb,v6,e6,h6⟩:=slice_at Sm.v Sm.ok (sz:=8) (fun a=>by simp) (by omega) Tryz.underlying26 kc28t y28 kc26t (fun m' hm'=>(tree_in m m' (by omega)).2) p6 q6;refine ⟨.mk k0 k1 k2 nm ex fo bo,(De.ok_iff _).2 ⟨on,oe,⟨lf,of⟩,⟨lb,Sm.okL_of ob⟩⟩,CR_of ?_ ?_⟩
   ·rw[hl,kc42t];simp
   ·intro j w hw';rw[De.v_cells] at hw'
    match j,hw' with
    | 0,hw'=>cases hw';exact ⟨_,e0,.int _ _⟩
    | 1,hw'=>cases hw';exact ⟨_,e1,.bool _⟩
    | 2,hw'=>cases hw';exact ⟨_,e2,.int _ _⟩
    | 3,hw'=>cases hw';exact ⟨_,e3,h3⟩
    | 4,hw'=>cases hw';exact ⟨_,e4,h4⟩
    | 5,hw'=>cases hw';exact ⟨_,e5,h5⟩
    | 6,hw'=>cases hw';exact ⟨_,e6,h6⟩
  ·obtain ⟨n,hn,hl,hp⟩:=parts Tryz.underlying28 h hw;obtain ⟨y0,p0,q0⟩:=hp 0 _ rfl;obtain ⟨y1,p1,q1⟩:=hp 1 _ rfl;obtain ⟨y2,p2,q2⟩:=hp 2 _ rfl;obtain ⟨y3,p3,q3⟩:=hp 3 _ rfl;obtain ⟨y4,p4,q4⟩:=hp 4 _ rfl;obtain ⟨y5,p5,q5⟩:=hp 5 _ rfl;obtain ⟨y6,p6,q6⟩:=hp 6 _ rfl;obtain ⟨y7,p7,q7⟩:=hp 7 _ rfl;obtain ⟨lb,ol,v0,e0,h0⟩:=strs_at p0 q0;obtain ⟨k1,e1⟩:=int_at p1;obtain ⟨s,e2,hs⟩:=str_at p2 q2;obtain ⟨tg,ot,v3,e3,h3⟩:=exs_at p3 q3;obtain ⟨ex,oe,v4,e4,h4⟩:=exs_at p4 q4;obtain ⟨el,oel,lel,v5,e5,h5⟩:=slice_at El.v El.ok (sz:=2) (fun a=>rfl) (by omega) Tryz.underlying24 kc135t y135 kc24t (fun m' hm' cs x=>el_in) p5 q5;obtain ⟨de,od,ld,v6,e6,h6⟩:=slice_at De.v De.ok (sz:=7) (fun a=>by simp) (by omega) Tryz.underlying25 kc42t y42 kc25t (fun m' hm'=>(tree_in m m' (by omega)).1) p6 q6;obtain ⟨bo,ob,lbo,v7,e7,h7⟩:=slice_at Sm.v Sm.ok (sz:=8) (fun a=>by simp) (by omega) Tryz.underlying26 kc28t y28 kc26t (fun m' hm'=>(tree_in m m' (by omega)).2) p7 q7;refine ⟨.mk lb k1 s tg ex el de bo,(Sm.ok_iff _).2 ⟨ol,hs,ot,oe,⟨lel,oel⟩,⟨ld,De.okL_of od⟩,⟨lbo,Sm.okL_of ob⟩⟩,CR_of ?_ ?_⟩
   ·rw[hl,kc28t];simp
   ·intro j w hw';rw[Sm.v_cells] at hw'
    match j,hw' with
    | 0,hw'=>cases hw';exact ⟨_,e0,h0⟩
    | 1,hw'=>cases hw';exact ⟨_,e1,.int _ _⟩
    | 2,hw'=>cases hw';exact ⟨_,e2,.str _⟩
    | 3,hw'=>cases hw';exact ⟨_,e3,h3⟩
    | 4,hw'=>cases hw';exact ⟨_,e4,h4⟩
    | 5,hw'=>cases hw';exact ⟨_,e5,h5⟩
    | 6,hw'=>cases hw';exact ⟨_,e6,h6⟩
    | 7,hw'=>cases hw';exact ⟨_,e7,h7⟩
set_option maxRecDepth 100000
theorem agg_of{vs:List V}{v:Value}{cs:Array Value}(hv:v=.agg cs)(h:CR W vs v.cells.toList):VR (E0 W) (.agg vs) v:=by
 subst hv;refine .agg (by have:=h.1;simpa[Value.cells] using this) fun i x u hx hu=>h.2 i x u hx (by simpa[Value.cells] using hu)
theorem stmt_in{base:Nat}{v:Value}{d:DataW H}{p:List MemPlace}(hval:Value.okWide Tryz.prog W .any base 28 v)(h:DataW.Trod enc Tryz.prog W 0 (fun _=>true) true 28 v d p)(hw:Fitw 28 d):∃s:Sm,s.ok∧VR (E0 W) s.v v:=by
 obtain ⟨fuel,h⟩:=h;obtain ⟨s,hs,hc⟩:=(tree_in fuel fuel (qq8 _)).2 _ _ h hw;unfold Value.okWide at hval;rw[Tryz.underlying28] at hval;obtain ⟨cs,hv,_⟩:=hval;rw[Sm.v_cells] at hc;exact ⟨s,hs,by rw[Sm.v_eq];exact agg_of hv hc⟩
theorem fitw_of{ts:List TypeId}{ds:List (DataW H)}(h:(DataW.weightsEach Tryz.prog ts ds).all (·≤reachBytes)=true){i:Nat}{t:TypeId}{d:DataW H}(ht:ts[i]?=some t)(hd:ds[i]?=some d):Fitw t d:=fun n hn=>by
 have:=qrn.1 h n (weightsEach_mem ht hd hn);simpa using this
end
end Go.Proofs.YtbifpocccfkhhaaGreatDoor
namespace Go.Proofs.YtbifpocccfkhhaaGreatDoor
open Go Go.ChangeShapes Go.WideShapes Go.ChangeAt Go.RowKit
set_option maxRecDepth 100000
section
variable {H:Type} {enc:TypeId×Value→H} {W:World}
theorem trodAll_cons{P:Program}{t:TypeId}{ts:List TypeId}{vs:List Value}{ds:List (DataW H)}{ps:List MemPlace}(h:DataW.TrodAll enc P W 0 (fun _=>true) true (t::ts) vs ds ps):
  ∃v vs' d ds' p q,vs=v::vs'∧ds=d::ds'∧DataW.Trod enc P W 0 (fun _=>true) true t v d p∧DataW.TrodAll enc P W 0 (fun _=>true) true ts vs' ds' q:=by
 cases vs with
 | nil=>exact h.elim
 | cons v vs=>
  cases ds with
  | nil=>exact h.elim
  | cons d ds=>
   obtain ⟨p,q,h1,h2,_⟩:=h;exact ⟨v,vs,d,ds,p,q,rfl,rfl,h1,h2⟩
theorem trodAll_nil{P:Program}{vs:List Value}{ds:List (DataW H)}{ps:List MemPlace}(h:DataW.TrodAll enc P W 0 (fun _=>true) true [] vs ds ps):vs=[]∧ds=[]:=by
 cases vs with
 | nil=>
  cases ds with
  | nil=>exact ⟨rfl,rfl⟩
  | cons d ds=>exact h.elim
 | cons v vs=>cases ds <;> exact h.elim
end
set_option maxRecDepth 20000
def c110:F':=⟨11,[.t 5],
 .seq (.reg [.o 5 (.mv (.c (.str ⟨⟨[]⟩⟩)))])
 (.seq (.reg [.l 6 2,
 .m 7 0,
 .m 8 1,
 .o 9 (.call (.t 6) [(.t 7),(.t 8)])])
 (.seq (.reg [.m 10 0,
 .m 5 10])
 (.ret)))⟩
theorem ok110:okF Tryz.f110 c110:=okI (by kernel_rfl)
def c6:F':=⟨131,[.t 6],
 .seq (.reg [.o 3 (.box (.t 0)),
 .o 4 (.box (.t 1)),
 .o 5 (.box (.t 2)),
 .o 6 (.mv (.c (.bool false)))])
 (.seq (.seq (.reg [.j 21 8 3,
 .o 22 (.call (.f 17) [(.t 21)]),
 .o 23 (.un .not (.t 22)),
 .m 24 23,
 .v 25 24 false (.ld (some 8) (.t 4)),
 .v 26 24 false (.call (.f 17) [(.t 25)]),
 .v 27 24 false (.un .not (.t 26)),
 .z 28 24 27,
 .m 29 28,
 .v 30 29 false (.ld (some 8) (.t 5)),
 .v 31 29 false (.call (.f 17) [(.t 30)]),
 .v 32 29 false (.un .not (.t 31)),
 .z 33 29 32])
 (.cond (.t 33)
 (.seq (.reg [.o 34 (.call (.f 18) []),
 .m 6 34])
 (.ret))
 (.skip)))
 (.seq (.reg [.j 36 8 3,
 .j 37 8 4,
 .o 38 (.call (.f 24) [(.t 36),(.t 37)]),
 .m 35 38,
 .e 39 0 35,
 .e 40 1 35,
 .m 7 39,
 .m 8 40])
 (.seq (.reg [.j 42 8 4,
 .j 43 8 3,
 .o 44 (.call (.f 24) [(.t 42),(.t 43)]),
 .m 41 44,
 .e 45 0 41,
 .e 46 1 41,
 .m 9 45,
 .m 10 46])
 (.seq (.reg [.j 48 8 4,
 .j 49 8 5,
 .o 50 (.call (.f 24) [(.t 48),(.t 49)]),
 .m 47 50,
 .e 51 0 47,
 .e 52 1 47,
 .m 11 51,
 .m 12 52])
 (.seq (.reg [.j 54 8 3,
 .j 55 8 5,
 .o 56 (.call (.f 24) [(.t 54),(.t 55)]),
 .m 53 56,
 .e 57 0 53,
 .e 58 1 53,
 .m 13 57,
 .m 14 58])
 (.seq (.reg [.j 60 8 3,
 .j 61 8 3,
 .o 62 (.call (.f 24) [(.t 60),(.t 61)]),
 .m 59 62,
 .e 63 0 59,
 .e 64 1 59,
 .m 15 63,
 .m 16 64])
 (.seq (.seq (.reg [.m 65 8,
 .u 66 .neq 65 0,
 .m 67 66,
 .v 68 67 false (.mv (.t 12)),
 .v 69 67 false (.bin .neq (.t 68) (.c (.int .i64 0))),
 .z 70 67 69,
 .m 71 70,
 .v 72 71 false (.mv (.t 14)),
 .v 73 71 false (.bin .neq (.t 72) (.c (.int .i64 0))),
 .z 74 71 73])
 (.cond (.t 74)
 (.seq (.reg [.o 75 (.call (.f 18) []),
 .m 6 75])
 (.ret))
 (.skip)))
 (.seq (.reg [.j 77 8 3,
 .o 78 (.call (.f 29) [(.t 77)]),
 .m 76 78,
 .e 79 0 76,
 .e 80 1 76,
 .m 17 79,
 .m 18 80])
 (.seq (.reg [.j 82 8 4,
 .o 83 (.call (.f 29) [(.t 82)]),
 .m 81 83,
 .e 84 0 81,
 .e 85 1 81,
 .m 19 84,
 .m 20 85])
 (.seq (.reg [.o 86 (.call (.f 18) []),
 .m 87 86,
 .v 88 87 true (.mv (.t 10)),
 .v 89 87 true (.bin .eql (.t 88) (.c (.int .i64 0))),
 .y 90 87 89,
 .m 91 90,
 .v 92 91 true (.mv (.t 16)),
 .v 93 91 true (.bin .eql (.t 92) (.c (.int .i64 0))),
 .y 94 91 93,
 .m 95 94,
 .v 96 95 true (.mv (.t 18)),
 .v 97 95 true (.bin .eql (.t 96) (.c (.int .i64 0))),
 .y 98 95 97,
 .m 99 98,
 .v 100 99 true (.mv (.t 20)),
 .v 101 99 true (.bin .eql (.t 100) (.c (.int .i64 0))),
 .y 102 99 101,
 .m 103 102,
 .v 104 103 true (.mv (.t 15)),
 .y 105 103 104,
 .m 106 105,
 .v 107 106 true (.mv (.t 7)),
 .v 108 106 true (.mv (.t 9)),
 .v 109 106 true (.eq .bool false (.t 107) (.t 108)),
 .y 110 106 109,
 .m 111 110,
 .v 112 111 true (.mv (.t 7)),
 .v 113 111 true (.un .not (.t 112)),
 .v 114 111 true (.mv (.t 113)),
 .v 115 114 false (.mv (.t 11)),
 .v 116 114 false (.un .not (.t 115)),
 .v 117 111 true (.pick (.t 114) (.c (.bool true)) (.t 116)),
 .v 118 111 true (.mv (.t 117)),
 .v 119 118 false (.mv (.t 13)),
 .v 120 111 true (.pick (.t 118) (.c (.bool true)) (.t 119)),
 .y 121 111 120,
 .m 122 121,
 .v 123 122 true (.mv (.t 7)),
 .v 124 122 true (.un .not (.t 123)),
 .v 125 122 true (.mv (.t 124)),
 .v 126 125 false (.mv (.t 17)),
 .v 127 125 false (.mv (.t 19)),
 .v 128 125 false (.call (.f 30) [(.t 126),(.t 127)]),
 .v 129 122 true (.pick (.t 125) (.c (.bool true)) (.t 128)),
 .y 130 122 129,
 .m 6 130])
 (.ret)))))))))))⟩
theorem ok6:okF Tryz.f6 c6:=okI (by kernel_rfl)
open Go.Proofs.Tryz
abbrev ptV(p:Nat):V:=.ptr p 0 0 1
def coU(h:List ByteArray×List ByteArray)(x:ByteArray)(sc:Scs):List ByteArray×List ByteArray:=match sc.at x with
 | some _=>h
 | none=>(h.1++[x],h.2)
def coP:Pw where
 H:=List ByteArray×List ByteArray
 f _ x:=x
 nm:=some fun x _ _=>x
 cl:=some fun x _=>x
 ent h _ x:=(h.1,h.2++[x])
 nmH h x sc _:=coU h x.text sc
 clH h x sc:=coU h x sc
structure Co(m c4 c5 c6:Nat)(h:List ByteArray×List ByteArray)(v:V)(ps:List Nat)(F D:Nat→Prop)(U:St):Prop where
 f4:U[c4]?=some (.arr [.map m] 1 1)
 fm:∃bs ck,Stam bs ck∧U[m]?=some (.map ((h.1.foldl insK []).map kv) bs ck)
 f5:U[c5]?=some (.arr [v] 1 1)
 f6:U[c6]?=some (.arr [.fn (.func 107) [] [.ptr c4 0 0 1]] 1 1)
 gr:(ps=[]∧v=.sl true [])∨∃a wr,v=.arr a 0 ps.length ps.length∧U[a]?=some (.arr (ps.map ptV) 1 wr)∧wr≤ps.length∧F a∧a≠c5
 pn:ps.length=h.2.length
 pl:∀i p x,ps[i]?=some p→h.2[i]?=some x→D p∧U[p]?=some (plc x i x)
 dF:∀l,F l→l=m∨l=c5∨∃n,v=.arr l 0 n n
 dD:∀l,D l→l=c4∨l=c6∨l∈ps
 hm:F m
 h5:F c5
 h4:D c4
 h6:D c6
def coC(m c4 c5 c6:Nat):Cb where
 toPw:=coP
 fe:=.fn (.func 108) [] [.ptr c5 0 0 1]
 fn:=.fn (.func 109) [] [.ptr c6 0 0 1]
 fc:=.fn (.func 110) [] [.ptr c6 0 0 1]
 I h F D U:=∃v ps,Co m c4 c5 c6 h v ps F D U
 cn h n:=h.2.length=n
theorem qlR{U:St}{i j:Nat}{a b:Ob}(h:U[i]?=some a)(g:U[j]?=some b)(n:a≠b):i≠j:=by
 rintro rfl;rw[h] at g;cases g;exact n rfl
section
variable {m c4 c5 c6:Nat} {h:List ByteArray×List ByteArray} {v:V} {ps:List Nat} {F D:Nat→Prop} {U:St}
theorem Co.place(k:Co m c4 c5 c6 h v ps F D U){p:Nat}(hp:p∈ps):∃x i,D p∧U[p]?=some (plc x i x):=by
 obtain ⟨i,hi⟩:=List.mem_iff_getElem?.1 hp;have h1:=(qq2.1 hi).1;rw[k.pn] at h1;exact ⟨_,i,k.pl i p _ hi (qrd h1)⟩
theorem Co.gF(k:Co m c4 c5 c6 h v ps F D U){l:Nat}(hl:F l):∃o,U[l]?=some o∧(∀i,o≠.loop i)∧¬ D l:=by
 have nD:∀o,U[l]?=some o→o≠.arr [.map m] 1 1→o≠.arr [.fn (.func 107) [] [.ptr c4 0 0 1]] 1 1→(∀x i,o≠plc x i x)→¬ D l:=fun o ho n1 n2 n3 hD=>by
  rcases k.dD l hD with rfl|rfl|hp
  ·rw[k.f4] at ho;cases ho;exact n1 rfl
  ·rw[k.f6] at ho;cases ho;exact n2 rfl
  ·obtain ⟨x,i,_,h2⟩:=k.place hp;rw[h2] at ho;cases ho;exact n3 x i rfl
 rcases k.dF l hl with rfl|rfl|⟨n,hv⟩
 ·obtain ⟨bs,ck,hst,hm⟩:=k.fm;exact ⟨_,hm,by simp,nD _ hm (by simp) (by simp) (by simp[plc])⟩
 ·refine ⟨_,k.f5,by simp,nD _ k.f5 ?_ ?_ (by simp[plc])⟩
  ·rcases k.gr with ⟨_,rfl⟩|⟨a,wr,rfl,_⟩ <;> simp
  ·rcases k.gr with ⟨_,rfl⟩|⟨a,wr,rfl,_⟩ <;> simp
 ·rcases k.gr with ⟨_,rfl⟩|⟨a,wr,rfl,ha,_,_⟩
  ·cases hv
  ·cases hv;refine ⟨_,ha,by simp,nD _ ha ?_ ?_ (by simp[plc])⟩
   ·intro hh;injection hh with hh;cases ps <;> simp at hh
   ·intro hh;injection hh with hh;cases ps <;> simp at hh
theorem Co.gD(k:Co m c4 c5 c6 h v ps F D U){l:Nat}(hl:D l):∃o,U[l]?=some o∧∀i,o≠.loop i:=by
 rcases k.dD l hl with rfl|rfl|hp
 ·exact ⟨_,k.f4,by simp⟩
 ·exact ⟨_,k.f6,by simp⟩
 ·obtain ⟨x,i,_,h2⟩:=k.place hp;exact ⟨_,h2,by simp[plc]⟩
theorem Co.fr{U':St}{M:Nat→Prop}(k:Co m c4 c5 c6 h v ps F D U)(hk:Kp M U U')(hM:∀l,M l→l<U.length→¬ F l∧¬ D l):Co m c4 c5 c6 h v ps F D U':=by
 have nF:∀{l o},U[l]?=some o→F l→U'[l]?=some o:=fun ho hf=>hk.at ho fun hm=>(hM _ hm (glt ho)).1 hf
 have nD:∀{l o},U[l]?=some o→D l→U'[l]?=some o:=fun ho hf=>hk.at ho fun hm=>(hM _ hm (glt ho)).2 hf
 obtain ⟨bs,ck,hst,hm⟩:=k.fm;exact ⟨nD k.f4 k.h4,⟨bs,ck,hst,nF hm k.hm⟩,nF k.f5 k.h5,nD k.f6 k.h6,k.gr.imp id fun ⟨a,wr,h1,h2,h3,h4,h5⟩=>⟨a,wr,h1,nF h2 h4,h3,h4,h5⟩,k.pn,fun i p x h1 h2=>⟨(k.pl i p x h1 h2).1,nD (k.pl i p x h1 h2).2 (k.pl i p x h1 h2).1⟩,k.dF,k.dD,k.hm,k.h5,k.h4,k.h6⟩
theorem Co.use(k:Co m c4 c5 c6 h v ps F D U)(x:ByteArray){bs:List Nat}{ck:Nat}(hst:Stam bs ck):Co m c4 c5 c6 (h.1++[x],h.2) v ps F D (U.set m (.map (((h.1++[x]).foldl insK []).map kv) bs ck)):=by
 obtain ⟨bs0,ck0,_,hm⟩:=k.fm
 have g:∀{l o},U[l]?=some o→(∀a b c,o≠Ob.map a b c)→(U.set m (.map (((h.1++[x]).foldl insK []).map kv) bs ck))[l]?=some o:=fun {l o} ho n=>by
  rw[qq6]
  ·exact ho
  ·exact qlR hm ho (Ne.symm (n _ _ _))
 exact ⟨g k.f4 (by simp),⟨bs,ck,hst,qq5 (glt hm)⟩,g k.f5 (by simp),g k.f6 (by simp),k.gr.imp id fun ⟨a,wr,h1,h2,h3,h4,h5⟩=>⟨a,wr,h1,g h2 (by simp),h3,h4,h5⟩,k.pn,fun i p x h1 h2=>⟨(k.pl i p x h1 h2).1,g (k.pl i p x h1 h2).2 (by simp[plc])⟩,k.dF,k.dD,k.hm,k.h5,k.h4,k.h6⟩
end
theorem qoL{S:St}{sz bytes:Nat}{y:V}{b:Bool}(hy:fits sz [y]=true)(hr:bytes≤2 ^ 47):appS S sz bytes (.sl true []) (.sl b [y])=some (.arr S.length 0 1 1,S++[.arr [y] sz 1]):=by
 unfold appS;rw[qey];have hc:true=true∧fits sz [y]=true∧(([]:List V).all fun v=>v.size==sz)=true∧(([]:List V).length+[y].length) * bytes≤2 ^ 47:=⟨rfl,hy,rfl,by simpa using hr⟩;show (if ([y]:List V).isEmpty=true then _ else _)=_;rw[if_neg (by simp),if_pos hc];simp
theorem qoW{S:St}{sz bytes l wr:Nat}{xs:List V}{y:V}{b:Bool}(h3:S[l]?=some (.arr xs sz wr))(hy:fits sz [y]=true)(hr:(xs.length+1) * bytes≤2 ^ 47):appS S sz bytes (.arr l 0 xs.length xs.length) (.sl b [y])=some (.arr l 0 (xs.length+1) (xs.length+1),S.set l (.arr (xs++[y]) sz wr)):=by
 have hc:0=0∧xs.length=xs.length∧xs.length=xs.length∧sz=sz∧fits sz [y]=true∧(xs.length+[y].length) * bytes≤2 ^ 47:=⟨rfl,rfl,rfl,rfl,hy,hr⟩;unfold appS;rw[qey];show (match S[l]? with|_=>_)=_;rw[h3];show (if _ then _ else _)=_;rw[if_pos hc];rfl
theorem qpp{m c4 c5 c6:Nat}{h:List ByteArray×List ByteArray}{v:V}{ps:List Nat}{F D:Nat→Prop}{U:St}(k:Co m c4 c5 c6 h v ps F D U)(p:Nat)(x:ByteArray)(hp:U[p]?=some (plc x h.2.length x))(nF:¬ F p)(hn:h.2.length≤100000):
  Spec prog 108 [.ptr p 0 0 1,.ptr c5 0 0 1] U (fun _ U'=>∃v' F',Co m c4 c5 c6 (h.1,h.2++[x]) v' (ps++[p]) F' (fun l=>D l∨l=p) U'∧U'[p]?=some (plc x h.2.length x)∧Kp (fun l=>l=p∨F l) U U'∧grow U F F'):=by
 refine Spec.intro func108 ok108 (by simp[c108]) ?_;have hpn:=k.pn;obtain ⟨bs,ck,hst,hm⟩:=k.fm;have fin:∀(U1:St) (a wr:Nat),U1[a]?=some (.arr ((ps++[p]).map ptV) 1 wr)→wr≤ps.length+1→(F a∨U.length≤a)→a≠c5→a≠m→U.length≤U1.length→(∀l o,U[l]?=some o→l≠a→U1[l]?=some o)→
   ∃v' F',Co m c4 c5 c6 (h.1,h.2++[x]) v' (ps++[p]) F' (fun l=>D l∨l=p) (U1.set c5 (.arr [.arr a 0 (ps.length+1) (ps.length+1)] 1 1))∧(U1.set c5 (.arr [.arr a 0 (ps.length+1) (ps.length+1)] 1 1))[p]?=some (plc x h.2.length x)∧Kp (fun l=>l=p∨F l) U (U1.set c5 (.arr [.arr a 0 (ps.length+1) (ps.length+1)] 1 1))∧grow U F F':=by
  intro U1 a wr h2 h3 h4 h5 h5' h6' h6
  have q:∀{l o},U[l]?=some o→l≠c5→l≠a→(U1.set c5 (.arr [.arr a 0 (ps.length+1) (ps.length+1)] 1 1))[l]?=some o:=fun {l o} ho n1 n2=>by
   rw[qq6 (Ne.symm n1)];exact h6 l o ho n2
  have nq:∀{l o},U[l]?=some o→¬ F l→(U1.set c5 (.arr [.arr a 0 (ps.length+1) (ps.length+1)] 1 1))[l]?=some o:=fun {l o} ho hF=>
   q ho (by rintro rfl;exact hF k.h5) (by rintro rfl;exact h4.elim hF fun hh=>by have:=glt ho;omega)
  have nDF:∀{l},D l→¬ F l:=fun hD hF=>by obtain ⟨_,_,_,h⟩:=k.gF hF;exact h hD
  refine ⟨.arr a 0 (ps.length+1) (ps.length+1),fun l=>l=m∨l=c5∨l=a,⟨nq k.f4 (nDF k.h4),⟨bs,ck,hst,q hm ?_ (Ne.symm h5')⟩,qq5 ?_,nq k.f6 (nDF k.h6),.inr ⟨a,wr,by simp,?_,by simpa using h3,.inr (.inr rfl),h5⟩,by simp[hpn],fun i p' x' g1 g2=>?_,fun l hl=>?_,fun l hl=>?_,.inl rfl,.inr (.inl rfl),.inl k.h4,.inl k.h6⟩,nq hp nF,⟨by simpa using h6',fun l hl hn=>?_⟩,fun l hl=>?_⟩
  ·refine qlR hm k.f5 (by simp)
  ·have:=glt k.f5;omega
  ·rw[qq6 (Ne.symm h5)];exact h2
  ·by_cases hi:i<ps.length
   ·rw[qq4 hi] at g1;rw[qq4 (by omega)] at g2;obtain ⟨e1,e2⟩:=k.pl i p' x' g1 g2;exact ⟨.inl e1,nq e2 (nDF e1)⟩
   ·have h1:=(qq2.1 g1).1;rw[qrl,List.length_singleton] at h1;have:i=ps.length:=by omega
    subst this;simp at g1;rw[hpn] at g2;simp at g2;subst g1 g2;have e:=nq hp nF;rw[←hpn] at e;exact ⟨.inr rfl,e⟩
  ·exact hl.imp id fun hl=>hl.imp id fun hl=>⟨ps.length+1,by rw[hl]⟩
  ·rcases hl with hl|rfl
   ·exact (k.dD l hl).imp id fun hl=>hl.imp id fun hl=>by simp[hl]
   ·exact .inr (.inr (by simp))
  ·have:∃o,U[l]?=some o:=⟨_,qrd hl⟩;obtain ⟨o,ho⟩:=this;rw[ho];exact nq ho fun hf=>hn (.inr hf)
  ·rcases hl with rfl|rfl|rfl
   ·exact .inl k.hm
   ·exact .inl k.h5
   ·exact h4
 have hf:=k.f5;have hft:fits 1 [V.ptr p 0 0 1]=true:=rfl;rcases k.gr with ⟨rfl,rfl⟩|⟨a,wr,rfl,ha,hw,hF,hne⟩
 ·have happ:=qoL (S:=U) (sz:=1) (bytes:=8) (y:=.ptr p 0 0 1) (b:=true) rfl (by omega);have hs:(U++[Ob.arr [.ptr p 0 0 1] 1 1])[c5]?=some (.arr [.sl true []] 1 1):=gp hf;simp[c108,ldS,hf,hft,evX,happ,stS,hs];refine qav rfl ?_;exact (fin (U++[Ob.arr [ptV p] 1 1]) U.length 1 (by simp) (by simp) (.inr (qq8 _)) (by have:=glt hf;omega) (by have:=glt hm;omega) (by simp) fun l o ho _=>gp ho)
 ·have happ:=qoW (S:=U) (sz:=1) (bytes:=8) (y:=.ptr p 0 0 1) (b:=true) ha rfl (by rw[qrh];omega);simp at happ;have hs:(U.set a (Ob.arr (ps.map ptV++[.ptr p 0 0 1]) 1 wr))[c5]?=some (.arr [.arr a 0 ps.length ps.length] 1 1):=by rw[qq6 hne];exact hf
  simp[c108,ldS,hf,hft,evX,happ,stS,hs];refine qav rfl ?_;exact (fin (U.set a (Ob.arr (ps.map ptV++[.ptr p 0 0 1]) 1 wr)) a wr (by rw[qq5 (glt ha),qrO];rfl) (by omega) (.inl hF) hne (qlR ha hm (by simp)) (by simp) fun l o ho hl=>by rw[qq6 (Ne.symm hl)];exact ho)
section
variable {m c4 c5 c6:Nat} {h:List ByteArray×List ByteArray} {v:V} {ps:List Nat} {F D:Nat→Prop} {U:St}
theorem Co.lt(k:Co m c4 c5 c6 h v ps F D U){l:Nat}(hl:F l∨D l):l<U.length:=by
 rcases hl with hl|hl
 ·obtain ⟨_,h,_⟩:=k.gF hl;exact glt h
 ·obtain ⟨_,h,_⟩:=k.gD hl;exact glt h
theorem Co.push(k:Co m c4 c5 c6 h v ps F D U)(os:List Ob):Co m c4 c5 c6 h v ps F D (U++os):=k.fr (M:=fun _=>False) ((Kp.refl _ _).push _) fun _ h=>h.elim
theorem Co.set(k:Co m c4 c5 c6 h v ps F D U){l:Nat}(o:Ob)(hF:¬ F l)(hD:¬ D l):Co m c4 c5 c6 h v ps F D (U.set l o):=k.fr (M:=fun x=>x=l) ((Kp.refl _ _).set _ (.inl rfl)) fun x hx _=>by rw[hx];exact ⟨hF,hD⟩
end
theorem qkC{m c4 c5 c6:Nat}{h:List ByteArray×List ByteArray}{v:V}{ps:List Nat}{F D:Nat→Prop}{U:St}(k:Co m c4 c5 c6 h v ps F D U){X:Nat→Prop}{w:V}{ts:List Sct}(hsc:ScR coP X U w ts)(x:ByteArray):
  Spec prog 107 [.str x,w,.ptr c4 0 0 1] U (fun _ U'=>Co m c4 c5 c6 (coU h x (Scx ts)) v ps F D U'∧Kp F U U'):=by
 refine Spec.intro func107 ok107 (by simp[c107]) ?_;simp[c107];refine qad (qgV hsc x) ?_;have hat:=qfg ts x;unfold coU;rw[hat];have h4:=k.f4;obtain ⟨bs,ck,hst,hm⟩:=k.fm
 cases hf:fnd ts x with
 | some q=>
  simp[fndV,hf,eqOk,eqV];exact qav rfl ⟨k,Kp.refl _ _⟩
 | none=>
  simp[fndV,hf,eqOk,eqV,ldS,h4];have hft:fits 1 [V.str x]=true:=rfl;simp[hft];refine qan (qqc true [x] _ bs ck m U (by simp) hm) ?_;rintro r U' ⟨bs',ck',hst',rfl⟩;simp;have:=k.use x (hst' hst);rw[qsB] at this;exact qav rfl ⟨this,(Kp.refl _ _).set _ (.inl k.hm)⟩
theorem qnq{m c4 c5 c6:Nat}{h:List ByteArray×List ByteArray}{v:V}{ps:List Nat}{F D:Nat→Prop}{U:St}(k:Co m c4 c5 c6 h v ps F D U){X:Nat→Prop}{w:V}{ts:List Sct}(hsc:ScR coP X U w ts)(x:Ex)(tg:Bool):
  Spec prog 109 [x.v,w,.bool tg,.ptr c6 0 0 1] U (fun r U'=>r=x.v∧Co m c4 c5 c6 (coU h x.text (Scx ts)) v ps F D U'∧Kp F U U'):=by
 refine Spec.intro func109 ok109 (by simp[c109]) ?_;simp[c109,boxS];obtain ⟨U1,hU1⟩:∃U1:St,U1=U++[.arr [x.v] 7 1,.arr [.agg [.int .i64 0,.int .i64 0,.int .i64 0,.int .i64 0,.int .i64 0,.str ⟨⟨[]⟩⟩,.sl true []]] 7 1]:=⟨_,rfl⟩;rw[←hU1];have l1:U1.length=U.length+2:=by rw[hU1];simp
 have b0:U1[U.length]?=some (.arr [x.v] 7 1):=by rw[hU1];simp
 have b1:U1[U.length+1]?=some (.arr [.agg [.int .i64 0,.int .i64 0,.int .i64 0,.int .i64 0,.int .i64 0,.str ⟨⟨[]⟩⟩,.sl true []]] 7 1):=by rw[hU1,qq3 (by omega)];simp
 have k1:Co m c4 c5 c6 h v ps F D U1:=by rw[hU1];exact k.push _
 have s1:ScR coP X U1 w ts:=by rw[hU1];exact hsc.push _
 have kp1:Kp F U U1:=by rw[hU1];exact (Kp.refl _ _).push _
 clear hU1;have h6:=k1.f6;have nF:∀j,¬ F (U.length+j):=fun j hf=>by have:=k.lt (.inl hf);omega
 have nD:∀j,¬ D (U.length+j):=fun j hf=>by have:=k.lt (.inr hf);omega
 simp[ldS,h6,b0];refine qan (qkC k1 s1 x.text) ?_;rintro r U2 ⟨k2,kp2⟩;have c0:=kp2.at b0 (nF 0);have c1:=kp2.at b1 (nF 1);simp[ldS,c0,stS,c1,qaq];have hz:(U2.set (U.length+1) (.arr [x.v] 7 1))[U.length+1]?=some (.arr [x.v] 7 1):=qq5 (glt c1);exact qah (vs:=[x.v]) (by simp[rvs,ldS,hz]) ⟨rfl,k2.set _ (nF 1) (nD 1),(kp1.trans kp2).set _ (.inr (by omega))⟩
theorem qpt{m c4 c5 c6:Nat}{h:List ByteArray×List ByteArray}{v:V}{ps:List Nat}{F D:Nat→Prop}{U:St}(k:Co m c4 c5 c6 h v ps F D U){X:Nat→Prop}{w:V}{ts:List Sct}(hsc:ScR coP X U w ts)(x:ByteArray):
  Spec prog 110 [.str x,w,.ptr c6 0 0 1] U (fun r U'=>r=.str x∧Co m c4 c5 c6 (coU h x (Scx ts)) v ps F D U'∧Kp F U U'):=by
 refine Spec.intro func110 ok110 (by simp[c110]) ?_;have h6:=k.f6;simp[c110,ldS,h6];refine qan (qkC k hsc x) ?_;rintro r U2 ⟨k2,kp2⟩;simp;exact qah rfl ⟨rfl,k2,kp2⟩
theorem Co.real{m c4 c5 c6:Nat}{h:List ByteArray×List ByteArray}{v:V}{ps:List Nat}{F D:Nat→Prop}{S:St}(k:Co m c4 c5 c6 h v ps F D S)(h':List ByteArray×List ByteArray):∃F' D' U v' ps',Co m c4 c5 c6 h' v' ps' F' D' U∧Kp F S U∧grow S F F'∧grow S D D':=by
 obtain ⟨bs,ck,hst,hm⟩:=k.fm;obtain ⟨n,hn⟩:∃n,n=h'.2.length:=⟨_,rfl⟩;obtain ⟨ps',hps⟩:∃ps':List Nat,ps'=(List.range n).map (S.length+·):=⟨_,rfl⟩;have lps:ps'.length=n:=by rw[hps];simp
 obtain ⟨os,hos⟩:∃os:List Ob,os=(h'.2.zipIdx.map fun e=>plc e.1 e.2 e.1)++[.arr (ps'.map ptV) 1 0]:=⟨_,rfl⟩;have los:os.length=n+1:=by rw[hos,hn];simp
 obtain ⟨U,hU⟩:∃U:St,U=((S++os).set m (.map ((h'.1.foldl insK []).map kv) [] 0)).set c5 (.arr [.arr (S.length+n) 0 n n] 1 1):=⟨_,rfl⟩;have lm:=glt hm;have l5:=glt k.f5;have nDF:∀{l},D l→¬ F l:=fun hD hF=>by obtain ⟨_,_,_,h⟩:=k.gF hF;exact h hD
 have q:∀{l o},S[l]?=some o→¬ F l→U[l]?=some o:=fun {l o} ho hf=>by
  rw[hU,qq6 (by rintro rfl;exact hf k.h5),qq6 (by rintro rfl;exact hf k.hm)];rw[qq4 (glt ho)];exact ho
 have new:∀j o,os[j]?=some o→U[S.length+j]?=some o:=fun j o ho=>by
  rw[hU,qq6 (by omega),qq6 (by omega),qq3 (by omega),qsd];exact ho
 refine ⟨fun l=>l=m∨l=c5∨l=S.length+n,fun l=>l=c4∨l=c6∨l∈ps',U,.arr (S.length+n) 0 n n,ps',⟨q k.f4 (nDF k.h4),⟨[],0,Stam.nil,?_⟩,?_,q k.f6 (nDF k.h6),.inr ⟨S.length+n,0,by rw[lps],new n _ ?_,qrH _,.inr (.inr rfl),by omega⟩,by rw[lps,hn],fun i p x h1 h2=>⟨.inr (.inr (qrb h1)),?_⟩,fun l hl=>hl.imp id fun hl=>hl.imp id fun hl=>⟨n,by rw[hl]⟩,fun l hl=>hl,.inl rfl,.inr (.inl rfl),.inl rfl,.inr (.inl rfl)⟩,⟨?_,fun l hl hf=>?_⟩,fun l hl=>?_,fun l hl=>?_⟩
 ·rw[hU,qq6 (qlR k.f5 hm (by simp)),qq5 (by simp;omega)]
 ·rw[hU,qq5 (by simp;omega)]
 ·rw[hos,qq3 (by simp[hn])];simp[hn]
 ·rw[hps] at h1;simp at h1;obtain ⟨j,hj,rfl⟩:=h1;obtain ⟨h3,h4⟩:=qq2.1 hj;rw[List.getElem_range] at h4;rw[List.length_range] at h3;subst h4;refine new i _ ?_;rw[hos,qq4 (by simp;omega)];simp[h2]
 ·rw[hU];simp
 ·obtain ⟨o,ho⟩:∃o,S[l]?=some o:=⟨_,qrd hl⟩;rw[ho];exact q ho hf
 ·rcases hl with rfl|rfl|rfl
  ·exact .inl k.hm
  ·exact .inl k.h5
  ·exact .inr (by omega)
 ·rcases hl with rfl|rfl|hl
  ·exact .inl k.h4
  ·exact .inl k.h6
  ·rw[hps] at hl;simp at hl;omega
theorem qpW(m c4 c5 c6:Nat):(coC m c4 c5 c6).Ok where
 lt:=fun ⟨v,ps,k⟩ l hl=>k.lt hl
 fr:=fun ⟨v,ps,k⟩ hk hM=>⟨v,ps,k.fr hk hM⟩
 lp:=fun ⟨v,ps,k⟩ l o ho=>⟨fun hf=>by obtain ⟨_,h1,h2,_⟩:=k.gF hf;rw[ho] at h1;cases h1;exact h2 _ rfl,fun hf=>by obtain ⟨_,h1,h2⟩:=k.gD hf;rw[ho] at h1;cases h1;exact h2 _ rfl⟩
 ce x hc:=by
  show (_++[x]).length=_+1;rw[qrl];exact congrArg (·+1) hc
 cm x sc tg hc:=by
  show (coU _ x.text sc).2.length=_;unfold coU;split <;> exact hc
 cc x sc hc:=by
  show (coU _ x sc).2.length=_;unfold coU;split <;> exact hc
 real:=fun {h F D S} ⟨v,ps,k⟩ h'=>by
  obtain ⟨F',D',U,v',ps',a,b,c,d⟩:=k.real h';exact ⟨F',D',U,⟨v',ps',a⟩,b,c,d⟩
 en:=.inr ⟨108,[.ptr c5 0 0 1],rfl,fun U p k x h F D hp hF hD hk hc ⟨v,ps,kk⟩=>by
  have hc:h.2.length=k:=hc;subst hc;refine Spec.mono (qpp kk p x hp hF hk) fun r U' ⟨v',F',a,b,c,d⟩=>?_
  exact ⟨F',fun l=>D l∨l=p,⟨v',ps++[p],a⟩,b,c,d,fun l hl=>hl.imp id .inl⟩⟩
 nm:=⟨109,[.ptr c6 0 0 1],rfl,fun U x w ts tg w' h F D hsc ⟨v,ps,k⟩=>Spec.mono (qnq k hsc x tg) fun r U' ⟨a,b,c⟩=>⟨a,F,D,⟨v,ps,b⟩,c,grow.refl _ _,grow.refl _ _⟩⟩
 cl:=⟨110,[.ptr c6 0 0 1],rfl,fun U x w ts w' h F D hsc ⟨v,ps,k⟩=>Spec.mono (qpt k hsc x) fun r U' ⟨a,b,c⟩=>⟨a,F,D,⟨v,ps,b⟩,c,grow.refl _ _,grow.refl _ _⟩⟩
end Go.Proofs.YtbifpocccfkhhaaGreatDoor
end
