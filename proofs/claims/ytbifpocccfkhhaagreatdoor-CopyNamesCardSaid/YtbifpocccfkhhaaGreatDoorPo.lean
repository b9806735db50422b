/- CopyNames: for all statements and expressions, in every laid world, the law returns true (its tied card). Conditions: none. -/
import Derived.Test.YtbifpocccfkhhaaGreatDoorPn
set_option linter.all false
noncomputable section
namespace Go.Proofs.YtbifpocccfkhhaaGreatDoor
open Go Go.Proofs.Tryz
theorem Gw.neC{sz sz' n0 w k wr:Nat}{F D:Nat→Prop}{xs ys:List V}{v:V}{S:St}(h:Gw sz n0 w F D xs v S)(hk:S[k]?=some (.arr ys sz' wr))(hs:sz≠sz'):∀a b c,v≠.arr k a b c:=by
 rintro a b c rfl;rcases h with ⟨_,h⟩|⟨l',wr',h1,h2,h3,h4,h5⟩
 ·cases h
 ·cases h3;rw[hk] at h4;cases h4;exact hs rfl
theorem Gw.setC{sz sz' n0 w k wr:Nat}{F D:Nat→Prop}{xs ys:List V}{v:V}{S:St}(h:Gw sz n0 w F D xs v S)(hk:S[k]?=some (.arr ys sz' wr))(hs:sz≠sz')(o:Ob):Gw sz n0 w F D xs v (S.set k o):=
 by
 rcases h with h|⟨l,wr',h1,h2,h3,h4,h5⟩
 ·exact .inl h
 ·exact .inr ⟨l,wr',h1,h2,h3,by rw[qtH (by rintro rfl;rw[hk] at h4;cases h4;exact hs rfl)];exact h4,h5⟩
structure Cx(w sz:Nat)(P:(Nat→Prop)→(Nat→Prop)→St→Prop)(F D:Nat→Prop)(S:St)(x z y:V)(F' D':Nat→Prop)(U:St):Prop where
 rk:P F' D' U
 st:Stp w F D S F' D' U
 b0:U[S.length]?=some (.arr [x] sz 1)
 b1:U[S.length+1]?=some (.arr [z] sz 1)
 b2:U[S.length+2]?=some (.arr [y] sz 1)
 o0:Off w F' D' S.length
 o1:Off w F' D' (S.length+1)
 o2:Off w F' D' (S.length+2)
section
variable {w sz:Nat} {P P2:(Nat→Prop)→(Nat→Prop)→St→Prop} {F D F' D' F2 D2:Nat→Prop} {S U U2:St} {x z y:V}
theorem Cx.call(c:Cx w sz P F D S x z y F' D' U)(k:P2 F2 D2 U2)(s:Stp w F' D' U F2 D2 U2):Cx w sz P2 F D S x z y F2 D2 U2:=
 ⟨k,c.st.trans s,s.at c.o0 c.b0,s.at c.o1 c.b1,s.at c.o2 c.b2,c.o0.next (glt c.b0) s,c.o1.next (glt c.b1) s,c.o2.next (glt c.b2) s⟩
theorem Cx.app(c:Cx w sz P F D S x z y F' D' U){gv:V}(k:P F' D' U2)(s:Stp w F D S F' D' U2)(ho:∀l o,U[l]?=some o→(∀a b c,gv≠.arr l a b c)→U2[l]?=some o)(hg:∀k ys wr,U[k]?=some (.arr ys sz wr)→∀a b c,gv≠.arr k a b c):Cx w sz P F D S x z y F' D' U2:=
 ⟨k,s,ho _ _ c.b0 (hg _ _ _ c.b0),ho _ _ c.b1 (hg _ _ _ c.b1),ho _ _ c.b2 (hg _ _ _ c.b2),c.o0,c.o1,c.o2⟩
theorem Cx.put(fm:Frm w P)(c:Cx w sz P F D S x z y F' D' U)(y':V):Cx w sz P F D S x z y' F' D' (U.set (S.length+2) (.arr [y'] sz 1)):=
 ⟨fm.set c.rk _ c.o2,c.st.set _ (by omega),by rw[qtH (by omega)];exact c.b0,by rw[qtH (by omega)];exact c.b1,qtI (glt c.b2),c.o0,c.o1,c.o2⟩
theorem Cx.push(fm:Frm w P)(c:Cx w sz P F D S x z y F' D' U)(os:List Ob):Cx w sz P F D S x z y F' D' (U++os):=
 ⟨fm.push c.rk _,c.st.push _,gpp c.b0,gpp c.b1,gpp c.b2,c.o0,c.o1,c.o2⟩
end
def IvL(len:Nat)(A:Nat→V→(Nat→Prop)→(Nat→Prop)→St→Prop)(env:Nat→V→Env)(j:Nat)(e:Env)(U:St):Prop:=∃(i:Nat) (gv:V) (F' D':Nat→Prop),j=len - i∧i≤len∧A i gv F' D' U∧e=env i gv
def IvW(A:V→(Nat→Prop)→(Nat→Prop)→St→Prop)(env:V→Env)(e:Env)(U:St):Prop:=∃(gv:V) (F' D':Nat→Prop),A gv F' D' U∧Env.sub (env gv) e
abbrev deZ:V:=.agg [.int .i64 0,.bool false,.int .i64 0,.sl true [],.sl true [],.sl true [],.sl true []]
abbrev deA(d:De)(nv ev fv bv:V):V:=.agg [.int .i64 d.kind,.bool d.own,.int .i64 d.type,nv,ev,fv,bv]
theorem De.rw_eq(r:Rp)(own sc:Scs)(n:Nat)(d:De):d.rw r own sc n=if d.kind=4 then .mk d.kind d.own d.type (d.names.map (rren r own)) (Ex.rwl r own d.exps) (d.formals.map (Fo.rw r (qad (d.formals.map Fo.name) n::own))) (Sm.rw1 r (qad (d.formals.map Fo.name) n::own) (n+(qad (d.formals.map Fo.name) n).length) d.body)
  else .mk d.kind d.own d.type (d.names.map (rren r own)) (Ex.rwl r (if d.kind=2 then sc else own) d.exps) d.formals d.body:=by
 cases d;rw[De.rw];rfl
theorem De.rs_eq(r:Rp)(own sc:Scs)(n:Nat)(st:Rst)(d:De):d.rs r own sc n st=if d.kind=4 then Sm.rs1 r (qad (d.formals.map Fo.name) n::own) (n+(qad (d.formals.map Fo.name) n).length) (Ex.rsl r own st d.exps) d.body
  else Ex.rsl r (if d.kind=2 then sc else own) st d.exps:=by
 cases d;rw[De.rs];rfl
theorem De.bn_eq(d:De):d.bn=if d.kind=4 then nms (d.formals.map Fo.name)++Sm.bn1 d.body else []:=by
 cases d;rw[De.bn];rfl
theorem map_take{α β:Type}(f:α→β)(l:List α)(i:Nat)(h:i<l.length):(l.take (i+1)).map f=(l.take i).map f++[f l[i]]:=by
 rw[qtQ,qtF h,quf,qt0];rfl
theorem qb3{U:St}{l sz:Nat}{cs:List V}{j:Nat}{v:V}(h:U[l]?=some (.arr [.agg cs] sz 1))(hv:v.cells=[v]∧v.flat=true∧v.size=1)(hj:j+1≤cs.length)(hc:cs.length≠1):stS U (.ptr l 0 j 1) 1 v=some (U.set l (.arr [.agg (cs.take j++v::cs.drop (j+1))] sz 1)):=by
 have h0:¬ (j=0∧1=cs.length):=fun hh=>hc hh.2.symm
 simp[stS,h,qac,hv.1,hv.2.1,hv.2.2,hj,h0]
theorem Gx.setC{sz sz' n0 w k wr:Nat}{F D:Nat→Prop}{xs ys:List V}{v:V}{S:St}(h:Gx sz n0 w F D xs v S)(hk:S[k]?=some (.arr ys sz' wr))(hs:sz≠sz')(o:Ob):Gx sz n0 w F D xs v (S.set k o):=h.imp id fun h=>h.setC hk hs o
theorem Gw.nr{n0 w:Nat}{F D:Nat→Prop}{names:List ByteArray}{v:V}{S:St}(h:Gw 1 n0 w F D (names.map .str) v S):Nr w F D names v S:=by
 rcases h with ⟨h1,rfl⟩|⟨l,wr,h1,h2,rfl,h4,h5⟩
 ·rw[List.map_eq_nil_iff] at h1;subst h1;exact .inl ⟨true,rfl⟩
 ·rw[qtM] at h5 ⊢;exact .inr ⟨l,wr,h2,rfl,h4,h5⟩
theorem qkz(r:Rp)(ho:RpOk r)(bf bt:Bool)(w:Nat)(fv:V)(d:De)(H:∀s,s∈d.body→P194 r bf bt w fv s)(hsz:(Pa.de d).size≤4000)(bound:List ByteArray)(st:Rst)(F D:Nat→Prop)(S:St)(b b':Bool)(sc own:Scs)(hk:Rk r bf bt w fv bound st F D S)(ok:Okw bound st own d.nb (Pa.de d).size)(hd:ScD sc)(hfl:(Scs.flat sc).length≤bound.length):
  Spec prog 230 [.ptr w 0 0 1,d.v,.sl b ((Scs.flat sc).map bndV),.sl b' ((Scs.flat own).map bndV)] S (fun v U=>Rd' w (Rk r bf bt w fv (bound++d.bn) (d.rs r own sc bound.length st)) F D S (d.rw r own sc bound.length).v v U):=by
 refine Spec.intro func230 ok230 (by simp[c230]) ?_;have hparts:=De.size_parts d;have hbo:=ok.bo;have hfr:=ok.fr;have hof:=ok.fl;rw[De.rw_eq,De.rs_eq,De.bn_eq];rw[De.nb_eq] at hbo;have fm:=fun bo s=>Rk.frm r bf bt w fv bo s
 obtain ⟨ev,hev⟩:∃ev,ev=V.sl false (d.exps.map Ex.v):=⟨_,rfl⟩;obtain ⟨fv0,hfv0⟩:∃fv0,fv0=V.sl false (d.formals.map Fo.v):=⟨_,rfl⟩;obtain ⟨bv,hbv⟩:∃bv,bv=V.sl false (d.body.map Sm.v):=⟨_,rfl⟩;obtain ⟨S2,hS2⟩:∃S2:St,S2=S++[.arr [d.v] 7 1,.arr [deZ] 7 1,.arr [deA d (.sl true []) ev fv0 bv] 7 1]:=⟨_,rfl⟩
 have C0:Cx w 7 (Rk r bf bt w fv bound st) F D S d.v deZ (deA d (.sl true []) ev fv0 bv) F D S2:=by
  refine ⟨by rw[hS2];exact (fm _ _).push hk _,by rw[hS2];exact (Stp.refl _ _ _ _).push _,?_,?_,?_,(fm _ _).out hk (by omega),(fm _ _).out hk (by omega),(fm _ _).out hk (by omega)⟩
  all_goals rw[hS2,qtE (by omega)];simp
 have fin:∀{bo s F' D' U} (nm:List ByteArray) (ex:List Ex) (fo:List Fo) (bd:List Sm) (nv fx:V),Cx w 7 (Rk r bf bt w fv bo s) F D S d.v deZ (deA d nv (.sl false (ex.map Ex.v)) fx (.sl false (bd.map Sm.v))) F' D' U→Gx 1 S.length w F' D' (nm.map .str) nv U→Gx 4 S.length w F' D' (fo.map Fo.v) fx U→
   ldS U (.ptr (S.length+2) 0 0 1) (some 7)=some (deA d nv (.sl false (ex.map Ex.v)) fx (.sl false (bd.map Sm.v)))∧∃U',stS U (.ptr (S.length+1) 0 0 1) 7 (deA d nv (.sl false (ex.map Ex.v)) fx (.sl false (bd.map Sm.v)))=some U'∧
   ∀e:Env,e.get 8=some (.ptr (S.length+1) 0 0 1)→endp [.cell 8 (some 7)] S.length (fun v U=>Rd' w (Rk r bf bt w fv bo s) F D S (De.mk d.kind d.own d.type nm ex fo bd).v v U) .ret e U':=by
  intro bo s F' D' U nm ex fo bd nv fx hC h1 h2;have f1:=h1.flatV;have f2:=h2.flatV;have hl:∀x:V,x.flat=true→True:=fun _ _=>trivial
  refine ⟨by simp[ldS,hC.b2,qaf],U.set (S.length+1) (.arr [deA d nv (.sl false (ex.map Ex.v)) fx (.sl false (bd.map Sm.v))] 7 1),by simp[stS,hC.b1,qac,f1.2.1,f2.2.1],fun e he=>?_⟩;exact qtr (fm bo s) (qtI (glt hC.b1)) he (h1.setC hC.b1 (by omega) _) (h2.setC hC.b1 (by omega) _) (qtJ _) (qtJ _) ((fm bo s).set hC.rk _ hC.o1) (hC.st.set _ (by omega))
 simp[c230,boxS,evX,stS,ldS,qf8,qac];rw[←hev,←hfv0,←hbv];rw[←hS2];obtain ⟨A,hA⟩:∃A:Nat→V→(Nat→Prop)→(Nat→Prop)→St→Prop,∀i gv F' D' U,A i gv F' D' U↔(Cx w 7 (Rk r bf bt w fv bound st) F D S d.v deZ (deA d gv ev fv0 bv) F' D' U∧Gw 1 S.length w F' D' (((d.names.take i).map (rren r own)).map .str) gv U):=⟨_,fun _ _ _ _ _=>Iff.rfl⟩;refine qax (IvW (A d.names.length) fun _=>[(0,.ptr w 0 0 1),(2,.sl b ((Scs.flat sc).map bndV)),(3,.sl b' ((Scs.flat own).map bndV)),(5,.ptr S.length 0 0 1),(8,.ptr (S.length+1) 0 0 1),(9,.ptr (S.length+2) 0 0 1)]) ?_ ?_
 ·refine qar (IvL d.names.length A fun i _=>[(10,.int .i64 i),(0,.ptr w 0 0 1),(2,.sl b ((Scs.flat sc).map bndV)),(3,.sl b' ((Scs.flat own).map bndV)),(5,.ptr S.length 0 0 1),(8,.ptr (S.length+1) 0 0 1),(9,.ptr (S.length+2) 0 0 1)]) d.names.length _ ?_ ⟨0,_,F,D,by simp,by omega,(hA _ _ _ _ _).2 ⟨C0,Gw.nil _ _ _ _ _ _⟩,rfl⟩ ?_
  ·exact Env.so (by simp)
  rintro j e U ⟨i,gv,F1,D1,rfl,hi,hI,rfl⟩;obtain ⟨hC,hg⟩:=(hA _ _ _ _ _).1 hI;have hn:ldS U (.ptr S.length 0 3 1) none=some (.sl false (d.names.map .str)):=by simp[ldS,hC.b0]
  by_cases hlt:i<d.names.length
  ·have hia:=qc2 hlt false U;have hgv:ldS U (.ptr (S.length+2) 0 3 1) none=some gv:=by simp[ldS,hC.b2]
   have hfs:fits 1 [V.str (rren r own d.names[i])]=true:=rfl;obtain ⟨gv',U2,ha,hg2,k2,s2,a5,a6⟩:=hg.app1F (fm bound st) (bytes:=16) (b:=true) (y:=.str (rren r own d.names[i])) hC.rk hC.st hfs (by simp;omega);have C2:=hC.app (gv:=gv) k2 s2 a5 fun k ys wr hk'=>hg.neC hk' (by omega)
   have hst:=qb3 (j:=3) C2.b2 hg2.flatV (by simp) (by simp);simp only[List.take,List.drop,qtO,qt7] at hst;have C3:=C2.put (fm bound st) (deA d gv' ev fv0 bv);have hg3:=hg2.setC C2.b2 (by omega) (.arr [deA d gv' ev fv0 bv] 7 1);have hm:((d.names.take (i+1)).map (rren r own)).map V.str=((d.names.take i).map (rren r own)).map .str++[.str (rren r own d.names[i])]:=by rw[map_take _ _ _ hlt,qt0];rfl
   rw[←hm] at hg3;simp[hn,hlt,hgv,hia,qa8];refine qbo (qgS r bf bt w fv bound st F1 D1 U hC.rk b' own ok.nd (by omega) d.names[i]) ?_;simp[hfs,ha,hst];simp[dend,qbk,qbu,hgv];simp[qaL (n:=(i:Int)+1)];refine ⟨_,?_,_,?_,i+1,gv',F1,D1,rfl,by omega,(hA _ _ _ _ _).2 ⟨C3,hg3⟩,rfl⟩
   ·omega
   ·exact Env.so (by simp)
  ·have:i=d.names.length:=by omega
   subst this;simp[hn];refine ⟨gv,F1,D1,hI,?_⟩;exact Env.so (by simp)
 rintro e U ⟨gv,F0,D0,hI,hsub⟩;obtain ⟨hC,hg⟩:=(hA _ _ _ _ _).1 hI;rw[qt5] at hg;have g0:e.get 0=_:=hsub 0 _ rfl;have g2:e.get 2=_:=hsub 2 _ rfl;have g3:e.get 3=_:=hsub 3 _ rfl;have g5:e.get 5=_:=hsub 5 _ rfl;have g8:e.get 8=_:=hsub 8 _ rfl;have g9:e.get 9=_:=hsub 9 _ rfl;have hkd:ldS U (.ptr S.length 0 0 1) none=some (.int .i64 d.kind):=by simp[ldS,hC.b0]
 have hxd:ldS U (.ptr S.length 0 4 1) none=some ev:=by rw[hev];simp[ldS,hC.b0]
 by_cases h2:d.kind=2
 ·have h4:d.kind≠4:=by omega
  rw[if_neg h4,if_neg h4,if_neg h4,if_pos h2,quG];simp[g0,g2,g5,g9,hkd,hxd,h2];rw[hev];refine qal (qe6 r ho bf bt w fv d.exps (by omega) bound st F0 D0 U false b sc hC.rk hd (by omega) (by omega)) ?_;rintro v U2 ⟨rfl,F1,D1,k1,s1⟩;have C1:=hC.call k1 s1;have hst:=qb3 (j:=4) (v:=.sl false ((Ex.rwl r sc d.exps).map Ex.v)) C1.b2 ⟨rfl,rfl,rfl⟩ (by simp) (by simp);simp only[List.take,List.drop,qtO,qt7] at hst;have C2:=C1.put (fm _ _) (deA d gv (.sl false ((Ex.rwl r sc d.exps).map Ex.v)) fv0 bv);have hg2:=(hg.step s1).setC C1.b2 (by omega) (.arr [deA d gv (.sl false ((Ex.rwl r sc d.exps).map Ex.v)) fv0 bv] 7 1);subst hbv hfv0;obtain ⟨p1,U3,p2,p3⟩:=fin (d.names.map (rren r own)) (Ex.rwl r sc d.exps) d.formals d.body gv _ C2 (.inr hg2) (.inl ⟨false,rfl⟩);simp[g8,g9,hst,p1,p2]
  first|exact p3 _ g8|(rw[h2] at p3;exact p3 _ g8)
 simp[g0,g3,g5,g9,hkd,hxd,h2];rw[hev];refine qal (qe6 r ho bf bt w fv d.exps (by omega) bound st F0 D0 U false b' own hC.rk ok.nd (by omega) (by omega)) ?_;rintro v U2 ⟨rfl,F1,D1,k1,s1⟩;have C1:=hC.call k1 s1;obtain ⟨ev1,hev1⟩:∃ev1,ev1=V.sl false ((Ex.rwl r own d.exps).map Ex.v):=⟨_,rfl⟩;have hst:=qb3 (j:=4) (v:=ev1) C1.b2 (by rw[hev1];exact ⟨rfl,rfl,rfl⟩) (by simp) (by simp);simp only[List.take,List.drop,qtO,qt7] at hst;have C2:=C1.put (fm _ _) (deA d gv ev1 fv0 bv);have hg2:=(hg.step s1).setC C1.b2 (by omega) (.arr [deA d gv ev1 fv0 bv] 7 1);rw[←hev1];obtain ⟨U3,hU3⟩:∃U3,U3=U2.set (S.length+2) (.arr [deA d gv ev1 fv0 bv] 7 1):=⟨_,rfl⟩;rw[←hU3] at hst C2 hg2;have hkd:ldS U3 (.ptr S.length 0 0 1) none=some (.int .i64 d.kind):=by simp[ldS,C2.b0]
 by_cases h4:d.kind=4
 case neg=>
  rw[if_neg h4,if_neg h4,if_neg h4,quG]
  try simp only[if_neg h2]
  subst hbv hfv0 hev1;obtain ⟨p1,U4,p2,p3⟩:=fin (d.names.map (rren r own)) (Ex.rwl r own d.exps) d.formals d.body gv _ C2 (.inr hg2) (.inl ⟨false,rfl⟩);simp[g5,g8,g9,hst,hkd,h4,p1,p2];exact p3 _ g8
 rw[if_pos h4,if_pos h4,if_pos h4];rw[if_pos h4] at hbo;unfold De.prN at hbo;obtain ⟨st1,hst1⟩:∃st1,st1=Ex.rsl r own st d.exps:=⟨_,rfl⟩;have hst1l:=Ex.rsl_len r own d.exps st;rw[←hst1] at C2 hst1l ⊢;simp[g5,g9,hst,hkd,h4];obtain ⟨names,hnames⟩:∃names,names=d.formals.map Fo.name:=⟨_,rfl⟩;have hnl:names.length=d.formals.length:=by rw[hnames];simp
 obtain ⟨B,hB⟩:∃A:Nat→V→(Nat→Prop)→(Nat→Prop)→St→Prop,∀i hv F' D' U,A i hv F' D' U↔(Cx w 7 (Rk r bf bt w fv bound st1) F D S d.v deZ (deA d gv ev1 fv0 bv) F' D' U∧Gw 1 S.length w F' D' ((d.names.map (rren r own)).map .str) gv U∧Gw 1 S.length w F' D' (((d.formals.take i).map Fo.name).map .str) hv U∧qfe hv gv):=⟨_,fun _ _ _ _ _=>Iff.rfl⟩;refine qax (IvW (B d.formals.length) fun hv=>[(11,hv),(0,.ptr w 0 0 1),(3,.sl b' ((Scs.flat own).map bndV)),(5,.ptr S.length 0 0 1),(8,.ptr (S.length+1) 0 0 1),(9,.ptr (S.length+2) 0 0 1)]) ?_ ?_
 ·refine qar (IvL d.formals.length B fun i hv=>[(12,.int .i64 i),(11,hv),(0,.ptr w 0 0 1),(3,.sl b' ((Scs.flat own).map bndV)),(5,.ptr S.length 0 0 1),(8,.ptr (S.length+1) 0 0 1),(9,.ptr (S.length+2) 0 0 1)]) d.formals.length _ ?_ ⟨0,_,F1,D1,by simp,by omega,(hB _ _ _ _ _).2 ⟨C2,hg2,Gw.nil _ _ _ _ _ _,fun l a b c hh=>V.noConfusion hh⟩,rfl⟩ ?_
  ·repeat' first|exact Env.sub_nil _|refine Env.sub_cons (by simp[g0,g3,g5,g8,g9]) ?_
  rintro j e U ⟨i,hv,F1,D1,rfl,hi,hI,rfl⟩;obtain ⟨hC,hg,hh,hdf⟩:=(hB _ _ _ _ _).1 hI;have hn:ldS U (.ptr S.length 0 5 1) none=some (.sl false (d.formals.map Fo.v)):=by simp[ldS,hC.b0]
  by_cases hlt:i<d.formals.length
  ·have hia:=iaFo hlt false U;have hfs:fits 1 [V.str d.formals[i].name]=true:=rfl;obtain ⟨hv',U2,ha,hh2,k2,s2,a5,a6⟩:=hh.app1F (fm bound st1) (bytes:=16) (b:=true) (y:=.str d.formals[i].name) hC.rk hC.st hfs (by simp;omega);have C2:=hC.app (gv:=hv) k2 s2 a5 fun k ys wr hk'=>hh.neC hk' (by omega)
   have hg':=hg.other fun l o ho a b c hv'=>a5 l o ho fun a' b' c' hh=>hdf l a' b' c' hh a b c hv'
   have hm:((d.formals.take (i+1)).map Fo.name).map V.str=((d.formals.take i).map Fo.name).map .str++[.str d.formals[i].name]:=by rw[map_take _ _ _ hlt,qt0];rfl
   rw[←hm] at hh2;have glt':=hg.lt
   have df2:qfe hv' gv:=fun l a b c hh a' b' c' hg=>by
    rcases a6 l a b c hh with h1|h1
    ·exact hdf l _ _ _ h1 _ _ _ hg
    ·have:=glt' l _ _ _ hg;omega
   simp[hn,hlt,hia,hfs,ha,qaL (n:=(i:Int)+1)];refine ⟨_,?_,_,?_,i+1,hv',F1,D1,rfl,by omega,(hB _ _ _ _ _).2 ⟨C2,hg',hh2,df2⟩,rfl⟩
   ·omega
   ·exact Env.so (by simp)
  ·have:i=d.formals.length:=by omega
   subst this;simp[hn];refine ⟨hv,F1,D1,hI,?_⟩;exact Env.so (by simp)
 clear hsub g0 g2 g3 g5 g8 g9;rintro e U4 ⟨hv,F4,D4,hI,hsub⟩;obtain ⟨C4,hg4,hh4,_⟩:=(hB _ _ _ _ _).1 hI;rw[qt5,←hnames] at hh4;have g0:e.get 0=_:=hsub 0 _ rfl;have g3:e.get 3=_:=hsub 3 _ rfl;have g5:e.get 5=_:=hsub 5 _ rfl;have g8:e.get 8=_:=hsub 8 _ rfl;have g9:e.get 9=_:=hsub 9 _ rfl;have g11:e.get 11=_:=hsub 11 _ rfl;simp[g0,g3,g11];refine qal (qik r bf bt w fv bound st1 F4 D4 U4 C4.rk b' own names hv hh4.nr (by omega) (by omega)) ?_;rintro v U5 ⟨rfl,F2,D2,k5,s5⟩;have C5:=C4.call k5 s5;have hg5:=hg4.step s5;rw[←hnames];obtain ⟨inner,hinner⟩:∃inner,inner=qad names bound.length::own:=⟨_,rfl⟩;have hbl:(bound++nms names).length=bound.length+(qad names bound.length).length:=by rw[qtS,qfj _ bound.length]
 have okw:Okw (bound++nms names) st1 inner (Sm.nb1 d.body) (qaB (d.body.map Pa.st)):=by
  rw[hinner];exact Okw.enter (nb:=(qad names 0).length+Sm.nb1 d.body) ⟨ok.nd,hof,by rw[hnames];omega,by omega⟩ names (qtJ _)
 have hfi:=okw.fl;have hbi:=okw.bo;rw[←hinner];have hst5:=qb3 (j:=5) (v:=.sl true []) C5.b2 ⟨rfl,rfl,rfl⟩ (by simp) (by simp);simp only[List.take,List.drop,qtO,qt7] at hst5;have C6:=C5.put (fm _ _) (deA d gv ev1 (.sl true []) bv);have hg6:=hg5.setC C5.b2 (by omega) (.arr [deA d gv ev1 (.sl true []) bv] 7 1);simp[g9,hst5];obtain ⟨E,hE⟩:∃A:Nat→V→(Nat→Prop)→(Nat→Prop)→St→Prop,∀i xv F' D' U,A i xv F' D' U↔(Cx w 7 (Rk r bf bt w fv (bound++nms names) st1) F D S d.v deZ (deA d gv ev1 xv bv) F' D' U∧Gw 1 S.length w F' D' ((d.names.map (rren r own)).map .str) gv U∧Gw 4 S.length w F' D' (((d.formals.take i).map (Fo.rw r inner)).map Fo.v) xv U):=⟨_,fun _ _ _ _ _=>Iff.rfl⟩;refine qax (IvW (E d.formals.length) fun _=>[(13,.sl false ((Scs.flat inner).map bndV)),(0,.ptr w 0 0 1),(5,.ptr S.length 0 0 1),(8,.ptr (S.length+1) 0 0 1),(9,.ptr (S.length+2) 0 0 1)]) ?_ ?_
 ·refine qar (IvL d.formals.length E fun i _=>[(14,.int .i64 i),(13,.sl false ((Scs.flat inner).map bndV)),(0,.ptr w 0 0 1),(5,.ptr S.length 0 0 1),(8,.ptr (S.length+1) 0 0 1),(9,.ptr (S.length+2) 0 0 1)]) d.formals.length _ ?_ ⟨0,_,F2,D2,by simp,by omega,(hE _ _ _ _ _).2 ⟨C6,hg6,Gw.nil _ _ _ _ _ _⟩,rfl⟩ ?_
  ·repeat' first|exact Env.sub_nil _|refine Env.sub_cons (by simp[g0,g3,g5,g8,g9]) ?_
  rintro j e U ⟨i,xv,F2,D2,rfl,hi,hI,rfl⟩;obtain ⟨hC,hg,hx⟩:=(hE _ _ _ _ _).1 hI;have hn:ldS U (.ptr S.length 0 5 1) none=some (.sl false (d.formals.map Fo.v)):=by simp[ldS,hC.b0]
  by_cases hlt:i<d.formals.length
  ·have hia:=iaFo hlt false U;obtain ⟨f,hf⟩:∃f,f=d.formals[i]:=⟨_,rfl⟩;rw[←hf] at hia;obtain ⟨f',hf'⟩:∃f',f'=Fo.rw r inner f:=⟨_,rfl⟩;have C7:=hC.push (fm _ _) [.arr [f.v] 4 1];have q:=qgS r bf bt w fv (bound++nms names) st1 F2 D2 _ C7.rk false inner okw.nd (by omega) f.name;have C8:=hC.push (fm _ _) [.arr [f'.v] 4 1];have hg8:=hg.push [.arr [f'.v] 4 1];have hx8:=hx.push [.arr [f'.v] 4 1];have hfs:fits 4 [f'.v]=true:=rfl;obtain ⟨xv',U2,ha,hx2,k2,s2,a5,a6⟩:=hx8.app1F (fm _ _) (bytes:=40) (b:=true) (y:=f'.v) C8.rk C8.st hfs (by simp;omega);have C9:=C8.app (gv:=xv) k2 s2 a5 fun k ys wr hk'=>hx8.neC hk' (by omega)
   have hst9:=qb3 (j:=5) C9.b2 hx2.flatV (by simp) (by simp);simp only[List.take,List.drop,qtO,qt7] at hst9;have C10:=C9.put (fm _ _) (deA d gv ev1 xv' bv);have hx10:=hx2.setC C9.b2 (by omega) (.arr [deA d gv ev1 xv' bv] 7 1);have hg9:=hg8.other fun l o ho a b c hv'=>a5 l o ho fun a' b' c' hh=>(Gx.ne (.inr hx8) (.inr hg8) (by omega)) l a' b' c' a b c hh hv'
   have hg10:=hg9.setC C9.b2 (by omega) (.arr [deA d gv ev1 xv' bv] 7 1);have hm:((d.formals.take (i+1)).map (Fo.rw r inner)).map Fo.v=((d.formals.take i).map (Fo.rw r inner)).map Fo.v++[f'.v]:=by rw[map_take _ _ _ hlt,qt0,hf',hf];rfl
   rw[←hm] at hx10;have hxv:ldS (U++[.arr [f'.v] 4 1]) (.ptr (S.length+2) 0 5 1) none=some xv:=by simp[ldS,C8.b2]
   have hnm:ldS (U++[.arr [f.v] 4 1]) (.ptr U.length 0 0 1) none=some (.str f.name):=by simp[ldS]
   have hst8:stS (U++[.arr [f.v] 4 1]) (.ptr U.length 0 0 1) 1 (.str (rren r inner f.name))=some (U++[.arr [f'.v] 4 1]):=by
    simp[stS,qpb,qac,hf',Fo.rw,Fo.v]
   have hld8:ldS (U++[.arr [f'.v] 4 1]) (.ptr U.length 0 0 1) (some 4)=some f'.v:=by simp[ldS]
   have hst7:stS (U++[.arr [.agg [.str ⟨⟨[]⟩⟩,.bool false,.int .i64 0,.int .i64 0]] 4 1]) (.ptr U.length 0 0 1) 4 f.v=some (U++[.arr [f.v] 4 1]):=by
    simp[stS,qac]
   simp[hn,hlt,hia,boxS,evX,hst7,hnm];refine qaj q ?_;simp[hst8,hxv,hld8,hfs,ha,hst9,qaL (n:=(i:Int)+1)];refine ⟨_,?_,_,?_,i+1,xv',F2,D2,rfl,by omega,(hE _ _ _ _ _).2 ⟨C10,hg10,hx10⟩,rfl⟩
   ·omega
   ·exact Env.so (by simp)
  ·have:i=d.formals.length:=by omega
   subst this;simp[hn];refine ⟨xv,F2,D2,hI,?_⟩;exact Env.so (by simp)
 clear hsub g0 g3 g5 g8 g9 g11;rintro e U7 ⟨xv,F7,D7,hI,hsub⟩;obtain ⟨C7,hg7,hx7⟩:=(hE _ _ _ _ _).1 hI;rw[qt5] at hx7;have g0:e.get 0=_:=hsub 0 _ rfl;have g5:e.get 5=_:=hsub 5 _ rfl;have g8:e.get 8=_:=hsub 8 _ rfl;have g9:e.get 9=_:=hsub 9 _ rfl;have g13:e.get 13=_:=hsub 13 _ rfl;have hbd:ldS U7 (.ptr S.length 0 6 1) none=some (.sl false (d.body.map Sm.v)):=by simp[ldS,C7.b0]
 have q:=qfW r bf bt w fv d.body H (by omega) _ st1 F7 D7 U7 false false inner C7.rk okw;simp[g0,g5,g13,hbd];refine qal q ?_;rintro v U8 ⟨rfl,F3,D3,k8,s8⟩;have C8:=C7.call k8 s8;have hst:=qb3 (j:=6) (v:=.sl false ((Sm.rw1 r inner (bound++nms names).length d.body).map Sm.v)) C8.b2 ⟨rfl,rfl,rfl⟩ (by simp) (by simp);simp only[List.take,List.drop,qtO,qt7] at hst;have C9:=C8.put (fm _ _) (deA d gv ev1 xv (.sl false ((Sm.rw1 r inner (bound++nms names).length d.body).map Sm.v)));have hg9:=(hg7.step s8).setC C8.b2 (by omega) (.arr [deA d gv ev1 xv (.sl false ((Sm.rw1 r inner (bound++nms names).length d.body).map Sm.v))] 7 1);have hx9:=(hx7.step s8).setC C8.b2 (by omega) (.arr [deA d gv ev1 xv (.sl false ((Sm.rw1 r inner (bound++nms names).length d.body).map Sm.v))] 7 1);subst hev1;obtain ⟨p1,U9,p2,p3⟩:=fin (d.names.map (rren r own)) (Ex.rwl r own d.exps) (d.formals.map (Fo.rw r inner)) _ gv xv C9 (.inr hg9) (.inr hx9);rw[qtN,hbl] at p3;rw[hbl] at hst p1 p2;simp[g8,g9,hbl,hst,p1,p2]
 first|exact p3 _ g8|(rw[h4] at p3;exact p3 _ g8)
abbrev smA(s:Sm)(lv tx tg ex el dv bv:V):V:=.agg [lv,.int .i64 s.kind,tx,tg,ex,el,dv,bv]
theorem Sm.rw_eq(r:Rp)(sc:Scs)(n:Nat)(s:Sm):s.rw r sc n=
  if s.kind=7 then .mk (s.labels.map (rren r sc)) s.kind s.text s.targets s.exps s.elems (De.rwl r (qad (qah s.decls s.body) n::sc) sc (n+(qad (qah s.decls s.body) n).length) s.decls) (Sm.rwl r (qad (qah s.decls s.body) n::sc) (n+(qad (qah s.decls s.body) n).length+De.nbl s.decls) s.body)
  else if s.kind=8 then .mk (s.labels.map (rren r sc)) s.kind s.text s.targets s.exps s.elems s.decls (Sm.rwl r (qad (qak s.body) n::sc) (n+(qad (qak s.body) n).length) s.body)
  else .mk (s.labels.map (rren r sc)) s.kind (if s.kind=6 then qcr r sc s.text else s.text) (Ex.rwl r sc s.targets) (Ex.rwl r sc s.exps) (s.elems.map (El.rw r sc)) s.decls (Sm.rw1 r sc n s.body):=by
 cases s;rw[Sm.rw];rfl
theorem Sm.rs_eq(r:Rp)(sc:Scs)(n:Nat)(st:Rst)(s:Sm):s.rs r sc n st=
  if s.kind=7 then Sm.rsl r (qad (qah s.decls s.body) n::sc) (n+(qad (qah s.decls s.body) n).length+De.nbl s.decls) (De.rsl r (qad (qah s.decls s.body) n::sc) sc (n+(qad (qah s.decls s.body) n).length) st s.decls) s.body
  else if s.kind=8 then Sm.rsl r (qad (qak s.body) n::sc) (n+(qad (qak s.body) n).length) st s.body
  else Sm.rs1 r sc n (Ex.rsl r sc (El.rsl r sc (tgS r sc (if s.kind=6 then qbj r sc s.text st else st) s.targets) s.elems) s.exps) s.body:=by
 cases s;rw[Sm.rs];rfl
theorem Sm.bn_eq(s:Sm):s.bn=if s.kind=7 then nms (qah s.decls s.body)++De.bnl s.decls++Sm.bnl s.body else if s.kind=8 then nms (qak s.body)++Sm.bnl s.body else Sm.bn1 s.body:=by
 cases s;rw[Sm.bn];rfl
theorem ql1(l:List De)(i:Nat)(h:i<l.length):De.nbl (l.take (i+1))=De.nbl (l.take i)+l[i].nb∧De.nbl (l.take (i+1))≤De.nbl l:=by
 have ht:l.take (i+1)=l.take i++[l[i]]:=by rw[qtQ,qtF h];rfl
 refine ⟨by rw[ht,De.nbl_append];simp[De.nbl],?_⟩;have:De.nbl l=De.nbl (l.take (i+1))+De.nbl (l.drop (i+1)):=by rw[←De.nbl_append,qun]
 omega
theorem names_len:∀l:List De,(l.flatMap De.names).length≤qaB (l.map Pa.de)
 | []=>by simp
 | x::m=>by
  have ih:=names_len m;have:=De.size_parts x;simp only[quB,qtS,qtX,sizes_cons] at ih ⊢;omega
theorem qko(l:List De)(i:Nat)(h:i<l.length):(l.take (i+1)).flatMap De.names=(l.take i).flatMap De.names++l[i].names∧((l.take i).flatMap De.names).length+l[i].names.length≤qaB (l.map Pa.de):=by
 have ht:l.take (i+1)=l.take i++[l[i]]:=by rw[qtQ,qtF h];rfl
 refine ⟨by rw[ht,List.flatMap_append];simp,?_⟩;have h1:=names_len (l.take i);have h2:=qcf Pa.de l i h;have h3:=De.size_parts l[i];omega
theorem El.rsl_append(r:Rp)(sc:Scs)(l m:List El)(st:Rst):El.rsl r sc st (l++m)=El.rsl r sc (El.rsl r sc st l) m:=quS ..
theorem qiu(r:Rp)(ho:RpOk r)(bf bt:Bool)(w:Nat)(fv:V):∀(m:Nat) (s:Sm),(Pa.st s).size≤m→m≤4000→P194 r bf bt w fv s
 | 0,s,hx,_=>by have:=(Pa.st s).size_pos;omega
 | m+1,s,hx,hm=>by
  intro bound st F D S b sc hk ok;have hparts:=Sm.size_parts s
  have IHb:∀y,y∈s.body→P194 r bf bt w fv y:=fun y hy=>qiu r ho bf bt w fv m y (by
   obtain ⟨i,hi⟩:=que (qug (f:=Pa.st) hy);have:=qa2 hi;omega) (by omega)
  have IHd:∀d,d∈s.decls→∀y,y∈d.body→P194 r bf bt w fv y:=fun d hd y hy=>qiu r ho bf bt w fv m y (by
   obtain ⟨i,hi⟩:=que (qug (f:=Pa.de) hd);have h1:=qa2 hi;have h2:=De.size_parts d;obtain ⟨j,hj⟩:=que (qug (f:=Pa.st) hy);have:=qa2 hj;omega) (by omega)
  have hbl:s.body.length≤4000:=by have:=qaT (s.body.map Pa.st);rw[qtM] at this;omega
  have hdl:s.decls.length≤4000:=by have:=qaT (s.decls.map Pa.de);rw[qtM] at this;omega
  have hell:s.elems.length≤4000:=by have:=qaT (s.elems.map Pa.el);rw[qtM] at this;omega
  have hbo:=ok.bo;have hfr:=ok.fr;have hof:=ok.fl;rw[Sm.nb_eq] at hbo;refine Spec.intro func194 ok194 (by simp[c194]) ?_;rw[Sm.rw_eq,Sm.rs_eq,Sm.bn_eq];have fm:=fun bo s=>Rk.frm r bf bt w fv bo s
  obtain ⟨tg,htg⟩:∃x,x=V.sl false (s.targets.map Ex.v):=⟨_,rfl⟩;obtain ⟨ex,hex⟩:∃x,x=V.sl false (s.exps.map Ex.v):=⟨_,rfl⟩;obtain ⟨el,hel⟩:∃x,x=V.sl false (s.elems.map El.v):=⟨_,rfl⟩;obtain ⟨dv,hdv⟩:∃x,x=V.sl false (s.decls.map De.v):=⟨_,rfl⟩;obtain ⟨bv,hbv⟩:∃x,x=V.sl false (s.body.map Sm.v):=⟨_,rfl⟩;obtain ⟨S2,hS2⟩:∃S2:St,S2=S++[.arr [s.v] 8 1,.arr [smZ] 8 1,.arr [smA s (.sl true []) (.str s.text) tg ex el dv bv] 8 1]:=⟨_,rfl⟩
  have C0:Cx w 8 (Rk r bf bt w fv bound st) F D S s.v smZ (smA s (.sl true []) (.str s.text) tg ex el dv bv) F D S2:=by
   refine ⟨by rw[hS2];exact (fm _ _).push hk _,by rw[hS2];exact (Stp.refl _ _ _ _).push _,?_,?_,?_,(fm _ _).out hk (by omega),(fm _ _).out hk (by omega),(fm _ _).out hk (by omega)⟩
   all_goals rw[hS2,qtE (by omega)];simp
  have fin:∀{bo s' F' D' U} (lb:List ByteArray) (tx:ByteArray) (tg ex:List Ex) (el:List El) (de:List De) (bd:List Sm) (lv elv dv:V),Cx w 8 (Rk r bf bt w fv bo s') F D S s.v smZ (smA s lv (.str tx) (.sl false (tg.map Ex.v)) (.sl false (ex.map Ex.v)) elv dv (.sl false (bd.map Sm.v))) F' D' U→Gx 1 S.length w F' D' (lb.map .str) lv U→Gx 2 S.length w F' D' (el.map El.v) elv U→Gx 7 S.length w F' D' (de.map De.v) dv U→
    ldS U (.ptr (S.length+2) 0 0 1) (some 8)=some (smA s lv (.str tx) (.sl false (tg.map Ex.v)) (.sl false (ex.map Ex.v)) elv dv (.sl false (bd.map Sm.v)))∧∃U',stS U (.ptr (S.length+1) 0 0 1) 8 (smA s lv (.str tx) (.sl false (tg.map Ex.v)) (.sl false (ex.map Ex.v)) elv dv (.sl false (bd.map Sm.v)))=some U'∧
    ∀e:Env,e.get 6=some (.ptr (S.length+1) 0 0 1)→endp [.cell 6 (some 8)] S.length (fun v U=>Rd' w (Rk r bf bt w fv bo s') F D S (Sm.mk lb s.kind tx tg ex el de bd).v v U) .ret e U':=by
   intro bo s' F' D' U lb tx tg ex el de bd lv elv dv hC h1 h2 h3;have f1:=h1.flatV;have f2:=h2.flatV;have f3:=h3.flatV;refine ⟨by simp[ldS,hC.b2,qaf],U.set (S.length+1) (.arr [smA s lv (.str tx) (.sl false (tg.map Ex.v)) (.sl false (ex.map Ex.v)) elv dv (.sl false (bd.map Sm.v))] 8 1),by simp[stS,hC.b1,qac,f1.2.1,f2.2.1,f3.2.1],fun e he=>?_⟩;exact qts (fm bo s') (qtI (glt hC.b1)) he (h1.setC hC.b1 (by omega) _) (h2.setC hC.b1 (by omega) _) (h3.setC hC.b1 (by omega) _) (qtJ _) (qtJ _) (qtJ _) ((fm bo s').set hC.rk _ hC.o1) (hC.st.set _ (by omega))
  simp[c194,boxS,evX,stS,ldS,qc1,qac];rw[←htg,←hex,←hel,←hdv,←hbv];rw[←hS2];obtain ⟨A,hA⟩:∃A:Nat→V→(Nat→Prop)→(Nat→Prop)→St→Prop,∀i gv F' D' U,A i gv F' D' U↔(Cx w 8 (Rk r bf bt w fv bound st) F D S s.v smZ (smA s gv (.str s.text) tg ex el dv bv) F' D' U∧Gw 1 S.length w F' D' (((s.labels.take i).map (rren r sc)).map .str) gv U):=⟨_,fun _ _ _ _ _=>Iff.rfl⟩;refine qax (IvW (A s.labels.length) fun _=>[(0,.ptr w 0 0 1),(2,.sl b ((Scs.flat sc).map bndV)),(4,.ptr S.length 0 0 1),(6,.ptr (S.length+1) 0 0 1),(7,.ptr (S.length+2) 0 0 1)]) ?_ ?_
  ·refine qar (IvL s.labels.length A fun i _=>[(8,.int .i64 i),(0,.ptr w 0 0 1),(2,.sl b ((Scs.flat sc).map bndV)),(4,.ptr S.length 0 0 1),(6,.ptr (S.length+1) 0 0 1),(7,.ptr (S.length+2) 0 0 1)]) s.labels.length _ ?_ ⟨0,_,F,D,by simp,by omega,(hA _ _ _ _ _).2 ⟨C0,Gw.nil _ _ _ _ _ _⟩,rfl⟩ ?_
   ·exact Env.so (by simp)
   rintro j e U ⟨i,gv,F1,D1,rfl,hi,hI,rfl⟩;obtain ⟨hC,hg⟩:=(hA _ _ _ _ _).1 hI;have hn:ldS U (.ptr S.length 0 0 1) none=some (.sl false (s.labels.map .str)):=by simp[ldS,hC.b0]
   by_cases hlt:i<s.labels.length
   ·have hia:=qc2 hlt false U;have hgv:ldS U (.ptr (S.length+2) 0 0 1) none=some gv:=by simp[ldS,hC.b2]
    have hfs:fits 1 [V.str (rren r sc s.labels[i])]=true:=rfl;obtain ⟨gv',U2,ha,hg2,k2,s2,a5,a6⟩:=hg.app1F (fm bound st) (bytes:=16) (b:=true) (y:=.str (rren r sc s.labels[i])) hC.rk hC.st hfs (by simp;omega);have C2:=hC.app (gv:=gv) k2 s2 a5 fun k ys wr hk'=>hg.neC hk' (by omega)
    have hst:=qb3 (j:=0) C2.b2 hg2.flatV (by simp) (by simp);simp only[List.take,List.drop,qtO,qt7] at hst;have C3:=C2.put (fm bound st) (smA s gv' (.str s.text) tg ex el dv bv);have hg3:=hg2.setC C2.b2 (by omega) (.arr [smA s gv' (.str s.text) tg ex el dv bv] 8 1);have hm:((s.labels.take (i+1)).map (rren r sc)).map V.str=((s.labels.take i).map (rren r sc)).map .str++[.str (rren r sc s.labels[i])]:=by rw[map_take _ _ _ hlt,qt0];rfl
    rw[←hm] at hg3;simp[hn,hlt,hgv,hia,qa8];refine qbo (qgS r bf bt w fv bound st F1 D1 U hC.rk b sc ok.nd (by omega) s.labels[i]) ?_;simp[hfs,ha,hst];simp[dend,qbk,qbu,hgv];simp[qaL (n:=(i:Int)+1)];refine ⟨_,?_,_,?_,i+1,gv',F1,D1,rfl,by omega,(hA _ _ _ _ _).2 ⟨C3,hg3⟩,rfl⟩
    ·omega
    ·exact Env.so (by simp)
   ·have:i=s.labels.length:=by omega
    subst this;simp[hn];refine ⟨gv,F1,D1,hI,?_⟩;exact Env.so (by simp)
  rintro e U ⟨gv,F0,D0,hI,hsub⟩;obtain ⟨hC,hg⟩:=(hA _ _ _ _ _).1 hI;rw[qt5] at hg;show WP prog (.seq _ _) _ e U;rw[qjC];obtain ⟨M,hM⟩:∃A:V→(Nat→Prop)→(Nat→Prop)→St→Prop,∀lv F1 D1 U,A lv F1 D1 U↔(s.kind≠7∧s.kind≠8∧Cx w 8 (Rk r bf bt w fv bound (if s.kind=6 then qbj r sc s.text st else st)) F D S s.v smZ (smA s lv (.str (if s.kind=6 then qcr r sc s.text else s.text)) tg ex el dv bv) F1 D1 U∧Gw 1 S.length w F1 D1 ((s.labels.map (rren r sc)).map .str) lv U):=⟨_,fun _ _ _ _=>Iff.rfl⟩;refine qoX (IvW M fun _=>[(0,.ptr w 0 0 1),(2,.sl b ((Scs.flat sc).map bndV)),(4,.ptr S.length 0 0 1),(6,.ptr (S.length+1) 0 0 1),(7,.ptr (S.length+2) 0 0 1)]) ?_ ?_
  ·have g0:e.get 0=_:=hsub 0 _ rfl;have g2:e.get 2=_:=hsub 2 _ rfl;have g4:e.get 4=_:=hsub 4 _ rfl;have g6:e.get 6=_:=hsub 6 _ rfl;have g7:e.get 7=_:=hsub 7 _ rfl;have hkd:ldS U (.ptr S.length 0 1 1) none=some (.int .i64 s.kind):=by simp[ldS,hC.b0]
   have htx:ldS U (.ptr S.length 0 2 1) none=some (.str s.text):=by simp[ldS,hC.b0]
   have hbd:∀{bo s' y F' D' U},Cx w 8 (Rk r bf bt w fv bo s') F D S s.v smZ y F' D' U→ldS U (.ptr S.length 0 7 1) none=some (.sl false (s.body.map Sm.v)):=fun hC=>by simp[ldS,hC.b0]
   have hdd:∀{bo s' y F' D' U},Cx w 8 (Rk r bf bt w fv bo s') F D S s.v smZ y F' D' U→ldS U (.ptr S.length 0 6 1) none=some (.sl false (s.decls.map De.v)):=fun hC=>by simp[ldS,hC.b0]
   by_cases h7:s.kind=7
   ·rw[if_pos h7,if_pos h7,if_pos h7];rw[if_pos h7] at hbo;simp[g4,hkd,h7];obtain ⟨B,hB⟩:∃A:Nat→V→(Nat→Prop)→(Nat→Prop)→St→Prop,∀i hv F' D' U,A i hv F' D' U↔(Cx w 8 (Rk r bf bt w fv bound st) F D S s.v smZ (smA s gv (.str s.text) tg ex el dv bv) F' D' U∧Gw 1 S.length w F' D' ((s.labels.map (rren r sc)).map .str) gv U∧Gw 1 S.length w F' D' (((s.decls.take i).flatMap De.names).map .str) hv U∧qfe hv gv):=⟨_,fun _ _ _ _ _=>Iff.rfl⟩;refine qax (IvW (B s.decls.length) fun hv=>[(9,hv),(0,.ptr w 0 0 1),(2,.sl b ((Scs.flat sc).map bndV)),(4,.ptr S.length 0 0 1),(6,.ptr (S.length+1) 0 0 1),(7,.ptr (S.length+2) 0 0 1)]) ?_ ?_
    ·refine qar (IvL s.decls.length B fun i hv=>[(10,.int .i64 i),(9,hv),(0,.ptr w 0 0 1),(2,.sl b ((Scs.flat sc).map bndV)),(4,.ptr S.length 0 0 1),(6,.ptr (S.length+1) 0 0 1),(7,.ptr (S.length+2) 0 0 1)]) s.decls.length _ ?_ ⟨0,_,F0,D0,by simp,by omega,(hB _ _ _ _ _).2 ⟨hC,hg,Gw.nil _ _ _ _ _ _,fun l a b c hh=>V.noConfusion hh⟩,rfl⟩ ?_
     ·repeat' first|exact Env.sub_nil _|refine Env.sub_cons (by simp[g0,g2,g4,g6,g7]) ?_
     rintro j e U ⟨i,hv,F0,D0,rfl,hi,hI,rfl⟩;obtain ⟨hC,hg,hh,hdf⟩:=(hB _ _ _ _ _).1 hI;have hn:=hdd hC;by_cases hlt:i<s.decls.length
     ·have hia:=iaDe hlt false U;obtain ⟨t1,t2⟩:=qko s.decls i hlt;obtain ⟨hv',U2,ha,hh2,k2,s2,a5,a6⟩:=hh.appF (fm bound st) (bytes:=16) (x:=.sl false (s.decls[i].names.map .str)) hC.rk hC.st (qb7 _ _ _) (qeT _) (by rw[qtM,qtM];omega);have C2:=hC.app (gv:=hv) k2 s2 a5 fun k ys wr hk'=>hh.neC hk' (by omega)
      have hg':=hg.other fun l o ho a b c hv'=>a5 l o ho fun a' b' c' hh=>hdf l a' b' c' hh a b c hv'
      rw[←qt0,←t1] at hh2;have glt':=hg.lt
      have df2:qfe hv' gv:=fun l a b c hh a' b' c' hg=>by
       rcases a6 l a b c hh with h1|h1
       ·exact hdf l _ _ _ h1 _ _ _ hg
       ·have:=glt' l _ _ _ hg;omega
      simp[hn,hlt,hia,ha,qaL (n:=(i:Int)+1)];refine ⟨_,?_,_,?_,i+1,hv',F0,D0,rfl,by omega,(hB _ _ _ _ _).2 ⟨C2,hg',hh2,df2⟩,rfl⟩
      ·omega
      ·exact Env.so (by simp)
     ·have:i=s.decls.length:=by omega
      subst this;simp[hn];refine ⟨hv,F0,D0,hI,?_⟩;exact Env.so (by simp)
    clear hsub g0 g2 g4 g6 g7 hkd htx;rintro e U1 ⟨hv,F1,D1,hI,hsub⟩;obtain ⟨C1,hg1,hh1,hdf⟩:=(hB _ _ _ _ _).1 hI;rw[qt5] at hh1;have g0:e.get 0=_:=hsub 0 _ rfl;have g2:e.get 2=_:=hsub 2 _ rfl;have g4:e.get 4=_:=hsub 4 _ rfl;have g6:e.get 6=_:=hsub 6 _ rfl;have g7:e.get 7=_:=hsub 7 _ rfl;have g9:e.get 9=_:=hsub 9 _ rfl;simp[g0,g2,g4,g9,hbd C1];refine qal (qlW s.body (by omega) false w _ (fm bound st) F1 D1 U1 C1.rk) ?_;rintro v U2 ⟨rfl,F2,D2,k2,s2⟩;have C2:=C1.call k2 s2;have hg2:=hg1.step s2;have hh2:=hh1.step s2;have hnl:=names_len s.decls;have hll:=qc4 s.body;obtain ⟨hv',U3,ha,hh3,k3,s3,a5,a6⟩:=hh2.appF (fm bound st) (bytes:=16) (x:=.sl false ((qak s.body).map .str)) C2.rk C2.st (qb7 _ _ _) (qeT _) (by rw[qtM,qtM];omega);have C3:=C2.app (gv:=hv) k3 s3 a5 fun k ys wr hk'=>hh2.neC hk' (by omega)
    have hg3:=hg2.other fun l o ho a b c hv'=>a5 l o ho fun a' b' c' hh=>hdf l a' b' c' hh a b c hv'
    rw[←qt0] at hh3;obtain ⟨names,hnames⟩:∃names,names=qah s.decls s.body:=⟨_,rfl⟩;have hn':s.decls.flatMap De.names++qak s.body=names:=by rw[hnames];rfl
    rw[hn'] at hh3;rw[←hnames] at hbo ⊢;have hnl2:names.length≤8000:=by rw[←hn',qtS];omega
    simp[ha];refine qal (qik r bf bt w fv bound st F2 D2 U3 C3.rk b sc names hv' hh3.nr (by omega) (by omega)) ?_;rintro v U4 ⟨rfl,F4,D4,k4,s4⟩;have C4:=C3.call k4 s4;have hg4:=hg3.step s4;obtain ⟨inner,hinner⟩:∃inner,inner=qad names bound.length::sc:=⟨_,rfl⟩;have hbl1:(bound++nms names).length=bound.length+(qad names bound.length).length:=by rw[qtS,qfj _ bound.length]
    have okw:Okw (bound++nms names) st inner (De.nbl s.decls+Sm.nbl s.body) (qaB (s.decls.map Pa.de)+qaB (s.body.map Pa.st)):=by
     rw[hinner];exact Okw.enter (nb:=(qad names 0).length+(De.nbl s.decls+Sm.nbl s.body)) ⟨ok.nd,hof,by omega,by omega⟩ names (qtJ _)
    rw[←hinner];have hfi:=okw.fl;have hbi:=okw.bo;have hst4:=qb3 (j:=6) (v:=.sl true []) C4.b2 ⟨rfl,rfl,rfl⟩ (by simp) (by simp);simp only[List.take,List.drop,qtO,qt7] at hst4;have C5:=C4.put (fm _ _) (smA s gv (.str s.text) tg ex el (.sl true []) bv);have hg5:=hg4.setC C4.b2 (by omega) (.arr [smA s gv (.str s.text) tg ex el (.sl true []) bv] 8 1);simp[g7,hst4];obtain ⟨E,hE⟩:∃A:Nat→V→(Nat→Prop)→(Nat→Prop)→St→Prop,∀i xv F5 D5 U,A i xv F5 D5 U↔(Cx w 8 (Rk r bf bt w fv (bound++nms names++De.bnl (s.decls.take i)) (De.rsl r inner sc (bound++nms names).length st (s.decls.take i))) F D S s.v smZ (smA s gv (.str s.text) tg ex el xv bv) F5 D5 U∧Gw 1 S.length w F5 D5 ((s.labels.map (rren r sc)).map .str) gv U∧Gw 7 S.length w F5 D5 ((De.rwl r inner sc (bound++nms names).length (s.decls.take i)).map De.v) xv U):=⟨_,fun _ _ _ _ _=>Iff.rfl⟩;refine qax (IvW (E s.decls.length) fun _=>[(11,.sl false ((Scs.flat inner).map bndV)),(0,.ptr w 0 0 1),(4,.ptr S.length 0 0 1),(6,.ptr (S.length+1) 0 0 1),(7,.ptr (S.length+2) 0 0 1)]) ?_ ?_
    ·refine qar (IvL s.decls.length E fun i _=>[(12,.int .i64 i),(11,.sl false ((Scs.flat inner).map bndV)),(0,.ptr w 0 0 1),(2,.sl b ((Scs.flat sc).map bndV)),(4,.ptr S.length 0 0 1),(6,.ptr (S.length+1) 0 0 1),(7,.ptr (S.length+2) 0 0 1)]) s.decls.length _ ?_ ⟨0,_,F4,D4,by simp,by omega,(hE _ _ _ _ _).2 ⟨by simpa[De.bnl,De.rsl] using C5,hg5,Gw.nil _ _ _ _ _ _⟩,rfl⟩ ?_
     ·repeat' first|exact Env.sub_nil _|refine Env.sub_cons (by simp[g0,g2,g4,g6,g7]) ?_
     rintro j e U ⟨i,xv,F5,D5,rfl,hi,hI,rfl⟩;obtain ⟨hC,hg,hx⟩:=(hE _ _ _ _ _).1 hI;have hn:=hdd hC;by_cases hlt:i<s.decls.length
     ·have hia:=iaDe hlt false U;obtain ⟨n1,n2⟩:=ql1 s.decls i hlt;have hst:=qcf Pa.de s.decls i hlt;have hrl:=De.rsl_len r (s.decls.take i) inner sc (bound++nms names).length st;have hbli:(bound++nms names++De.bnl (s.decls.take i)).length=(bound++nms names).length+De.nbl (s.decls.take i):=by rw[qtS,De.bnl_length]
      have ht:s.decls.take (i+1)=s.decls.take i++[s.decls[i]]:=by rw[qtQ,qtF hlt];rfl
      have q:=qkz r ho bf bt w fv s.decls[i] (IHd _ (qtR hlt)) (by omega) _ _ F5 D5 U b false sc inner hC.rk ⟨okw.nd,by omega,by omega,by have:=okw.fr;omega⟩ ok.nd (by omega);rw[hbli] at q;obtain ⟨d',hd'⟩:∃d',d'=De.rw r inner sc ((bound++nms names).length+De.nbl (s.decls.take i)) s.decls[i]:=⟨_,rfl⟩;rw[←hd'] at q;have hxv:ldS U (.ptr (S.length+2) 0 6 1) none=some xv:=by simp[ldS,hC.b2]
      simp[hn,hlt,hia,hxv];obtain ⟨F',D',U',r1,r2⟩:=hC.rk.real (bound++nms names++De.bnl (s.decls.take i)++s.decls[i].bn) (De.rs r inner sc ((bound++nms names).length+De.nbl (s.decls.take i)) (De.rsl r inner sc (bound++nms names).length st (s.decls.take i)) s.decls[i]);refine qcp q ⟨_,U',rfl,F',D',r1,r2⟩ ?_;rintro v U2 ⟨rfl,F6,D6,k6,s6⟩;have C6:=hC.call k6 s6;have hg6:=hg.step s6;have hx6:=hx.step s6;obtain ⟨xv',U3,ha,hx7,k7,s7,a5,a6⟩:=hx6.app1F (fm _ _) (bytes:=120) (b:=true) C6.rk C6.st (De.fits1 d') (by rw[qtM,qi6,quE];omega);have C7:=C6.app (gv:=xv) k7 s7 a5 fun k ys wr hk'=>hx6.neC hk' (by omega)
      have hg7:=hg6.other fun l o ho a b c hv'=>a5 l o ho fun a' b' c' hh=>(Gx.ne (.inr hx6) (.inr hg6) (by omega)) l a' b' c' a b c hh hv'
      have hstx:=qb3 (j:=6) C7.b2 hx7.flatV (by simp) (by simp);simp only[List.take,List.drop,qtO,qt7] at hstx;have C8:=C7.put (fm _ _) (smA s gv (.str s.text) tg ex el xv' bv);have hg8:=hg7.setC C7.b2 (by omega) (.arr [smA s gv (.str s.text) tg ex el xv' bv] 8 1);have hx8:=hx7.setC C7.b2 (by omega) (.arr [smA s gv (.str s.text) tg ex el xv' bv] 8 1)
      have hn1:(De.rwl r inner sc (bound++nms names).length (s.decls.take i)).map De.v++[d'.v]=(De.rwl r inner sc (bound++nms names).length (s.decls.take (i+1))).map De.v:=by
       rw[ht,De.rwl_append,qt0,hd'];rfl
      have hn2:De.rs r inner sc ((bound++nms names).length+De.nbl (s.decls.take i)) (De.rsl r inner sc (bound++nms names).length st (s.decls.take i)) s.decls[i]=De.rsl r inner sc (bound++nms names).length st (s.decls.take (i+1)):=by
       rw[ht,De.rsl_append];rfl
      have hn3:bound++nms names++De.bnl (s.decls.take i)++s.decls[i].bn=bound++nms names++De.bnl (s.decls.take (i+1)):=by
       rw[ht,De.bnl_append,qtN (bound++nms names)];simp[De.bnl]
      rw[hn1] at hx8;rw[hn2,hn3] at C8;have hxv2:ldS U2 (.ptr (S.length+2) 0 6 1) none=some xv:=by simp[ldS,C6.b2]
      simp[De.fits1,ha,hstx];simp[dend,qbk,qbu,hxv,hxv2];simp[qaL (n:=(i:Int)+1)];refine ⟨_,?_,_,?_,i+1,xv',F6,D6,rfl,by omega,(hE _ _ _ _ _).2 ⟨C8,hg8,hx8⟩,rfl⟩
      ·omega
      ·exact Env.so (by simp)
     ·have:i=s.decls.length:=by omega
      subst this;simp[hn];refine ⟨xv,F5,D5,hI,?_⟩;exact Env.so (by simp)
    clear hsub g0 g2 g4 g6 g7 g9;rintro e U5 ⟨xv,F5,D5,hI,hsub⟩;obtain ⟨C5,hg5,hx5⟩:=(hE _ _ _ _ _).1 hI;rw[qt5] at C5 hx5;have g0:e.get 0=_:=hsub 0 _ rfl;have g4:e.get 4=_:=hsub 4 _ rfl;have g6:e.get 6=_:=hsub 6 _ rfl;have g7:e.get 7=_:=hsub 7 _ rfl;have g11:e.get 11=_:=hsub 11 _ rfl;have hrl:=De.rsl_len r s.decls inner sc (bound++nms names).length st;have hbld:(bound++nms names++De.bnl s.decls).length=(bound++nms names).length+De.nbl s.decls:=by rw[qtS,De.bnl_length]
    have q:=qf9 r bf bt w fv s.body IHb hbl _ _ F5 D5 U5 false false inner C5.rk ⟨okw.nd,by omega,by omega,by have:=okw.fr;omega⟩;rw[hbld,hbl1] at q;simp[g0,g4,g11,hbd C5];refine qal q ?_;rintro v U6 ⟨rfl,F6,D6,k6,s6⟩;have C6:=C5.call k6 s6;have hst:=qb3 (j:=7) (v:=.sl false ((Sm.rwl r inner (bound.length+(qad names bound.length).length+De.nbl s.decls) s.body).map Sm.v)) C6.b2 ⟨rfl,rfl,rfl⟩ (by simp) (by simp);simp only[List.take,List.drop,qtO,qt7] at hst;have C7:=C6.put (fm _ _) (smA s gv (.str s.text) tg ex el xv (.sl false ((Sm.rwl r inner (bound.length+(qad names bound.length).length+De.nbl s.decls) s.body).map Sm.v)));have hg7:=(hg5.step s6).setC C6.b2 (by omega) (.arr [smA s gv (.str s.text) tg ex el xv (.sl false ((Sm.rwl r inner (bound.length+(qad names bound.length).length+De.nbl s.decls) s.body).map Sm.v))] 8 1);have hx7:=(hx5.step s6).setC C6.b2 (by omega) (.arr [smA s gv (.str s.text) tg ex el xv (.sl false ((Sm.rwl r inner (bound.length+(qad names bound.length).length+De.nbl s.decls) s.body).map Sm.v))] 8 1);subst htg hex hel;obtain ⟨p1,U9,p2,p3⟩:=fin (s.labels.map (rren r sc)) s.text s.targets s.exps s.elems _ _ gv _ xv C7 (.inr hg7) (.inl ⟨false,rfl⟩) (.inr hx7);have e1:bound++nms names++De.bnl s.decls++Sm.bnl s.body=bound++(nms names++De.bnl s.decls++Sm.bnl s.body):=by simp only[qtN]
    rw[e1] at p3;simp[g6,g7,hst,p1,p2];rw[h7,hbl1] at p3;simp only[qtN] at p3 ⊢;exact p3 _ g6
   rw[if_neg h7,if_neg h7,if_neg h7];rw[if_neg h7] at hbo;by_cases h8:s.kind=8
   ·rw[if_pos h8,if_pos h8,if_pos h8];rw[if_pos h8] at hbo;simp[g0,g2,g4,hkd,h8,hbd hC];refine qal (qeu r bf bt w fv s.body IHb (by omega) bound st F0 D0 U false b sc hC.rk ⟨ok.nd,hof,hbo,by omega⟩) ?_;rintro v U1 ⟨rfl,F1,D1,k1,s1⟩;have C1:=hC.call k1 s1;obtain ⟨bd,hbd'⟩:∃bd,bd=Sm.rwl r (qad (qak s.body) bound.length::sc) (bound.length+(qad (qak s.body) bound.length).length) s.body:=⟨_,rfl⟩;rw[←hbd'];have hst:=qb3 (j:=7) (v:=.sl false (bd.map Sm.v)) C1.b2 ⟨rfl,rfl,rfl⟩ (by simp) (by simp);simp only[List.take,List.drop,qtO,qt7] at hst;have C2:=C1.put (fm _ _) (smA s gv (.str s.text) tg ex el dv (.sl false (bd.map Sm.v)));have hg2:=(hg.step s1).setC C1.b2 (by omega) (.arr [smA s gv (.str s.text) tg ex el dv (.sl false (bd.map Sm.v))] 8 1);subst htg hex hel hdv;obtain ⟨p1,U9,p2,p3⟩:=fin (s.labels.map (rren r sc)) s.text s.targets s.exps s.elems s.decls bd gv _ _ C2 (.inr hg2) (.inl ⟨false,rfl⟩) (.inl ⟨false,rfl⟩);simp[g6,g7,hst,p1,p2]
    first|exact p3 _ g6|(rw[h8] at p3;exact p3 _ g6)
   by_cases h6:s.kind=6
   ·simp[g0,g2,g4,hkd,h6,htx];refine qal (qnk r ho bf bt w fv bound st F0 D0 U hC.rk b sc ok.nd (by omega) s.text (by omega)) ?_;rintro v U1 ⟨rfl,F1,D1,k1,s1⟩;have C1:=hC.call k1 s1;have hst:=qb3 (j:=2) (v:=.str (qcr r sc s.text)) C1.b2 ⟨rfl,rfl,rfl⟩ (by simp) (by simp);simp only[List.take,List.drop,qtO,qt7] at hst;have C2:=C1.put (fm _ _) (smA s gv (.str (qcr r sc s.text)) tg ex el dv bv);have hg2:=(hg.step s1).setC C1.b2 (by omega) (.arr [smA s gv (.str (qcr r sc s.text)) tg ex el dv bv] 8 1);simp[g7,hst];refine ⟨gv,F1,D1,(hM _ _ _ _).2 ⟨h7,h8,by rw[if_pos h6,if_pos h6];exact C2,hg2⟩,?_⟩
    repeat' first|exact Env.sub_nil _|refine Env.sub_cons (by simp[g0,g2,g4,g6,g7]) ?_
   ·simp[g4,hkd,h7,h8,h6];refine ⟨gv,F0,D0,(hM _ _ _ _).2 ⟨h7,h8,by rw[if_neg h6,if_neg h6];exact hC,hg⟩,?_⟩
    repeat' first|exact Env.sub_nil _|refine Env.sub_cons (by simp[g0,g2,g4,g6,g7]) ?_
  clear hsub hC hg hI;rintro e U ⟨gv,F1,D1,hI,hsub⟩;obtain ⟨h7,h8,C1,hg1⟩:=(hM _ _ _ _).1 hI;rw[if_neg h7,if_neg h8] at hbo;rw[if_neg h7,if_neg h7,if_neg h7,if_neg h8,if_neg h8,if_neg h8];obtain ⟨st1,hst1⟩:∃st1,st1=if s.kind=6 then qbj r sc s.text st else st:=⟨_,rfl⟩
  have hst1l:st1.free.length≤st.free.length+1:=by
   rw[hst1];split
   ·exact qcO r sc s.text st
   ·omega
  obtain ⟨tx,htx⟩:∃tx,tx=if s.kind=6 then qcr r sc s.text else s.text:=⟨_,rfl⟩
  rw[←hst1] at C1 ⊢;rw[←htx] at C1 ⊢;have g0:e.get 0=_:=hsub 0 _ rfl;have g2:e.get 2=_:=hsub 2 _ rfl;have g4:e.get 4=_:=hsub 4 _ rfl;have g6:e.get 6=_:=hsub 6 _ rfl;have g7:e.get 7=_:=hsub 7 _ rfl;have ldt:ldS U (.ptr S.length 0 3 1) none=some (.sl false (s.targets.map Ex.v)):=by simp[ldS,C1.b0]
  simp[g0,g2,g4,ldt];refine qal (qpw r ho bf bt w fv s.targets (by omega) bound st1 F1 D1 U false b sc C1.rk ok.nd (by omega) (by omega)) ?_;rintro v U2 ⟨rfl,F2,D2,k2,s2⟩;have C2:=C1.call k2 s2;obtain ⟨tg1,htg1⟩:∃x,x=V.sl false ((Ex.rwl r sc s.targets).map Ex.v):=⟨_,rfl⟩;obtain ⟨st2,hst2⟩:∃st2,st2=tgS r sc st1 s.targets:=⟨_,rfl⟩;have hst2l:=qlr r sc st1 s.targets;rw[←hst2] at C2 hst2l ⊢;rw[←htg1];have hstt:=qb3 (j:=3) (v:=tg1) C2.b2 (by rw[htg1];exact ⟨rfl,rfl,rfl⟩) (by simp) (by simp);simp only[List.take,List.drop,qtO,qt7] at hstt;have C3:=C2.put (fm _ _) (smA s gv (.str tx) tg1 ex el dv bv);have hg3:=(hg1.step s2).setC C2.b2 (by omega) (.arr [smA s gv (.str tx) tg1 ex el dv bv] 8 1);obtain ⟨U3,hU3⟩:∃U3,U3=U2.set (S.length+2) (.arr [smA s gv (.str tx) tg1 ex el dv bv] 8 1):=⟨_,rfl⟩;rw[←hU3] at hstt C3 hg3;have hste:=qb3 (j:=5) (v:=.sl true []) C3.b2 ⟨rfl,rfl,rfl⟩ (by simp) (by simp);simp only[List.take,List.drop,qtO,qt7] at hste;have C4:=C3.put (fm _ _) (smA s gv (.str tx) tg1 ex (.sl true []) dv bv);have hg4:=hg3.setC C3.b2 (by omega) (.arr [smA s gv (.str tx) tg1 ex (.sl true []) dv bv] 8 1);simp[g7,hstt,hste];obtain ⟨E,hE⟩:∃A:Nat→V→(Nat→Prop)→(Nat→Prop)→St→Prop,∀i xv F5 D5 U,A i xv F5 D5 U↔(Cx w 8 (Rk r bf bt w fv bound (El.rsl r sc st2 (s.elems.take i))) F D S s.v smZ (smA s gv (.str tx) tg1 ex xv dv bv) F5 D5 U∧Gw 1 S.length w F5 D5 ((s.labels.map (rren r sc)).map .str) gv U∧Gw 2 S.length w F5 D5 (((s.elems.take i).map (El.rw r sc)).map El.v) xv U):=⟨_,fun _ _ _ _ _=>Iff.rfl⟩;refine qax (IvW (E s.elems.length) fun _=>[(0,.ptr w 0 0 1),(2,.sl b ((Scs.flat sc).map bndV)),(4,.ptr S.length 0 0 1),(6,.ptr (S.length+1) 0 0 1),(7,.ptr (S.length+2) 0 0 1)]) ?_ ?_
  ·refine qar (IvL s.elems.length E fun i _=>[(13,.int .i64 i),(0,.ptr w 0 0 1),(2,.sl b ((Scs.flat sc).map bndV)),(4,.ptr S.length 0 0 1),(6,.ptr (S.length+1) 0 0 1),(7,.ptr (S.length+2) 0 0 1)]) s.elems.length _ ?_ ⟨0,_,F2,D2,by simp,by omega,(hE _ _ _ _ _).2 ⟨C4,hg4,Gw.nil _ _ _ _ _ _⟩,rfl⟩ ?_
   ·repeat' first|exact Env.sub_nil _|refine Env.sub_cons (by simp[g0,g2,g4,g6,g7]) ?_
   rintro j e U ⟨i,xv,F5,D5,rfl,hi,hI,rfl⟩;obtain ⟨hC,hg,hx⟩:=(hE _ _ _ _ _).1 hI;have hn:ldS U (.ptr S.length 0 5 1) none=some (.sl false (s.elems.map El.v)):=by simp[ldS,hC.b0]
   by_cases hlt:i<s.elems.length
   ·have hia:=fun U=>iaEl hlt false U
    obtain ⟨y,hy⟩:∃y,y=s.elems[i]:=⟨_,rfl⟩;rw[←hy] at hia;have hst:=qcf Pa.el s.elems i hlt;rw[←hy] at hst;have hrl:=El.rsl_len r sc (s.elems.take i) st2;have hys:(Pa.el y).size=1+qaB (y.exps.map Pa.ex):=by rw[Pa.size_eq];rfl
    have ht:s.elems.take (i+1)=s.elems.take i++[y]:=by rw[qtQ,qtF hlt,hy];rfl
    have q:=qe6 r ho bf bt w fv y.exps (by omega) bound _ F5 D5 U false b sc hC.rk ok.nd (by omega) (by omega);have hxv:ldS U (.ptr (S.length+2) 0 5 1) none=some xv:=by simp[ldS,hC.b2]
    simp[hn,hlt,hia,hxv];obtain ⟨F',D',U',r1,r2⟩:=hC.rk.real bound (Ex.rsl r sc (El.rsl r sc st2 (s.elems.take i)) y.exps);refine qcp q ⟨_,U',rfl,F',D',r1,r2⟩ ?_;rintro v U2 ⟨rfl,F6,D6,k6,s6⟩;have C6:=hC.call k6 s6;have hg6:=hg.step s6;have hx6:=hx.step s6;obtain ⟨y',hy'⟩:∃y',y'=El.rw r sc y:=⟨_,rfl⟩;obtain ⟨xv',U3,ha,hx7,k7,s7,a5,a6⟩:=hx6.app1F (fm _ _) (bytes:=32) (b:=true) C6.rk C6.st (El.fits1 y') (by simp;omega);have C7:=C6.app (gv:=xv) k7 s7 a5 fun k ys wr hk'=>hx6.neC hk' (by omega)
    have hg7:=hg6.other fun l o ho a b c hv'=>a5 l o ho fun a' b' c' hh=>(Gx.ne (.inr hx6) (.inr hg6) (by omega)) l a' b' c' a b c hh hv'
    have hstx:=qb3 (j:=5) C7.b2 hx7.flatV (by simp) (by simp);simp only[List.take,List.drop,qtO,qt7] at hstx;have C8:=C7.put (fm _ _) (smA s gv (.str tx) tg1 ex xv' dv bv);have hg8:=hg7.setC C7.b2 (by omega) (.arr [smA s gv (.str tx) tg1 ex xv' dv bv] 8 1);have hx8:=hx7.setC C7.b2 (by omega) (.arr [smA s gv (.str tx) tg1 ex xv' dv bv] 8 1)
    have hn1:((s.elems.take i).map (El.rw r sc)).map El.v++[y'.v]=((s.elems.take (i+1)).map (El.rw r sc)).map El.v:=by
     rw[ht,qt0,qt0,hy'];rfl
    have hn2:Ex.rsl r sc (El.rsl r sc st2 (s.elems.take i)) y.exps=El.rsl r sc st2 (s.elems.take (i+1)):=by
     rw[ht,El.rsl_append];rfl
    rw[hn1] at hx8;rw[hn2] at C8
    have hbu:qam (.agg [.int .i64 0,.sl true []]) [(0,1,.int .i64 y.kind),(1,1,.sl false ((Ex.rwl r sc y.exps).map Ex.v))]=some y'.v:=by
     rw[hy'];simp[qam,qac,El.v,El.rw]
    have hxv2:ldS U2 (.ptr (S.length+2) 0 5 1) none=some xv:=by simp[ldS,C6.b2]
    have hn2':ldS U2 (.ptr S.length 0 5 1) none=some (.sl false (s.elems.map El.v)):=by simp[ldS,C6.b0]
    simp[qag,hbu,El.fits1,ha,hstx];simp[dend,qbk,qbu,hxv,hxv2,hn,hn2',hia];simp[qaL (n:=(i:Int)+1)];refine ⟨_,?_,_,?_,i+1,xv',F6,D6,rfl,by omega,(hE _ _ _ _ _).2 ⟨C8,hg8,hx8⟩,rfl⟩
    ·omega
    ·exact Env.so (by simp)
   ·have:i=s.elems.length:=by omega
    subst this;simp[hn];refine ⟨xv,F5,D5,hI,?_⟩;exact Env.so (by simp)
  clear hsub g0 g2 g4 g6 g7;rintro e U5 ⟨xv,F5,D5,hI,hsub⟩;obtain ⟨C5,hg5,hx5⟩:=(hE _ _ _ _ _).1 hI;rw[qt5] at C5 hx5;have g0:e.get 0=_:=hsub 0 _ rfl;have g2:e.get 2=_:=hsub 2 _ rfl;have g4:e.get 4=_:=hsub 4 _ rfl;have g6:e.get 6=_:=hsub 6 _ rfl;have g7:e.get 7=_:=hsub 7 _ rfl;have hrl:=El.rsl_len r sc s.elems st2;have ldx:ldS U5 (.ptr S.length 0 4 1) none=some (.sl false (s.exps.map Ex.v)):=by simp[ldS,C5.b0]
  simp[g0,g2,g4,ldx];refine qal (qe6 r ho bf bt w fv s.exps (by omega) bound _ F5 D5 U5 false b sc C5.rk ok.nd (by omega) (by omega)) ?_;rintro v U6 ⟨rfl,F6,D6,k6,s6⟩;have C6:=C5.call k6 s6;have hrl6:=Ex.rsl_len r sc s.exps (El.rsl r sc st2 s.elems);obtain ⟨ex1,hex1⟩:∃x,x=V.sl false ((Ex.rwl r sc s.exps).map Ex.v):=⟨_,rfl⟩;rw[←hex1];have hstx:=qb3 (j:=4) (v:=ex1) C6.b2 (by rw[hex1];exact ⟨rfl,rfl,rfl⟩) (by simp) (by simp);simp only[List.take,List.drop,qtO,qt7] at hstx;have C7:=C6.put (fm _ _) (smA s gv (.str tx) tg1 ex1 xv dv bv);have hg7:=(hg5.step s6).setC C6.b2 (by omega) (.arr [smA s gv (.str tx) tg1 ex1 xv dv bv] 8 1);have hx7:=(hx5.step s6).setC C6.b2 (by omega) (.arr [smA s gv (.str tx) tg1 ex1 xv dv bv] 8 1);have ldb:ldS (U6.set (S.length+2) (.arr [smA s gv (.str tx) tg1 ex1 xv dv bv] 8 1)) (.ptr S.length 0 7 1) none=some (.sl false (s.body.map Sm.v)):=by simp only[ldS,C7.b0];simp
  simp[g0,g2,g4,g7,hstx,ldb];refine qal (qfW r bf bt w fv s.body IHb (by omega) bound _ F6 D6 _ false b sc C7.rk ⟨ok.nd,hof,hbo,by omega⟩) ?_;rintro v U8 ⟨rfl,F8,D8,k8,s8⟩;have C8:=C7.call k8 s8;have hst:=qb3 (j:=7) (v:=.sl false ((Sm.rw1 r sc bound.length s.body).map Sm.v)) C8.b2 ⟨rfl,rfl,rfl⟩ (by simp) (by simp);simp only[List.take,List.drop,qtO,qt7] at hst;have C9:=C8.put (fm _ _) (smA s gv (.str tx) tg1 ex1 xv dv (.sl false ((Sm.rw1 r sc bound.length s.body).map Sm.v)));have hg9:=(hg7.step s8).setC C8.b2 (by omega) (.arr [smA s gv (.str tx) tg1 ex1 xv dv (.sl false ((Sm.rw1 r sc bound.length s.body).map Sm.v))] 8 1);have hx9:=(hx7.step s8).setC C8.b2 (by omega) (.arr [smA s gv (.str tx) tg1 ex1 xv dv (.sl false ((Sm.rw1 r sc bound.length s.body).map Sm.v))] 8 1);subst htg1 hex1 hdv;obtain ⟨p1,U9,p2,p3⟩:=fin (s.labels.map (rren r sc)) tx (Ex.rwl r sc s.targets) (Ex.rwl r sc s.exps) (s.elems.map (El.rw r sc)) s.decls _ gv xv _ C9 (.inr hg9) (.inr hx9) (.inl ⟨false,rfl⟩);simp[g6,g7,hst,p1,p2];exact p3 _ g6
theorem qoV(r:Rp)(ho:RpOk r)(bf bt:Bool)(w:Nat)(fv:V)(s:Sm)(hsz:(Pa.st s).size≤4000)(st:Rst)(F D:Nat→Prop)(S:St)(hk:Rk r bf bt w fv [] st F D S)(hn:Sm.nb1 [s]≤50000)(hfr:st.free.length+(Pa.st s).size≤1000000):
  Spec prog 67 [.ptr w 0 0 1,s.v] S (fun v U=>Rd' w (Rk r bf bt w fv (nms s.labels++s.bn) (s.rs r [qad s.labels 0] (qad s.labels 0).length st)) F D S (s.wholeQ r).v v U):=by
 refine Spec.intro func67 ok67 (by simp[c67]) ?_;obtain ⟨S1,hS1⟩:∃S1:St,S1=S++[.arr [s.v] 8 1,.arr [smZ] 8 1]:=⟨_,rfl⟩;have b0:S1[S.length]?=some (.arr [s.v] 8 1):=by rw[hS1,qtE (by omega)];simp
 have b1:S1[S.length+1]?=some (.arr [smZ] 8 1):=by rw[hS1,qtE (by omega)];simp
 have fm:=fun bo s=>Rk.frm r bf bt w fv bo s
 have k1:Rk r bf bt w fv [] st F D S1:=by rw[hS1];exact (fm _ _).push hk _
 have s1:Stp w F D S F D S1:=by rw[hS1];exact (Stp.refl _ _ _ _).push _
 have o1:Off w F D (S.length+1):=(fm _ _).out hk (by omega);have hlab:qak [s]=s.labels:=by simp[qak]
 have q:=qeu r bf bt w fv [s] (fun y hy=>by simp at hy;subst hy;exact qiu r ho bf bt w fv 4000 y hsz (qtJ _)) (by simpa using hsz) [] st F D S1 true true [] k1 ⟨fun _ h=>(by cases h),quL _,by rw[hlab];simpa[Sm.nb1,Sm.nbl] using hn,by simpa using hfr⟩;rw[hlab] at q;simp only[qtX,qu4,Sm.bnl,Sm.rsl,Sm.rwl,quG,qt7,quw,quH,Scs.flat] at q;have ld0:ldS S1 (.ptr S.length 0 0 1) (some 8)=some s.v:=by simp[ldS,b0]
 simp[c67,boxS];rw[←hS1];simp[ld0,Sm.fits1];refine qal q ?_;rintro v U ⟨rfl,F1,D1,k2,s2⟩;have c1:=s2.at o1 b1;have p1:=o1.next (glt b1) s2;have hia:iaS U 8 (.sl false [(s.rw r [qad s.labels 0] (qad s.labels 0).length).v]) 0=some (.iptr (s.rw r [qad s.labels 0] (qad s.labels 0).length).v 0):=by simp[iaS]
 obtain ⟨y,hy⟩:∃y,y=s.rw r [qad s.labels 0] (qad s.labels 0).length:=⟨_,rfl⟩;rw[←hy] at hia ⊢;have hst:stS U (.ptr (S.length+1) 0 0 1) 8 y.v=some (U.set (S.length+1) (.arr [y.v] 8 1)):=by simp[stS,c1,qac]
 simp[hia,hst];have hz:(U.set (S.length+1) (.arr [y.v] 8 1))[S.length+1]?=some (.arr [y.v] 8 1):=qtI (glt c1);exact qai (vs:=[y.v]) (by simp[rvs,ldS,hz]) ⟨by simp only[retV];rw[hy];rfl,F1,D1,(fm _ _).set k2 _ p1,(s1.trans s2).set _ (by omega)⟩
def r0:Rp:=⟨[],[],[]⟩
theorem qq0:RpOk r0:=⟨qtJ _,quL _⟩
def st0:Rst:=⟨[],false,false⟩
abbrev wk0(gv:V):Ob:=.arr [.agg [.sl true [],.sl true [],gv,.sl true [],.sl true [],.bool false,.bool false]] 7 1
theorem Rk.start{w:Nat}{S:St}{gv:V}{fresh:List ByteArray}{D:Nat→Prop}(h:S[w]?=some (wk0 gv))(hg:Gs w D fresh gv S)(hD:∀l,D l→l<S.length)(hw:¬ D w):Rk ⟨fresh,[],[]⟩ true true w gv [] st0 (fun _=>False) D S:=by
 refine ⟨⟨.sl true [],.sl true [],?_,.inl ⟨rfl,rfl⟩,.inl ⟨rfl,rfl⟩,fun l a b c hh=>by cases hh⟩,?_,?_,id,hw,fun l hl=>hl.elim,glt h⟩
 ·unfold wkO st0;unfold wk0 at h;exact h
 ·rcases hg with ⟨h1,h2⟩|⟨l,wr,h1,h2,h3,h4,h5⟩
  ·exact .inl ⟨true,by rw[h1,h2];rfl⟩
  ·exact .inr ⟨l,wr,h1,h3,h4,h5⟩
 ·rintro l (hl|hl)
  ·exact hl.elim
  ·exact hD l hl
section
variable {f:Nat→ByteArray} {nm:ByteArray→Bool} (hf:∀k,nm (f k)=false) (r:Rp) (z:ByteArray)
include hf
theorem qiv(sc:Scs)(t:ByteArray)(st:Rst)(ht:nm t=true):z∈(ruse r sc t st).free↔z∈st.free∨z∈[reto f sc t].filter nm:=by
 unfold ruse reto
 cases sc.at t with
 | none=>simp[ht]
 | some k=>simp[hf]
omit hf in
theorem qtf{a b c:Prop}:(a∨b)∨c↔a∨c∨b:=⟨by rintro ((h|h)|h) <;> simp[h],by rintro (h|h|h) <;> simp[h]⟩
mutual
theorem Ex.rfr(sc:Scs):∀(x:Ex) (st:Rst),(Pa.ex x).valid nm=true→(z∈(Ex.rs r sc st x).free↔z∈st.free∨z∈(Ex.occ (x.w f sc)).filter nm)
 | .mk k o n m e t a,st,v=>by
  have va:=Ex.valid_args v;simp only[Ex.args] at va;have h1:=(Pa.valid_iff.1 v).1;rw[Ex.rs,Ex.w,Ex.occ,qur,qtW];by_cases h6:k=6
  ·subst h6;have hn:Ex.named 6=true:=rfl;simp[Pa.vOwn,Ex.vOwn] at h1;obtain ⟨⟨⟨⟨_,rfl⟩,rfl⟩,rfl⟩,rfl,rfl⟩:=h1;rw[if_pos rfl,qiv hf r z sc t st (Ex.valid_text v hn),hn,if_pos rfl,if_pos rfl];simp[Ex.wl,Ex.occl]
  ·rw[if_neg h6,Ex.rfrl sc a _ va];by_cases h78:k=7∨k=8
   ·have hn:Ex.named k=true:=by unfold Ex.named;rcases h78 with rfl|rfl <;> rfl
    have h2:(qbj r sc t st).free=(ruse r sc t st).free:=rfl;rw[if_pos h78,hn,if_pos rfl,if_pos rfl,h2,qiv hf r z sc t st (Ex.valid_text v hn),qtf]
   ·have hn:Ex.named k=false:=by unfold Ex.named;simp;omega
    rw[if_neg h78,hn];simp
theorem Ex.rfrl(sc:Scs):∀(l:List Ex) (st:Rst),(∀x,x∈l→(Pa.ex x).valid nm=true)→(z∈(Ex.rsl r sc st l).free↔z∈st.free∨z∈(Ex.occl (Ex.wl f sc l)).filter nm)
 | [],st,_=>by simp[Ex.rsl,Ex.wl,Ex.occl]
 | x::l,st,v=>by
  rw[Ex.rsl,Ex.wl,Ex.occl,Ex.rfrl sc l _ fun y hy=>v y (by simp[hy]),Ex.rfr sc x st (v x (by simp)),qur,qtW,or_assoc]
end
theorem El.rfrl(sc:Scs):∀(l:List El) (st:Rst),(∀x,x∈l→(Pa.el x).valid nm=true)→(z∈(El.rsl r sc st l).free↔z∈st.free∨z∈(El.occl (l.map (El.w f sc))).filter nm)
 | [],st,_=>by simp[El.rsl,El.occl]
 | x::l,st,v=>by
  have h1:=Ex.rfrl hf r z sc x.exps st (fun y hy=>(Pa.valid_iff.1 (v x (by simp))).2 _ (by simp only[Pa.kids];exact qug hy));have h2:=El.rfrl sc l (Ex.rsl r sc st x.exps) fun y hy=>v y (by simp[hy])
  show z∈(El.rsl r sc (Ex.rsl r sc st x.exps) l).free↔_;rw[h2,h1,qtX,El.occl,qur,qtW,or_assoc];unfold El.w;rw[←Ex.wl_map]
mutual
theorem Sm.rfr:∀(s:Sm) (sc:Scs) (n:Nat) (st:Rst),(Pa.st s).valid nm=true→(z∈(Sm.rs r sc n st s).free↔z∈st.free∨z∈(s.w f sc n).occ.filter nm)
 | .mk l k t g e el d b,sc,n,st,v=>by
  obtain ⟨v7,v8,v9⟩:=Sm.valid_block v;have vd:=Sm.valid_decls v;have vb:=Sm.valid_body v;have vg:=Sm.valid_targets v;have ve:=Sm.valid_exps v;have vl:=Sm.valid_elems v;have vt:=Sm.valid_text v;simp only[Sm.decls,Sm.body,Sm.targets,Sm.exps,Sm.elems,Sm.kind,Sm.text] at vd vb vg ve vl vt;rw[Sm.rs,Sm.w];by_cases h7:k=7
  ·obtain ⟨rfl,rfl,rfl⟩:=v7 h7;rw[if_pos h7,if_pos h7,Sm.occ,if_pos h7,qur,qtW,Sm.rfrl b _ _ _ vb,De.rfrl d _ _ _ _ vd,or_assoc]
  ·rw[if_neg h7,if_neg h7];by_cases h8:k=8
   ·obtain ⟨rfl,rfl,rfl,rfl⟩:=v8 h8;rw[if_pos h8,if_pos h8,Sm.occ,if_neg h7,if_pos h8,Sm.rfrl b _ _ _ vb]
   ·obtain rfl:=v9 h7 h8;rw[if_neg h8,if_neg h8,Sm.occ,if_neg h7,if_neg h8,Sm.rfr1 b _ _ _ vb,Ex.rfrl hf r z sc e _ ve,El.rfrl hf r z sc el _ vl];have h2:∀st',(tgS r sc st' g).free=(Ex.rsl r sc st' g).free:=fun _=>rfl
    rw[h2,Ex.rfrl hf r z sc g _ vg];simp only[qur,qtW];by_cases h6:k=6
    ·have h3:(qbj r sc t st).free=(ruse r sc t st).free:=rfl;rw[if_pos h6,if_pos h6,if_pos h6,h3,qiv hf r z sc t st (vt h6)];constructor
     ·rintro (((((h|h)|h)|h)|h)|h) <;> simp[h]
     ·rintro (h|(((h|h)|h)|h)|h) <;> simp[h]
    ·rw[if_neg h6,if_neg h6];constructor
     ·rintro ((((h|h)|h)|h)|h) <;> simp[h]
     ·rintro (h|(((h|h)|h)|h)|h)
      ·simp[h]
      ·simp[h]
      ·simp[h]
      ·simp[h]
      ·simp[h]
      ·simp at h
theorem De.rfr:∀(s:De) (own sc:Scs) (n:Nat) (st:Rst),(Pa.de s).valid nm=true→(z∈(De.rs r own sc n st s).free↔z∈st.free∨z∈(s.w f own sc n).occ.filter nm)
 | .mk k o t ns e fo b,own,sc,n,st,v=>by
  obtain ⟨v4,v5⟩:=De.valid_proc v;have vb:=De.valid_body v;have ve:=De.valid_exps v;simp only[De.body,De.exps] at vb ve;rw[De.rs,De.w];by_cases h4:k=4
  ·obtain rfl:=v4 h4;rw[if_pos h4,if_pos h4,De.occ,if_pos h4,Sm.rfr1 b _ _ _ vb];rfl
  ·obtain ⟨rfl,rfl⟩:=v5 h4;rw[if_neg h4,if_neg h4,De.occ,if_neg h4];exact Ex.rfrl hf r z _ e st ve
theorem De.rfrl:∀(l:List De) (own sc:Scs) (n:Nat) (st:Rst),(∀x,x∈l→(Pa.de x).valid nm=true)→(z∈(De.rsl r own sc n st l).free↔z∈st.free∨z∈(De.occl (De.wl f own sc n l)).filter nm)
 | [],_,_,_,st,_=>by simp[De.rsl,De.wl,De.occl]
 | x::l,own,sc,n,st,v=>by
  rw[De.rsl,De.wl,De.occl,De.rfrl l own sc _ _ fun y hy=>v y (by simp[hy]),De.rfr x own sc n st (v x (by simp)),qur,qtW,or_assoc]
theorem Sm.rfrl:∀(l:List Sm) (sc:Scs) (n:Nat) (st:Rst),(∀x,x∈l→(Pa.st x).valid nm=true)→(z∈(Sm.rsl r sc n st l).free↔z∈st.free∨z∈(Sm.occl (Sm.wl f sc n l)).filter nm)
 | [],_,_,st,_=>by simp[Sm.rsl,Sm.wl,Sm.occl]
 | x::l,sc,n,st,v=>by
  rw[Sm.rsl,Sm.wl,Sm.occl,Sm.rfrl l sc _ _ fun y hy=>v y (by simp[hy]),Sm.rfr x sc n st (v x (by simp)),qur,qtW,or_assoc]
theorem Sm.rfr1:∀(l:List Sm) (sc:Scs) (n:Nat) (st:Rst),(∀x,x∈l→(Pa.st x).valid nm=true)→(z∈(Sm.rs1 r sc n st l).free↔z∈st.free∨z∈(Sm.occl (Sm.w1 f sc n l)).filter nm)
 | [],_,_,st,_=>by simp[Sm.rs1,Sm.w1,Sm.occl]
 | x::l,sc,n,st,v=>by
  rw[Sm.rs1,Sm.w1,Sm.occl,Sm.rfr1 l sc _ _ fun y hy=>v y (by simp[hy]),Sm.rfr x _ _ st (v x (by simp)),qur,qtW,or_assoc]
end
end
def Sm.rfree(s:Sm):List ByteArray:=(s.rs r0 [qad s.labels 0] (qad s.labels 0).length st0).free
theorem Sm.rfree_same(s:Sm)(v:(Pa.st s).valid qab=true):s.rfree.foldl insS []=s.frees:=by
 refine qdK (qbS qvl) fun z=>?_
 rw[qcV,Sm.free_occ (f:=numF) qgx s v];refine (Sm.rfr qgx r0 z s [qad s.labels 0] (qad s.labels 0).length st0 v).trans ?_;show z∈([]:List ByteArray)∨_↔_;rfl
theorem Sm.rbound_same(s:Sm):s.bounds.foldl insS []=s.binds:=
 qdK (qbS qvl) fun z=>by rw[qcV];simp
def usP:Pw where
 H:=List ByteArray
 f _ x:=x
 nm:=some fun x _ _=>x
 cl:=none
 ent h _ _:=h
 nmH h x _ _:=h++[x.text]
 clH h _ _:=h
structure Us(m c:Nat)(h:List ByteArray)(F D:Nat→Prop)(U:St):Prop where
 fc:U[c]?=some (.arr [.map m] 1 1)
 fm:∃bs ck,Stam bs ck∧U[m]?=some (.map ((h.foldl insK []).map kv) bs ck)
 hF:∀l,F l↔l=m
 hD:∀l,D l↔l=c
def usC(m c:Nat):Cb where
 toPw:=usP
 fe:=.nilfn
 fn:=.fn (.func 133) [] [.ptr c 0 0 1]
 fc:=.nilfn
 I h F D U:=Us m c h F D U
 cn _ _:=True
section
variable {m c:Nat} {h:List ByteArray} {F D:Nat→Prop} {U:St}
theorem Us.fr{U':St}{M:Nat→Prop}(k:Us m c h F D U)(hk:Kp M U U')(hM:∀l,M l→l<U.length→¬ F l∧¬ D l):Us m c h F D U':=by
 obtain ⟨bs,ck,hst,hm⟩:=k.fm;exact ⟨hk.at k.fc fun hh=>(hM _ hh (glt k.fc)).2 ((k.hD _).2 rfl),⟨bs,ck,hst,hk.at hm fun hh=>(hM _ hh (glt hm)).1 ((k.hF _).2 rfl)⟩,k.hF,k.hD⟩
theorem Us.use(k:Us m c h F D U)(h':List ByteArray){bs:List Nat}{ck:Nat}(hst:Stam bs ck):Us m c h' F D (U.set m (.map ((h'.foldl insK []).map kv) bs ck)):=by
 obtain ⟨bs0,ck0,_,hm⟩:=k.fm;refine ⟨?_,⟨bs,ck,hst,qtI (glt hm)⟩,k.hF,k.hD⟩;rw[qtH (qlx hm k.fc (by simp))];exact k.fc
theorem qpR(k:Us m c h F D U)(x:Ex)(v:V)(tg:Bool):
  Spec prog 133 [x.v,v,.bool tg,.ptr c 0 0 1] U (fun r U'=>r=x.v∧Us m c (h++[x.text]) F D U'∧Kp F U U'):=by
 refine Spec.intro func133 ok133 (by simp[c133]) ?_;simp[c133,boxS];obtain ⟨U1,hU1⟩:∃U1:St,U1=U++[.arr [x.v] 7 1,.arr [.agg [.int .i64 0,.int .i64 0,.int .i64 0,.int .i64 0,.int .i64 0,.str ⟨⟨[]⟩⟩,.sl true []]] 7 1]:=⟨_,rfl⟩;rw[←hU1];have l1:U1.length=U.length+2:=by rw[hU1];simp
 have b0:U1[U.length]?=some (.arr [x.v] 7 1):=by rw[hU1];simp
 have b1:U1[U.length+1]?=some (.arr [.agg [.int .i64 0,.int .i64 0,.int .i64 0,.int .i64 0,.int .i64 0,.str ⟨⟨[]⟩⟩,.sl true []]] 7 1):=by rw[hU1,qtE (by omega)];simp
 have kp1:Kp F U U1:=by rw[hU1];exact (Kp.refl _ _).push _
 have k1:Us m c h F D U1:=by rw[hU1];exact k.fr (M:=fun _=>False) ((Kp.refl _ _).push _) fun _ h=>h.elim
 clear hU1;have h6:=k1.fc;obtain ⟨bs,ck,hst,hm⟩:=k1.fm;have lm:=glt k.fm.choose_spec.choose_spec.2;have lc:=glt k.fc;have hft:fits 1 [V.str x.text]=true:=rfl;simp[ldS,h6,b0,hft];refine qal (qlO true [x.text] _ bs ck m U1 (by simp) hm) ?_;rintro r U2 ⟨bs',ck',hst',rfl⟩;have k2:=k1.use (h++[x.text]) (hst' hst);rw[quS] at k2
 have g:∀{l o},U1[l]?=some o→l≠m→(U1.set m (.map (([x.text].foldl insK (h.foldl insK [])).map kv) bs' ck'))[l]?=some o:=fun {l o} ho hl=>by
  rw[qtH (Ne.symm hl)];exact ho
 have c0:=g b0 (by omega);have c1:=g b1 (by omega);have kp2:Kp F U (U1.set m (.map (([x.text].foldl insK (h.foldl insK [])).map kv) bs' ck')):=kp1.set _ (.inl ((k.hF m).2 rfl));obtain ⟨U2,hU2⟩:∃U2,U2=U1.set m (.map (([x.text].foldl insK (h.foldl insK [])).map kv) bs' ck'):=⟨_,rfl⟩;rw[←hU2] at c0 c1 k2 kp2 ⊢;simp[ldS,c0,stS,c1,qac];have hz:(U2.set (U.length+1) (.arr [x.v] 7 1))[U.length+1]?=some (.arr [x.v] 7 1):=qtI (glt c1);refine qai (vs:=[x.v]) (by simp[rvs,ldS,hz]) ⟨rfl,k2.fr (M:=fun l=>l=U.length+1) ((Kp.refl _ _).set _ (.inl rfl)) fun l hl _=>⟨fun hf=>?_,fun hf=>?_⟩,kp2.set _ (.inr (by omega))⟩
 ·have:=(k.hF _).1 hf;omega
 ·have:=(k.hD _).1 hf;omega
end
theorem qsu(m c:Nat):(usC m c).Ok where
 lt:=fun {h F D S} k l hl=>by
  have k:Us m c h F D S:=k;rcases hl with hl|hl
  ·obtain ⟨_,_,_,hm⟩:=k.fm;rw[(k.hF l).1 hl];exact glt hm
  ·rw[(k.hD l).1 hl];exact glt k.fc
 fr:=fun k hk hM=>Us.fr k hk hM
 lp:=fun {h F D S} k l o ho=>by
  have k:Us m c h F D S:=k;refine ⟨fun hf=>?_,fun hf=>?_⟩
  ·obtain ⟨_,_,_,hm⟩:=k.fm;rw[(k.hF l).1 hf,hm] at ho;cases ho
  ·rw[(k.hD l).1 hf,k.fc] at ho;cases ho
 ce _ _:=trivial
 cm _ _ _ _:=trivial
 cc _ _ _:=trivial
 real:=fun {h F D S} k h'=>⟨F,D,_,Us.use k h' Stam.nil,(Kp.refl _ _).set _ (.inl ((k.hF m).2 rfl)),grow.refl _ _,grow.refl _ _⟩
 en:=.inl ⟨rfl,fun _ _=>rfl,fun _ _ _=>rfl⟩
 nm:=⟨133,[.ptr c 0 0 1],rfl,fun U x w ts tg w' h F D hsc k=>Spec.mono (qpR k x w tg) fun r U' ⟨a,b,c⟩=>⟨a,F,D,b,c,grow.refl _ _,grow.refl _ _⟩⟩
 cl:=rfl
def usto(h:usP.H):List ByteArray:=h
def usZ:usP.H:=([]:List ByteArray)
theorem qsI(sc:Scs)(tg:Bool)(h:usP.H)(k o n m e:Int)(t:ByteArray)(a:List Ex):usto (usP.nmS sc tg h (.mk k o n m e t a))=if Ex.named k=true then usto h++[t] else usto h:=by
 show usto (if Ex.named k=true then _ else _)=_;split <;> rfl
mutual
theorem Ex.hs_us(sc:Scs)(tg:Bool):∀(x:Ex) (h:usP.H),usto (Ex.hs usP sc tg h x)=usto h++Ex.occ x
 | .mk k o n m e t a,h=>by
  rw[Ex.hs,qsI,Ex.hsl_us sc false a h,Ex.occ];split <;> simp
theorem Ex.hsl_us(sc:Scs)(tg:Bool):∀(l:List Ex) (h:usP.H),usto (Ex.hsl usP sc tg h l)=usto h++Ex.occl l
 | [],h=>by simp[Ex.hsl,Ex.occl]
 | x::l,h=>by rw[Ex.hsl,Ex.hsl_us sc tg l,Ex.hs_us sc tg x,Ex.occl,qtN]
end
mutual
theorem Ex.occ_ok:∀(x:Ex),x.ok→∀z,z∈Ex.occ x→z.size≤B50
 | .mk k o n m e t a,v,z,hz=>by
  obtain ⟨h1,h2,h3⟩:=v;rw[Ex.occ] at hz;rcases qtW.1 hz with hz|hz
  ·exact Ex.occl_ok a h3 z hz
  ·split at hz
   ·simp at hz;subst hz;exact h1
   ·simp at hz
theorem Ex.occl_ok:∀(l:List Ex),Ex.okL l→∀z,z∈Ex.occl l→z.size≤B50
 | [],_,z,hz=>by simp[Ex.occl] at hz
 | x::l,⟨h1,h2⟩,z,hz=>by
  rw[Ex.occl] at hz;rcases qtW.1 hz with hz|hz
  ·exact Ex.occ_ok x h1 z hz
  ·exact Ex.occl_ok l h2 z hz
end
mutual
theorem Ex.occ_len:∀(x:Ex),(Ex.occ x).length≤(Pa.ex x).size
 | .mk k o n m e t a=>by
  have h1:=Ex.occl_len a;have hz:=Pa.size_eq (.ex (.mk k o n m e t a));simp only[Pa.own,Pa.kids,Ex.args] at hz;rw[Ex.occ,qtS];split
  ·simp only[List.length_singleton];omega
  ·simp only[quw];omega
theorem Ex.occl_len:∀(l:List Ex),(Ex.occl l).length≤qaB (l.map Pa.ex)
 | []=>by simp[Ex.occl]
 | x::l=>by
  have h1:=Ex.occ_len x;have h2:=Ex.occl_len l;rw[Ex.occl,qtS,qtX,sizes_cons];omega
end
theorem qti(b:Bool)(l:List Ex)(hl:qaB (l.map Pa.ex)≤4000)(S:St):
  Spec prog 74 [.sl b (l.map Ex.v)] S (fun r U=>∃m bs ck,r=.map m∧Stam bs ck∧U[m]?=some (.map (((Ex.occl l).foldl insK []).map kv) bs ck)∧Kp (fun _=>False) S U):=by
 refine Spec.weakA ?_;simp only[V.weakL,V.weak,wEx];refine Spec.intro func74 ok74 (by simp[c74]) ?_;simp[c74,boxS,ldS,stS,qac,qam,qag,evX,qfO,qhA];obtain ⟨B,hB⟩:∃B,B=S.length:=⟨_,rfl⟩;obtain ⟨S1,hS1⟩:∃S1:St,S1=S++[.map [] [] 0,.arr [.map B] 1 1,.arr [.agg [.int .i64 0,.nilfn,.fn (.func 133) [] [.ptr (B+1) 0 0 1],.nilfn]] 4 1]:=⟨_,rfl⟩;rw[←hB,←hS1];have l1:S1.length=B+3:=by rw[hS1,hB];simp
 have b0:S1[B]?=some (.map [] [] 0):=by rw[hS1,hB];simp
 have b1:S1[B+1]?=some (.arr [.map B] 1 1):=by rw[hS1,hB,qtE (by omega)];simp
 have b2:S1[B+2]?=some (.arr [.agg [.int .i64 0,.nilfn,.fn (.func 133) [] [.ptr (B+1) 0 0 1],.nilfn]] 4 1):=by rw[hS1,hB,qtE (by omega)];simp
 have kS:Kp (fun _=>False) S S1:=by rw[hS1];exact (Kp.refl _ _).push _
 have k1:Us B (B+1) [] (fun l=>l=B) (fun l=>l=B+1) S1:=⟨b1,⟨[],0,Stam.nil,b0⟩,fun _=>Iff.rfl,fun _=>Iff.rfl⟩;have hw:Wk (usC B (B+1)) (B+2) 0 ([]:List ByteArray) (fun l=>l=B) (fun l=>l=B+1) S1:=⟨b2,k1,by omega,by omega,trivial⟩;clear hS1 k1;refine qal (qe3 (usC B (B+1)) (qsu _ _) (B+2) l hl 0 ([]:List ByteArray) _ _ S1 .nilp [] false hw rfl) ?_;rintro r U ⟨rfl,F2,D2,k2,s2⟩;have kk:Us B (B+1) (usto (Ex.hsl usP (Scx []) false usZ l)) F2 D2 U:=k2.st;rw[Ex.hsl_us (Scx []) false l usZ] at kk;have he:usto usZ++Ex.occl l=Ex.occl l:=rfl;rw[he] at kk;have h4:=kk.fc;obtain ⟨bs,ck,hst,hm⟩:=kk.fm;simp[ldS,h4];refine qai rfl ⟨B,rfl,bs,ck,hst,hm,⟨qul kS.len s2.k.len,fun l hl hn=>?_⟩⟩;rw[s2.k.get l (by have:=kS.len;omega) (by rintro (hh|hh) <;> omega)];exact kS.get l hl hn
set_option maxRecDepth 20000
def c37:F':=⟨14,[.t 2,.t 3],.k [.o 1 (.box (.t 0)),.a 2 (.sl true []),.a 3 (.int .i64 0)] (.seq (.k [.j 5 7 1,.c 6 90 5,.m 4 6] (.k [.m 7 4,.u 8 .neq 7 0] (.cond (.t 8) (.k [.m 9 4,.a 2 (.sl true []),.m 3 9] .ret) .skip))) (.k [.j 10 7 1,.o 11 (.bsl 7 [(.t 10)]),.c 12 74 11,.c 13 86 12,.m 2 13,.a 3 (.int .i64 0)] .ret))⟩
theorem ok37:okF Tryz.f37 c37:=okI (by kernel_rfl)
def c38:F':=⟨14,[.t 2],.k [.o 1 (.box (.t 0)),.a 2 (.sl true [])] (.k [.o 4 (.build (.agg [(.sl true []),(.sl true []),(.sl true []),(.sl true []),(.sl true []),(.bool false),(.bool false)]) []),.o 5 (.box (.t 4)),.m 3 5] (.k [.m 6 3,.j 7 8 1,.w 8 67 6 7] (.k [.m 9 3,.h 10 9,.f 11 1 10,.l 12 11,.c 13 42 12,.m 2 13] .ret)))⟩
theorem ok38:okF Tryz.f38 c38:=okI (by kernel_rfl)
def c39:F':=⟨14,[.t 2],.k [.o 1 (.box (.t 0)),.a 2 (.sl true [])] (.k [.o 4 (.build (.agg [(.sl true []),(.sl true []),(.sl true []),(.sl true []),(.sl true []),(.bool false),(.bool false)]) []),.o 5 (.box (.t 4)),.m 3 5] (.k [.m 6 3,.j 7 8 1,.w 8 67 6 7] (.k [.m 9 3,.h 10 9,.f 11 0 10,.l 12 11,.c 13 42 12,.m 2 13] .ret)))⟩
theorem ok39:okF Tryz.f39 c39:=okI (by kernel_rfl)
def c41:F':=⟨14,[.t 2],.k [.o 1 (.box (.t 0)),.a 2 (.sl true [])] (.k [.o 4 (.build (.agg [(.sl true []),(.sl true []),(.sl true []),(.sl true []),(.sl true []),(.bool false),(.bool false)]) []),.o 5 (.box (.t 4)),.m 3 5] (.k [.m 6 3,.j 7 7 1,.o 8 (.call (.f 92) [(.t 6),(.t 7),(.c (.sl true []))])] (.k [.m 9 3,.h 10 9,.f 11 1 10,.l 12 11,.c 13 42 12,.m 2 13] .ret)))⟩
theorem ok41:okF Tryz.f41 c41:=okI (by kernel_rfl)
theorem Gs.rdK{w:Nat}{F:Nat→Prop}{xs:List ByteArray}{v:V}{S:St}(h:Gs w F xs v S)(U:St)(hk:Kp (fun _=>False) S U):Rd v xs U:=by
 rcases h with ⟨rfl,rfl⟩|⟨l,wr,h1,h2,rfl,h4,h5⟩
 ·exact Rd.sl true [] U
 ·exact Rd.arr (hk.at h4 id) h5
theorem qs0(s:Sm)(hsz:(Pa.st s).size≤4000)(hn:Sm.nb1 [s]≤4000)(v:(Pa.st s).valid qab=true)(S:St):
  Spec prog 38 [s.v] S (fun r U=>r=.sl false (s.frees.map .str)∧Kp (fun _=>False) S U):=by
 refine Spec.intro func38 ok38 (by simp[c38]) ?_;obtain ⟨S1,hS1⟩:∃S1:St,S1=S++[.arr [s.v] 8 1,wk0 (.sl true [])]:=⟨_,rfl⟩;have b0:S1[S.length]?=some (.arr [s.v] 8 1):=by rw[hS1];simp
 have b2:S1[S.length+1]?=some (wk0 (.sl true [])):=by rw[hS1,qtE (by omega)];simp
 have kS:Kp (fun _=>False) S S1:=by rw[hS1];exact (Kp.refl _ _).push _
 have ld0:ldS S1 (.ptr S.length 0 0 1) (some 8)=some s.v:=by simp[ldS,b0]
 have k1:Rk r0 true true (S.length+1) (.sl true []) [] st0 (fun _=>False) (fun _=>False) S1:=Rk.start b2 (.inl ⟨rfl,rfl⟩) (fun _ h=>h.elim) id;simp[c38,boxS,qag,qam];rw[←hS1];simp[ld0];refine qal (qoV r0 qq0 true true (S.length+1) _ s hsz st0 _ _ S1 k1 (by omega) (by show 0+_≤_;omega)) ?_;rintro r U ⟨rfl,F1,D1,k2,s2⟩
 have kp1:Kp (fun _=>False) S U:=⟨qul kS.len s2.k.len,fun l hl hn=>by
  rw[s2.k.get l (by have:=kS.len;omega) (by rintro (hh|hh);omega;exact hh)];exact kS.get l hl hn⟩
 obtain ⟨vb,vf,w1,w2,w3,w4⟩:=k2.wx;have ldf:ldS U (.ptr (S.length+1) 0 1 1) none=some vf:=by unfold wkO at w1;simp[ldS,w1]
 have hlen:=Sm.rs_len r0 s [qad s.labels 0] (qad s.labels 0).length st0;have h0:st0.free.length=0:=rfl;have q:=qmS vf _ (by omega) U w3.rdK;rw[show (s.rs r0 [qad s.labels 0] (qad s.labels 0).length st0).free.foldl insS []=s.frees from s.rfree_same v] at q;simp[ldf,qa8];refine qal q ?_;rintro r U2 ⟨rfl,k3⟩;simp;exact qai rfl ⟨rfl,kp1.trans k3⟩
theorem qsC(s:Sm)(hsz:(Pa.st s).size≤4000)(hn:Sm.nb1 [s]≤4000)(S:St):
  Spec prog 39 [s.v] S (fun r U=>r=.sl false (s.binds.map .str)∧Kp (fun _=>False) S U):=by
 refine Spec.intro func39 ok39 (by simp[c39]) ?_;obtain ⟨S1,hS1⟩:∃S1:St,S1=S++[.arr [s.v] 8 1,wk0 (.sl true [])]:=⟨_,rfl⟩;have b0:S1[S.length]?=some (.arr [s.v] 8 1):=by rw[hS1];simp
 have b2:S1[S.length+1]?=some (wk0 (.sl true [])):=by rw[hS1,qtE (by omega)];simp
 have kS:Kp (fun _=>False) S S1:=by rw[hS1];exact (Kp.refl _ _).push _
 have ld0:ldS S1 (.ptr S.length 0 0 1) (some 8)=some s.v:=by simp[ldS,b0]
 have k1:Rk r0 true true (S.length+1) (.sl true []) [] st0 (fun _=>False) (fun _=>False) S1:=Rk.start b2 (.inl ⟨rfl,rfl⟩) (fun _ h=>h.elim) id;simp[c39,boxS,qag,qam];rw[←hS1];simp[ld0];refine qal (qoV r0 qq0 true true (S.length+1) _ s hsz st0 _ _ S1 k1 (by omega) (by show 0+_≤_;omega)) ?_;rintro r U ⟨rfl,F1,D1,k2,s2⟩
 have kp1:Kp (fun _=>False) S U:=⟨qul kS.len s2.k.len,fun l hl hn=>by
  rw[s2.k.get l (by have:=kS.len;omega) (by rintro (hh|hh);omega;exact hh)];exact kS.get l hl hn⟩
 obtain ⟨vb,vf,w1,w2,w3,w4⟩:=k2.wx;have ldf:ldS U (.ptr (S.length+1) 0 0 1) none=some vb:=by unfold wkO at w1;simp[ldS,w1]
 have hlen:=s.bounds_len;have q:=qmS vb s.bounds (by omega) U (Gs.rdK w2);rw[s.rbound_same] at q;simp[ldf,qa8];refine qal q ?_;rintro r U2 ⟨rfl,k3⟩;simp;exact qai rfl ⟨rfl,kp1.trans k3⟩
section
variable {nm:ByteArray→Bool} (r:Rp) (z:ByteArray)
mutual
theorem Ex.rs0:∀(x:Ex) (st:Rst),(Pa.ex x).valid nm=true→(z∈(Ex.rs r [] st x).free↔z∈st.free∨z∈Ex.occ x)
 | .mk k o n m e t a,st,v=>by
  have va:=Ex.valid_args v;simp only[Ex.args] at va;have h1:=(Pa.valid_iff.1 v).1;have hu:(ruse r [] t st).free=st.free++[t]:=rfl;have h2:(qbj r [] t st).free=st.free++[t]:=rfl;rw[Ex.rs,Ex.occ,qtW];by_cases h6:k=6
  ·subst h6;have hn:Ex.named 6=true:=rfl;simp[Pa.vOwn,Ex.vOwn] at h1;obtain ⟨⟨⟨⟨_,rfl⟩,rfl⟩,rfl⟩,rfl,rfl⟩:=h1;rw[if_pos rfl,hu,hn,if_pos rfl];simp[Ex.occl]
  ·rw[if_neg h6,Ex.rsl0 a _ va];by_cases h78:k=7∨k=8
   ·have hn:Ex.named k=true:=by unfold Ex.named;rcases h78 with rfl|rfl <;> rfl
    rw[if_pos h78,hn,if_pos rfl,h2,qtW,qtf]
   ·have hn:Ex.named k=false:=by unfold Ex.named;simp;omega
    rw[if_neg h78,hn];simp
theorem Ex.rsl0:∀(l:List Ex) (st:Rst),(∀x,x∈l→(Pa.ex x).valid nm=true)→(z∈(Ex.rsl r [] st l).free↔z∈st.free∨z∈Ex.occl l)
 | [],st,_=>by simp[Ex.rsl,Ex.occl]
 | x::l,st,v=>by
  rw[Ex.rsl,Ex.occl,Ex.rsl0 l _ fun y hy=>v y (by simp[hy]),Ex.rs0 x st (v x (by simp)),qtW,or_assoc]
end
end
def Ex.names(x:Ex):List ByteArray:=qdz ((Ex.occl [x]).foldl insK [])
theorem Ex.names_same(x:Ex)(v:(Pa.ex x).valid qab=true):(x.rs r0 [] st0).free.foldl insS []=x.names:=
 qdK (qbS qvl) fun z=>by
  rw[qcV];refine (Ex.rs0 r0 z x st0 v).trans ?_;simp[st0,Ex.occl]
theorem qo1(x:Ex)(hsz:(Pa.ex x).size≤4000)(v:(Pa.ex x).valid qab=true)(S:St):
  Spec prog 41 [x.v] S (fun r U=>r=.sl false (x.names.map .str)∧Kp (fun _=>False) S U):=by
 refine Spec.intro func41 ok41 (by simp[c41]) ?_;obtain ⟨S1,hS1⟩:∃S1:St,S1=S++[.arr [x.v] 7 1,wk0 (.sl true [])]:=⟨_,rfl⟩;have b0:S1[S.length]?=some (.arr [x.v] 7 1):=by rw[hS1];simp
 have b2:S1[S.length+1]?=some (wk0 (.sl true [])):=by rw[hS1,qtE (by omega)];simp
 have kS:Kp (fun _=>False) S S1:=by rw[hS1];exact (Kp.refl _ _).push _
 have ld0:ldS S1 (.ptr S.length 0 0 1) (some 7)=some x.v:=by simp[ldS,b0]
 have k1:Rk r0 true true (S.length+1) (.sl true []) [] st0 (fun _=>False) (fun _=>False) S1:=Rk.start b2 (.inl ⟨rfl,rfl⟩) (fun _ h=>h.elim) id;simp[c41,boxS,qag,qam];rw[←hS1];simp[ld0];have p:=qlM r0 qq0 true true (S.length+1) (.sl true []) 4000 x hsz (qtJ _) [] st0 _ _ S1 true [] k1 (fun _ h=>by cases h) (by show 0≤_;omega) (by show 0+_≤_;omega);simp only[Scs.flat,qu4] at p;refine qal p ?_;rintro r U ⟨rfl,F1,D1,k2,s2⟩
 have kp1:Kp (fun _=>False) S U:=⟨qul kS.len s2.k.len,fun l hl hn=>by
  rw[s2.k.get l (by have:=kS.len;omega) (by rintro (hh|hh);omega;exact hh)];exact kS.get l hl hn⟩
 obtain ⟨vb,vf,w1,w2,w3,w4⟩:=k2.wx;have ldf:ldS U (.ptr (S.length+1) 0 1 1) none=some vf:=by unfold wkO at w1;simp[ldS,w1]
 have hlen:=Ex.rs_len r0 [] x st0;have h0:st0.free.length=0:=rfl;have q:=qmS vf _ (by omega) U w3.rdK;rw[x.names_same v] at q;simp[ldf,qa8];refine qal q ?_;rintro r U2 ⟨rfl,k3⟩;simp;exact qai rfl ⟨rfl,kp1.trans k3⟩
theorem Ex.names_len(x:Ex):x.names.length≤(Pa.ex x).size:=by
 unfold Ex.names;rw[qbI];have h1:=qdv (l:=Ex.occl [x]) (ks:=[]);have h2:=Ex.occ_len x;simp only[Ex.occl,quG,quw] at h1 ⊢;omega
theorem qsU(x:Ex)(hx:x.ok)(hsz:(Pa.ex x).size≤3900)(S:St):
  Spec prog 37 [x.v] S (fun r U=>r=.tup [.sl (decide ((Pa.ex x).err qab≠0)) ((if (Pa.ex x).err qab=0 then x.names else []).map .str),.int .i64 ((Pa.ex x).err qab)]∧Kp (fun _=>False) S U):=by
 refine Spec.intro func37 ok37 (by simp[c37]) ?_;obtain ⟨S1,hS1⟩:∃S1:St,S1=S++[.arr [x.v] 7 1]:=⟨_,rfl⟩;have b0:S1[S.length]?=some (.arr [x.v] 7 1):=by rw[hS1];simp
 have kS:Kp (fun _=>False) S S1:=by rw[hS1];exact (Kp.refl _ _).push _
 simp[c37,boxS];rw[←hS1];simp[ldS,b0];refine qaj (qsa x hx S1) ?_;by_cases he:(Pa.ex x).err qab=0
 ·simp[he,ldS,b0,Ex.fits1];refine qal (qti true [x] (by simp[sizes_cons,qaB];omega) S1) ?_;rintro r U ⟨m,bs,ck,rfl,hst,hm,kU⟩;simp;refine qal (qlg m _ bs ck U hm hst (qbS qvl) ?_ ?_) ?_
  ·have h1:=x.names_len;unfold Ex.names at h1;rw[qbI] at h1;omega
  ·intro z hz;rw[qcV] at hz;exact qul (Ex.occl_ok [x] ⟨hx,trivial⟩ z (hz.elim (fun h=>by simp at h) id)) (by decide)
  ·rintro r U2 ⟨rfl,rfl⟩;simp;exact qai rfl ⟨rfl,kS.trans kU⟩
 ·simp[he];exact qai rfl ⟨rfl,kS⟩
theorem Sm.frees_len0(s:Sm):s.frees.length≤(Pa.st s).size:=by
 unfold Sm.frees;rw[qbI];have h1:=qdv (l:=fsto (s.wholeH coP coZ)) (ks:=[]);have h2:=s.frees_len;simp only[quw] at h1;omega
theorem Sm.binds_len0(s:Sm):s.binds.length≤Sm.nb1 [s]:=by
 unfold Sm.binds;rw[qbI];have h1:=qdv (l:=s.bounds) (ks:=[]);rw[s.bounds_len] at h1;simp only[quw] at h1;omega
open Classical in
theorem qsP(s:Sm)(x:Ex)(os:s.ok)(ox:x.ok):Fn prog 10 [s.v,x.v] [] (.bool true):=by
 refine Spec.intro func10 ok10 (by simp[c10]) ?_;obtain ⟨S1,hS1⟩:∃S1:St,S1=[.arr [s.v] 8 1,.arr [x.v] 7 1]:=⟨_,rfl⟩;have b0:S1[0]?=some (.arr [s.v] 8 1):=by rw[hS1];rfl
 have b1:S1[1]?=some (.arr [x.v] 7 1):=by rw[hS1];rfl
 have d0:ldS S1 (.ptr 0 0 0 1) (some 8)=some s.v:=by simp[ldS,b0]
 have d1:ldS S1 (.ptr 1 0 0 1) (some 7)=some x.v:=by simp[ldS,b1]
 have ld:∀{U:St},Kp (fun _=>False) S1 U→ldS U (.ptr 0 0 0 1) (some 8)=some s.v∧ldS U (.ptr 1 0 0 1) (some 7)=some x.v:=fun k=>by
  have c0:=k.at b0 id;have c1:=k.at b1 id;simp[ldS,c0,c1]
 simp[c10,boxS];rw[←hS1];simp[d0];refine qaj (qsO s os S1) ?_
 cases la:s.light with
 | false=>
  simp;refine qaj (qfU S1) ?_;simp;exact qaa rfl rfl rfl
 | true=>
 have q26:Fn prog 26 [.sl true [x.v]] S1 (.bool (decide (0<Ex.leftL [x] 0 60))):=Spec.weakA (by
  have:=qtn [x] (by simp[B50]) ⟨ox,trivial⟩ S1;simpa[V.weakL,V.weak,Ex.v_weak] using this)
 simp[d1,Ex.fits1];refine qaj q26 ?_;by_cases hx:0<Ex.leftL [x] 0 60
 case neg=>
  simp[hx];refine qaj (qfU S1) ?_;simp;exact qaa rfl rfl rfl
 have zs:=qfS la;have ns:=qsj la
 have zx:(Pa.ex x).size<60:=by
  have:=Ex.leftL_size [x] 0 60 hx;have h0:qaB []=0:=rfl;rw[qtX,qu4,sizes_cons,h0] at this;omega
 simp[hx,d0];refine qal (qtl s os (by omega) (by omega) S1) ?_;rintro r U1 ⟨rfl,k1⟩;obtain ⟨p0,p1⟩:=ld k1;simp[p0];refine qal (qta s os (by omega) (by omega) U1) ?_;rintro r U2 ⟨rfl,k2⟩;have k2:=k1.trans k2;obtain ⟨p0,p1⟩:=ld k2;simp[p1];refine qal (qsU x ox (by omega) U2) ?_;rintro r U3 ⟨rfl,k3⟩;have k3:=k2.trans k3;obtain ⟨p0,p1⟩:=ld k3;simp[p0];refine qaj (qrX s os U3) ?_;have lf:=s.frees_len0;have lb:=s.binds_len0;have lx:=x.names_len;by_cases es:(Pa.st s).err qab=0
 case neg=>
  simp[es,p1,qaz (n:=0) (by omega) (by omega)];refine qaj (qoW x ox U3) ?_;by_cases ex:(Pa.ex x).err qab=0
  case neg=>
   simp[ex];refine qaj (qfU U3) ?_;simp;exact qaa rfl rfl rfl
  simp[ex];refine qaj (qfU U3) ?_;simp[p1];refine qal (qo1 x (by omega) (qd3 ex).2 U3) ?_;rintro r U4 ⟨rfl,k4⟩;simp;refine qaj (qgu _ _ x.names x.names (by omega) (by omega) U4) ?_;simp;exact qaa rfl rfl rfl
 simp[es,p0];refine qal (qs0 s (by omega) (by omega) (qd3 es).2 U3) ?_;rintro r U4 ⟨rfl,k4⟩;have k4:=k3.trans k4;obtain ⟨p0,p1⟩:=ld k4;simp;refine qaj (qgu _ _ s.frees s.frees (by omega) (by omega) U4) ?_;simp[p0];refine qal (qsC s (by omega) (by omega) U4) ?_;rintro r U5 ⟨rfl,k5⟩;have k5:=k4.trans k5;obtain ⟨p0,p1⟩:=ld k5;simp;refine qaj (qgu _ _ s.binds s.binds (by omega) (by omega) U5) ?_;simp[p1];refine qaj (qoW x ox U5) ?_;by_cases ex:(Pa.ex x).err qab=0
 case neg=>
  simp[ex];refine qaj (qfU U5) ?_;simp;exact qaa rfl rfl rfl
 simp[ex];refine qaj (qfU U5) ?_;simp[p1];refine qal (qo1 x (by omega) (qd3 ex).2 U5) ?_;rintro r U6 ⟨rfl,k6⟩;simp;refine qaj (qgu _ _ x.names x.names (by omega) (by omega) U6) ?_;simp;exact qaa rfl rfl rfl
end Go.Proofs.YtbifpocccfkhhaaGreatDoor
namespace Go.Proofs.YtbifpocccfkhhaaGreatDoor.copyNames
open Go Go.ChangeShapes Go.WideShapes Go.ChangeAt Go.RowKit
set_option maxRecDepth 100000
theorem own:ownKnob Tryz.prog.godebug=none:=by kernel_rfl
theorem contract(H:Type)(enc:TypeId×Value→H)(W:World)(base:Nat)(args:Array Value)(ds gs:List (DataW H))(before:List MemPlace)
  (hval:∀(j:Nat) t v,Tryz.f10.params[j]?=some t→args[j]?=some v→Value.okWide Tryz.prog W .any base t v)
  (hW:DataW.Whole enc Tryz.prog Tryz.f10.params.toList Rows.copyNamesSpec.vars false W args.toList ds gs before)
  (hwt:(DataW.weightsEach Tryz.prog (Tryz.f10.params.toList++(OpenSpec.ofChange Rows.copyNamesSpec).bare.plain.varTypes Tryz.prog) (ds++gs)).all (·≤reachBytes)=true) (hL:laidMetH Tryz.prog Rows.copyNamesRow.laid W):
  Calls Tryz.prog 10 args W fun e W'=>∃v,e=.returned v∧Rows.copyNamesSpec.post enc Tryz.prog Tryz.f10 false true false false W args v W':=by
 have hW':=hW;obtain ⟨p,q,hA0,hV,rfl,hfz,hnd⟩:=hW;have hA:DataW.TrodAll enc Tryz.prog W 0 (fun _=>true) true Tryz.f10.params.toList args.toList ds p:=hA0;rw[Tryz.params10] at hA hval hwt;obtain ⟨v0,vs0,d0,ds0,p0,q0,hv0,hd0,h0,hA0⟩:=trodAll_cons hA;obtain ⟨v1,vs1,d1,ds1,p1,q1,hv1,hd1,h1,hA1⟩:=trodAll_cons hA0;obtain ⟨hve,hde⟩:=trodAll_nil hA1;have hds:ds=[d0,d1]:=by rw[hd0,hd1,hde]
 have hargs:args=#[v0,v1]:=by
  apply qvx.1;rw[hv0,hv1,hve]
 subst hds hargs;obtain ⟨rfl,rfl⟩:=trodVars_none hV;rw[quG] at hwt;obtain ⟨a0,o0,r0⟩:=stmt_in (hval 0 28 v0 rfl rfl) h0 (fitw_of hwt (i:=0) rfl rfl);obtain ⟨a1,o1,r1⟩:=exp_in (hval 1 54 v1 rfl rfl) h1 (fitw_of hwt (i:=1) rfl rfl);refine law_of (qsP a0 a1 o0 o1) (SR.start hL) ⟨rfl,fun i v u hv hu=>?_⟩ (by kernel_rfl) rfl rfl hW' rfl
 match i,hv,hu with
 | 0,hv,hu=>cases hv;cases hu;exact r0
 | 1,hv,hu=>cases hv;cases hu;exact r1
noncomputable def laidWorld(os:Os):World:=
 let N:=(World.settled Tryz.prog os).heap.size
 let w0:=World.holding Tryz.prog os ⟨#[.cells (#[9,13,1,32,133,101,160,5760,5600,8192,8202,1,8232,8233,1,8239,8287,48,12288,12288,1].map fun (z:Nat)=>Value.int .u16 (z:Int)) 279,.cells #[.slice (some ⟨N,0,none⟩) 7 7,.slice none 0 0,.int .i64 2] 276],#[],[]⟩
 let put (h:Array Obj) (g:Nat) (cs:Array Value):Array Obj:=h.modify g fun
  | .cells _ t frozen=>.cells cs t frozen
  | o=>o
 let h1:=put w0.heap 0 (Lib.asciiSpaceTab.map fun z=>Value.int .u8 z).toArray
 let h2:=put h1 1 #[.pointer (some ⟨N+1,0,none⟩)]
 let h3:=put h2 2 (Lib.pow10Tab.map fun z=>Value.int .u64 z).toArray
 let h4:=put h3 3 (#[0,1,28,2,29,14,24,3,30,22,20,15,25,17,4,8,31,27,13,23,21,19,16,7,26,12,18,6,11,5,10,9].map fun (z:Nat)=>Value.int .u8 (z:Int))
 let h5:=put h4 4 (#[0,1,56,2,57,49,28,3,61,58,42,50,38,29,17,4,62,47,59,36,45,43,51,22,53,39,33,30,24,18,12,5,63,55,48,27,60,41,37,16,46,35,44,21,52,32,23,11,54,26,40,15,34,20,31,10,25,14,19,9,13,8,7,6].map fun (z:Nat)=>Value.int .u8 (z:Int))
 { w0 with heap:=h5 }
def wArgs:Array Value:=#[.agg #[.slice none 0 0,.int .i64 0,.string ⟨#[]⟩,.slice none 0 0,.slice none 0 0,.slice none 0 0,.slice none 0 0,.slice none 0 0],.agg #[.int .i64 0,.int .i64 0,.int .i64 0,.int .i64 0,.int .i64 0,.string ⟨#[]⟩,.slice none 0 0]]
theorem laid_met(os:Os):laidMet Tryz.prog Rows.copyNamesRow.laid ((laidWorld os).forCall (fun _ _=>0) ⟨#[],wArgs,[]⟩).memory:=
 laidMet_of_run' 10 (by kernel_rfl) (by kernel_rfl)
theorem reads(os:Os){H:Type}(enc:TypeId×Value→H):∃places,DataW.whole enc Tryz.prog ((laidWorld os).forCall (fun _ _=>0) ⟨#[],wArgs,[]⟩).memory Tryz.f10.params.toList Rows.copyNamesSpec.vars false wArgs.toList 8=some ([.agg [.nil,.lit (.int .i64 0),.lit (.string []),.nil,.nil,.nil,.nil,.nil],.agg [.lit (.int .i64 0),.lit (.int .i64 0),.lit (.int .i64 0),.agg [.lit (.int .i64 0),.lit (.int .i64 0)],.lit (.string []),.nil]],[],places):=
 ⟨[],by kernel_rfl⟩
theorem lifted(os:Os)(started:os.Started)(H:Type)(enc:TypeId×Value→H)(F:Stop.Interp):
  ReturnsInHanded {} Tryz.checked os 10 .any ((OpenSpec.ofChange Rows.copyNamesSpec).preRow enc Tryz.prog Tryz.f10 Rows.copyNamesRow.domain false Rows.copyNamesRow.laid) (((OpenSpec.ofChange Rows.copyNamesSpec).at F).post enc Tryz.prog Tryz.f10 false true false false):=by
 obtain ⟨places,hx⟩:=reads os enc;refine returnsInHanded_of_row (C:=Tryz.checked) (s:=OpenSpec.ofChange Rows.copyNamesSpec) own started (by kernel_rfl) Tryz.func10
  (witness_row_atRef (enc:=enc) (C:=Tryz.checked) false (laidWorld os) wArgs rfl (by kernel_rfl) (by kernel_rfl) (by kernel_rfl)
   (OpenSpec.preRow_of_cond 8 hx (by kernel_rfl) (fun k hk=>by cases hk) (by kernel_rfl) (laid_met os))) ?_
 intro W base args ds gs before hval hW _ _ hwt hL _ _;exact contract H enc W base args ds gs before hval hW hwt hL
theorem andT{a b:Bool}(ha:a=true)(hb:b=true):(a && b)=true:=by rw[ha,hb];rfl
theorem fact1:Rows.copyNamesRow.wf (OpenSpec.ofChange (OpenSpec.ofChange Rows.copyNamesSpec).bare)=true:=by kernel_rfl
theorem fact2:laidOutB Tryz.prog=true:=by kernel_rfl
theorem fact3:mapsRowed Tryz.prog=true:=by kernel_rfl
theorem fact4:Tryz.f10.params.all (Tryz.prog.readableRec ·)=true:=by kernel_rfl
theorem fact5:namedTie Tryz.prog Rows.copyNamesRow.named (OpenSpec.ofChange Rows.copyNamesSpec).bare.vars=true:=by kernel_rfl
theorem fact6:(Rows.copyNamesRow.stops==[])=true:=by kernel_rfl
theorem fact7:(Tryz.prog.stops==[])=true:=by kernel_rfl
theorem fact8:(Rows.copyNamesRow.knobs==[])=true:=by kernel_rfl
theorem fact9:(Tryz.prog.stopKnobs==[])=true:=by kernel_rfl
theorem fact10:(Rows.copyNamesRow.inPlace==Tryz.prog.inPlace 10)=true:=by kernel_rfl
theorem fact11:(Rows.copyNamesRow.unfollowed==Tryz.prog.unfollowed 10)=true:=by kernel_rfl
theorem fact12:(Rows.copyNamesRow.recurses==Tryz.prog.recurses 10)=true:=by kernel_rfl
theorem fact13:(Rows.copyNamesRow.named==Tryz.prog.varsNamed 10)=true:=by kernel_rfl
theorem fact14:(Rows.copyNamesRow.maps==(Tryz.f10.params.toList++(OpenSpec.ofChange Rows.copyNamesSpec).bare.plain.varTypes Tryz.prog).any (Tryz.prog.mapsRec ·))=true:=by kernel_rfl
theorem fact15:(Rows.copyNamesRow.ifaces==(Tryz.f10.params.toList++(OpenSpec.ofChange Rows.copyNamesSpec).bare.plain.varTypes Tryz.prog).any (Tryz.prog.ifacesRec ·))=true:=by kernel_rfl
theorem fact16:(Rows.copyNamesRow.mapsOut==Tryz.prog.mapsAmong Tryz.f10.resultTypes.toList)=true:=by kernel_rfl
theorem fact17:(Rows.copyNamesRow.loops==(Tryz.f10.params.toList++(OpenSpec.ofChange Rows.copyNamesSpec).bare.plain.varTypes Tryz.prog).any (Tryz.prog.loopsFrom ·))=true:=by kernel_rfl
theorem fact18:(Rows.copyNamesRow.wideKeys==((Tryz.f10.params.toList++(OpenSpec.ofChange Rows.copyNamesSpec).bare.plain.varTypes Tryz.prog)++Tryz.f10.resultTypes.toList).any (Tryz.prog.wideKeysFrom ·))=true:=by kernel_rfl
theorem fact19:(OpenSpec.ofChange Rows.copyNamesSpec).bare.vars.all (Tryz.prog.varReadable ·)=true:=by kernel_rfl
theorem fact20:Tryz.f10.resultTypes.all (fun t=>Tryz.prog.readableRec t && decide (t<Tryz.prog.types.size))=true:=by kernel_rfl
theorem fact21:(Rows.copyNamesRow.ifacesOut==Tryz.f10.resultTypes.toList.any (Tryz.prog.ifacesRec ·))=true:=by kernel_rfl
theorem fact22:(Rows.copyNamesRow.loopsOut==Tryz.f10.resultTypes.toList.any (Tryz.prog.loopsFrom ·))=true:=by kernel_rfl
theorem fact23:(Rows.copyNamesRow.plainKeys==Tryz.prog.plainKeys)=true:=by kernel_rfl
theorem fact24:Rows.copyNamesRow.shortTexts.isNone=true:=by kernel_rfl
theorem fact25:Tryz.prog.stopsHeard=true:=by kernel_rfl
theorem fact26:Tryz.prog.mayEnter=true:=by kernel_rfl
theorem fact27:(Rows.copyNamesRow.lifted==Tryz.prog.liftsFinal)=true:=by kernel_rfl
theorem fact28:(Tryz.prog.make==some Rows.copyNamesRow.make)=true:=by kernel_rfl
theorem fact29:(Rows.copyNamesRow.kinds==(if Rows.copyNamesRow.domain.isEmpty then [] else Tryz.f10.params.toList.map fun t=>match Tryz.prog.underlying t with|some (.int k)=>some k|_=>none))=true:=by kernel_rfl
theorem fact30:(Rows.copyNamesRow.pinned==Rows.copyNamesRow.pinnedBy)=true:=by kernel_rfl
theorem fact31:(Rows.copyNamesRow.veiled==((Tryz.f10.params.toList++(OpenSpec.ofChange Rows.copyNamesSpec).bare.plain.varTypes Tryz.prog)++Tryz.f10.resultTypes.toList).any (Tryz.prog.veiledRec ·))=true:=by kernel_rfl
theorem fact32:Rows.copyNamesRow.veiledFits Tryz.prog Tryz.f10.params.toList ((Tryz.f10.params.toList++(OpenSpec.ofChange Rows.copyNamesSpec).bare.plain.varTypes Tryz.prog)++Tryz.f10.resultTypes.toList)=true:=by kernel_rfl
theorem facts:joinedFacts Tryz.pinned.checked.prog 10 Tryz.f10 (OpenSpec.ofChange Rows.copyNamesSpec).bare Rows.copyNamesRow=true:=(andT (andT (andT (andT (andT (andT (andT (andT (andT (andT (andT (andT (andT (andT (andT (andT (andT (andT (andT (andT (andT (andT (andT (andT (andT (andT (andT (andT (andT (andT (andT fact1 fact2) fact3) fact4) fact5) fact6) fact7) fact8) fact9) fact10) fact11) fact12) fact13) fact14) fact15) fact16) fact17) fact18) fact19) fact20) fact21) fact22) fact23) fact24) fact25) fact26) fact27) fact28) fact29) fact30) fact31) fact32)
theorem name10:Tryz.pinned.checked.prog.funcNamed Rows.copyNamesRow.func=some 10:=by kernel_rfl
theorem inst10:Tryz.f10.isInstance Tryz.pinned.checked.prog Rows.copyNamesRow.origin Rows.copyNamesRow.targs:=of_decide_eq_true (by kernel_rfl)
theorem wrap10:Tryz.f10.isWrapper Tryz.pinned.checked.prog Rows.copyNamesRow.wrapper Rows.copyNamesRow.mainSum:=by unfold Func.isWrapper;first|(rw[if_pos (by decide+kernel)];kernel_rfl)|(rw[if_neg (by decide+kernel)];exact ⟨rfl,rfl⟩)
theorem said:Rows.CopyNamesSaid:=
 OpenClaim.holds_of_cond 10 Tryz.f10 rfl rfl rfl rfl rfl rfl rfl ⟨rfl,rfl,rfl,rfl,rfl⟩ rfl rfl rfl rfl rfl name10 Tryz.func10 facts inst10 wrap10
  (fun os started H enc _ F=>by rw[OpenClaim.pre_eq_preRow];exact lifted os started H enc F)
theorem looksT:false=Tryz.pinned.checked.prog.looks []:=by kernel_rfl
theorem stand28:Tryz.prog.wantsStandIn 28=false:=by kernel_rfl
theorem stand54:Tryz.prog.wantsStandIn 54=false:=by kernel_rfl
theorem named10 : Tryz.prog.funcNamed "manorboy/manorboylaw09.CopyNames" = some 10 := by kernel_rfl
theorem plain (f : FuncId) (fn : Func) (hf : Tryz.pinned.checked.prog.funcNamed "manorboy/manorboylaw09.CopyNames" = some f) (hfn : Tryz.pinned.checked.prog.funcs[f]? = some fn) :
  false=Tryz.pinned.checked.prog.looks []∧∀(j:Nat) t,fn.params[j]?=some t→Tryz.pinned.checked.prog.wantsStandIn t=false:=by
 obtain rfl:f=10:=Option.some.inj (named10.symm.trans hf) |>.symm;obtain rfl:fn=Tryz.f10:=(Option.some.inj (Tryz.func10.symm.trans hfn)).symm;refine ⟨looksT,fun j t ht=>?_⟩;rw[Tryz.params10] at ht;have:t=28∨t=54:=by simpa using Array.mem_of_getElem? ht
 rcases this with rfl|rfl
 ·exact stand28
 ·exact stand54
theorem wfText:Rows.copyNamesRow.wfByText (OpenSpec.ofChange Rows.copyNamesSpec)=true:=by kernel_rfl
theorem mainT:Tryz.pinned.checked.prog.mainIs=some (Rows.copyNamesCard.stood.harness.1,Rows.copyNamesCard.stood.harness.2.toList):=by kernel_rfl
theorem goesT:false=Rows.copyNamesRow.goesBy Tryz.pinned.checked.prog:=by kernel_rfl
theorem card:Rows.CopyNamesCardSaid:=
 Claim7.holds_tied_plain_at .later [] _ _ _ _ said (fun _ h=>by cases h) wfText (fun _ h=>by cases h) copyNames_row_tie rfl ⟨rfl,rfl⟩ mainT rfl plain goesT
end Go.Proofs.YtbifpocccfkhhaaGreatDoor.copyNames
namespace Go.Proofs.YtbifpocccfkhhaaGreatDoor
theorem copyNames_holds:Rows.CopyNamesCardSaid:=copyNames.card
end Go.Proofs.YtbifpocccfkhhaaGreatDoor
end
