/- A part. -/
import Derived.Test.YtbifpocccfkhhaaGreatDoorUm
set_option linter.all false
noncomputable section
namespace Go.Proofs.YtbifpocccfkhhaaGreatDoor
open Go Go.Proofs.Tryz
def sE(s:Sm)(l:List Bz)(xs:List Ex):Int:=if (Pa.st s).err qb≠0 then (Pa.st s).err qb else if prE l xs≠0 then prE l xs else suE s l (l.zip xs)
def sV(s:Sm)(l:List Bz)(xs:List Ex):V:=if sE s l xs=0 then (suO s l (l.zip xs)).v else smZ
theorem qe0(s:Sm)(hs:s.ok)(hsz:(Pa.st s).size≤4000)(b b':Bool)(l:List Bz)(xs:List Ex)(hl:l.length≤1000)(hx:xs.length≤1000)(hz:∀x,x∈xs→(Pa.ex x).size≤4000)(ho:∀x,x∈xs→x.ok)
  (hfr:s.frees.length+Sm.nb1 [s]+(suT l (l.zip xs)).length≤899) (S:St):
  qv prog 32 [s.v,.sl b (l.map .str),.sl b' (xs.map Ex.v)] S (fun r U=>r=.tup [sV s l xs,.int .i64 (sE s l xs)]∧Kp (fun _=>False) S U):=by
 refine qv.ib func32 ok32 ?_;obtain ⟨S1,hS1⟩:∃S1:St,S1=S++[.arr [s.v] 8 1,.arr [smZ] 8 1]:=⟨_,rfl⟩;have b0:S1[S.length]?=some (.arr [s.v] 8 1):=by rw[hS1];simp
 have b1:S1[S.length+1]?=some (.arr [smZ] 8 1):=by rw[hS1,qqy (by omega)];simp
 have kS:Kp (fun _=>False) S S1:=by rw[hS1];exact (Kp.refl _ _).push _
 have d0:ldS S1 (.ptr S.length 0 0 1) (some 8)=some s.v:=by simp[ldS,b0]
 have he:sE s l xs=if (Pa.st s).err qb≠0 then (Pa.st s).err qb else if prE l xs≠0 then prE l xs else suE s l (l.zip xs):=rfl
 have hv:sV s l xs=if sE s l xs=0 then (suO s l (l.zip xs)).v else smZ:=rfl
 have fin:∀(Y:St) (y:V) (e:Int) (ev:Env),Kp (fun _=>False) S1 Y→sV s l xs=y→sE s l xs=e→ev.get 6=some (.ptr (S.length+1) 0 0 1)→ev.get 7=some (.int .i64 e)→V.part y 0 (some 8)=some y→
   jH [.cell 6 (some 8),.t 7] S.length (fun r U=>r=.tup [sV s l xs,.int .i64 (sE s l xs)]∧Kp (fun _=>False) S U) .ret ev (Y.set (S.length+1) (.arr [y] 8 1)):=fun Y y e ev kY hy he g6 g7 hp=>by
  have h1:=kY.at b1 id;have h2:(Y.set (S.length+1) (.arr [y] 8 1))[S.length+1]?=some (.arr [y] 8 1):=qqz (glt h1);exact qg (vs:=[y,.int .i64 e]) (by simp[rvs,g6,g7,ldS,h2,hp]) ⟨by rw[hy,he];rfl,(kS.trans kY).set _ (.inr (by omega))⟩
 simp[c32,qE];rw[←hS1];simp[d0];refine qe (jY s hs S1) ?_;by_cases h0:(Pa.st s).err qb=0
 case neg=>
  rw[if_pos h0] at he;rw[he,if_neg h0] at hv;simp[h0,qD,qH,stS,b1,qi];refine fin _ smZ _ _ (Kp.refl _ _) hv he ?_ ?_ rfl <;> simp
 rw[if_neg (by rw[h0];simp)] at he;have va:=(qk h0).2;simp[h0];refine qh (qnV b b' l xs hl hx ho S1) ?_;rintro r U ⟨kU,⟨hp,rfl⟩|⟨hp,m,bs,ck,hm,rfl,hst,hmU⟩⟩
 ·have c1:=kU.at b1 id;rw[if_pos hp] at he;rw[he,if_neg hp] at hv;simp[hp,qD,qH,stS,c1,qi];refine fin _ smZ _ _ kU hv he ?_ ?_ rfl <;> simp
 ·rw[if_neg (by rw[hp];simp)] at he;have c0:=kU.at b0 id;have dU:ldS U (.ptr S.length 0 0 1) (some 8)=some s.v:=by simp[ldS,c0]
  simp[dU];refine qh (qnP s hs va hsz b l (l.zip xs) hl (fun e he=>hz _ (List.of_mem_zip (a:=e.1) (b:=e.2) he).2) (fun e he=>ho _ (List.of_mem_zip (a:=e.1) (b:=e.2) he).2) hfr m bs ck hst.1 hst.2 U hmU) ?_;rintro r U2 ⟨rfl,kU2⟩;have c1:=(kU.trans kU2).at b1 id;have hvv:sV s l xs=suV s l (l.zip xs):=by rw[hv,he];rfl
  obtain ⟨y,hy⟩:∃y,y=suV s l (l.zip xs):=⟨_,rfl⟩
  have hyp:V.part y 0 (some 8)=some y∧V.upd smZ 0 8 y=some y:=by
   rw[hy];unfold suV;split
   ·exact ⟨ZS _,by unfold smZ;rw[qi];simp⟩
   ·exact ⟨rfl,rfl⟩
  have hy2:=hyp.2;unfold smZ at hy2 c1;rw[←hy];simp[stS,c1,hy2];refine fin _ y _ _ (kU.trans kU2) (hvv.trans hy.symm) he ?_ ?_ hyp.1 <;> simp
mutual
theorem Ex.occ_nm{nm:Bz→Bool}:∀x:Ex,(Pa.ex x).valid nm=true→∀z,z∈x.occ→nm z=true
 | .mk k o n m e t a,v,z,hz=>by
  have va:=Ex.valid_args v;simp only[Ex.args] at va;rw[Ex.occ] at hz;rcases qqE.1 hz with hz|hz
  ·exact Ex.occl_nm a va z hz
  ·split at hz
   ·rename_i hn;simp at hz;rw[hz];exact Ex.valid_text v hn
   ·cases hz
theorem Ex.occl_nm{nm:Bz→Bool}:∀l:List Ex,(∀x,x∈l→(Pa.ex x).valid nm=true)→∀z,z∈Ex.occl l→nm z=true
 | [],_,z,hz=>by rw[Ex.occl] at hz;cases hz
 | x::l,v,z,hz=>by
  rw[Ex.occl] at hz;rcases qqE.1 hz with hz|hz
  ·exact Ex.occ_nm x (v x (by simp)) z hz
  ·exact Ex.occl_nm l (fun y hy=>v y (by simp[hy])) z hz
end
theorem Ex.occ_one{nm:Bz→Bool}{x:Ex}(v:(Pa.ex x).valid nm=true)(h:x.kind=6):x.occ=[x.text]:=by
 cases x with
 | mk k o n m e t a=>
  simp only[Ex.kind] at h;subst h;have h1:=(Pa.valid_iff.1 v).1;simp[Pa.vOwn,Ex.vOwn] at h1;have ha:a=[]:=by simp[h1]
  subst ha;rw[Ex.occ,if_pos (by rfl),Ex.occl];rfl
theorem Sm.free_ev{nm:Bz→Bool}(s:Sm)(v:(Pa.st s).valid nm=true){x:Bz}(h:x∈s.frees):∃e,e∈s.evs∧e.2.at e.1=none∧e.1=x:=by
 rw[Sm.mem_frees,Sm.fsto_evs s v] at h;obtain ⟨e,he,hx⟩:=qrL.1 h;unfold frO at hx;split at hx
 ·rename_i hn;simp at hx;exact ⟨e,he,hn,hx.symm⟩
 ·cases hx
theorem Yv{g:Nat→Bz}{e:Oc}(h:e.2.at e.1=none):zn g e.2 e.1=e.1:=by unfold zn;rw[h]
theorem Sm.frees_occ(s:Sm)(v:(Pa.st s).valid qb=true)(z:Bz):z∈s.frees↔qb z=true∧z∈(s.whole zm).occ:=by
 rw[Sm.mem_frees,Sm.free_occ (f:=zm) Qf s v,qrv,and_comm]
section
variable {s:Sm} {es:List Ae} (va:(Pa.st s).valid qb=true) (he:∀e,e∈es→qb e.1=true∧(Pa.ex e.2).valid qb=true)
include va he
theorem qiM(k:Nat):lkL es (zm k)=none:=by
 cases h:lkL es (zm k) with
 | none=>rfl
 | some y=>
  have:=(he _ (Ql h)).1;rw[Qf] at this;cases this
theorem Sm.frees_sb{t:Sm}(vt:(Pa.st t).valid qb=true)(ht:t.whole zm=(s.whole zm).sb (lkL es))(hb:(s.whole zm).sbad (lkL es)=false)(z:Bz):
  z∈t.frees↔(z∈s.frees∧lkL es z=none)∨∃y a,y∈s.frees∧lkL es y=some a∧z∈a.occ:=by
 rw[t.frees_occ vt,ht,Sm.occ_whole (lk:=lkL es) (fun x y h h6=>Ex.occ_one (he _ (Ql h)).2 h6) s va hb,qrL];constructor
 ·rintro ⟨hz,e,hev,hm⟩;unfold ocO at hm
  cases hs:e.2.at e.1 with
  | some k=>
   have hr:zn zm e.2 e.1=zm k:=by unfold zn;rw[hs]
   rw[hr,qiM va he] at hm;simp at hm;rw[hm,Qf] at hz;cases hz
  | none=>
   rw[Yv hs] at hm;have hf:=s.ev_free va hev hs
   cases hy:lkL es e.1 with
   | none=>
    rw[hy] at hm;simp at hm;rw[hm];exact .inl ⟨hf,hy⟩
   | some a=>
    rw[hy] at hm;exact .inr ⟨e.1,a,hf,hy,hm⟩
 ·rintro (⟨hz,hn⟩|⟨y,a,hy,hl,hz⟩)
  ·obtain ⟨e,h1,h2,h3⟩:=s.free_ev va hz;refine ⟨s.frees_nm va hz,e,h1,?_⟩;unfold ocO;rw[Yv h2,h3,hn];simp
  ·obtain ⟨e,h1,h2,h3⟩:=s.free_ev va hy;refine ⟨Ex.occ_nm a (he _ (Ql hl)).2 z hz,e,h1,?_⟩;unfold ocO;rw[Yv h2,h3,hl];exact hz
end
set_option maxRecDepth 20000
noncomputable def c37:F':=⟨14,[.t 2,.t 3],.k [.B 1 0,.a 2 (.sl true []),.G 3 0] (.seq (.k [.j 5 7 1,.c 6 90 5,.m 4 6] (.k [.m 7 4,.u 8 .neq 7 0] (.d 8 (.k [.m 9 4,.a 2 (.sl true []),.m 3 9] .ret) .skip))) (.k [.j 10 7 1,.o 11 (.bsl 7 [(.t 10)]),.c 12 74 11,.c 13 86 12,.m 2 13,.G 3 0] .ret))⟩
theorem ok37:okF f37 c37:=okI
section
variable {nm:Bz→Bool} (r:Rp) (z:Bz)
end
def Ex.names(x:Ex):List Bz:=ZM ((Ex.occl [x]).foldl yC [])
theorem Ex.names_len(x:Ex):x.names.length≤(Pa.ex x).size:=by
 unfold Ex.names;rw[zN];have h1:=z7 (l:=Ex.occl [x]) (ks:=[]);have h2:=Ex.occ_len x;simp only[Ex.occl,qrC,qri] at h1 ⊢;omega
theorem qoy(x:Ex)(hx:x.ok)(hsz:(Pa.ex x).size≤3900)(S:St):
  qv prog 37 [x.v] S (fun r U=>r=.tup [.sl (decide ((Pa.ex x).err qb≠0)) ((if (Pa.ex x).err qb=0 then x.names else []).map .str),.int .i64 ((Pa.ex x).err qb)]∧Kp (fun _=>False) S U):=by
 refine qv.ib func37 ok37 ?_;obtain ⟨S1,hS1⟩:∃S1:St,S1=S++[.arr [x.v] 7 1]:=⟨_,rfl⟩;have b0:S1[S.length]?=some (.arr [x.v] 7 1):=by rw[hS1];simp
 have kS:Kp (fun _=>False) S S1:=by rw[hS1];exact (Kp.refl _ _).push _
 simp[c37,qE];rw[←hS1];simp[ldS,b0];refine qe (qjf x hx S1) ?_;by_cases he:(Pa.ex x).err qb=0
 ·simp[he,ldS,b0,Ex.fits1];refine qh (qjx true [x] (by simp[sizes_cons,qA];omega) S1) ?_;rintro r U ⟨m,bs,ck,rfl,hst,hm,kU,_⟩;simp;refine qh (qg0 m _ bs ck U hm hst.1 (Qi qsz) ?_ ?_) ?_
  ·have h1:=x.names_len;unfold Ex.names at h1;rw[zN] at h1;omega
  ·intro z hz;rw[yd] at hz;exact qra (Ex.occl_ok [x] ⟨hx,trivial⟩ z (hz.elim (fun h=>by simp at h) id)) (by decide)
  ·rintro r U2 ⟨rfl,rfl⟩;simp;exact qg rfl ⟨rfl,kS.trans kU⟩
 ·simp[he];exact qg rfl ⟨rfl,kS⟩
theorem qm5{x y:Bz}(h:ltB x y):x≠y:=fun e=>qml y (e ▸ h)
theorem qbQ{ks:List Bz}(nd:ks.Nodup):(ZM ks).Nodup:=(qeB nd).imp fun h=>qm5 h
theorem Sm.frees_nodup(s:Sm):s.frees.Nodup:=qbQ (Qi qsz)
theorem ZT{y:Bz}{x:Ex}:prE [y] [x]=0↔qb y=true∧(Pa.ex x).err qb=0:=by
 unfold prE JI qhw qhw;by_cases h:qb y=true
 ·by_cases g:(Pa.ex x).err qb=0 <;> simp[h,g]
 ·have:qb y=false:=by simpa using h
  simp[this]
theorem qaF{s:Sm}{l:List Bz}{xs:List Ex}(h:sE s l xs=0):(Pa.st s).err qb=0∧prE l xs=0∧(Pa.st (suA s l (l.zip xs))).err qb=0∧suF s l (l.zip xs)=false∧(Pa.st (suO s l (l.zip xs))).err qb=0:=by
 unfold sE at h;by_cases h0:(Pa.st s).err qb=0
 case neg=>rw[if_pos h0] at h;exact absurd h h0
 rw[if_neg (by rw[h0];simp)] at h;by_cases h1:prE l xs=0
 case neg=>rw[if_pos h1] at h;exact absurd h h1
 rw[if_neg (by rw[h1];simp)] at h;unfold suE at h;by_cases h2:(Pa.st (suA s l (l.zip xs))).err qb=0
 case neg=>rw[if_pos h2] at h;exact absurd h h2
 rw[if_neg (by rw[h2];simp)] at h
 cases h3:suF s l (l.zip xs) with
 | true=>rw[h3] at h;simp at h
 | false=>
  rw[h3] at h;exact ⟨h0,h1,h2,rfl,by simpa using h⟩
theorem yA{s:Sm}{y:Bz}{x:Ex}(h:sE s [y] [x]=0):(Pa.st s).err qb=0∧prE [y] [x]=0∧(Pa.st (suA s [y] [(y,x)])).err qb=0∧suF s [y] [(y,x)]=false∧(Pa.st (suO s [y] [(y,x)])).err qb=0:=qaF h
def jR(es:List Ae):Prop:=∀e,e∈es→qb e.1=true∧(Pa.ex e.2).valid qb=true
theorem jR.one{y:Bz}{x:Ex}(h:prE [y] [x]=0):jR [(y,x)]:=fun e he=>by
 simp only[qrq] at he;subst he;exact ⟨(ZT.1 h).1,(qk (ZT.1 h).2).2⟩
theorem jR.lk{es:List Ae}(h:jR es)(k:Nat):lkL es (zm k)=none:=by
 cases hl:lkL es (zm k) with
 | none=>rfl
 | some y=>
  have:=(h _ (Ql hl)).1;rw[Qf] at this;cases this
theorem jR.v{es:List Ae}(h:jR es)(x:Bz)(y:Ex)(hl:lkL es x=some y):(Pa.ex y).valid qb=true:=(h _ (Ql hl)).2
theorem qeH(s:Sm)(l:List Bz)(xs:List Ex):(sV s l xs).size=8∧(sV s l xs).cells.all V.flat=true∧V.part (sV s l xs) 0 (some 8)=some (sV s l xs):=by
 unfold sV;split
 ·exact ⟨Sm.v_size _,by simp,ZS _⟩
 ·exact ⟨rfl,rfl,rfl⟩
theorem QI(s:Sm)(os:s.ok)(zs:(Pa.st s).size≤4000)(y:Bz)(x:Ex)(U:St)(ox:x.ok)(zx:(Pa.ex x).size≤4000)(hl:s.frees.length+Sm.nb1 [s]+(suT [y] [(y,x)]).length≤899):
  qv prog 32 [s.v,.sl true [.str y],.sl true [x.v]] U (fun r U'=>r=.tup [sV s [y] [x],.int .i64 (sE s [y] [x])]∧Kp (fun _=>False) U U'):=
 qe0 s os zs true true [y] [x] (by simp) (by simp) (fun z hz=>by simp at hz;rw[hz];exact zx) (fun z hz=>by simp at hz;rw[hz];exact ox) hl U
theorem Yx(s:Sm)(y:Bz)(x:Ex)(os:s.ok)(ox:x.ok)(va:(Pa.st s).valid qb=true)(hl:s.frees.length+Sm.nb1 [s]+(suT [y] [(y,x)]).length≤899):(suO s [y] [(y,x)]).ok:=
 Sm.wholeR_ok (qcR (fun e he=>by simp at he;rw[he];exact ox)) _ (Sm.ap_ok2 s os va hl)
theorem Sm.nb1_le(t:Sm):Sm.nb1 [t]≤(Pa.st t).size:=by
 have h2:=Sm.nb1_size [t];simp at h2;omega
theorem stZ{z:V}(z8:z.size=8∧z.cells.all V.flat=true∧V.part z 0 (some 8)=some z)(U:St):
 stS (U++[.arr [.agg [.sl true [],.int .i64 0,.str ⟨⟨[]⟩⟩,.sl true [],.sl true [],.sl true [],.sl true [],.sl true []]] 8 1]) (.ptr U.length 0 0 1) 8 z=some (U++[.arr [z] 8 1]):=by simp[stS,qi,z8]
theorem ldZ{z:V}(z8:z.size=8∧z.cells.all V.flat=true∧V.part z 0 (some 8)=some z){U W:St}(k:Kp (fun _=>False) (U++[.arr [z] 8 1]) W):ldS W (.ptr U.length 0 0 1) (some 8)=some z:=by
 have c:=k.at (l:=U.length) (o:=.arr [z] 8 1) (by simp) id;simp[ldS,c,z8]
structure SuOk(s:Sm)(l:List Bz)(es:List Ae):Prop where
 b:(s.whole zm).sbad (lkL es)=false
 w:(suO s l es).whole zm=(s.whole zm).sb (lkL es)
 v:(Pa.st (suO s l es)).valid qb=true
section
variable {s:Sm} {l:List Bz} {es:List Ae} (va:(Pa.st s).valid qb=true) (he:jR es) (hl:s.frees.length+Sm.nb1 [s]+(suT l es).length≤899)
include va he hl
theorem qhX(hb:(s.whole zm).sbad (lkL es)=false):SuOk s l es:=by
 have ha:(Pa.st (suA s l es)).valid qb=true:=Sm.ap_valid va hl;have hf:suF s l es=false:=by rw[qg4 va hl he.lk ha,hb]
 refine ⟨hb,qjJ va hl he.lk ha hf,?_⟩;refine Sm.wholeR_valid (g:=zm) he.lk he.v _ ha ?_;rw[suA,Sm.ap_alike va hl,hb]
theorem jb:suF s l es=(s.whole zm).sbad (lkL es):=qg4 va hl he.lk (Sm.ap_valid va hl)
omit he in
theorem qct:Sm.nb1 [suO s l es]=Sm.nb1 [s]:=by
 have ha:(Pa.st (suA s l es)).valid qb=true:=Sm.ap_valid va hl
 have h1:(suO s l es).nb=s.nb:=by
  unfold suO Sm.wholeR;rw[Sm.nb_wr jP _ _ _ ha];exact Sm.ap_nb va hl
 have h2:(qd (suO s l es).labels 0).length=(qd s.labels 0).length:=by
  unfold suO Sm.wholeR;rw[Sm.wr_labels jP,suA,Sm.ap_bind0 va hl,yF]
 simp only[Sm.nb1,h1,h2]
end
theorem qbg{s:Sm}{l:List Bz}{xs:List Ex}(h0:(Pa.st s).err qb=0)(hp:prE l xs=0)(he:jR (l.zip xs))(hl:s.frees.length+Sm.nb1 [s]+(suT l (l.zip xs)).length≤899)(hb:(s.whole zm).sbad (lkL (l.zip xs))=false):sE s l xs=0∨sE s l xs=2:=by
 have va:=(qk h0).2;have ha:(Pa.st (suA s l (l.zip xs))).err qb=0:=Sm.ap_err va hl (qk h0).1;have ho:=qhX va he hl hb;unfold sE;rw[if_neg (by rw[h0];simp),if_neg (by rw[hp];simp)];unfold suE;rw[if_neg (by rw[ha];simp),jb va he hl,hb,if_neg (by simp)];unfold Pa.err;rw[if_pos ho.v];split
 ·exact .inl rfl
 ·exact .inr rfl
theorem qfL{s:Sm}{y:Bz}{x:Ex}(va:(Pa.st s).valid qb=true)(he:jR [(y,x)])(ho:SuOk s [y] [(y,x)]):(suO s [y] [(y,x)]).frees.length≤s.frees.length+x.occ.length:=by
 rw[←qqO];refine jK (Sm.frees_nodup _) fun z hz=>?_
 rcases (Sm.frees_sb va he ho.v ho.w ho.b z).1 hz with ⟨h1,_⟩|⟨w,a,h1,h2,h3⟩
 ·exact qqK _ h1
 ·simp only[lkL] at h2;split at h2
  ·cases h2;exact qqN _ h3
  ·cases h2
end Go.Proofs.YtbifpocccfkhhaaGreatDoor

namespace Go.Proofs.YtbifpocccfkhhaaGreatDoor
open Go
def nmX(b:Bz):Ex:=.mk 6 0 0 0 0 b []
section
variable (a b:Bz)
variable {nm:Bz→Bool}
end
section
variable {lk:Lk}
mutual
theorem Ex.sb_none:∀x:Ex,(∀u,u∈x.occ→lk u=none)→x.sb lk=x∧∀tg,x.sbad lk tg=false
 | .mk k o n m e t a,h=>by
  rw[Ex.occ] at h;obtain ⟨h1,h2⟩:=Ex.sbl_none a fun u hu=>h u (qqK _ hu)
  rw[Ex.sb,h1];by_cases hn:Ex.named k=true
  ·rw[if_pos hn] at h;have ht:lk t=none:=h t (by simp);refine ⟨?_,fun tg=>?_⟩
   ·rw[ht,JG ht];split
    ·rfl
    ·first|rfl|(split <;> rfl)
   ·rw[Ex.sbad,h2 false];have h3:qeM lk tg t=false:=by unfold qeM;rw[ht]
    have h4:jO lk t=false:=by unfold jO;rw[ht]
    rw[h3,h4];split <;> simp
  ·have h6:¬ k=6:=fun h=>hn (by rw[h];rfl)
   have hn':Ex.named k=false:=by simpa using hn
   refine ⟨?_,fun tg=>?_⟩
   ·rw[if_neg h6,if_neg hn]
   ·rw[Ex.sbad,h2 false,if_neg h6,hn'];rfl
theorem Ex.sbl_none:∀l:List Ex,(∀u,u∈Ex.occl l→lk u=none)→Ex.sbl lk l=l∧∀tg,Ex.sbadl lk tg l=false
 | [],_=>⟨rfl,fun _=>rfl⟩
 | x::l,h=>by
  rw[Ex.occl] at h;obtain ⟨h1,h2⟩:=Ex.sb_none x fun u hu=>h u (qqK _ hu)
  obtain ⟨h3,h4⟩:=Ex.sbl_none l fun u hu=>h u (qqN _ hu)
  refine ⟨by rw[Ex.sbl,h1,h3],fun tg=>by rw[Ex.sbadl,h2,h4];rfl⟩
end
end
theorem yo(y:Bz)(a:Ex)(t:Bz):lkL [(y,a)] t=if y=t then some a else none:=rfl
theorem qaC(y z:Bz)(a b:Ex)(t:Bz):lkL [(y,a),(z,b)] t=if y=t then some a else if z=t then some b else none:=rfl
theorem Cmp.thr{x y:Bz}{e:Ex}{t:Bz}(ht:t≠x):Cmp (lkL [(y,nmX x)]) (lkL [(x,e)]) (lkL [(y,e)]) t:=by
 have hx:lkL [(x,e)] x=some e:=by rw[yo,if_pos rfl]
 by_cases h:y=t
 ·have h1:lkL [(y,nmX x)] t=some (nmX x):=by rw[yo,if_pos h]
  have h3:lkL [(y,e)] t=some e:=by rw[yo,if_pos h]
  refine ⟨?_,fun z hz tg hb=>?_,fun z hz hb=>?_⟩
  ·rw[h1,h3];unfold nmX;simp only;rw[Ex.sb,if_pos rfl,hx]
  ·rw[h1] at hz;cases hz;unfold nmX;rw[Ex.sbad,if_pos rfl];unfold qeM at hb ⊢;rw[h3] at hb;rw[hx,hb];rfl
  ·rw[h1] at hz;cases hz;unfold jO at hb ⊢;rw[h3] at hb;show (match lkL [(x,e)] x with|some y=>_|none=>_)=false;rw[hx];exact hb
 ·have h1:lkL [(y,nmX x)] t=none:=by rw[yo,if_neg h]
  refine ⟨?_,fun z hz=>?_,fun z hz=>?_⟩
  ·rw[h1,yo,yo,if_neg h,if_neg (fun hh=>ht hh.symm)]
  ·rw[h1] at hz;cases hz
  ·rw[h1] at hz;cases hz
theorem Cmp.ord{lk1 lk2 lk3:Lk}{t:Bz}(h0:lk1 t=none→lk3 t=lk2 t)(h1:∀a,lk1 t=some a→lk3 t=some a∧∀u,u∈a.occ→lk2 u=none):Cmp lk1 lk2 lk3 t:=by
 cases h:lk1 t with
 | none=>
  refine ⟨by rw[h];exact h0 h,fun z hz=>?_,fun z hz=>?_⟩
  ·rw[h] at hz;cases hz
  ·rw[h] at hz;cases hz
 | some a=>
  obtain ⟨h3,hn⟩:=h1 a h;obtain ⟨e1,e2⟩:=Ex.sb_none a hn;refine ⟨by rw[h,h3];simp only;rw[e1],fun z hz tg _=>?_,fun z hz hb=>?_⟩
  ·rw[h] at hz;cases hz;exact e2 tg
  ·rw[h] at hz;cases hz;unfold jO at hb ⊢;rw[h3] at hb;simp only[decide_not,qso,decide_eq_true_eq] at hb
   have hm:a.text∈a.occ:=by
    cases a;simp only[Ex.kind] at hb;subst hb;rw[Ex.occ,if_pos (by rfl)];simp[Ex.text]
   rw[hn _ hm]
section
variable {s:Sm} (va:(Pa.st s).valid qb=true)
include va
theorem qiq{e:Oc}(he:e∈s.evs):(∃k,zn zm e.2 e.1=zm k)∨(zn zm e.2 e.1=e.1∧e.1∈s.frees):=by
 cases hs:e.2.at e.1 with
 | some k=>exact .inl ⟨k,by unfold zn;rw[hs]⟩
 | none=>exact .inr ⟨Yv hs,s.ev_free va he hs⟩
theorem qk6{x y:Bz}{e:Ex}(hx:qb x=true)(hf:x∉s.frees)(b1:(s.whole zm).sbad (lkL [(y,nmX x)])=false)(b3:(s.whole zm).sbad (lkL [(y,e)])=false):
  ((s.whole zm).sb (lkL [(y,nmX x)])).sb (lkL [(x,e)])=(s.whole zm).sb (lkL [(y,e)])∧((s.whole zm).sb (lkL [(y,nmX x)])).sbad (lkL [(x,e)])=false:=
 Sm.sb_sb_whole s b1 b3 fun o ho=>Cmp.thr (by
  rcases qiq va ho with ⟨k,hk⟩|⟨h1,h2⟩
  ·rw[hk];intro hh;rw[←hh,Qf] at hx;cases hx
  ·rw[h1];intro hh;exact hf (hh ▸ h2))
omit va in
theorem qlY{y z:Bz}{a b:Ex}(hyz:y≠z)(ha:z∉a.occ)(b1:(s.whole zm).sbad (lkL [(y,a)])=false)(b3:(s.whole zm).sbad (lkL [(y,a),(z,b)])=false):
  ((s.whole zm).sb (lkL [(y,a)])).sb (lkL [(z,b)])=(s.whole zm).sb (lkL [(y,a),(z,b)])∧((s.whole zm).sb (lkL [(y,a)])).sbad (lkL [(z,b)])=false:=
 Sm.sb_sb_whole s b1 b3 fun o _=>by
  generalize zn zm o.2 o.1=t;refine Cmp.ord (fun h=>?_) (fun c h=>?_)
  ·rw[yo] at h;rw[qaC,yo];split at h
   ·cases h
   ·rename_i hn;rw[if_neg hn]
  ·rw[yo] at h;rw[qaC];split at h
   ·rename_i hp;cases h;refine ⟨if_pos hp,fun u hu=>?_⟩;rw[yo,if_neg (fun hh:z=u=>ha (hh ▸ hu))]
   ·cases h
omit va in
theorem qhR{y z:Bz}{a b:Ex}(hyz:y≠z)(hb:y∉b.occ)(b1:(s.whole zm).sbad (lkL [(z,b)])=false)(b3:(s.whole zm).sbad (lkL [(y,a),(z,b)])=false):
  ((s.whole zm).sb (lkL [(z,b)])).sb (lkL [(y,a)])=(s.whole zm).sb (lkL [(y,a),(z,b)])∧((s.whole zm).sb (lkL [(z,b)])).sbad (lkL [(y,a)])=false:=
 Sm.sb_sb_whole s b1 b3 fun o _=>by
  generalize zn zm o.2 o.1=t;refine Cmp.ord (fun h=>?_) (fun c h=>?_)
  ·rw[yo] at h;rw[qaC,yo];split at h
   ·cases h
   ·rename_i hn;rw[if_neg hn]
  ·rw[yo] at h;rw[qaC];split at h
   ·rename_i hp;cases h;refine ⟨?_,fun u hu=>?_⟩
    ·rw[if_neg (fun hh=>hyz (hh.trans hp.symm)),if_pos hp]
    ·rw[yo,if_neg (fun hh:y=u=>hb (hh ▸ hu))]
   ·cases h
end
theorem qiU{a b:Sm}(va:(Pa.st a).valid qb=true)(vb:(Pa.st b).valid qb=true)(h:a.wholeR (nuP zm)=b.wholeR (nuP zm)):a.frees=b.frees:=by
 rw[zy va,zy vb] at h;unfold Sm.frees;rw[Sm.free_occ (f:=zm) Qf a va,Sm.free_occ (f:=zm) Qf b vb,h]
theorem Qa(y:Bz)(x:Ex):(suT [y] [(y,x)]).length=1+x.occ.length:=by simp[suT];omega
theorem qgO(y z:Bz)(a b:Ex):(suT [y,z] [(y,a),(z,b)]).length=2+a.occ.length+b.occ.length:=by simp[suT];omega
theorem qav{s:Sm}{l:List Bz}{xs:List Ex}(he:jR (l.zip xs))(hl:s.frees.length+Sm.nb1 [s]+(suT l (l.zip xs)).length≤899)(h:sE s l xs=0):SuOk s l (l.zip xs):=by
 obtain ⟨h0,hp,ha,hf,ho⟩:=qaF h;rw[jb (qk h0).2 he hl] at hf;exact qhX (qk h0).2 he hl hf
section
variable {s:Sm} {y z:Bz} {a b:Ex}
theorem YS(hl:s.frees.length+Sm.nb1 [s]+(1+a.occ.length)≤450)(hb:b.occ.length≤300)(h1:sE s [y] [a]=0):
  (suO s [y] [(y,a)]).frees.length+Sm.nb1 [suO s [y] [(y,a)]]+(suT [z] [(z,b)]).length≤899:=by
 obtain ⟨h0,hp,_⟩:=yA h1;have he:=jR.one hp;have hl1:s.frees.length+Sm.nb1 [s]+(suT [y] [(y,a)]).length≤899:=by rw[Qa];omega
 have ho:=qav (l:=[y]) (xs:=[a]) he hl1 h1;have h2:=qfL (qk h0).2 he ho;have h3:=qct (qk h0).2 hl1;rw[Qa,h3];omega
theorem qoc{x:Bz}{e:Ex}(hl:s.frees.length+Sm.nb1 [s]≤300)(hz:e.occ.length≤60)(hx:x∉s.frees)(h1:sE s [y] [nmX x]=0)(h2:sE s [y] [e]=0):
  (sE (suO s [y] [(y,nmX x)]) [x] [e]=0∨sE (suO s [y] [(y,nmX x)]) [x] [e]=2)∧
  (sE (suO s [y] [(y,nmX x)]) [x] [e]=0→(suO (suO s [y] [(y,nmX x)]) [x] [(x,e)]).wholeR (nuP zm)=(suO s [y] [(y,e)]).wholeR (nuP zm)):=by
 obtain ⟨h0,hp1,_,_,ho⟩:=yA h1;obtain ⟨_,hp2,_⟩:=yA h2;have va:=(qk h0).2
 have hnx:qb x=true:=by
  have:=(qk (ZT.1 hp1).2).2;exact Ex.valid_text this rfl
 have he1:=jR.one hp1;have he2:=jR.one hp2;have hp3:prE [x] [e]=0:=ZT.2 ⟨hnx,(ZT.1 hp2).2⟩;have he3:=jR.one hp3;have hoc:(nmX x).occ.length=1:=rfl;have l1:s.frees.length+Sm.nb1 [s]+(suT [y] [(y,nmX x)]).length≤899:=by rw[Qa];omega
 have l2:s.frees.length+Sm.nb1 [s]+(suT [y] [(y,e)]).length≤899:=by rw[Qa];omega
 have o1:=qav (l:=[y]) (xs:=[nmX x]) he1 l1 h1;have o2:=qav (l:=[y]) (xs:=[e]) he2 l2 h2;have l3:=YS (z:=x) (b:=e) (by omega) (by omega) h1;obtain ⟨t1,t2⟩:=qk6 va hnx hx o1.b o2.b;have w1:=o1.w;simp only[qse,qsC] at w1;rw[←w1] at t1 t2;refine ⟨qbg (l:=[x]) (xs:=[e]) ho hp3 he3 l3 t2,fun h3=>?_⟩;have o3:=qav (l:=[x]) (xs:=[e]) he3 l3 h3;have v2:=o2.v;have v3:=o3.v;simp only[qse,qsC] at v2 v3;rw[zy v3,zy v2];exact o3.w.trans (t1.trans o2.w.symm)
theorem qnj(hl:s.frees.length+Sm.nb1 [s]≤300)(hz:a.occ.length+b.occ.length≤60)(hyz:y≠z)(hza:z∉a.occ)(hyb:y∉b.occ)(h1:sE s [y] [a]=0)(h2:sE s [z] [b]=0)(h3:sE s [y,z] [a,b]=0):
  ((sE (suO s [y] [(y,a)]) [z] [b]=0∨sE (suO s [y] [(y,a)]) [z] [b]=2)∧(sE (suO s [z] [(z,b)]) [y] [a]=0∨sE (suO s [z] [(z,b)]) [y] [a]=2))∧
  (sE (suO s [y] [(y,a)]) [z] [b]=0→(suO (suO s [y] [(y,a)]) [z] [(z,b)]).wholeR (nuP zm)=(suO s [y,z] [(y,a),(z,b)]).wholeR (nuP zm))∧
  (sE (suO s [z] [(z,b)]) [y] [a]=0→(suO (suO s [z] [(z,b)]) [y] [(y,a)]).wholeR (nuP zm)=(suO s [y,z] [(y,a),(z,b)]).wholeR (nuP zm)):=by
 obtain ⟨h0,hp1,_,_,p1⟩:=yA h1;obtain ⟨_,hp2,_,_,p2⟩:=yA h2;have va:=(qk h0).2;have he1:=jR.one hp1;have he2:=jR.one hp2
 have he3:jR [(y,a),(z,b)]:=fun e he=>by
  simp only[qq0,List.not_mem_nil,or_false] at he;rcases he with rfl|rfl
  ·exact he1 _ (by simp)
  ·exact he2 _ (by simp)
 have l1:s.frees.length+Sm.nb1 [s]+(suT [y] [(y,a)]).length≤899:=by rw[Qa];omega
 have l2:s.frees.length+Sm.nb1 [s]+(suT [z] [(z,b)]).length≤899:=by rw[Qa];omega
 have l3:s.frees.length+Sm.nb1 [s]+(suT [y,z] [(y,a),(z,b)]).length≤899:=by rw[qgO];omega
 have o1:=qav (l:=[y]) (xs:=[a]) he1 l1 h1;have o2:=qav (l:=[z]) (xs:=[b]) he2 l2 h2;have o3:=qav (l:=[y,z]) (xs:=[a,b]) he3 l3 h3;have l4:=YS (z:=z) (b:=b) (by omega) (by omega) h1;have l5:=YS (z:=y) (b:=a) (by omega) (by omega) h2;obtain ⟨t1,t2⟩:=qlY (s:=s) hyz hza o1.b o3.b;obtain ⟨u1,u2⟩:=qhR (s:=s) hyz hyb o2.b o3.b;have w1:=o1.w;have w2:=o2.w;have w3:=o3.w;have v3:=o3.v;simp only[qse,qsC] at w1 w2 w3 v3;rw[←w1,←w3] at t1;rw[←w1] at t2;rw[←w2,←w3] at u1;rw[←w2] at u2;refine ⟨⟨qbg (l:=[z]) (xs:=[b]) p1 hp2 he2 l4 t2,qbg (l:=[y]) (xs:=[a]) p2 hp1 he1 l5 u2⟩,fun g=>?_,fun g=>?_⟩
 ·have o4:=qav (l:=[z]) (xs:=[b]) he2 l4 g;have v4:=o4.v;simp only[qse,qsC] at v4;rw[zy v4,zy v3];exact o4.w.trans t1
 ·have o4:=qav (l:=[y]) (xs:=[a]) he1 l5 g;have v4:=o4.v;simp only[qse,qsC] at v4;rw[zy v4,zy v3];exact o4.w.trans u1
end
theorem Sm.frees_len0(s:Sm):s.frees.length≤(Pa.st s).size:=by
 unfold Sm.frees;rw[zN];have h1:=z7 (l:=yn (s.wholeH coP coZ)) (ks:=[]);have h2:=s.frees_len;simp only[qri] at h1;omega
theorem Sm.binds_len0(s:Sm):s.binds.length≤Sm.nb1 [s]:=by
 unfold Sm.binds;rw[zN];have h1:=z7 (l:=s.bounds) (ks:=[]);rw[s.bounds_len] at h1;simp only[qri] at h1;omega
theorem Ex.mem_names{x:Ex}{z:Bz}:z∈x.names↔z∈x.occ:=by
 unfold Ex.names;rw[Yy,yd];simp[Ex.occl]
open Go.Proofs.Tryz
set_option maxRecDepth 20000
noncomputable def c8:F':=⟨119,[.t 8],.k [.B 4 0,.B 7 3,.F 8] (.seq (.k [.j 21 8 4,.c 22 17 21,.o 23 (.un .not (.t 22)),.m 24 23,.v 25 24 false (.ld (some 7) (.t 7)),.v 26 24 false (.bsl 7 [(.t 25)]),.v 27 24 false (.call (.f 26) [(.t 26)]),.v 28 24 false (.un .not (.t 27)),.z 29 24 28,.m 30 29,.V 31 30 false 2,.V 32 30 false 1,.N 33 30 false .eql 31 32,.z 34 30 33] (.d 34 (.k [.o 35 (.call (.f 18) []),.m 8 35] .ret) .skip)) (.k [.j 37 8 4,.c 38 29 37,.m 36 38,.e 39 0 36,.e 40 1 36,.m 9 39,.m 10 40] (.k [.j 42 8 4,.c 43 31 42,.m 41 43,.e 44 0 41,.e 45 1 41,.m 11 44,.m 12 45] (.seq (.k [.m 46 10,.u 47 .neq 46 0,.m 48 47,.V 49 48 false 12,.v 50 48 false (.bin .neq (.t 49) (.c z0)),.z 51 48 50,.m 52 51,.V 53 52 false 9,.V 54 52 false 2,.v 55 52 false (.call (.f 34) [(.t 53),(.t 54)]),.z 56 52 55,.m 57 56,.V 58 57 false 11,.V 59 57 false 2,.v 60 57 false (.call (.f 34) [(.t 58),(.t 59)]),.z 61 57 60] (.d 61 (.k [.o 62 (.call (.f 18) []),.m 8 62] .ret) .skip)) (.seq (.draw [.q (.j 64 8 4) false true [] 0 1,.q (.m 65 1) false false [] 0 1,.q (.o 66 (.bsl 1 [(.t 65)])) false false [1] 0 1,.p (.m 67 2) [],.q (.c 68 33 67) true false [3] 0 0,.q (.o 69 (.bsl 7 [(.t 68)])) false false [4,3] 1 1,.q (.x 70 32 64 66 69) true false [0,2,5,1,4,3] 1 1,.q (.m 63 70) false false [6,0,2,5,1,4,3] 2 2,.q (.e 71 0 63) false false [7,6,0,2,5,1,4,3] 2 2,.q (.e 72 1 63) false false [7,6,0,2,5,1,4,3] 2 3,⟨.o 13 (.new zS),false,(some 0),true,[],0,2⟩,.q (.s 8 13 71) true false [8,10,7,6,0,2,5,1,4,3] 2 2,.q (.m 14 72) false false [9,11,8,10,7,6,0,2,5,1,4,3] 3 3] [zS]) (.k [.j 74 8 4,.m 75 1,.o 76 (.bsl 1 [(.t 75)]),.j 77 7 7,.o 78 (.bsl 7 [(.t 77)]),.x 79 32 74 76 78,.m 73 79,.e 80 0 73,.e 81 1 73,.o 15 (.new zS),.s 8 15 80,.m 16 81] (.seq (.k [.m 82 14,.u 83 .neq 82 0,.m 84 83,.V 85 84 false 16,.v 86 84 false (.bin .neq (.t 85) (.c z0)),.z 87 84 86] (.d 87 (.k [.o 88 (.call (.f 18) []),.m 8 88] .ret) .skip)) (.k [.j 90 8 13,.m 91 2,.o 92 (.bsl 1 [(.t 91)]),.j 93 7 7,.o 94 (.bsl 7 [(.t 93)]),.x 95 32 90 92 94,.m 89 95,.e 96 0 89,.e 97 1 89,.o 17 (.new zS),.s 8 17 96,.m 18 97] (.seq (.k [.m 98 18,.u 99 .neq 98 0] (.d 99 (.k [.o 100 (.call (.f 18) []),.m 101 100,.V 102 101 true 18,.v 103 101 true (.bin .eql (.t 102) (.c (.int .i64 2))),.y 104 101 103,.m 8 104] .ret) .skip)) (.k [.j 106 8 17,.j 107 8 15,.w 108 24 106 107,.m 105 108,.e 109 0 105,.e 110 1 105,.m 19 109,.m 20 110] (.k [.o 111 (.call (.f 18) []),.m 112 111,.V 113 112 true 20,.v 114 112 true (.bin .eql (.t 113) (.c z0)),.y 115 112 114,.m 116 115,.V 117 116 true 19,.y 118 116 117,.m 8 118] .ret)))))))))))⟩
theorem ok8:okF f8 c8:=okI
noncomputable def c12:F':=⟨153,[.t 10],.k [.B 5 0,.B 8 3,.B 9 4,.F 10] (.seq (.k [.j 25 8 5,.c 26 17 25,.o 27 (.un .not (.t 26)),.m 28 27,.v 29 28 false (.ld (some 7) (.t 8)),.v 30 28 false (.ld (some 7) (.t 9)),.v 31 28 false (.bsl 7 [(.t 29),(.t 30)]),.v 32 28 false (.call (.f 26) [(.t 31)]),.v 33 28 false (.un .not (.t 32)),.z 34 28 33,.m 35 34,.V 36 35 false 1,.V 37 35 false 2,.N 38 35 false .eql 36 37,.z 39 35 38,.m 40 39,.V 41 40 false 2,.v 42 40 false (.ld (some 7) (.t 8)),.v 43 40 false (.call (.f 43) [(.t 41),(.t 42)]),.v 44 40 false (.un .not (.t 43)),.z 45 40 44,.m 46 45,.V 47 46 false 1,.v 48 46 false (.ld (some 7) (.t 9)),.v 49 46 false (.call (.f 43) [(.t 47),(.t 48)]),.v 50 46 false (.un .not (.t 49)),.z 51 46 50] (.d 51 (.k [.o 52 (.call (.f 18) []),.m 10 52] .ret) .skip)) (.k [.j 54 8 5,.m 55 1,.o 56 (.bsl 1 [(.t 55)]),.j 57 7 8,.o 58 (.bsl 7 [(.t 57)]),.x 59 32 54 56 58,.m 53 59,.e 60 0 53,.e 61 1 53,.o 11 (.new zS),.s 8 11 60,.m 12 61] (.k [.j 63 8 5,.m 64 2,.o 65 (.bsl 1 [(.t 64)]),.j 66 7 9,.o 67 (.bsl 7 [(.t 66)]),.x 68 32 63 65 67,.m 62 68,.e 69 0 62,.e 70 1 62,.o 13 (.new zS),.s 8 13 69,.m 14 70] (.k [.j 72 8 5,.m 73 1,.m 74 2,.o 75 (.bsl 1 [(.t 73),(.t 74)]),.j 76 7 8,.j 77 7 9,.o 78 (.bsl 7 [(.t 76),(.t 77)]),.x 79 32 72 75 78,.m 71 79,.e 80 0 71,.e 81 1 71,.o 15 (.new zS),.s 8 15 80,.m 16 81] (.seq (.k [.m 82 12,.u 83 .neq 82 0,.m 84 83,.V 85 84 false 14,.v 86 84 false (.bin .neq (.t 85) (.c z0)),.z 87 84 86,.m 88 87,.V 89 88 false 16,.v 90 88 false (.bin .neq (.t 89) (.c z0)),.z 91 88 90] (.d 91 (.k [.o 92 (.call (.f 18) []),.m 10 92] .ret) .skip)) (.k [.j 94 8 11,.m 95 2,.o 96 (.bsl 1 [(.t 95)]),.j 97 7 9,.o 98 (.bsl 7 [(.t 97)]),.x 99 32 94 96 98,.m 93 99,.e 100 0 93,.e 101 1 93,.o 17 (.new zS),.s 8 17 100,.m 18 101] (.k [.j 103 8 13,.m 104 1,.o 105 (.bsl 1 [(.t 104)]),.j 106 7 8,.o 107 (.bsl 7 [(.t 106)]),.x 108 32 103 105 107,.m 102 108,.e 109 0 102,.e 110 1 102,.o 19 (.new zS),.s 8 19 109,.m 20 110] (.seq (.k [.m 111 18,.u 112 .neq 111 0,.m 113 112,.V 114 113 false 20,.v 115 113 false (.bin .neq (.t 114) (.c z0)),.z 116 113 115] (.d 116 (.k [.o 117 (.call (.f 18) []),.m 118 117,.V 119 118 true 18,.v 120 118 true (.bin .eql (.t 119) (.c (.int .i64 2))),.V 121 118 true 120,.V 122 121 false 20,.v 123 121 false (.bin .eql (.t 122) (.c (.int .i64 2))),.v 124 118 true (.pick (.t 121) (.c (.bool true)) (.t 123)),.y 125 118 124,.m 10 125] .ret) .skip)) (.k [.j 127 8 17,.j 128 8 19,.w 129 24 127 128,.m 126 129,.e 130 0 126,.e 131 1 126,.m 21 130,.m 22 131] (.k [.j 133 8 17,.j 134 8 15,.w 135 24 133 134,.m 132 135,.e 136 0 132,.e 137 1 132,.m 23 136,.m 24 137] (.k [.o 138 (.call (.f 18) []),.m 139 138,.V 140 139 true 22,.v 141 139 true (.bin .eql (.t 140) (.c z0)),.y 142 139 141,.m 143 142,.V 144 143 true 24,.v 145 143 true (.bin .eql (.t 144) (.c z0)),.y 146 143 145,.m 147 146,.V 148 147 true 21,.y 149 147 148,.m 150 149,.V 151 150 true 23,.y 152 150 151,.m 10 152] .ret)))))))))))⟩
theorem ok12:okF f12 c12:=okI
noncomputable def c15:F':=⟨126,[.t 8],.k [.B 4 0,.B 7 3,.F 8] (.seq (.k [.j 22 8 4,.c 23 17 22,.o 24 (.un .not (.t 23)),.m 25 24,.V 26 25 false 1,.v 27 25 false (.len false (.t 26)),.v 28 25 false (.bin .gtr (.t 27) (.c (.int .i64 40))),.z 29 25 28,.m 30 29,.v 31 30 false (.ld (some 7) (.t 7)),.v 32 30 false (.bsl 7 [(.t 31)]),.v 33 30 false (.call (.f 26) [(.t 32)]),.v 34 30 false (.un .not (.t 33)),.z 35 30 34] (.d 35 (.k [.o 36 (.call (.f 18) []),.m 8 36] .ret) .skip)) (.k [.j 38 8 4,.m 39 1,.w 40 46 38 39,.m 37 40,.e 41 0 37,.e 42 1 37,.o 9 (.new zS),.s 8 9 41,.m 10 42] (.seq (.k [.m 43 10,.u 44 .neq 43 0] (.d 44 (.k [.o 45 (.call (.f 18) []),.m 8 45] .ret) .skip)) (.k [.j 47 8 4,.j 48 8 9,.w 49 24 47 48,.m 46 49,.e 50 0 46,.e 51 1 46,.m 11 50,.m 12 51] (.k [.j 53 8 9,.c 54 31 53,.m 52 54,.e 55 0 52,.e 56 1 52,.m 13 55,.m 14 56] (.seq (.k [.m 57 12,.u 58 .neq 57 0,.m 59 58,.V 60 59 false 14,.v 61 59 false (.bin .neq (.t 60) (.c z0)),.z 62 59 61,.m 63 62,.V 64 63 false 11,.v 65 63 false (.un .not (.t 64)),.z 66 63 65] (.d 66 (.k [.F 8] .ret) .skip)) (.seq (.k [.G 15 0] (.block 0 (.loop (.seq (.k [.m 67 15,.m 68 13,.L 69 68,.b 70 .lss 67 69] (.d 70 .skip (.exit 0))) (.seq (.block 1 (.k [.m 73 1,.m 74 13,.m 75 15,.i 76 1 74 75,.l 77 76,.w 78 34 73 77] (.d 78 (.k [.F 8] .ret) .skip))) (.reg [.m 71 15,.u 72 .add 71 1,.m 15 72])))))) (.k [.j 80 8 4,.m 81 2,.o 82 (.bsl 1 [(.t 81)]),.j 83 7 7,.o 84 (.bsl 7 [(.t 83)]),.x 85 32 80 82 84,.m 79 85,.e 86 0 79,.e 87 1 79,.o 16 (.new zS),.s 8 16 86,.m 17 87] (.k [.j 89 8 9,.m 90 2,.o 91 (.bsl 1 [(.t 90)]),.j 92 7 7,.o 93 (.bsl 7 [(.t 92)]),.x 94 32 89 91 93,.m 88 94,.e 95 0 88,.e 96 1 88,.o 18 (.new zS),.s 8 18 95,.m 19 96] (.seq (.k [.m 97 17,.m 98 19,.b 99 .neq 97 98] (.d 99 (.k [.o 100 (.call (.f 18) []),.m 101 100,.V 102 101 true 17,.v 103 101 true (.bin .eql (.t 102) (.c (.int .i64 2))),.V 104 101 true 103,.V 105 104 false 19,.v 106 104 false (.bin .eql (.t 105) (.c (.int .i64 2))),.v 107 101 true (.pick (.t 104) (.c (.bool true)) (.t 106)),.y 108 101 107,.m 8 108] .ret) .skip)) (.seq (.k [.m 109 17,.u 110 .neq 109 0] (.d 110 (.k [.o 111 (.call (.f 18) []),.m 8 111] .ret) .skip)) (.k [.j 113 8 16,.j 114 8 18,.w 115 24 113 114,.m 112 115,.e 116 0 112,.e 117 1 112,.m 20 116,.m 21 117] (.k [.o 118 (.call (.f 18) []),.m 119 118,.V 120 119 true 21,.v 121 119 true (.bin .eql (.t 120) (.c z0)),.y 122 119 121,.m 123 122,.V 124 123 true 20,.y 125 123 124,.m 8 125] .ret)))))))))))))⟩
theorem ok15:okF f15 c15:=okI
noncomputable def c43:F':=⟨20,[.t 4],.k [.B 3 1,.F 4] (.k [.j 8 7 3,.c 9 37 8,.m 7 9,.e 10 0 7,.e 11 1 7,.m 5 10,.m 6 11] (.k [.m 12 6,.u 13 .eql 12 0,.m 14 13,.V 15 14 true 5,.V 16 14 true 0,.v 17 14 true (.call (.f 34) [(.t 15),(.t 16)]),.v 18 14 true (.un .not (.t 17)),.y 19 14 18,.m 4 19] .ret))⟩
theorem ok43:okF f43 c43:=okI
theorem qjw(y:Bz)(x:Ex)(ox:x.ok)(zx:(Pa.ex x).size≤3900)(S:St):qv prog 43 [.str y,x.v] S (fun r U=>r=.bool (decide ((Pa.ex x).err qb=0) && !ZY y x.names)∧Kp (fun _=>False) S U):=by
 refine qv.ib func43 ok43 ?_;obtain ⟨S1,hS1⟩:∃S1:St,S1=S++[.arr [x.v] 7 1]:=⟨_,rfl⟩;have b0:S1[S.length]?=some (.arr [x.v] 7 1):=by rw[hS1];simp
 have kS:Kp (fun _=>False) S S1:=by rw[hS1];exact (Kp.refl _ _).push _
 have d0:ldS S1 (.ptr S.length 0 0 1) (some 7)=some x.v:=by simp[ldS,b0]
 have lx:=x.names_len;simp[c43,qE];rw[←hS1];simp[d0];refine qh (qoy x ox zx S1) ?_;rintro r U ⟨rfl,kU⟩;by_cases ex:(Pa.ex x).err qb=0
 ·simp[ex];refine qe (qdj false x.names y U (by omega)) ?_;simp;exact qg rfl ⟨rfl,kS.trans kU⟩
 ·simp[ex];exact qg rfl ⟨rfl,kS.trans kU⟩
theorem Sm.nb1_100{t:Sm}(h:(Pa.st t).fits):(Pa.st t).size≤4000∧Sm.nb1 [t]≤100000:=by
 have h1:=h.1;have h2:=t.nb1_le;omega
theorem jC(a b:Sm)(oa:a.ok)(ob:b.ok)(ea:(Pa.st a).err qb=0)(eb:(Pa.st b).err qb=0)(na:Sm.nb1 [a]≤1000)(h:a.wholeR (nuP zm)=b.wholeR (nuP zm))(U:St):
  qv prog 24 [a.v,b.v] U (fun r U'=>r=.tup [.bool true,.int .i64 0]∧Kp (fun _=>False) U U'):=by
 have fa:=Sm.nb1_100 (qk ea).1;have fb:=Sm.nb1_100 (qk eb).1
 have:=qoF a b oa ob fa.1 fb.1 fa.2 fb.2 (fun h=>by
  rw[zy (qk h).2];exact Sm.whole_ok (f:=zm) (N:=1000) (fun k hk=>qfK k hk) a na oa) U
 simpa[ea,eb,h] using this
abbrev nmV(b:Bz):V:=.agg [.int .i64 6,.int .i64 0,.int .i64 0,.int .i64 0,.int .i64 0,.str b,.sl true []]
theorem qoJ(b:Bz):∀S,Fn prog 33 [.str b] S (nmV b):=by
 refine Pu.intro (R:=fun v=>v=nmV b) func33 ok33 (by simp[c33]) (by simp[V.under,V.underL]) (by rintro v rfl;rfl) ?_;simp[c33,qE,ldS,stS,qi,qD,qH];exact qa rfl rfl rfl
theorem qjD(b:Bz)(hb:b.size≤B50):(nmX b).ok:=⟨hb,qrc _,trivial⟩
theorem qj9(s:Sm)(os:s.ok)(zs:(Pa.st s).size≤4000)(y x:Bz)(hb:x.size≤B50)(hl:s.frees.length+Sm.nb1 [s]≤300)(U:St):
  qv prog 32 [s.v,.sl true [.str y],.sl true [nmV x]] U (fun r U'=>r=.tup [sV s [y] [nmX x],.int .i64 (sE s [y] [nmX x])]∧Kp (fun _=>False) U U'):=qv.weakA (by
 have zx:(Pa.ex (nmX x)).size≤4000:=by
  rw[Pa.size_eq];simp[Pa.own,Pa.kids,nmX,Ex.args,qA]
 have:=qe0 s os zs false false [y] [nmX x] (by simp) (by simp) (fun z hz=>by simp at hz;rw[hz];exact zx) (fun z hz=>by simp at hz;rw[hz];exact qjD x hb) (by show _+(suT [y] [(y,nmX x)]).length≤_;rw[Qa];have h:(nmX x).occ.length=1:=rfl;omega) U;simpa[V.weakL,V.weak,Sm.v_weak,nmX,Ex.v,Ex.vl] using this)
end Go.Proofs.YtbifpocccfkhhaaGreatDoor
end
