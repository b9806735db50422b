/- The statement CopyApart holds: for every statement, texts, a name and an expression the law returns true and changes nothing. Conditions: none. -/
import Derived.Test.YtbifpocccfkhhaaGreatDoorUn
set_option linter.all false
noncomputable section
namespace Go.Proofs.YtbifpocccfkhhaaGreatDoor
open Go
theorem qnK{s:Sm}{l:List Bz}{xs:List Ex}(h0:(Pa.st s).err qb=0)(hp:¬ prE l xs=0):sE s l xs=prE l xs:=by
 unfold sE;rw[if_neg (by rw[h0];simp),if_pos hp]
theorem qjC{s:Sm}{l:List Bz}{xs:List Ex}(h0:(Pa.st s).err qb=0)(hp:prE l xs=0)(h1:(Pa.st (suA s l (l.zip xs))).err qb=0)(hf:suF s l (l.zip xs)=true):sE s l xs=10:=by
 unfold sE suE;rw[if_neg (by rw[h0];simp),if_neg (by rw[hp];simp),if_neg (by rw[h1];simp),if_pos hf]
section
variable {s:Sm} {taken:List Bz} (h0:(Pa.st s).err qb=0) (ht:s.frees.length+Sm.nb1 [s]+taken.length≤899)
include h0 ht
theorem qfu:s.wholeR (nuP zm)=(s.ap taken).wholeR (nuP zm):=by
 rw[zy (qk h0).2,zy (Sm.ap_valid (qk h0).2 ht),Sm.ap_alike (qk h0).2 ht]
theorem qaO:(s.ap taken).frees=s.frees:=qiU (Sm.ap_valid (qk h0).2 ht) (qk h0).2 (qfu h0 ht).symm
theorem qfv:Sm.nb1 [s.ap taken]=Sm.nb1 [s]:=by
 have h1:=Sm.ap_nb (qk h0).2 ht;have h2:(qd (s.ap taken).labels 0).length=(qd s.labels 0).length:=by rw[Sm.ap_bind0 (qk h0).2 ht,yF]
 simp only[Sm.nb1,h1,h2]
theorem qiP{l:List Bz}{xs:List Ex}(he:prE l xs=0→jR (l.zip xs))(hl:s.frees.length+Sm.nb1 [s]+(suT l (l.zip xs)).length≤899):
  sE s l xs=sE (s.ap taken) l xs∨sE s l xs=2∨sE (s.ap taken) l xs=2:=by
 have h1:(Pa.st (s.ap taken)).err qb=0:=Sm.ap_err (qk h0).2 ht (qk h0).1;have hl2:(s.ap taken).frees.length+Sm.nb1 [s.ap taken]+(suT l (l.zip xs)).length≤899:=by rw[qaO h0 ht,qfv h0 ht];exact hl
 by_cases hp:prE l xs=0
 case neg=>
  refine .inl ?_;rw[qnK h0 hp,qnK h1 hp]
 have he:=he hp
 cases hb:(s.whole zm).sbad (lkL (l.zip xs)) with
 | true=>
  refine .inl ?_;have a1:(Pa.st (suA s l (l.zip xs))).err qb=0:=Sm.ap_err (qk h0).2 hl (qk h0).1;have a2:(Pa.st (suA (s.ap taken) l (l.zip xs))).err qb=0:=Sm.ap_err (qk h1).2 hl2 (qk h1).1;have f1:=jb (qk h0).2 he hl;have f2:=jb (qk h1).2 he hl2;rw[hb] at f1;rw[Sm.ap_alike (qk h0).2 ht,hb] at f2;rw[qjC h0 hp a1 f1,qjC h1 hp a2 f2]
 | false=>
  have b2:((s.ap taken).whole zm).sbad (lkL (l.zip xs))=false:=by rw[Sm.ap_alike (qk h0).2 ht,hb]
  rcases qbg h0 hp he hl hb with g1|g1
  ·rcases qbg h1 hp he hl2 b2 with g2|g2
   ·exact .inl (by rw[g1,g2])
   ·exact .inr (.inr g2)
  ·exact .inr (.inl g1)
theorem qdL{l:List Bz}{xs:List Ex}(he:jR (l.zip xs))(hl:s.frees.length+Sm.nb1 [s]+(suT l (l.zip xs)).length≤899)(g1:sE s l xs=0)(g2:sE (s.ap taken) l xs=0):
  (suO s l (l.zip xs)).wholeR (nuP zm)=(suO (s.ap taken) l (l.zip xs)).wholeR (nuP zm):=by
 have h1:(Pa.st (s.ap taken)).err qb=0:=Sm.ap_err (qk h0).2 ht (qk h0).1;have hl2:(s.ap taken).frees.length+Sm.nb1 [s.ap taken]+(suT l (l.zip xs)).length≤899:=by rw[qaO h0 ht,qfv h0 ht];exact hl
 obtain ⟨_,_,_,f1,_⟩:=qaF g1;rw[jb (qk h0).2 he hl] at f1;have f2:((s.ap taken).whole zm).sbad (lkL (l.zip xs))=false:=by rw[Sm.ap_alike (qk h0).2 ht,f1]
 have o1:=qhX (qk h0).2 he hl f1;have o2:=qhX (qk h1).2 he hl2 f2;rw[zy o1.v,zy o2.v];refine o1.w.trans (Eq.symm (o2.w.trans ?_));rw[Sm.ap_alike (qk h0).2 ht]
end
open Go.Proofs.Tryz
theorem qo3(s:Sm)(l:List Bz):(apV s l).size=8∧(apV s l).cells.all V.flat=true∧V.part (apV s l) 0 (some 8)=some (apV s l):=by
 unfold apV;split
 ·exact ⟨Sm.v_size _,by simp,ZS _⟩
 ·exact ⟨rfl,rfl,rfl⟩
theorem qh5{s:Sm}{l:List Bz}(h:apE s l=0):(Pa.st s).err qb=0∧(Pa.st (s.ap l)).err qb=0:=by
 unfold apE at h;by_cases h0:(Pa.st s).err qb=0
 case neg=>rw[if_pos h0] at h;exact absurd h h0
 rw[if_neg (by rw[h0];simp)] at h;split at h
 ·cases h
 ·exact ⟨h0,h⟩
open Classical in
theorem qnJ(s:Sm)(tb:Bool)(taken:List Bz)(y:Bz)(x:Ex)(os:s.ok)(ox:x.ok):Fn prog 15 [s.v,.sl tb (taken.map .str),.str y,x.v] [] (.bool true):=by
 refine qv.ib func15 ok15 ?_;obtain ⟨S1,hS1⟩:∃S1:St,S1=[.arr [s.v] 8 1,.arr [x.v] 7 1]:=⟨_,rfl⟩;have b0:S1[0]?=some (.arr [s.v] 8 1):=by rw[hS1];rfl
 have b1:S1[1]?=some (.arr [x.v] 7 1):=by rw[hS1];rfl
 have ld:∀{U:St},Kp (fun _=>False) S1 U→ldS U (.ptr 0 0 0 1) (some 8)=some s.v∧ldS U (.ptr 1 0 0 1) (some 7)=some x.v:=fun k=>by
  have c0:=k.at b0 id;have c1:=k.at b1 id;simp[ldS,c0,c1]
 obtain ⟨d0,d1⟩:=ld (Kp.refl _ S1);simp[c15,qE];rw[←hS1];simp[d0];refine qe (qdz s os S1) ?_
 cases la:s.light with
 | false=>
  simp;refine qe (ze S1) ?_;simp;exact qa rfl rfl rfl
 | true=>
 by_cases ht:40<taken.length
 ·have ht':(40:Int)<taken.length:=by omega
  simp[ht'];refine qe (ze S1) ?_;simp;exact qa rfl rfl rfl
 have ht':¬ (40:Int)<taken.length:=by omega
 have q26:Fn prog 26 [.sl true [x.v]] S1 (.bool (decide (0<Ex.leftL [x] 0 60))):=qv.weakA (by
  have:=qc4 [x] (by simp[B50]) ⟨ox,trivial⟩ S1;simpa[V.weakL,V.weak,Ex.v_weak] using this)
 simp[ht',d1,Ex.fits1];refine qe q26 ?_;by_cases hx:0<Ex.leftL [x] 0 60
 case neg=>
  simp[hx];refine qe (ze S1) ?_;simp;exact qa rfl rfl rfl
 have zs:=QV la;have ns:=qda la;have lf:=s.frees_len0
 have zx:(Pa.ex x).size<60:=by
  have:=Ex.leftL_size [x] 0 60 hx;have h0:qA []=0:=rfl;rw[qqH,qrh,sizes_cons,h0] at this;omega
 have oc:=Ex.occ_len x;have hl:s.frees.length+Sm.nb1 [s]+(suT [y] [(y,x)]).length≤899:=by rw[Qa];omega
 have htl:s.frees.length+Sm.nb1 [s]+taken.length≤899:=by omega
 have fs:fits 1 [V.str y]=true:=rfl;simp[hx,d0];refine qh (qn8 s os (by omega) (by omega) tb taken (by omega) S1) ?_;rintro r U1 ⟨rfl,k1⟩;have z8:=qo3 s taken;have k1:=k1.push [.arr [apV s taken] 8 1];obtain ⟨p0,p1⟩:=ld k1;simp[qE,stZ z8];obtain ⟨W1,hW1⟩:∃W,W=U1++[.arr [apV s taken] 8 1]:=⟨_,rfl⟩;have l1:∀{W},Kp (fun _=>False) W1 W→ldS W (.ptr U1.length 0 0 1) (some 8)=some (apV s taken):=fun k=>ldZ z8 (by rw[←hW1];exact k)
 rw[←hW1] at k1 p0 p1 ⊢;by_cases e0:apE s taken=0
 case neg=>
  simp[e0];refine qe (ze W1) ?_;simp;exact qa rfl rfl rfl
 have v0:apV s taken=(s.ap taken).v:=if_pos e0;obtain ⟨h0,h1⟩:=qh5 e0;have ot:=Sm.ap_ok2 s os (qk h0).2 htl;have hfr:=qaO h0 htl;have hnb:=qfv h0 htl;have hsame:=qfu h0 htl;have aE:=qiP (l:=[y]) (xs:=[x]) h0 htl (fun hp=>jR.one hp) hl;have aS:=fun g=>qdL (l:=[y]) (xs:=[x]) h0 htl (jR.one (yA g).2.1) hl g
 have hfree:∀z,z∈(s.ap taken).binds→ZY z taken=false:=fun z hz=>by
  unfold Sm.binds at hz;rw[Yy,yd] at hz;exact ZC.2 (Sm.ap_free (qk h0).2 htl z (hz.resolve_left (by simp)))
 obtain ⟨t,htt⟩:∃t,t=s.ap taken:=⟨_,rfl⟩;rw[←htt] at v0 h1 ot hfr hnb hsame aE aS hfree;have l1:∀{W},Kp (fun _=>False) W1 W→ldS W (.ptr U1.length 0 0 1) (some 8)=some t.v:=fun k=>by rw[←v0];exact l1 k
 have zt:=Sm.nb1_100 (qk h1).1;have hlt:t.frees.length+Sm.nb1 [t]+(suT [y] [(y,x)]).length≤899:=by rw[hfr,hnb];exact hl
 have m1:=l1 (Kp.refl _ _);simp[e0,p0,m1];refine qh (jC s t os ot h0 h1 (by omega) hsame W1) ?_;rintro r X1 ⟨rfl,k2⟩;have m1:=l1 k2;simp[m1];refine qh (qjv t ot zt.1 zt.2 X1) ?_;rintro r X2 ⟨rfl,k3⟩;have k3:=k2.trans k3;have lbn:=t.binds_len0;simp[h1];refine qN (fun e U=>U=X2∧e.get 2=some (.str y)∧e.get 4=some (.ptr 0 0 0 1)∧e.get 7=some (.ptr 1 0 0 1)∧e.get 9=some (.ptr U1.length 0 0 1)) ?_ ?_
 ·refine qx (fun j e U=>∃i:Nat,j=t.binds.length - i∧i≤t.binds.length∧U=X2∧e=[(15,.int .i64 i),(13,.sl false (t.binds.map .str)),(1,.sl tb (taken.map .str)),(2,.str y),(4,.ptr 0 0 0 1),(7,.ptr 1 0 0 1),(9,.ptr U1.length 0 0 1)]) t.binds.length _ ?_ ⟨0,by simp,by omega,rfl,rfl⟩ ?_
  ·exact Env.so (by simp)
  rintro j e U ⟨i,rfl,hi,rfl,rfl⟩;by_cases h:i<t.binds.length
  case neg=>
   have:i=t.binds.length:=by omega
   subst this;simp
  simp[h,ZU];refine qe (qdj tb taken t.binds[i] U (by omega)) ?_;rw[hfree _ (qqP h)];simp[ZX,Qc,QG];rw[zh (n:=(i:Int)+1)];refine ⟨_,?_,_,?_,i+1,rfl,by omega,rfl⟩
  ·omega
  ·exact Env.so (by simp)
 rintro e U ⟨rfl,g2,g4,g7,g9⟩;have j3:=k3;have k3:=k1.trans k3;obtain ⟨p0,p1⟩:=ld k3;simp[g2,g4,g7,g9,p0,p1,fs,Ex.fits1];refine qh (QI s os (by omega) y x U ox (by omega) hl) ?_;rintro r V1 ⟨rfl,k4⟩;have y1:=qeH s [y] [x];have j4:=k4.push [.arr [sV s [y] [x]] 8 1];have k4:=k3.trans j4;obtain ⟨p0,p1⟩:=ld k4;have m1:=l1 (j3.trans j4);simp[qE,stZ y1,m1,p1,fs,Ex.fits1,g2,g4,g7,g9];obtain ⟨W2,hW2⟩:∃W,W=V1++[.arr [sV s [y] [x]] 8 1]:=⟨_,rfl⟩;have l2:∀{W},Kp (fun _=>False) W2 W→ldS W (.ptr V1.length 0 0 1) (some 8)=some (sV s [y] [x]):=fun k=>ldZ y1 (by rw[←hW2];exact k)
 rw[←hW2] at k4 j4 ⊢;refine qh (QI t ot zt.1 y x W2 ox (by omega) hlt) ?_;rintro r V2 ⟨rfl,k5⟩;have y2:=qeH t [y] [x];have j5:=k5.push [.arr [sV t [y] [x]] 8 1];simp[qE,stZ y2];obtain ⟨W3,hW3⟩:∃W,W=V2++[.arr [sV t [y] [x]] 8 1]:=⟨_,rfl⟩;have l3:∀{W},Kp (fun _=>False) W3 W→ldS W (.ptr V2.length 0 0 1) (some 8)=some (sV t [y] [x]):=fun k=>ldZ y2 (by rw[←hW3];exact k)
 rw[←hW3] at j5 ⊢;by_cases hE:sE s [y] [x]=sE t [y] [x]
 case neg=>
  have h2:=aE.resolve_left hE;simp[hE];refine qe (ze W3) ?_;rcases h2 with h2|h2
  ·simp[h2];exact qa rfl rfl rfl
  ·by_cases h3:sE s [y] [x]=2
   ·simp[h3];exact qa rfl rfl rfl
   ·simp[h2,h3];exact qa rfl rfl rfl
 by_cases e1:sE s [y] [x]=0
 case neg=>
  simp[hE];rw[hE] at e1;simp[e1];refine qe (ze W3) ?_;simp;exact qa rfl rfl rfl
 have e2:sE t [y] [x]=0:=by rw[←hE];exact e1
 have v1:sV s [y] [x]=(suO s [y] [(y,x)]).v:=if_pos e1;have v2:sV t [y] [x]=(suO t [y] [(y,x)]).v:=if_pos e2;obtain ⟨_,hp,_,_,r1⟩:=yA e1;obtain ⟨_,_,_,_,r2⟩:=yA e2;have r1:(Pa.st (suO s [y] [(y,x)])).err qb=0:=r1;have r2:(Pa.st (suO t [y] [(y,x)])).err qb=0:=r2;have o1:=Yx s y x os ox (qk h0).2 hl;have o2:=Yx t y x ot ox (qk h1).2 hlt
 have nu:Sm.nb1 [suO s [y] [(y,x)]]≤1000:=by
  rw[qct (qk h0).2 hl];omega
 have m2:=l2 j5;have m3:=l3 (Kp.refl _ _);rw[v1] at m2;rw[v2] at m3;simp[e1,e2,m2,m3];refine qh (jC _ _ o1 o2 r1 r2 nu (aS e1 e2) W3) ?_;rintro r X3 ⟨rfl,k6⟩;simp;refine qe (ze X3) ?_;simp;exact qa rfl rfl rfl
end Go.Proofs.YtbifpocccfkhhaaGreatDoor
namespace Go.Proofs.YtbifpocccfkhhaaGreatDoor.copyApart
open Go Go.ChangeShapes Go.WideShapes Go.ChangeAt Go.RowKit
set_option maxRecDepth 100000
theorem own:ownKnob Tryz.prog.godebug=none:=by kernel_rfl
theorem contract(H:Type)(enc:TypeId×Value→H)(W:World)(base:Nat)(args:Array Value)(ds gs:List (DataW H))(before:List MemPlace)
  (hval:∀(j:Nat) t v,Tryz.f15.params[j]?=some t→args[j]?=some v→Value.okWide Tryz.prog W .any base t v)
  (hW:DataW.Whole enc Tryz.prog Tryz.f15.params.toList Rows.copyApartSpec.vars false W args.toList ds gs before)
  (hwt:(DataW.weightsEach Tryz.prog (Tryz.f15.params.toList++(OpenSpec.ofChange Rows.copyApartSpec).bare.plain.varTypes Tryz.prog) (ds++gs)).all (·≤reachBytes)=true) (hL:laidMetH Tryz.prog Rows.copyApartRow.laid W):
  Calls Tryz.prog 15 args W fun e W'=>∃v,e=.returned v∧Rows.copyApartSpec.post enc Tryz.prog Tryz.f15 false true false false W args v W':=by
 have hW':=hW;obtain ⟨p,q,hA0,hV,rfl,hfz,hnd⟩:=hW;have hA:DataW.TrodAll enc Tryz.prog W 0 (fun _=>true) true Tryz.f15.params.toList args.toList ds p:=hA0;rw[Tryz.params15] at hA hval hwt;obtain ⟨v0,vs0,d0,ds0,p0,q0,hv0,hd0,h0,hA0⟩:=trodAll_cons hA;obtain ⟨v1,vs1,d1,ds1,p1,q1,hv1,hd1,h1,hA1⟩:=trodAll_cons hA0;obtain ⟨v2,vs2,d2,ds2,p2,q2,hv2,hd2,h2,hA2⟩:=trodAll_cons hA1;obtain ⟨v3,vs3,d3,ds3,p3,q3,hv3,hd3,h3,hA3⟩:=trodAll_cons hA2;obtain ⟨hve,hde⟩:=trodAll_nil hA3;have hds:ds=[d0,d1,d2,d3]:=by rw[hd0,hd1,hd2,hd3,hde]
 have hargs:args=#[v0,v1,v2,v3]:=by
  apply qr4.1;rw[hv0,hv1,hv2,hv3,hve]
 subst hds hargs;obtain ⟨rfl,rfl⟩:=trodVars_none hV;rw[qrC] at hwt;obtain ⟨a0,o0,r0⟩:=stmt_in (hval 0 28 v0 rfl rfl) h0 (fitw_of hwt (i:=0) rfl rfl);obtain ⟨a1,o1,r1⟩:=strs_in (hval 1 22 v1 rfl rfl) h1 (fitw_of hwt (i:=1) rfl rfl);obtain ⟨a2,o2,r2⟩:=text_in (hval 2 9 v2 rfl rfl) h2 (fitw_of hwt (i:=2) rfl rfl);obtain ⟨a3,o3,r3⟩:=exp_in (hval 3 54 v3 rfl rfl) h3 (fitw_of hwt (i:=3) rfl rfl);refine law_of (qnJ a0 false a1 a2 a3 o0 o3) (SR.start hL) ⟨rfl,fun i v u hv hu=>?_⟩ (by kernel_rfl) rfl rfl hW' rfl
 match i,hv,hu with
 | 0,hv,hu=>cases hv;cases hu;exact r0
 | 1,hv,hu=>cases hv;cases hu;exact r1
 | 2,hv,hu=>cases hv;cases hu;exact r2
 | 3,hv,hu=>cases hv;cases hu;exact r3
noncomputable def laidWorld(os:Os):World:=
 let N:=(World.settled Tryz.prog os).heap.size
 let w0:=World.holding Tryz.prog os ⟨#[.cells (#[9,13,1,32,133,101,160,5760,5600,8192,8202,1,8232,8233,1,8239,8287,48,12288,12288,1].map fun (z:Nat)=>Value.int .u16 (z:Int)) 279,.cells #[.slice (some ⟨N,0,none⟩) 7 7,.slice none 0 0,.int .i64 2] 276],#[],[]⟩
 let put (h:Array Obj) (g:Nat) (cs:Array Value):Array Obj:=h.modify g fun
  | .cells _ t frozen=>.cells cs t frozen
  | o=>o
 let h1:=put w0.heap 0 (Lib.asciiSpaceTab.map fun z=>Value.int .u8 z).toArray
 let h2:=put h1 1 #[.pointer (some ⟨N+1,0,none⟩)]
 let h3:=put h2 2 (Lib.pow10Tab.map fun z=>Value.int .u64 z).toArray
 let h4:=put h3 3 (#[0,1,28,2,29,14,24,3,30,22,20,15,25,17,4,8,31,27,13,23,21,19,16,7,26,12,18,6,11,5,10,9].map fun (z:Nat)=>Value.int .u8 (z:Int))
 let h5:=put h4 4 (#[0,1,56,2,57,49,28,3,61,58,42,50,38,29,17,4,62,47,59,36,45,43,51,22,53,39,33,30,24,18,12,5,63,55,48,27,60,41,37,16,46,35,44,21,52,32,23,11,54,26,40,15,34,20,31,10,25,14,19,9,13,8,7,6].map fun (z:Nat)=>Value.int .u8 (z:Int))
 { w0 with heap:=h5 }
def wArgs:Array Value:=#[.agg #[.slice none 0 0,.int .i64 0,.string ⟨#[]⟩,.slice none 0 0,.slice none 0 0,.slice none 0 0,.slice none 0 0,.slice none 0 0],.slice none 0 0,.string ⟨#[]⟩,.agg #[.int .i64 0,.int .i64 0,.int .i64 0,.int .i64 0,.int .i64 0,.string ⟨#[]⟩,.slice none 0 0]]
theorem laid_met(os:Os):laidMet Tryz.prog Rows.copyApartRow.laid ((laidWorld os).forCall (fun _ _=>0) ⟨#[],wArgs,[]⟩).memory:=
 laidMet_of_run' 10 (by kernel_rfl) (by kernel_rfl)
theorem reads(os:Os){H:Type}(enc:TypeId×Value→H):∃places,DataW.whole enc Tryz.prog ((laidWorld os).forCall (fun _ _=>0) ⟨#[],wArgs,[]⟩).memory Tryz.f15.params.toList Rows.copyApartSpec.vars false wArgs.toList 8=some ([.agg [.nil,.lit (.int .i64 0),.lit (.string []),.nil,.nil,.nil,.nil,.nil],.nil,.lit (.string []),.agg [.lit (.int .i64 0),.lit (.int .i64 0),.lit (.int .i64 0),.agg [.lit (.int .i64 0),.lit (.int .i64 0)],.lit (.string []),.nil]],[],places):=
 ⟨[],by kernel_rfl⟩
theorem lifted(os:Os)(started:os.Started)(H:Type)(enc:TypeId×Value→H)(F:Stop.Interp):
  ReturnsInHanded {} Tryz.checked os 15 .any ((OpenSpec.ofChange Rows.copyApartSpec).preRow enc Tryz.prog Tryz.f15 Rows.copyApartRow.domain false Rows.copyApartRow.laid) (((OpenSpec.ofChange Rows.copyApartSpec).at F).post enc Tryz.prog Tryz.f15 false true false false):=by
 obtain ⟨places,hx⟩:=reads os enc;refine returnsInHanded_of_row (C:=Tryz.checked) (s:=OpenSpec.ofChange Rows.copyApartSpec) own started (by kernel_rfl) Tryz.func15
  (witness_row_atRef (enc:=enc) (C:=Tryz.checked) false (laidWorld os) wArgs rfl (by kernel_rfl) (by kernel_rfl) (by kernel_rfl)
   (OpenSpec.preRow_of_cond 8 hx (by kernel_rfl) (fun k hk=>by cases hk) (by kernel_rfl) (laid_met os))) ?_
 intro W base args ds gs before hval hW _ _ hwt hL _ _;exact contract H enc W base args ds gs before hval hW hwt hL
theorem andT{a b:Bool}(ha:a=true)(hb:b=true):(a && b)=true:=by rw[ha,hb];rfl
theorem fact1:Rows.copyApartRow.wf (OpenSpec.ofChange (OpenSpec.ofChange Rows.copyApartSpec).bare)=true:=by kernel_rfl
theorem fact2:laidOutB Tryz.prog=true:=by kernel_rfl
theorem fact3:mapsRowed Tryz.prog=true:=by kernel_rfl
theorem fact4:Tryz.f15.params.all (Tryz.prog.readableRec ·)=true:=by kernel_rfl
theorem fact5:namedTie Tryz.prog Rows.copyApartRow.named (OpenSpec.ofChange Rows.copyApartSpec).bare.vars=true:=by kernel_rfl
theorem fact6:(Rows.copyApartRow.stops==[])=true:=by kernel_rfl
theorem fact7:(Tryz.prog.stops==[])=true:=by kernel_rfl
theorem fact8:(Rows.copyApartRow.knobs==[])=true:=by kernel_rfl
theorem fact9:(Tryz.prog.stopKnobs==[])=true:=by kernel_rfl
theorem fact10:(Rows.copyApartRow.inPlace==Tryz.prog.inPlace 15)=true:=by kernel_rfl
theorem fact11:(Rows.copyApartRow.unfollowed==Tryz.prog.unfollowed 15)=true:=by kernel_rfl
theorem fact12:(Rows.copyApartRow.recurses==Tryz.prog.recurses 15)=true:=by kernel_rfl
theorem fact13:(Rows.copyApartRow.named==Tryz.prog.varsNamed 15)=true:=by kernel_rfl
theorem fact14:(Rows.copyApartRow.maps==(Tryz.f15.params.toList++(OpenSpec.ofChange Rows.copyApartSpec).bare.plain.varTypes Tryz.prog).any (Tryz.prog.mapsRec ·))=true:=by kernel_rfl
theorem fact15:(Rows.copyApartRow.ifaces==(Tryz.f15.params.toList++(OpenSpec.ofChange Rows.copyApartSpec).bare.plain.varTypes Tryz.prog).any (Tryz.prog.ifacesRec ·))=true:=by kernel_rfl
theorem fact16:(Rows.copyApartRow.mapsOut==Tryz.prog.mapsAmong Tryz.f15.resultTypes.toList)=true:=by kernel_rfl
theorem fact17:(Rows.copyApartRow.loops==(Tryz.f15.params.toList++(OpenSpec.ofChange Rows.copyApartSpec).bare.plain.varTypes Tryz.prog).any (Tryz.prog.loopsFrom ·))=true:=by kernel_rfl
theorem fact18:(Rows.copyApartRow.wideKeys==((Tryz.f15.params.toList++(OpenSpec.ofChange Rows.copyApartSpec).bare.plain.varTypes Tryz.prog)++Tryz.f15.resultTypes.toList).any (Tryz.prog.wideKeysFrom ·))=true:=by kernel_rfl
theorem fact19:(OpenSpec.ofChange Rows.copyApartSpec).bare.vars.all (Tryz.prog.varReadable ·)=true:=by kernel_rfl
theorem fact20:Tryz.f15.resultTypes.all (fun t=>Tryz.prog.readableRec t && decide (t<Tryz.prog.types.size))=true:=by kernel_rfl
theorem fact21:(Rows.copyApartRow.ifacesOut==Tryz.f15.resultTypes.toList.any (Tryz.prog.ifacesRec ·))=true:=by kernel_rfl
theorem fact22:(Rows.copyApartRow.loopsOut==Tryz.f15.resultTypes.toList.any (Tryz.prog.loopsFrom ·))=true:=by kernel_rfl
theorem fact23:(Rows.copyApartRow.plainKeys==Tryz.prog.plainKeys)=true:=by kernel_rfl
theorem fact24:Rows.copyApartRow.shortTexts.isNone=true:=by kernel_rfl
theorem fact25:Tryz.prog.stopsHeard=true:=by kernel_rfl
theorem fact26:Tryz.prog.mayEnter=true:=by kernel_rfl
theorem fact27:(Rows.copyApartRow.lifted==Tryz.prog.liftsFinal)=true:=by kernel_rfl
theorem fact28:(Tryz.prog.make==some Rows.copyApartRow.make)=true:=by kernel_rfl
theorem fact29:(Rows.copyApartRow.kinds==(if Rows.copyApartRow.domain.isEmpty then [] else Tryz.f15.params.toList.map fun t=>match Tryz.prog.underlying t with|some (.int k)=>some k|_=>none))=true:=by kernel_rfl
theorem fact30:(Rows.copyApartRow.pinned==Rows.copyApartRow.pinnedBy)=true:=by kernel_rfl
theorem fact31:(Rows.copyApartRow.veiled==((Tryz.f15.params.toList++(OpenSpec.ofChange Rows.copyApartSpec).bare.plain.varTypes Tryz.prog)++Tryz.f15.resultTypes.toList).any (Tryz.prog.veiledRec ·))=true:=by kernel_rfl
theorem fact32:Rows.copyApartRow.veiledFits Tryz.prog Tryz.f15.params.toList ((Tryz.f15.params.toList++(OpenSpec.ofChange Rows.copyApartSpec).bare.plain.varTypes Tryz.prog)++Tryz.f15.resultTypes.toList)=true:=by kernel_rfl
theorem facts:joinedFacts Tryz.pinned.checked.prog 15 Tryz.f15 (OpenSpec.ofChange Rows.copyApartSpec).bare Rows.copyApartRow=true:=(andT (andT (andT (andT (andT (andT (andT (andT (andT (andT (andT (andT (andT (andT (andT (andT (andT (andT (andT (andT (andT (andT (andT (andT (andT (andT (andT (andT (andT (andT (andT fact1 fact2) fact3) fact4) fact5) fact6) fact7) fact8) fact9) fact10) fact11) fact12) fact13) fact14) fact15) fact16) fact17) fact18) fact19) fact20) fact21) fact22) fact23) fact24) fact25) fact26) fact27) fact28) fact29) fact30) fact31) fact32)
theorem name15:Tryz.pinned.checked.prog.funcNamed Rows.copyApartRow.func=some 15:=by kernel_rfl
theorem inst15:Tryz.f15.isInstance Tryz.pinned.checked.prog Rows.copyApartRow.origin Rows.copyApartRow.targs:=of_decide_eq_true (by kernel_rfl)
theorem wrap15:Tryz.f15.isWrapper Tryz.pinned.checked.prog Rows.copyApartRow.wrapper Rows.copyApartRow.mainSum:=by unfold Func.isWrapper;first|(rw[if_pos (by decide+kernel)];kernel_rfl)|(rw[if_neg (by decide+kernel)];exact ⟨rfl,rfl⟩)
theorem said:Rows.CopyApartSaid:=
 OpenClaim.holds_of_cond 15 Tryz.f15 rfl rfl rfl rfl rfl rfl rfl ⟨rfl,rfl,rfl,rfl,rfl⟩ rfl rfl rfl rfl rfl name15 Tryz.func15 facts inst15 wrap15
  (fun os started H enc _ F=>by rw[OpenClaim.pre_eq_preRow];exact lifted os started H enc F)
theorem looksT:false=Tryz.pinned.checked.prog.looks []:=by kernel_rfl
theorem stand9:Tryz.prog.wantsStandIn 9=false:=by kernel_rfl
theorem stand22:Tryz.prog.wantsStandIn 22=false:=by kernel_rfl
theorem stand28:Tryz.prog.wantsStandIn 28=false:=by kernel_rfl
theorem stand54:Tryz.prog.wantsStandIn 54=false:=by kernel_rfl
theorem named15 : Tryz.prog.funcNamed "manorboy/manorboylaw09.CopyApart" = some 15 := by kernel_rfl
theorem plain (f : FuncId) (fn : Func) (hf : Tryz.pinned.checked.prog.funcNamed "manorboy/manorboylaw09.CopyApart" = some f) (hfn : Tryz.pinned.checked.prog.funcs[f]? = some fn) :
  false=Tryz.pinned.checked.prog.looks []∧∀(j:Nat) t,fn.params[j]?=some t→Tryz.pinned.checked.prog.wantsStandIn t=false:=by
 obtain rfl:f=15:=Option.some.inj (named15.symm.trans hf) |>.symm;obtain rfl:fn=Tryz.f15:=(Option.some.inj (Tryz.func15.symm.trans hfn)).symm;refine ⟨looksT,fun j t ht=>?_⟩;rw[Tryz.params15] at ht;have:t=28∨t=22∨t=9∨t=54:=by simpa using Array.mem_of_getElem? ht
 rcases this with rfl|rfl|rfl|rfl
 ·exact stand28
 ·exact stand22
 ·exact stand9
 ·exact stand54
theorem wfText:Rows.copyApartRow.wfByText (OpenSpec.ofChange Rows.copyApartSpec)=true:=by kernel_rfl
theorem mainT:Tryz.pinned.checked.prog.mainIs=some (Rows.copyApartCard.stood.harness.1,Rows.copyApartCard.stood.harness.2.toList):=by kernel_rfl
theorem goesT:false=Rows.copyApartRow.goesBy Tryz.pinned.checked.prog:=by kernel_rfl
theorem card:Rows.CopyApartCardSaid:=
 Claim7.holds_tied_plain_at .later [] _ _ _ _ said (fun _ h=>by cases h) wfText (fun _ h=>by cases h) copyApart_row_tie rfl ⟨rfl,rfl⟩ mainT rfl plain goesT
end Go.Proofs.YtbifpocccfkhhaaGreatDoor.copyApart
namespace Go.Proofs.YtbifpocccfkhhaaGreatDoor
theorem copyApart_holds:Rows.CopyApartCardSaid:=copyApart.card
end Go.Proofs.YtbifpocccfkhhaaGreatDoor
end
