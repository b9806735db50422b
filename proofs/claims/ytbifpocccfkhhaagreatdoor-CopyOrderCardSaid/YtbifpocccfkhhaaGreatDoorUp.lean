/- The statement CopyOrder holds: for every statement, two names and two expressions the law returns true and changes nothing. Conditions: none. -/
import Derived.Test.YtbifpocccfkhhaaGreatDoorUn
set_option linter.all false
noncomputable section
namespace Go.Proofs.YtbifpocccfkhhaaGreatDoor
open Go Go.Proofs.Tryz
open Classical in
theorem qnv(s:Sm)(y z:Bz)(a b:Ex)(os:s.ok)(oa:a.ok)(ob:b.ok):Fn prog 12 [s.v,.str y,.str z,a.v,b.v] [] (.bool true):=by
 refine qv.ib func12 ok12 ?_;obtain ⟨S1,hS1⟩:∃S1:St,S1=[.arr [s.v] 8 1,.arr [a.v] 7 1,.arr [b.v] 7 1]:=⟨_,rfl⟩;have b0:S1[0]?=some (.arr [s.v] 8 1):=by rw[hS1];rfl
 have b1:S1[1]?=some (.arr [a.v] 7 1):=by rw[hS1];rfl
 have b2:S1[2]?=some (.arr [b.v] 7 1):=by rw[hS1];rfl
 have ld:∀{U:St},Kp (fun _=>False) S1 U→ldS U (.ptr 0 0 0 1) (some 8)=some s.v∧ldS U (.ptr 1 0 0 1) (some 7)=some a.v∧ldS U (.ptr 2 0 0 1) (some 7)=some b.v:=fun k=>by
  have c0:=k.at b0 id;have c1:=k.at b1 id;have c2:=k.at b2 id;simp[ldS,c0,c1,c2]
 obtain ⟨d0,d1,d2⟩:=ld (Kp.refl _ S1);have san:∀(U:St),Fn prog 18 [] U (.bool true):=fun U=>ze U
 simp[c12,qE];rw[←hS1];simp[d0];refine qe (qdz s os S1) ?_
 cases la:s.light with
 | false=>
  simp;refine qe (ze S1) ?_;simp;exact qa rfl rfl rfl
 | true=>
 have q26:Fn prog 26 [.sl true [a.v,b.v]] S1 (.bool (decide (0<Ex.leftL [a,b] 0 60))):=qv.weakA (by
  have:=qc4 [a,b] (by simp[B50]) ⟨oa,ob,trivial⟩ S1;simpa[V.weakL,V.weak,Ex.v_weak] using this)
 have f2:fits 7 [a.v,b.v]=true:=by simp[fits]
 simp[d1,d2,f2];refine qe q26 ?_;by_cases hx:0<Ex.leftL [a,b] 0 60
 case neg=>
  simp[hx];refine qe (ze S1) ?_;simp;exact qa rfl rfl rfl
 have zs:=QV la;have ns:=qda la;have lf:=s.frees_len0
 have zab:(Pa.ex a).size+(Pa.ex b).size<60:=by
  have:=Ex.leftL_size [a,b] 0 60 hx;have h0:qA []=0:=rfl;rw[qqH,qqH,qrh,sizes_cons,sizes_cons,h0] at this;omega
 have oca:=Ex.occ_len a;have ocb:=Ex.occ_len b;by_cases hyz:y=z
 ·simp[hx,hyz];refine qe (ze S1) ?_;simp;exact qa rfl rfl rfl
 simp[hx,hyz,d1];refine qh (qjw z a oa (by omega) S1) ?_;rintro r U1 ⟨rfl,k1⟩;obtain ⟨p0,p1,p2⟩:=ld k1
 cases hA:(decide ((Pa.ex a).err qb=0) && !ZY z a.names) with
 | false=>
  simp;refine qe (ze U1) ?_;simp;exact qa rfl rfl rfl
 | true=>
 simp[p2];refine qh (qjw y b ob (by omega) U1) ?_;rintro r U2 ⟨rfl,k2⟩;have k2:=k1.trans k2;obtain ⟨p0,p1,p2⟩:=ld k2
 cases hB:(decide ((Pa.ex b).err qb=0) && !ZY y b.names) with
 | false=>
  simp;refine qe (ze U2) ?_;simp;exact qa rfl rfl rfl
 | true=>
 simp only[qqL,decide_eq_true_eq,qsj,ZC,Ex.mem_names] at hA hB;have la:s.frees.length+Sm.nb1 [s]+(suT [y] [(y,a)]).length≤899:=by rw[Qa];omega
 have lb:s.frees.length+Sm.nb1 [s]+(suT [z] [(z,b)]).length≤899:=by rw[Qa];omega
 have lab:s.frees.length+Sm.nb1 [s]+(suT [y,z] [(y,a),(z,b)]).length≤899:=by rw[qgO];omega
 have fs:∀x:Bz,fits 1 [V.str x]=true:=fun _=>rfl
 have fs2:fits 1 [V.str y,V.str z]=true:=rfl;simp[p0,p1,fs,Ex.fits1];refine qh (QI s os (by omega) y a U2 oa (by omega) la) ?_;rintro r V1 ⟨rfl,k3⟩;have y1:=qeH s [y] [a];have k3:=(k2.trans k3).push [.arr [sV s [y] [a]] 8 1];obtain ⟨p0,p1,p2⟩:=ld k3;simp[qE,stZ y1,p0,p2,fs,Ex.fits1];obtain ⟨W1,hW1⟩:∃W,W=V1++[.arr [sV s [y] [a]] 8 1]:=⟨_,rfl⟩;have l1:∀{W},Kp (fun _=>False) W1 W→ldS W (.ptr V1.length 0 0 1) (some 8)=some (sV s [y] [a]):=fun k=>ldZ y1 (by rw[←hW1];exact k)
 rw[←hW1] at k3 ⊢;refine qh (QI s os (by omega) z b W1 ob (by omega) lb) ?_;rintro r V2 ⟨rfl,k4⟩;have y2:=qeH s [z] [b];have j4:=k4.push [.arr [sV s [z] [b]] 8 1];have k4:=k3.trans j4;obtain ⟨p0,p1,p2⟩:=ld k4;simp[qE,stZ y2,p0,p1,p2,fs2,f2];obtain ⟨W2,hW2⟩:∃W,W=V2++[.arr [sV s [z] [b]] 8 1]:=⟨_,rfl⟩;have l2:∀{W},Kp (fun _=>False) W2 W→ldS W (.ptr V2.length 0 0 1) (some 8)=some (sV s [z] [b]):=fun k=>ldZ y2 (by rw[←hW2];exact k)
 rw[←hW2] at k4 j4 ⊢;have q32:qv prog 32 [s.v,.sl true [.str y,.str z],.sl true [a.v,b.v]] W2 (fun r U'=>r=.tup [sV s [y,z] [a,b],.int .i64 (sE s [y,z] [a,b])]∧Kp (fun _=>False) W2 U'):=
  qe0 s os (by omega) true true [y,z] [a,b] (by simp) (by simp) (fun x hx=>by simp at hx;rcases hx with rfl|rfl <;> omega) (fun x hx=>by simp at hx;rcases hx with rfl|rfl <;> assumption) lab W2
 refine qh q32 ?_;rintro r V3 ⟨rfl,k5⟩;have y3:=qeH s [y,z] [a,b];have j5:=k5.push [.arr [sV s [y,z] [a,b]] 8 1];have k5:=k4.trans j5;simp[qE,stZ y3];obtain ⟨W3,hW3⟩:∃W,W=V3++[.arr [sV s [y,z] [a,b]] 8 1]:=⟨_,rfl⟩;have l3:∀{W},Kp (fun _=>False) W3 W→ldS W (.ptr V3.length 0 0 1) (some 8)=some (sV s [y,z] [a,b]):=fun k=>ldZ y3 (by rw[←hW3];exact k)
 rw[←hW3] at k5 j5 ⊢;by_cases e1:sE s [y] [a]=0
 case neg=>
  simp[e1];refine qe (ze W3) ?_;simp;exact qa rfl rfl rfl
 by_cases e2:sE s [z] [b]=0
 case neg=>
  simp[e1,e2];refine qe (ze W3) ?_;simp;exact qa rfl rfl rfl
 by_cases e3:sE s [y,z] [a,b]=0
 case neg=>
  simp[e1,e2,e3];refine qe (ze W3) ?_;simp;exact qa rfl rfl rfl
 have v1:sV s [y] [a]=(suO s [y] [(y,a)]).v:=if_pos e1;have v2:sV s [z] [b]=(suO s [z] [(z,b)]).v:=if_pos e2;have v3:sV s [y,z] [a,b]=(suO s [y,z] [(y,a),(z,b)]).v:=if_pos e3;obtain ⟨h0,_,_,_,r1⟩:=yA e1;obtain ⟨_,_,_,_,r2⟩:=yA e2;obtain ⟨_,_,_,_,r3⟩:=qaF e3;have r3:(Pa.st (suO s [y,z] [(y,a),(z,b)])).err qb=0:=r3;obtain ⟨⟨g1,g2⟩,g3,g4⟩:=qnj (by omega) (by omega) hyz hA.2 hB.2 e1 e2 e3;have o1:=Yx s y a os oa (qk h0).2 la;have o2:=Yx s z b os ob (qk h0).2 lb;have o3:(suO s [y,z] [(y,a),(z,b)]).ok:=Sm.wholeR_ok (qcR (fun e he=>by simp at he;rcases he with rfl|rfl <;> assumption)) _ (Sm.ap_ok2 s os (qk h0).2 lab);have n1:=YS (z:=z) (b:=b) (by omega) (by omega) e1;have n2:=YS (z:=y) (b:=a) (by omega) (by omega) e2;have z1:=(Sm.nb1_100 (qk r1).1).1;have z2:=(Sm.nb1_100 (qk r2).1).1;obtain ⟨one,hone⟩:∃t,t=suO s [y] [(y,a)]:=⟨_,rfl⟩;obtain ⟨two,htwo⟩:∃t,t=suO s [z] [(z,b)]:=⟨_,rfl⟩;obtain ⟨both,hboth⟩:∃t,t=suO s [y,z] [(y,a),(z,b)]:=⟨_,rfl⟩;rw[←hone] at v1 r1 g1 g3 o1 n1 z1;rw[←htwo] at v2 r2 g2 g4 o2 n2 z2;rw[←hboth] at v3 r3 g3 g4 o3;obtain ⟨p0,p1,p2⟩:=ld k5;have m1:=l1 (j4.trans j5);have m2:=l2 j5;rw[v1] at m1;rw[v2] at m2;simp[e1,e2,e3,m1,p2,fs,Ex.fits1];refine qh (QI one o1 z1 z b W3 ob (by omega) n1) ?_;rintro r V4 ⟨rfl,k6⟩;have y4:=qeH one [z] [b];have j6:=k6.push [.arr [sV one [z] [b]] 8 1];have k6:=k5.trans j6;obtain ⟨p0,p1,p2⟩:=ld k6;have m2:=l2 (j5.trans j6);rw[v2] at m2;simp[qE,stZ y4,m2,p1,fs,Ex.fits1];obtain ⟨W4,hW4⟩:∃W,W=V4++[.arr [sV one [z] [b]] 8 1]:=⟨_,rfl⟩;have l4:∀{W},Kp (fun _=>False) W4 W→ldS W (.ptr V4.length 0 0 1) (some 8)=some (sV one [z] [b]):=fun k=>ldZ y4 (by rw[←hW4];exact k)
 rw[←hW4] at k6 j6 ⊢;refine qh (QI two o2 z2 y a W4 oa (by omega) n2) ?_;rintro r V5 ⟨rfl,k7⟩;have y5:=qeH two [y] [a];have j7:=k7.push [.arr [sV two [y] [a]] 8 1];have k7:=k6.trans j7;simp[qE,stZ y5];obtain ⟨W5,hW5⟩:∃W,W=V5++[.arr [sV two [y] [a]] 8 1]:=⟨_,rfl⟩;have l5:∀{W},Kp (fun _=>False) W5 W→ldS W (.ptr V5.length 0 0 1) (some 8)=some (sV two [y] [a]):=fun k=>ldZ y5 (by rw[←hW5];exact k)
 rw[←hW5] at k7 j7 ⊢;by_cases e4:sE one [z] [b]=0
 case neg=>
  have e4':sE one [z] [b]=2:=g1.resolve_left e4;simp[e4'];refine qe (ze W5) ?_;simp;exact qa rfl rfl rfl
 by_cases e5:sE two [y] [a]=0
 case neg=>
  have e5':sE two [y] [a]=2:=g2.resolve_left e5;simp[e4,e5'];refine qe (ze W5) ?_;simp;exact qa rfl rfl rfl
 have v4:sV one [z] [b]=(suO one [z] [(z,b)]).v:=if_pos e4;have v5:sV two [y] [a]=(suO two [y] [(y,a)]).v:=if_pos e5;have w4:=g3 e4;have w5:=g4 e5;obtain ⟨_,hp4,_,_,r4⟩:=yA e4;obtain ⟨_,hp5,_,_,r5⟩:=yA e5;have r4:(Pa.st (suO one [z] [(z,b)])).err qb=0:=r4;have r5:(Pa.st (suO two [y] [(y,a)])).err qb=0:=r5;have o4:=Yx one z b o1 ob (qk r1).2 n1;have o5:=Yx two y a o2 oa (qk r2).2 n2
 have nu:Sm.nb1 [suO one [z] [(z,b)]]≤1000:=by
  rw[qct (qk r1).2 n1];have:=n1;omega
 have m4:=l4 j7;have m5:=l5 (Kp.refl _ _);rw[v4] at m4;rw[v5] at m5;simp[e4,e5,m4,m5];refine qh (jC _ _ o4 o5 r4 r5 nu (w4.trans w5.symm) W5) ?_;rintro r X1 ⟨rfl,k8⟩;have m4:=l4 (j7.trans k8);rw[v4] at m4;have m3:=l3 ((j6.trans j7).trans k8);rw[v3] at m3;simp[m4,m3];refine qh (jC _ _ o4 o3 r4 r3 nu w4 X1) ?_;rintro r X2 ⟨rfl,k9⟩;simp;refine qe (ze X2) ?_;simp;exact qa rfl rfl rfl
end Go.Proofs.YtbifpocccfkhhaaGreatDoor
namespace Go.Proofs.YtbifpocccfkhhaaGreatDoor.copyOrder
open Go Go.ChangeShapes Go.WideShapes Go.ChangeAt Go.RowKit
set_option maxRecDepth 100000
theorem own:ownKnob Tryz.prog.godebug=none:=by kernel_rfl
theorem contract(H:Type)(enc:TypeId×Value→H)(W:World)(base:Nat)(args:Array Value)(ds gs:List (DataW H))(before:List MemPlace)
  (hval:∀(j:Nat) t v,Tryz.f12.params[j]?=some t→args[j]?=some v→Value.okWide Tryz.prog W .any base t v)
  (hW:DataW.Whole enc Tryz.prog Tryz.f12.params.toList Rows.copyOrderSpec.vars false W args.toList ds gs before)
  (hwt:(DataW.weightsEach Tryz.prog (Tryz.f12.params.toList++(OpenSpec.ofChange Rows.copyOrderSpec).bare.plain.varTypes Tryz.prog) (ds++gs)).all (·≤reachBytes)=true) (hL:laidMetH Tryz.prog Rows.copyOrderRow.laid W):
  Calls Tryz.prog 12 args W fun e W'=>∃v,e=.returned v∧Rows.copyOrderSpec.post enc Tryz.prog Tryz.f12 false true false false W args v W':=by
 have hW':=hW;obtain ⟨p,q,hA0,hV,rfl,hfz,hnd⟩:=hW;have hA:DataW.TrodAll enc Tryz.prog W 0 (fun _=>true) true Tryz.f12.params.toList args.toList ds p:=hA0;rw[Tryz.params12] at hA hval hwt;obtain ⟨v0,vs0,d0,ds0,p0,q0,hv0,hd0,h0,hA0⟩:=trodAll_cons hA;obtain ⟨v1,vs1,d1,ds1,p1,q1,hv1,hd1,h1,hA1⟩:=trodAll_cons hA0;obtain ⟨v2,vs2,d2,ds2,p2,q2,hv2,hd2,h2,hA2⟩:=trodAll_cons hA1;obtain ⟨v3,vs3,d3,ds3,p3,q3,hv3,hd3,h3,hA3⟩:=trodAll_cons hA2;obtain ⟨v4,vs4,d4,ds4,p4,q4,hv4,hd4,h4,hA4⟩:=trodAll_cons hA3;obtain ⟨hve,hde⟩:=trodAll_nil hA4;have hds:ds=[d0,d1,d2,d3,d4]:=by rw[hd0,hd1,hd2,hd3,hd4,hde]
 have hargs:args=#[v0,v1,v2,v3,v4]:=by
  apply qr4.1;rw[hv0,hv1,hv2,hv3,hv4,hve]
 subst hds hargs;obtain ⟨rfl,rfl⟩:=trodVars_none hV;rw[qrC] at hwt;obtain ⟨a0,o0,r0⟩:=stmt_in (hval 0 28 v0 rfl rfl) h0 (fitw_of hwt (i:=0) rfl rfl);obtain ⟨a1,o1,r1⟩:=text_in (hval 1 9 v1 rfl rfl) h1 (fitw_of hwt (i:=1) rfl rfl);obtain ⟨a2,o2,r2⟩:=text_in (hval 2 9 v2 rfl rfl) h2 (fitw_of hwt (i:=2) rfl rfl);obtain ⟨a3,o3,r3⟩:=exp_in (hval 3 54 v3 rfl rfl) h3 (fitw_of hwt (i:=3) rfl rfl);obtain ⟨a4,o4,r4⟩:=exp_in (hval 4 54 v4 rfl rfl) h4 (fitw_of hwt (i:=4) rfl rfl);refine law_of (qnv a0 a1 a2 a3 a4 o0 o3 o4) (SR.start hL) ⟨rfl,fun i v u hv hu=>?_⟩ (by kernel_rfl) rfl rfl hW' rfl
 match i,hv,hu with
 | 0,hv,hu=>cases hv;cases hu;exact r0
 | 1,hv,hu=>cases hv;cases hu;exact r1
 | 2,hv,hu=>cases hv;cases hu;exact r2
 | 3,hv,hu=>cases hv;cases hu;exact r3
 | 4,hv,hu=>cases hv;cases hu;exact r4
noncomputable def laidWorld(os:Os):World:=
 let N:=(World.settled Tryz.prog os).heap.size
 let w0:=World.holding Tryz.prog os ⟨#[.cells (#[9,13,1,32,133,101,160,5760,5600,8192,8202,1,8232,8233,1,8239,8287,48,12288,12288,1].map fun (z:Nat)=>Value.int .u16 (z:Int)) 279,.cells #[.slice (some ⟨N,0,none⟩) 7 7,.slice none 0 0,.int .i64 2] 276],#[],[]⟩
 let put (h:Array Obj) (g:Nat) (cs:Array Value):Array Obj:=h.modify g fun
  | .cells _ t frozen=>.cells cs t frozen
  | o=>o
 let h1:=put w0.heap 0 (Lib.asciiSpaceTab.map fun z=>Value.int .u8 z).toArray
 let h2:=put h1 1 #[.pointer (some ⟨N+1,0,none⟩)]
 let h3:=put h2 2 (Lib.pow10Tab.map fun z=>Value.int .u64 z).toArray
 let h4:=put h3 3 (#[0,1,28,2,29,14,24,3,30,22,20,15,25,17,4,8,31,27,13,23,21,19,16,7,26,12,18,6,11,5,10,9].map fun (z:Nat)=>Value.int .u8 (z:Int))
 let h5:=put h4 4 (#[0,1,56,2,57,49,28,3,61,58,42,50,38,29,17,4,62,47,59,36,45,43,51,22,53,39,33,30,24,18,12,5,63,55,48,27,60,41,37,16,46,35,44,21,52,32,23,11,54,26,40,15,34,20,31,10,25,14,19,9,13,8,7,6].map fun (z:Nat)=>Value.int .u8 (z:Int))
 { w0 with heap:=h5 }
def wArgs:Array Value:=#[.agg #[.slice none 0 0,.int .i64 0,.string ⟨#[]⟩,.slice none 0 0,.slice none 0 0,.slice none 0 0,.slice none 0 0,.slice none 0 0],.string ⟨#[]⟩,.string ⟨#[]⟩,.agg #[.int .i64 0,.int .i64 0,.int .i64 0,.int .i64 0,.int .i64 0,.string ⟨#[]⟩,.slice none 0 0],.agg #[.int .i64 0,.int .i64 0,.int .i64 0,.int .i64 0,.int .i64 0,.string ⟨#[]⟩,.slice none 0 0]]
theorem laid_met(os:Os):laidMet Tryz.prog Rows.copyOrderRow.laid ((laidWorld os).forCall (fun _ _=>0) ⟨#[],wArgs,[]⟩).memory:=
 laidMet_of_run' 10 (by kernel_rfl) (by kernel_rfl)
theorem reads(os:Os){H:Type}(enc:TypeId×Value→H):∃places,DataW.whole enc Tryz.prog ((laidWorld os).forCall (fun _ _=>0) ⟨#[],wArgs,[]⟩).memory Tryz.f12.params.toList Rows.copyOrderSpec.vars false wArgs.toList 8=some ([.agg [.nil,.lit (.int .i64 0),.lit (.string []),.nil,.nil,.nil,.nil,.nil],.lit (.string []),.lit (.string []),.agg [.lit (.int .i64 0),.lit (.int .i64 0),.lit (.int .i64 0),.agg [.lit (.int .i64 0),.lit (.int .i64 0)],.lit (.string []),.nil],.agg [.lit (.int .i64 0),.lit (.int .i64 0),.lit (.int .i64 0),.agg [.lit (.int .i64 0),.lit (.int .i64 0)],.lit (.string []),.nil]],[],places):=
 ⟨[],by kernel_rfl⟩
theorem lifted(os:Os)(started:os.Started)(H:Type)(enc:TypeId×Value→H)(F:Stop.Interp):
  ReturnsInHanded {} Tryz.checked os 12 .any ((OpenSpec.ofChange Rows.copyOrderSpec).preRow enc Tryz.prog Tryz.f12 Rows.copyOrderRow.domain false Rows.copyOrderRow.laid) (((OpenSpec.ofChange Rows.copyOrderSpec).at F).post enc Tryz.prog Tryz.f12 false true false false):=by
 obtain ⟨places,hx⟩:=reads os enc;refine returnsInHanded_of_row (C:=Tryz.checked) (s:=OpenSpec.ofChange Rows.copyOrderSpec) own started (by kernel_rfl) Tryz.func12
  (witness_row_atRef (enc:=enc) (C:=Tryz.checked) false (laidWorld os) wArgs rfl (by kernel_rfl) (by kernel_rfl) (by kernel_rfl)
   (OpenSpec.preRow_of_cond 8 hx (by kernel_rfl) (fun k hk=>by cases hk) (by kernel_rfl) (laid_met os))) ?_
 intro W base args ds gs before hval hW _ _ hwt hL _ _;exact contract H enc W base args ds gs before hval hW hwt hL
theorem andT{a b:Bool}(ha:a=true)(hb:b=true):(a && b)=true:=by rw[ha,hb];rfl
theorem fact1:Rows.copyOrderRow.wf (OpenSpec.ofChange (OpenSpec.ofChange Rows.copyOrderSpec).bare)=true:=by kernel_rfl
theorem fact2:laidOutB Tryz.prog=true:=by kernel_rfl
theorem fact3:mapsRowed Tryz.prog=true:=by kernel_rfl
theorem fact4:Tryz.f12.params.all (Tryz.prog.readableRec ·)=true:=by kernel_rfl
theorem fact5:namedTie Tryz.prog Rows.copyOrderRow.named (OpenSpec.ofChange Rows.copyOrderSpec).bare.vars=true:=by kernel_rfl
theorem fact6:(Rows.copyOrderRow.stops==[])=true:=by kernel_rfl
theorem fact7:(Tryz.prog.stops==[])=true:=by kernel_rfl
theorem fact8:(Rows.copyOrderRow.knobs==[])=true:=by kernel_rfl
theorem fact9:(Tryz.prog.stopKnobs==[])=true:=by kernel_rfl
theorem fact10:(Rows.copyOrderRow.inPlace==Tryz.prog.inPlace 12)=true:=by kernel_rfl
theorem fact11:(Rows.copyOrderRow.unfollowed==Tryz.prog.unfollowed 12)=true:=by kernel_rfl
theorem fact12:(Rows.copyOrderRow.recurses==Tryz.prog.recurses 12)=true:=by kernel_rfl
theorem fact13:(Rows.copyOrderRow.named==Tryz.prog.varsNamed 12)=true:=by kernel_rfl
theorem fact14:(Rows.copyOrderRow.maps==(Tryz.f12.params.toList++(OpenSpec.ofChange Rows.copyOrderSpec).bare.plain.varTypes Tryz.prog).any (Tryz.prog.mapsRec ·))=true:=by kernel_rfl
theorem fact15:(Rows.copyOrderRow.ifaces==(Tryz.f12.params.toList++(OpenSpec.ofChange Rows.copyOrderSpec).bare.plain.varTypes Tryz.prog).any (Tryz.prog.ifacesRec ·))=true:=by kernel_rfl
theorem fact16:(Rows.copyOrderRow.mapsOut==Tryz.prog.mapsAmong Tryz.f12.resultTypes.toList)=true:=by kernel_rfl
theorem fact17:(Rows.copyOrderRow.loops==(Tryz.f12.params.toList++(OpenSpec.ofChange Rows.copyOrderSpec).bare.plain.varTypes Tryz.prog).any (Tryz.prog.loopsFrom ·))=true:=by kernel_rfl
theorem fact18:(Rows.copyOrderRow.wideKeys==((Tryz.f12.params.toList++(OpenSpec.ofChange Rows.copyOrderSpec).bare.plain.varTypes Tryz.prog)++Tryz.f12.resultTypes.toList).any (Tryz.prog.wideKeysFrom ·))=true:=by kernel_rfl
theorem fact19:(OpenSpec.ofChange Rows.copyOrderSpec).bare.vars.all (Tryz.prog.varReadable ·)=true:=by kernel_rfl
theorem fact20:Tryz.f12.resultTypes.all (fun t=>Tryz.prog.readableRec t && decide (t<Tryz.prog.types.size))=true:=by kernel_rfl
theorem fact21:(Rows.copyOrderRow.ifacesOut==Tryz.f12.resultTypes.toList.any (Tryz.prog.ifacesRec ·))=true:=by kernel_rfl
theorem fact22:(Rows.copyOrderRow.loopsOut==Tryz.f12.resultTypes.toList.any (Tryz.prog.loopsFrom ·))=true:=by kernel_rfl
theorem fact23:(Rows.copyOrderRow.plainKeys==Tryz.prog.plainKeys)=true:=by kernel_rfl
theorem fact24:Rows.copyOrderRow.shortTexts.isNone=true:=by kernel_rfl
theorem fact25:Tryz.prog.stopsHeard=true:=by kernel_rfl
theorem fact26:Tryz.prog.mayEnter=true:=by kernel_rfl
theorem fact27:(Rows.copyOrderRow.lifted==Tryz.prog.liftsFinal)=true:=by kernel_rfl
theorem fact28:(Tryz.prog.make==some Rows.copyOrderRow.make)=true:=by kernel_rfl
theorem fact29:(Rows.copyOrderRow.kinds==(if Rows.copyOrderRow.domain.isEmpty then [] else Tryz.f12.params.toList.map fun t=>match Tryz.prog.underlying t with|some (.int k)=>some k|_=>none))=true:=by kernel_rfl
theorem fact30:(Rows.copyOrderRow.pinned==Rows.copyOrderRow.pinnedBy)=true:=by kernel_rfl
theorem fact31:(Rows.copyOrderRow.veiled==((Tryz.f12.params.toList++(OpenSpec.ofChange Rows.copyOrderSpec).bare.plain.varTypes Tryz.prog)++Tryz.f12.resultTypes.toList).any (Tryz.prog.veiledRec ·))=true:=by kernel_rfl
theorem fact32:Rows.copyOrderRow.veiledFits Tryz.prog Tryz.f12.params.toList ((Tryz.f12.params.toList++(OpenSpec.ofChange Rows.copyOrderSpec).bare.plain.varTypes Tryz.prog)++Tryz.f12.resultTypes.toList)=true:=by kernel_rfl
theorem facts:joinedFacts Tryz.pinned.checked.prog 12 Tryz.f12 (OpenSpec.ofChange Rows.copyOrderSpec).bare Rows.copyOrderRow=true:=(andT (andT (andT (andT (andT (andT (andT (andT (andT (andT (andT (andT (andT (andT (andT (andT (andT (andT (andT (andT (andT (andT (andT (andT (andT (andT (andT (andT (andT (andT (andT fact1 fact2) fact3) fact4) fact5) fact6) fact7) fact8) fact9) fact10) fact11) fact12) fact13) fact14) fact15) fact16) fact17) fact18) fact19) fact20) fact21) fact22) fact23) fact24) fact25) fact26) fact27) fact28) fact29) fact30) fact31) fact32)
theorem name12:Tryz.pinned.checked.prog.funcNamed Rows.copyOrderRow.func=some 12:=by kernel_rfl
theorem inst12:Tryz.f12.isInstance Tryz.pinned.checked.prog Rows.copyOrderRow.origin Rows.copyOrderRow.targs:=of_decide_eq_true (by kernel_rfl)
theorem wrap12:Tryz.f12.isWrapper Tryz.pinned.checked.prog Rows.copyOrderRow.wrapper Rows.copyOrderRow.mainSum:=by unfold Func.isWrapper;first|(rw[if_pos (by decide+kernel)];kernel_rfl)|(rw[if_neg (by decide+kernel)];exact ⟨rfl,rfl⟩)
theorem said:Rows.CopyOrderSaid:=
 OpenClaim.holds_of_cond 12 Tryz.f12 rfl rfl rfl rfl rfl rfl rfl ⟨rfl,rfl,rfl,rfl,rfl⟩ rfl rfl rfl rfl rfl name12 Tryz.func12 facts inst12 wrap12
  (fun os started H enc _ F=>by rw[OpenClaim.pre_eq_preRow];exact lifted os started H enc F)
theorem looksT:false=Tryz.pinned.checked.prog.looks []:=by kernel_rfl
theorem stand9:Tryz.prog.wantsStandIn 9=false:=by kernel_rfl
theorem stand28:Tryz.prog.wantsStandIn 28=false:=by kernel_rfl
theorem stand54:Tryz.prog.wantsStandIn 54=false:=by kernel_rfl
theorem named12 : Tryz.prog.funcNamed "manorboy/manorboylaw09.CopyOrder" = some 12 := by kernel_rfl
theorem plain (f : FuncId) (fn : Func) (hf : Tryz.pinned.checked.prog.funcNamed "manorboy/manorboylaw09.CopyOrder" = some f) (hfn : Tryz.pinned.checked.prog.funcs[f]? = some fn) :
  false=Tryz.pinned.checked.prog.looks []∧∀(j:Nat) t,fn.params[j]?=some t→Tryz.pinned.checked.prog.wantsStandIn t=false:=by
 obtain rfl:f=12:=Option.some.inj (named12.symm.trans hf) |>.symm;obtain rfl:fn=Tryz.f12:=(Option.some.inj (Tryz.func12.symm.trans hfn)).symm;refine ⟨looksT,fun j t ht=>?_⟩;rw[Tryz.params12] at ht;have:=Array.mem_of_getElem? ht;simp at this;rcases this with rfl|rfl|rfl
 ·exact stand9
 ·exact stand28
 ·exact stand54
theorem wfText:Rows.copyOrderRow.wfByText (OpenSpec.ofChange Rows.copyOrderSpec)=true:=by kernel_rfl
theorem mainT:Tryz.pinned.checked.prog.mainIs=some (Rows.copyOrderCard.stood.harness.1,Rows.copyOrderCard.stood.harness.2.toList):=by kernel_rfl
theorem goesT:false=Rows.copyOrderRow.goesBy Tryz.pinned.checked.prog:=by kernel_rfl
theorem card:Rows.CopyOrderCardSaid:=
 Claim7.holds_tied_plain_at .later [] _ _ _ _ said (fun _ h=>by cases h) wfText (fun _ h=>by cases h) copyOrder_row_tie rfl ⟨rfl,rfl⟩ mainT rfl plain goesT
end Go.Proofs.YtbifpocccfkhhaaGreatDoor.copyOrder
namespace Go.Proofs.YtbifpocccfkhhaaGreatDoor
theorem copyOrder_holds:Rows.CopyOrderCardSaid:=copyOrder.card
end Go.Proofs.YtbifpocccfkhhaaGreatDoor
end
