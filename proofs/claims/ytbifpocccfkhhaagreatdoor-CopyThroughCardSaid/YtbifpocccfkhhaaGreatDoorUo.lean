/- The statement CopyThrough holds: for every statement, two names and an expression the law returns true and changes nothing. Conditions: none. -/
import Derived.Test.YtbifpocccfkhhaaGreatDoorUn
set_option linter.all false
noncomputable section
namespace Go.Proofs.YtbifpocccfkhhaaGreatDoor
open Go Go.Proofs.Tryz
open Classical in
theorem qpj(s:Sm)(y x:Bz)(e:Ex)(os:s.ok)(hx:x.size≤B50)(oe:e.ok):Fn prog 8 [s.v,.str y,.str x,e.v] [] (.bool true):=by
 refine qv.ib func8 ok8 ?_;obtain ⟨S1,hS1⟩:∃S1:St,S1=[.arr [s.v] 8 1,.arr [e.v] 7 1]:=⟨_,rfl⟩;have b0:S1[0]?=some (.arr [s.v] 8 1):=by rw[hS1];rfl
 have b1:S1[1]?=some (.arr [e.v] 7 1):=by rw[hS1];rfl
 have ld:∀{U:St},Kp (fun _=>False) S1 U→ldS U (.ptr 0 0 0 1) (some 8)=some s.v∧ldS U (.ptr 1 0 0 1) (some 7)=some e.v:=fun k=>by
  have c0:=k.at b0 id;have c1:=k.at b1 id;simp[ldS,c0,c1]
 obtain ⟨d0,d1⟩:=ld (Kp.refl _ S1);simp[c8,qE];rw[←hS1];simp[d0];refine qe (qdz s os S1) ?_
 cases la:s.light with
 | false=>
  simp;refine qe (ze S1) ?_;simp;exact qa rfl rfl rfl
 | true=>
 have q26:Fn prog 26 [.sl true [e.v]] S1 (.bool (decide (0<Ex.leftL [e] 0 60))):=qv.weakA (by
  have:=qc4 [e] (by simp[B50]) ⟨oe,trivial⟩ S1;simpa[V.weakL,V.weak,Ex.v_weak] using this)
 simp[d1,Ex.fits1];refine qe q26 ?_;by_cases hf:0<Ex.leftL [e] 0 60
 case neg=>
  simp[hf];refine qe (ze S1) ?_;simp;exact qa rfl rfl rfl
 have zs:=QV la;have ns:=qda la;have lf:=s.frees_len0
 have zx:(Pa.ex e).size<60:=by
  have:=Ex.leftL_size [e] 0 60 hf;have h0:qA []=0:=rfl;rw[qqH,qrh,sizes_cons,h0] at this;omega
 have oc:=Ex.occ_len e;by_cases hxy:x=y
 ·simp[hf,hxy];refine qe (ze S1) ?_;simp;exact qa rfl rfl rfl
 simp[hf,hxy,d0];refine qh (qnN s os (by omega) (by omega) S1) ?_;rintro r U1 ⟨rfl,k1⟩;obtain ⟨p0,p1⟩:=ld k1;simp[p0];refine qh (qjv s os (by omega) (by omega) U1) ?_;rintro r U2 ⟨rfl,k2⟩;have k2:=k1.trans k2;obtain ⟨p0,p1⟩:=ld k2;have lb:=s.binds_len0;by_cases h0:(Pa.st s).err qb=0
 case neg=>
  simp[h0];refine qe (ze U2) ?_;simp;exact qa rfl rfl rfl
 simp[h0];refine qe (qdj false s.frees x U2 (by omega)) ?_
 cases hxf:ZY x s.frees with
 | true=>
  simp;refine qe (ze U2) ?_;simp;exact qa rfl rfl rfl
 | false=>
 simp;refine qe (qdj false s.binds x U2 (by omega)) ?_
 cases hxb:ZY x s.binds with
 | true=>
  simp;refine qe (ze U2) ?_;simp;exact qa rfl rfl rfl
 | false=>
 have hxf:=ZC.1 hxf;have fs:∀z:Bz,fits 1 [V.str z]=true:=fun _=>rfl
 have fn:fits 7 [nmV x]=true:=rfl;have l1:s.frees.length+Sm.nb1 [s]+(suT [y] [(y,nmX x)]).length≤899:=by rw[Qa];have h:(nmX x).occ.length=1:=rfl;omega
 have l2:s.frees.length+Sm.nb1 [s]+(suT [y] [(y,e)]).length≤899:=by rw[Qa];omega
 simp[p0,fs];obtain ⟨D,hD⟩:∃D,D=U2++phs [V.agg [.sl true [],.int .i64 0,.str ⟨⟨[]⟩⟩,.sl true [],.sl true [],.sl true [],.sl true [],.sl true []]]:=⟨_,rfl⟩;have bD:D[U2.length]?=some (.arr [smZ] 8 1):=by rw[hD];simp[phs,smZ]
 have kD:Kp (fun _=>False) U2 D:=by rw[hD];exact (Kp.refl _ _).push _
 obtain ⟨pD,_⟩:=ld (k2.trans kD);rw[←hD];simp[pD,fs];refine Qu (qoJ x D) ?_;simp[fn];refine Qg (qj9 s os (by omega) y x hx (by omega) D) ⟨_,D,rfl,Kp.refl _ _⟩ ?_;rintro r V1 ⟨rfl,k3⟩;have bV:=k3.at bD id;have y1:=qeH s [y] [nmX x];have hst:stS V1 (.ptr U2.length 0 0 1) 8 (sV s [y] [nmX x])=some (V1.set U2.length (.arr [sV s [y] [nmX x]] 8 1)):=by simp[stS,bV,smZ,qi,y1]
 have pV:=(ld (k2.trans (kD.trans k3))).1;have kW:Kp (fun _=>False) S1 (V1.set U2.length (.arr [sV s [y] [nmX x]] 8 1)):=(k2.trans (kD.trans k3)).set _ (.inr k2.len);obtain ⟨p0,p1⟩:=ld kW;simp[hst,ZX,Qc,QG,pD,pV,bD,bV,smZ,p0,p1,fs,Ex.fits1];obtain ⟨W1,hW1⟩:∃W,W=V1.set U2.length (.arr [sV s [y] [nmX x]] 8 1):=⟨_,rfl⟩;have bW:W1[U2.length]?=some (.arr [sV s [y] [nmX x]] 8 1):=by rw[hW1];exact qqz (glt bV)
 have l1':∀{W},Kp (fun _=>False) W1 W→ldS W (.ptr U2.length 0 0 1) (some 8)=some (sV s [y] [nmX x]):=fun k=>by
  have c:=k.at bW id;simp[ldS,c,y1]
 rw[←hW1] at kW ⊢;refine qh (QI s os (by omega) y e W1 oe (by omega) l2) ?_;rintro r V2 ⟨rfl,k4⟩;have y2:=qeH s [y] [e];have j4:=k4.push [.arr [sV s [y] [e]] 8 1];have k4:=kW.trans j4;simp[qE,stZ y2];obtain ⟨W2,hW2⟩:∃W,W=V2++[.arr [sV s [y] [e]] 8 1]:=⟨_,rfl⟩;have l2':∀{W},Kp (fun _=>False) W2 W→ldS W (.ptr V2.length 0 0 1) (some 8)=some (sV s [y] [e]):=fun k=>ldZ y2 (by rw[←hW2];exact k)
 rw[←hW2] at k4 j4 ⊢;obtain ⟨p0,p1⟩:=ld k4;by_cases e1:sE s [y] [nmX x]=0
 case neg=>
  simp[e1];refine qe (ze W2) ?_;simp;exact qa rfl rfl rfl
 by_cases e2:sE s [y] [e]=0
 case neg=>
  simp[e1,e2];refine qe (ze W2) ?_;simp;exact qa rfl rfl rfl
 have v1:sV s [y] [nmX x]=(suO s [y] [(y,nmX x)]).v:=if_pos e1;have v2:sV s [y] [e]=(suO s [y] [(y,e)]).v:=if_pos e2;obtain ⟨_,_,_,_,r1⟩:=yA e1;obtain ⟨_,hp2,_,_,r2⟩:=yA e2;obtain ⟨t1,t2⟩:=qoc (by omega) (by omega) hxf e1 e2;have o1:=Yx s y (nmX x) os (qjD x hx) (qk h0).2 l1;have o2:=Yx s y e os oe (qk h0).2 l2;have n1:=YS (z:=x) (b:=e) (by have h:(nmX x).occ.length=1:=rfl;omega) (by omega) e1;have z1:=(Sm.nb1_100 (qk r1).1).1;obtain ⟨one,hone⟩:∃t,t=suO s [y] [(y,nmX x)]:=⟨_,rfl⟩;rw[←hone] at v1 r1 t1 t2 o1 n1 z1;have m1:=l1' j4;rw[v1] at m1;simp[e1,e2,m1,p1,fs,Ex.fits1];refine qh (QI one o1 z1 x e W2 oe (by omega) n1) ?_;rintro r V3 ⟨rfl,k5⟩;have y3:=qeH one [x] [e];have j5:=k5.push [.arr [sV one [x] [e]] 8 1];simp[qE,stZ y3];obtain ⟨W3,hW3⟩:∃W,W=V3++[.arr [sV one [x] [e]] 8 1]:=⟨_,rfl⟩;have l3':∀{W},Kp (fun _=>False) W3 W→ldS W (.ptr V3.length 0 0 1) (some 8)=some (sV one [x] [e]):=fun k=>ldZ y3 (by rw[←hW3];exact k)
 rw[←hW3] at j5 ⊢;by_cases e3:sE one [x] [e]=0
 case neg=>
  have e3':=t1.resolve_left e3;simp[e3'];refine qe (ze W3) ?_;simp;exact qa rfl rfl rfl
 have v3:sV one [x] [e]=(suO one [x] [(x,e)]).v:=if_pos e3;obtain ⟨_,hp3,_,_,r3⟩:=yA e3;have o3:=Yx one x e o1 oe (qk r1).2 n1
 have nu:Sm.nb1 [suO one [x] [(x,e)]]≤1000:=by
  rw[qct (qk r1).2 n1];omega
 have m2:=l2' j5;have m3:=l3' (Kp.refl _ _);rw[v2] at m2;rw[v3] at m3;simp[e3,m2,m3];refine qh (jC _ _ o3 o2 r3 r2 nu (t2 e3) W3) ?_;rintro r X ⟨rfl,k6⟩;simp;refine qe (ze X) ?_;simp;exact qa rfl rfl rfl
end Go.Proofs.YtbifpocccfkhhaaGreatDoor
namespace Go.Proofs.YtbifpocccfkhhaaGreatDoor.copyThrough
open Go Go.ChangeShapes Go.WideShapes Go.ChangeAt Go.RowKit
set_option maxRecDepth 100000
theorem own:ownKnob Tryz.prog.godebug=none:=by kernel_rfl
theorem contract(H:Type)(enc:TypeId×Value→H)(W:World)(base:Nat)(args:Array Value)(ds gs:List (DataW H))(before:List MemPlace)
  (hval:∀(j:Nat) t v,Tryz.f8.params[j]?=some t→args[j]?=some v→Value.okWide Tryz.prog W .any base t v)
  (hW:DataW.Whole enc Tryz.prog Tryz.f8.params.toList Rows.copyThroughSpec.vars false W args.toList ds gs before)
  (hwt:(DataW.weightsEach Tryz.prog (Tryz.f8.params.toList++(OpenSpec.ofChange Rows.copyThroughSpec).bare.plain.varTypes Tryz.prog) (ds++gs)).all (·≤reachBytes)=true) (hL:laidMetH Tryz.prog Rows.copyThroughRow.laid W):
  Calls Tryz.prog 8 args W fun e W'=>∃v,e=.returned v∧Rows.copyThroughSpec.post enc Tryz.prog Tryz.f8 false true false false W args v W':=by
 have hW':=hW;obtain ⟨p,q,hA0,hV,rfl,hfz,hnd⟩:=hW;have hA:DataW.TrodAll enc Tryz.prog W 0 (fun _=>true) true Tryz.f8.params.toList args.toList ds p:=hA0;rw[Tryz.params8] at hA hval hwt;obtain ⟨v0,vs0,d0,ds0,p0,q0,hv0,hd0,h0,hA0⟩:=trodAll_cons hA;obtain ⟨v1,vs1,d1,ds1,p1,q1,hv1,hd1,h1,hA1⟩:=trodAll_cons hA0;obtain ⟨v2,vs2,d2,ds2,p2,q2,hv2,hd2,h2,hA2⟩:=trodAll_cons hA1;obtain ⟨v3,vs3,d3,ds3,p3,q3,hv3,hd3,h3,hA3⟩:=trodAll_cons hA2;obtain ⟨hve,hde⟩:=trodAll_nil hA3;have hds:ds=[d0,d1,d2,d3]:=by rw[hd0,hd1,hd2,hd3,hde]
 have hargs:args=#[v0,v1,v2,v3]:=by
  apply qr4.1;rw[hv0,hv1,hv2,hv3,hve]
 subst hds hargs;obtain ⟨rfl,rfl⟩:=trodVars_none hV;rw[qrC] at hwt;obtain ⟨a0,o0,r0⟩:=stmt_in (hval 0 28 v0 rfl rfl) h0 (fitw_of hwt (i:=0) rfl rfl);obtain ⟨a1,o1,r1⟩:=text_in (hval 1 9 v1 rfl rfl) h1 (fitw_of hwt (i:=1) rfl rfl);obtain ⟨a2,o2,r2⟩:=text_in (hval 2 9 v2 rfl rfl) h2 (fitw_of hwt (i:=2) rfl rfl);obtain ⟨a3,o3,r3⟩:=exp_in (hval 3 54 v3 rfl rfl) h3 (fitw_of hwt (i:=3) rfl rfl);refine law_of (qpj a0 a1 a2 a3 o0 o2 o3) (SR.start hL) ⟨rfl,fun i v u hv hu=>?_⟩ (by kernel_rfl) rfl rfl hW' rfl
 match i,hv,hu with
 | 0,hv,hu=>cases hv;cases hu;exact r0
 | 1,hv,hu=>cases hv;cases hu;exact r1
 | 2,hv,hu=>cases hv;cases hu;exact r2
 | 3,hv,hu=>cases hv;cases hu;exact r3
noncomputable def laidWorld(os:Os):World:=
 let N:=(World.settled Tryz.prog os).heap.size
 let w0:=World.holding Tryz.prog os ⟨#[.cells (#[9,13,1,32,133,101,160,5760,5600,8192,8202,1,8232,8233,1,8239,8287,48,12288,12288,1].map fun (z:Nat)=>Value.int .u16 (z:Int)) 279,.cells #[.slice (some ⟨N,0,none⟩) 7 7,.slice none 0 0,.int .i64 2] 276],#[],[]⟩
 let put (h:Array Obj) (g:Nat) (cs:Array Value):Array Obj:=h.modify g fun
  | .cells _ t frozen=>.cells cs t frozen
  | o=>o
 let h1:=put w0.heap 0 (Lib.asciiSpaceTab.map fun z=>Value.int .u8 z).toArray
 let h2:=put h1 1 #[.pointer (some ⟨N+1,0,none⟩)]
 let h3:=put h2 2 (Lib.pow10Tab.map fun z=>Value.int .u64 z).toArray
 let h4:=put h3 3 (#[0,1,28,2,29,14,24,3,30,22,20,15,25,17,4,8,31,27,13,23,21,19,16,7,26,12,18,6,11,5,10,9].map fun (z:Nat)=>Value.int .u8 (z:Int))
 let h5:=put h4 4 (#[0,1,56,2,57,49,28,3,61,58,42,50,38,29,17,4,62,47,59,36,45,43,51,22,53,39,33,30,24,18,12,5,63,55,48,27,60,41,37,16,46,35,44,21,52,32,23,11,54,26,40,15,34,20,31,10,25,14,19,9,13,8,7,6].map fun (z:Nat)=>Value.int .u8 (z:Int))
 { w0 with heap:=h5 }
def wArgs:Array Value:=#[.agg #[.slice none 0 0,.int .i64 0,.string ⟨#[]⟩,.slice none 0 0,.slice none 0 0,.slice none 0 0,.slice none 0 0,.slice none 0 0],.string ⟨#[]⟩,.string ⟨#[]⟩,.agg #[.int .i64 0,.int .i64 0,.int .i64 0,.int .i64 0,.int .i64 0,.string ⟨#[]⟩,.slice none 0 0]]
theorem laid_met(os:Os):laidMet Tryz.prog Rows.copyThroughRow.laid ((laidWorld os).forCall (fun _ _=>0) ⟨#[],wArgs,[]⟩).memory:=
 laidMet_of_run' 10 (by kernel_rfl) (by kernel_rfl)
theorem reads(os:Os){H:Type}(enc:TypeId×Value→H):∃places,DataW.whole enc Tryz.prog ((laidWorld os).forCall (fun _ _=>0) ⟨#[],wArgs,[]⟩).memory Tryz.f8.params.toList Rows.copyThroughSpec.vars false wArgs.toList 8=some ([.agg [.nil,.lit (.int .i64 0),.lit (.string []),.nil,.nil,.nil,.nil,.nil],.lit (.string []),.lit (.string []),.agg [.lit (.int .i64 0),.lit (.int .i64 0),.lit (.int .i64 0),.agg [.lit (.int .i64 0),.lit (.int .i64 0)],.lit (.string []),.nil]],[],places):=
 ⟨[],by kernel_rfl⟩
theorem lifted(os:Os)(started:os.Started)(H:Type)(enc:TypeId×Value→H)(F:Stop.Interp):
  ReturnsInHanded {} Tryz.checked os 8 .any ((OpenSpec.ofChange Rows.copyThroughSpec).preRow enc Tryz.prog Tryz.f8 Rows.copyThroughRow.domain false Rows.copyThroughRow.laid) (((OpenSpec.ofChange Rows.copyThroughSpec).at F).post enc Tryz.prog Tryz.f8 false true false false):=by
 obtain ⟨places,hx⟩:=reads os enc;refine returnsInHanded_of_row (C:=Tryz.checked) (s:=OpenSpec.ofChange Rows.copyThroughSpec) own started (by kernel_rfl) Tryz.func8
  (witness_row_atRef (enc:=enc) (C:=Tryz.checked) false (laidWorld os) wArgs rfl (by kernel_rfl) (by kernel_rfl) (by kernel_rfl)
   (OpenSpec.preRow_of_cond 8 hx (by kernel_rfl) (fun k hk=>by cases hk) (by kernel_rfl) (laid_met os))) ?_
 intro W base args ds gs before hval hW _ _ hwt hL _ _;exact contract H enc W base args ds gs before hval hW hwt hL
theorem andT{a b:Bool}(ha:a=true)(hb:b=true):(a && b)=true:=by rw[ha,hb];rfl
theorem fact1:Rows.copyThroughRow.wf (OpenSpec.ofChange (OpenSpec.ofChange Rows.copyThroughSpec).bare)=true:=by kernel_rfl
theorem fact2:laidOutB Tryz.prog=true:=by kernel_rfl
theorem fact3:mapsRowed Tryz.prog=true:=by kernel_rfl
theorem fact4:Tryz.f8.params.all (Tryz.prog.readableRec ·)=true:=by kernel_rfl
theorem fact5:namedTie Tryz.prog Rows.copyThroughRow.named (OpenSpec.ofChange Rows.copyThroughSpec).bare.vars=true:=by kernel_rfl
theorem fact6:(Rows.copyThroughRow.stops==[])=true:=by kernel_rfl
theorem fact7:(Tryz.prog.stops==[])=true:=by kernel_rfl
theorem fact8:(Rows.copyThroughRow.knobs==[])=true:=by kernel_rfl
theorem fact9:(Tryz.prog.stopKnobs==[])=true:=by kernel_rfl
theorem fact10:(Rows.copyThroughRow.inPlace==Tryz.prog.inPlace 8)=true:=by kernel_rfl
theorem fact11:(Rows.copyThroughRow.unfollowed==Tryz.prog.unfollowed 8)=true:=by kernel_rfl
theorem fact12:(Rows.copyThroughRow.recurses==Tryz.prog.recurses 8)=true:=by kernel_rfl
theorem fact13:(Rows.copyThroughRow.named==Tryz.prog.varsNamed 8)=true:=by kernel_rfl
theorem fact14:(Rows.copyThroughRow.maps==(Tryz.f8.params.toList++(OpenSpec.ofChange Rows.copyThroughSpec).bare.plain.varTypes Tryz.prog).any (Tryz.prog.mapsRec ·))=true:=by kernel_rfl
theorem fact15:(Rows.copyThroughRow.ifaces==(Tryz.f8.params.toList++(OpenSpec.ofChange Rows.copyThroughSpec).bare.plain.varTypes Tryz.prog).any (Tryz.prog.ifacesRec ·))=true:=by kernel_rfl
theorem fact16:(Rows.copyThroughRow.mapsOut==Tryz.prog.mapsAmong Tryz.f8.resultTypes.toList)=true:=by kernel_rfl
theorem fact17:(Rows.copyThroughRow.loops==(Tryz.f8.params.toList++(OpenSpec.ofChange Rows.copyThroughSpec).bare.plain.varTypes Tryz.prog).any (Tryz.prog.loopsFrom ·))=true:=by kernel_rfl
theorem fact18:(Rows.copyThroughRow.wideKeys==((Tryz.f8.params.toList++(OpenSpec.ofChange Rows.copyThroughSpec).bare.plain.varTypes Tryz.prog)++Tryz.f8.resultTypes.toList).any (Tryz.prog.wideKeysFrom ·))=true:=by kernel_rfl
theorem fact19:(OpenSpec.ofChange Rows.copyThroughSpec).bare.vars.all (Tryz.prog.varReadable ·)=true:=by kernel_rfl
theorem fact20:Tryz.f8.resultTypes.all (fun t=>Tryz.prog.readableRec t && decide (t<Tryz.prog.types.size))=true:=by kernel_rfl
theorem fact21:(Rows.copyThroughRow.ifacesOut==Tryz.f8.resultTypes.toList.any (Tryz.prog.ifacesRec ·))=true:=by kernel_rfl
theorem fact22:(Rows.copyThroughRow.loopsOut==Tryz.f8.resultTypes.toList.any (Tryz.prog.loopsFrom ·))=true:=by kernel_rfl
theorem fact23:(Rows.copyThroughRow.plainKeys==Tryz.prog.plainKeys)=true:=by kernel_rfl
theorem fact24:Rows.copyThroughRow.shortTexts.isNone=true:=by kernel_rfl
theorem fact25:Tryz.prog.stopsHeard=true:=by kernel_rfl
theorem fact26:Tryz.prog.mayEnter=true:=by kernel_rfl
theorem fact27:(Rows.copyThroughRow.lifted==Tryz.prog.liftsFinal)=true:=by kernel_rfl
theorem fact28:(Tryz.prog.make==some Rows.copyThroughRow.make)=true:=by kernel_rfl
theorem fact29:(Rows.copyThroughRow.kinds==(if Rows.copyThroughRow.domain.isEmpty then [] else Tryz.f8.params.toList.map fun t=>match Tryz.prog.underlying t with|some (.int k)=>some k|_=>none))=true:=by kernel_rfl
theorem fact30:(Rows.copyThroughRow.pinned==Rows.copyThroughRow.pinnedBy)=true:=by kernel_rfl
theorem fact31:(Rows.copyThroughRow.veiled==((Tryz.f8.params.toList++(OpenSpec.ofChange Rows.copyThroughSpec).bare.plain.varTypes Tryz.prog)++Tryz.f8.resultTypes.toList).any (Tryz.prog.veiledRec ·))=true:=by kernel_rfl
theorem fact32:Rows.copyThroughRow.veiledFits Tryz.prog Tryz.f8.params.toList ((Tryz.f8.params.toList++(OpenSpec.ofChange Rows.copyThroughSpec).bare.plain.varTypes Tryz.prog)++Tryz.f8.resultTypes.toList)=true:=by kernel_rfl
theorem facts:joinedFacts Tryz.pinned.checked.prog 8 Tryz.f8 (OpenSpec.ofChange Rows.copyThroughSpec).bare Rows.copyThroughRow=true:=(andT (andT (andT (andT (andT (andT (andT (andT (andT (andT (andT (andT (andT (andT (andT (andT (andT (andT (andT (andT (andT (andT (andT (andT (andT (andT (andT (andT (andT (andT (andT fact1 fact2) fact3) fact4) fact5) fact6) fact7) fact8) fact9) fact10) fact11) fact12) fact13) fact14) fact15) fact16) fact17) fact18) fact19) fact20) fact21) fact22) fact23) fact24) fact25) fact26) fact27) fact28) fact29) fact30) fact31) fact32)
theorem name8:Tryz.pinned.checked.prog.funcNamed Rows.copyThroughRow.func=some 8:=by kernel_rfl
theorem inst8:Tryz.f8.isInstance Tryz.pinned.checked.prog Rows.copyThroughRow.origin Rows.copyThroughRow.targs:=of_decide_eq_true (by kernel_rfl)
theorem wrap8:Tryz.f8.isWrapper Tryz.pinned.checked.prog Rows.copyThroughRow.wrapper Rows.copyThroughRow.mainSum:=by unfold Func.isWrapper;first|(rw[if_pos (by decide+kernel)];kernel_rfl)|(rw[if_neg (by decide+kernel)];exact ⟨rfl,rfl⟩)
theorem said:Rows.CopyThroughSaid:=
 OpenClaim.holds_of_cond 8 Tryz.f8 rfl rfl rfl rfl rfl rfl rfl ⟨rfl,rfl,rfl,rfl,rfl⟩ rfl rfl rfl rfl rfl name8 Tryz.func8 facts inst8 wrap8
  (fun os started H enc _ F=>by rw[OpenClaim.pre_eq_preRow];exact lifted os started H enc F)
theorem looksT:false=Tryz.pinned.checked.prog.looks []:=by kernel_rfl
theorem stand9:Tryz.prog.wantsStandIn 9=false:=by kernel_rfl
theorem stand28:Tryz.prog.wantsStandIn 28=false:=by kernel_rfl
theorem stand54:Tryz.prog.wantsStandIn 54=false:=by kernel_rfl
theorem named8 : Tryz.prog.funcNamed "manorboy/manorboylaw09.CopyThrough" = some 8 := by kernel_rfl
theorem plain (f : FuncId) (fn : Func) (hf : Tryz.pinned.checked.prog.funcNamed "manorboy/manorboylaw09.CopyThrough" = some f) (hfn : Tryz.pinned.checked.prog.funcs[f]? = some fn) :
  false=Tryz.pinned.checked.prog.looks []∧∀(j:Nat) t,fn.params[j]?=some t→Tryz.pinned.checked.prog.wantsStandIn t=false:=by
 obtain rfl:f=8:=Option.some.inj (named8.symm.trans hf) |>.symm;obtain rfl:fn=Tryz.f8:=(Option.some.inj (Tryz.func8.symm.trans hfn)).symm;refine ⟨looksT,fun j t ht=>?_⟩;rw[Tryz.params8] at ht;have:=Array.mem_of_getElem? ht;simp at this;rcases this with rfl|rfl|rfl
 ·exact stand9
 ·exact stand28
 ·exact stand54
theorem wfText:Rows.copyThroughRow.wfByText (OpenSpec.ofChange Rows.copyThroughSpec)=true:=by kernel_rfl
theorem mainT:Tryz.pinned.checked.prog.mainIs=some (Rows.copyThroughCard.stood.harness.1,Rows.copyThroughCard.stood.harness.2.toList):=by kernel_rfl
theorem goesT:false=Rows.copyThroughRow.goesBy Tryz.pinned.checked.prog:=by kernel_rfl
theorem card:Rows.CopyThroughCardSaid:=
 Claim7.holds_tied_plain_at .later [] _ _ _ _ said (fun _ h=>by cases h) wfText (fun _ h=>by cases h) copyThrough_row_tie rfl ⟨rfl,rfl⟩ mainT rfl plain goesT
end Go.Proofs.YtbifpocccfkhhaaGreatDoor.copyThrough
namespace Go.Proofs.YtbifpocccfkhhaaGreatDoor
theorem copyThrough_holds:Rows.CopyThroughCardSaid:=copyThrough.card
end Go.Proofs.YtbifpocccfkhhaaGreatDoor
end
