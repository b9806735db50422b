/- CopySubstitutes: the law returns true. -/
import Derived.Test.YtbifpocccfkhhaaGreatDoorWm
set_option linter.all false
noncomputable section
namespace Go.Proofs.YtbifpocccfkhhaaGreatDoor.copySubstitutes
open Go Go.ChangeShapes Go.WideShapes Go.ChangeAt Go.RowKit
set_option maxRecDepth 100000
theorem own:ownKnob Tryz.prog.godebug=none:=by kernel_rfl
theorem contract(H:Type)(enc:TypeId×Value->H)(W:World)(base:Nat)(args:Array Value)(ds gs:List (DataW H))(before:List MemPlace)
  (hval:∀(j:Nat) t v,Tryz.f16.params[j]?=some t->args[j]?=some v->Value.okWide Tryz.prog W .any base t v)
  (hW:DataW.Whole enc Tryz.prog Tryz.f16.params.toList Rows.copySubstitutesSpec.vars false W args.toList ds gs before)
  (hwt:(DataW.weightsEach Tryz.prog (Tryz.f16.params.toList++(OpenSpec.ofChange Rows.copySubstitutesSpec).bare.plain.varTypes Tryz.prog) (ds++gs)).all (·<=reachBytes)=true) (hL:laidMetH Tryz.prog Rows.copySubstitutesRow.laid W):
  Calls Tryz.prog 16 args W fun e W'=>∃v,e=.returned v/\Rows.copySubstitutesSpec.post enc Tryz.prog Tryz.f16 false true false false W args v W':=by
 have hW':=hW;obtain⟨p,q,hA0,hV,rfl,hfz,hnd⟩:=hW;have hA:DataW.TrodAll enc Tryz.prog W 0 (fun _=>true) true Tryz.f16.params.toList args.toList ds p:=hA0;rw[Tryz.params16]at hA hval hwt;obtain⟨v0,vs0,d0,ds0,p0,q0,hv0,hd0,h0,hA0⟩:=trodAll_cons hA;obtain⟨v1,vs1,d1,ds1,p1,q1,hv1,hd1,h1,hA1⟩:=trodAll_cons hA0;obtain⟨v2,vs2,d2,ds2,p2,q2,hv2,hd2,h2,hA2⟩:=trodAll_cons hA1;obtain⟨v3,vs3,d3,ds3,p3,q3,hv3,hd3,h3,hA3⟩:=trodAll_cons hA2;obtain⟨qN,hde⟩:=trodAll_nil hA3;have hds:ds=[d0,d1,d2,d3]:=by rw[hd0,hd1,hd2,hd3,hde]
 have hargs:args=#[v0,v1,v2,v3]:=by
  apply x9.1;rw[hv0,hv1,hv2,hv3,qN]
 subst hds hargs;obtain⟨rfl,rfl⟩:=trodVars_none hV;rw[kR]at hwt;obtain⟨a0,o0,r0⟩:=qlX (hval 0 28 v0 rfl rfl) h0 (FQ hwt (i:=0) rfl rfl);obtain⟨a1,o1,r1⟩:=qdm (hval 1 54 v1 rfl rfl) h1 (FQ hwt (i:=1) rfl rfl);obtain⟨a2,o2,r2⟩:=ql4 (hval 2 22 v2 rfl rfl) h2 (FQ hwt (i:=2) rfl rfl);obtain⟨a3,o3,r3⟩:=qdn (hval 3 23 v3 rfl rfl) h3 (FQ hwt (i:=3) rfl rfl);refine qf9 (qkA a0 a1 false a2 a3 o0 o1 o3.1 o3.2) (SR.start hL) ⟨rfl,fun i v u hv hu=>?_⟩ (by kernel_rfl) rfl rfl hW' rfl
 match i,hv,hu with
 |0,hv,hu=>cases hv;cases hu;exact r0
 |1,hv,hu=>cases hv;cases hu;exact r1
 |2,hv,hu=>cases hv;cases hu;exact r2
 |3,hv,hu=>cases hv;cases hu;exact r3
noncomputable def laidWorld(os:Os):World:=
 let N:=(World.settled Tryz.prog os).heap.size
 let w0:=World.holding Tryz.prog os ⟨#[.cells (#[9,13,1,32,133,101,160,5760,5600,8192,8202,1,8232,8233,1,8239,8287,48,12288,12288,1].map fun(z:Nat)=>Value.int .u16 (z:Int)) 279,.cells #[.slice (some ⟨N,0,none⟩) 7 7,.slice none 0 0,.int .i64 2] 276],#[],[]⟩
 let put (h:Array Obj) (g:Nat) (cs:Array Value):Array Obj:=h.modify g fun
  |.cells _ t frozen=>.cells cs t frozen
  |o=>o
 let h1:=put w0.heap 0 (Lib.asciiSpaceTab.map fun z=>Value.int .u8 z).toArray
 let h2:=put h1 1 #[.pointer (some ⟨N+1,0,none⟩)]
 let h3:=put h2 2 (Lib.pow10Tab.map fun z=>Value.int .u64 z).toArray
 let h4:=put h3 3 (#[0,1,28,2,29,14,24,3,30,22,20,15,25,17,4,8,31,27,13,23,21,19,16,7,26,12,18,6,11,5,10,9].map fun(z:Nat)=>Value.int .u8 (z:Int))
 let h5:=put h4 4 (#[0,1,56,2,57,49,28,3,61,58,42,50,38,29,17,4,62,47,59,36,45,43,51,22,53,39,33,30,24,18,12,5,63,55,48,27,60,41,37,16,46,35,44,21,52,32,23,11,54,26,40,15,34,20,31,10,25,14,19,9,13,8,7,6].map fun(z:Nat)=>Value.int .u8 (z:Int))
 { w0 with heap:=h5 }
def HN:Array Value:=#[.agg #[.slice none 0 0,.int .i64 0,.string ⟨#[]⟩,.slice none 0 0,.slice none 0 0,.slice none 0 0,.slice none 0 0,.slice none 0 0],.agg #[.int .i64 0,.int .i64 0,.int .i64 0,.int .i64 0,.int .i64 0,.string ⟨#[]⟩,.slice none 0 0],.slice none 0 0,.slice none 0 0]
theorem laid_met(os:Os):laidMet Tryz.prog Rows.copySubstitutesRow.laid ((laidWorld os).forCall (fun _ _=>0) ⟨#[],HN,[]⟩).memory:=
 laidMet_of_run' 10 (by kernel_rfl) (by kernel_rfl)
theorem reads(os:Os){H:Type}(enc:TypeId×Value->H):∃places,DataW.whole enc Tryz.prog ((laidWorld os).forCall (fun _ _=>0) ⟨#[],HN,[]⟩).memory Tryz.f16.params.toList Rows.copySubstitutesSpec.vars false HN.toList 8=some ([.agg [.nil,.lit (.int .i64 0),.lit (.string []),.nil,.nil,.nil,.nil,.nil],.agg [.lit (.int .i64 0),.lit (.int .i64 0),.lit (.int .i64 0),.agg [.lit (.int .i64 0),.lit (.int .i64 0)],.lit (.string []),.nil],.nil,.nil],[],places):=
 ⟨[],by kernel_rfl⟩
theorem lifted(os:Os)(started:os.Started)(H:Type)(enc:TypeId×Value->H)(F:Stop.Interp):
  ReturnsInHanded {} Tryz.checked os 16 .any ((OpenSpec.ofChange Rows.copySubstitutesSpec).preRow enc Tryz.prog Tryz.f16 Rows.copySubstitutesRow.domain false Rows.copySubstitutesRow.laid) (((OpenSpec.ofChange Rows.copySubstitutesSpec).at F).post enc Tryz.prog Tryz.f16 false true false false):=by
 obtain⟨places,hx⟩:=reads os enc;refine returnsInHanded_of_row (C:=Tryz.checked) (s:=OpenSpec.ofChange Rows.copySubstitutesSpec) own started (by kernel_rfl) Tryz.func16
  (witness_row_atRef (enc:=enc) (C:=Tryz.checked) false (laidWorld os) HN rfl (by kernel_rfl) (by kernel_rfl) (by kernel_rfl)
   (OpenSpec.preRow_of_cond 8 hx (by kernel_rfl) (fun k hk=>by cases hk) (by kernel_rfl) (laid_met os))) ?_
 intro W base args ds gs before hval hW _ _ hwt hL _ _;exact contract H enc W base args ds gs before hval hW hwt hL
theorem fB{a b:Bool}(ha:a=true)(hb:b=true):(a&&b)=true:=by rw[ha,hb];rfl
theorem qdq:Rows.copySubstitutesRow.wf (OpenSpec.ofChange (OpenSpec.ofChange Rows.copySubstitutesSpec).bare)=true:=by kernel_rfl
theorem qdB:laidOutB Tryz.prog=true:=by kernel_rfl
theorem qdM:mapsRowed Tryz.prog=true:=by kernel_rfl
theorem qdQ:Tryz.f16.params.all (Tryz.prog.readableRec ·)=true:=by kernel_rfl
theorem qdR:namedTie Tryz.prog Rows.copySubstitutesRow.named (OpenSpec.ofChange Rows.copySubstitutesSpec).bare.vars=true:=by kernel_rfl
theorem qdS:(Rows.copySubstitutesRow.stops==[])=true:=by kernel_rfl
theorem qdT:(Tryz.prog.stops==[])=true:=by kernel_rfl
theorem qdU:(Rows.copySubstitutesRow.knobs==[])=true:=by kernel_rfl
theorem qdV:(Tryz.prog.stopKnobs==[])=true:=by kernel_rfl
theorem qdr:(Rows.copySubstitutesRow.inPlace==Tryz.prog.inPlace 16)=true:=by kernel_rfl
theorem qds:(Rows.copySubstitutesRow.unfollowed==Tryz.prog.unfollowed 16)=true:=by kernel_rfl
theorem qdt:(Rows.copySubstitutesRow.recurses==Tryz.prog.recurses 16)=true:=by kernel_rfl
theorem qdu:(Rows.copySubstitutesRow.named==Tryz.prog.varsNamed 16)=true:=by kernel_rfl
theorem qdv:(Rows.copySubstitutesRow.maps==(Tryz.f16.params.toList++(OpenSpec.ofChange Rows.copySubstitutesSpec).bare.plain.varTypes Tryz.prog).any (Tryz.prog.mapsRec ·))=true:=by kernel_rfl
theorem qdw:(Rows.copySubstitutesRow.ifaces==(Tryz.f16.params.toList++(OpenSpec.ofChange Rows.copySubstitutesSpec).bare.plain.varTypes Tryz.prog).any (Tryz.prog.ifacesRec ·))=true:=by kernel_rfl
theorem qdx:(Rows.copySubstitutesRow.mapsOut==Tryz.prog.mapsAmong Tryz.f16.resultTypes.toList)=true:=by kernel_rfl
theorem qdy:(Rows.copySubstitutesRow.loops==(Tryz.f16.params.toList++(OpenSpec.ofChange Rows.copySubstitutesSpec).bare.plain.varTypes Tryz.prog).any (Tryz.prog.loopsFrom ·))=true:=by kernel_rfl
theorem qdz:(Rows.copySubstitutesRow.wideKeys==((Tryz.f16.params.toList++(OpenSpec.ofChange Rows.copySubstitutesSpec).bare.plain.varTypes Tryz.prog)++Tryz.f16.resultTypes.toList).any (Tryz.prog.wideKeysFrom ·))=true:=by kernel_rfl
theorem qdA:(OpenSpec.ofChange Rows.copySubstitutesSpec).bare.vars.all (Tryz.prog.varReadable ·)=true:=by kernel_rfl
theorem qdC:Tryz.f16.resultTypes.all (fun t=>Tryz.prog.readableRec t&&decide (t<Tryz.prog.types.size))=true:=by kernel_rfl
theorem qdD:(Rows.copySubstitutesRow.ifacesOut==Tryz.f16.resultTypes.toList.any (Tryz.prog.ifacesRec ·))=true:=by kernel_rfl
theorem qdE:(Rows.copySubstitutesRow.loopsOut==Tryz.f16.resultTypes.toList.any (Tryz.prog.loopsFrom ·))=true:=by kernel_rfl
theorem qdF:(Rows.copySubstitutesRow.plainKeys==Tryz.prog.plainKeys)=true:=by kernel_rfl
theorem qdG:Rows.copySubstitutesRow.shortTexts.isNone=true:=by kernel_rfl
theorem qdH:Tryz.prog.stopsHeard=true:=by kernel_rfl
theorem qdI:Tryz.prog.mayEnter=true:=by kernel_rfl
theorem qdJ:(Rows.copySubstitutesRow.lifted==Tryz.prog.liftsFinal)=true:=by kernel_rfl
theorem qdK:(Tryz.prog.make==some Rows.copySubstitutesRow.make)=true:=by kernel_rfl
theorem qdL:(Rows.copySubstitutesRow.kinds==(if Rows.copySubstitutesRow.domain.isEmpty then [] else Tryz.f16.params.toList.map fun t=>match Tryz.prog.underlying t with|some (.int k)=>some k|_=>none))=true:=by kernel_rfl
theorem qdN:(Rows.copySubstitutesRow.pinned==Rows.copySubstitutesRow.pinnedBy)=true:=by kernel_rfl
theorem qdO:(Rows.copySubstitutesRow.veiled==((Tryz.f16.params.toList++(OpenSpec.ofChange Rows.copySubstitutesSpec).bare.plain.varTypes Tryz.prog)++Tryz.f16.resultTypes.toList).any (Tryz.prog.veiledRec ·))=true:=by kernel_rfl
theorem qdP:Rows.copySubstitutesRow.veiledFits Tryz.prog Tryz.f16.params.toList ((Tryz.f16.params.toList++(OpenSpec.ofChange Rows.copySubstitutesSpec).bare.plain.varTypes Tryz.prog)++Tryz.f16.resultTypes.toList)=true:=by kernel_rfl
theorem facts:joinedFacts Tryz.pinned.checked.prog 16 Tryz.f16 (OpenSpec.ofChange Rows.copySubstitutesSpec).bare Rows.copySubstitutesRow=true:=(fB (fB (fB (fB (fB (fB (fB (fB (fB (fB (fB (fB (fB (fB (fB (fB (fB (fB (fB (fB (fB (fB (fB (fB (fB (fB (fB (fB (fB (fB (fB qdq qdB) qdM) qdQ) qdR) qdS) qdT) qdU) qdV) qdr) qds) qdt) qdu) qdv) qdw) qdx) qdy) qdz) qdA) qdC) qdD) qdE) qdF) qdG) qdH) qdI) qdJ) qdK) qdL) qdN) qdO) qdP)
theorem qgR:Tryz.pinned.checked.prog.funcNamed Rows.copySubstitutesRow.func=some 16:=by kernel_rfl
theorem qfI:Tryz.f16.isInstance Tryz.pinned.checked.prog Rows.copySubstitutesRow.origin Rows.copySubstitutesRow.targs:=of_decide_eq_true (by kernel_rfl)
theorem qmM:Tryz.f16.isWrapper Tryz.pinned.checked.prog Rows.copySubstitutesRow.wrapper Rows.copySubstitutesRow.mainSum:=by unfold Func.isWrapper;first|(rw[ai (by decide+kernel)];kernel_rfl)|(rw[aj (by decide+kernel)];exact⟨rfl,rfl⟩)
theorem said:Rows.CopySubstitutesSaid:=
 OpenClaim.holds_of_cond 16 Tryz.f16 rfl rfl rfl rfl rfl rfl rfl ⟨rfl,rfl,rfl,rfl,rfl⟩ rfl rfl rfl rfl rfl qgR Tryz.func16 facts qfI qmM
  (fun os started H enc _ F=>by rw[OpenClaim.pre_eq_preRow];exact lifted os started H enc F)
theorem qgB:false=Tryz.pinned.checked.prog.looks []:=by kernel_rfl
theorem qlS:Tryz.prog.wantsStandIn 22=false:=by kernel_rfl
theorem qlT:Tryz.prog.wantsStandIn 23=false:=by kernel_rfl
theorem qlU:Tryz.prog.wantsStandIn 28=false:=by kernel_rfl
theorem qlV:Tryz.prog.wantsStandIn 54=false:=by kernel_rfl
theorem qgW : Tryz.prog.funcNamed "manorboy/manorboylaw09.CopySubstitutes" = some 16 := by kernel_rfl
theorem plain (f : FuncId) (fn : Func) (hf : Tryz.pinned.checked.prog.funcNamed "manorboy/manorboylaw09.CopySubstitutes" = some f) (hfn : Tryz.pinned.checked.prog.funcs[f]? = some fn) :
  false=Tryz.pinned.checked.prog.looks []/\∀(j:Nat) t,fn.params[j]?=some t->Tryz.pinned.checked.prog.wantsStandIn t=false:=by
 obtain rfl:f=16:=Option.some.inj (qgW.symm.trans hf) |>.symm;obtain rfl:fn=Tryz.f16:=(Option.some.inj (Tryz.func16.symm.trans hfn)).symm;refine⟨qgB,fun j t ht=>?_⟩;rw[Tryz.params16]at ht;have:t=28\/t=54\/t=22\/t=23:=by simpa using Array.mem_of_getElem? ht
 rcases this with rfl|rfl|rfl|rfl
 .exact qlU
 .exact qlV
 .exact qlS
 .exact qlT
theorem qmx:Rows.copySubstitutesRow.wfByText (OpenSpec.ofChange Rows.copySubstitutesSpec)=true:=by kernel_rfl
theorem qgG:Tryz.pinned.checked.prog.mainIs=some (Rows.copySubstitutesCard.stood.harness.1,Rows.copySubstitutesCard.stood.harness.2.toList):=by kernel_rfl
theorem qew:false=Rows.copySubstitutesRow.goesBy Tryz.pinned.checked.prog:=by kernel_rfl
theorem card:Rows.CopySubstitutesCardSaid:=
 Claim7.holds_tied_plain_at .later [] _ _ _ _ said (fun _ h=>by cases h) qmx (fun _ h=>by cases h) copySubstitutes_row_tie rfl ⟨rfl,rfl⟩ qgG rfl plain qew
end Go.Proofs.YtbifpocccfkhhaaGreatDoor.copySubstitutes
namespace Go.Proofs.YtbifpocccfkhhaaGreatDoor
theorem copySubstitutes_holds:Rows.CopySubstitutesCardSaid:=copySubstitutes.card
end Go.Proofs.YtbifpocccfkhhaaGreatDoor
end
