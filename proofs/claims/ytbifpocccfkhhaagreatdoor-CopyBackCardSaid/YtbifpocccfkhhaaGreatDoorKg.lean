/- A part. -/
import Derived.Test.YtbifpocccfkhhaaGreatDoorKf
import Derived.Test.YtbifpocccfkhhaaGreatDoorCards
import Derived.Test.YtbifpocccfkhhaaGreatDoorTie
import Derived.WalkKit
import Derived.ProofKit
import Derived.OpenShut
import Derived.SliceStrings
import Derived.Deep.DeepHandedRow
import Derived.Deep.DeepWitnessRowRef
import Derived.Lib.LaidTab
import Derived.Lib.Space
import Derived.ReadAgain
set_option linter.all false
noncomputable section
namespace Go.Proofs.YtbifpocccfkhhaaGreatDoor
open Go Go.Proofs.Tryz
set_option maxRecDepth 20000
def pr7:Pr:=⟨56,[Y0],z0⟩
theorem qnR:pr7.ok prog:=Pr.run (zL qfg) 200 (by decide+kernel)
def qpT:List Pr:=pr7::qqj
theorem qfs:∀p,p∈qpT→p.ok prog:=qC qnR qfg
def pr8:Pr:=⟨29,[Y0],(.tup [(.sl false [(.str ⟨⟨[121]⟩⟩),(.str ⟨⟨[122]⟩⟩)]),z0])⟩
theorem qoB:pr8.ok prog:=Pr.run (zL qfs) 200 (by decide+kernel)
def qp6:List Pr:=pr8::qpT
theorem qfO:∀p,p∈qp6→p.ok prog:=qC qoB qfs
def pr9:Pr:=⟨31,[Y0],(.tup [(.sl false [(.str ⟨⟨[108]⟩⟩),(.str ⟨⟨[120]⟩⟩)]),z0])⟩
theorem qnU:pr9.ok prog:=Pr.run (zL qfO) 200 (by decide+kernel)
def qp0:List Pr:=pr9::qp6
theorem qhu:∀p,p∈qp0→p.ok prog:=qC qnU qfO
def qqe:Pr:=⟨90,[Y10],z0⟩
theorem qk2:qqe.ok prog:=Pr.run (zL qhu) 200 (by decide+kernel)
def qoW:List Pr:=qqe::qp0
theorem qcS:∀p,p∈qoW→p.ok prog:=qC qk2 qhu
def qpX:Pr:=⟨57,[(.str ⟨⟨[113]⟩⟩)],(.bool true)⟩
theorem qlD:qpX.ok prog:=Pr.run (zL qcS) 200 (by decide+kernel)
def qnu:List Pr:=qpX::qoW
theorem qde:∀p,p∈qnu→p.ok prog:=qC qlD qcS
def qpW:Pr:=⟨57,[(.str ⟨⟨[105]⟩⟩)],(.bool true)⟩
theorem qka:qpW.ok prog:=Pr.run (zL qde) 200 (by decide+kernel)
def qnp:List Pr:=qpW::qnu
theorem qc4:∀p,p∈qnp→p.ok prog:=qC qka qde
set_option maxRecDepth 20000
def qpZ:Pr:=⟨90,[Y9],z0⟩
theorem qkU:qpZ.ok prog:=Pr.run (zL qc4) 200 (by decide+kernel)
def qny:List Pr:=qpZ::qnp
theorem qc0:∀p,p∈qny→p.ok prog:=qC qkU qc4
def qqb:Pr:=⟨57,[(.str ⟨⟨[120,49]⟩⟩)],(.bool true)⟩
theorem qmd:qqb.ok prog:=Pr.run (zL qc0) 200 (by decide+kernel)
def qos:List Pr:=qqb::qny
theorem qcR:∀p,p∈qos→p.ok prog:=qC qmd qc0
def qqq:Pr:=⟨32,[Y0,(.sl true [(.str ⟨⟨[121]⟩⟩),(.str ⟨⟨[122]⟩⟩)]),(.sl true [Y10,Y9])],(.tup [Y6,z0])⟩
theorem qj8:qqq.ok prog:=Pr.run (zL qcR) 200 (by decide+kernel)
def qnh:List Pr:=qqq::qos
theorem qdA:∀p,p∈qnh→p.ok prog:=qC qj8 qcR
def qpJ:Pr:=⟨19,[Y0,(.str ⟨⟨[121]⟩⟩),(.str ⟨⟨[120]⟩⟩)],(.tup [Y14,(.int .i64 10)])⟩
theorem qky:qpJ.ok prog:=Pr.run (zL qdA) 200 (by decide+kernel)
def qm7:List Pr:=qpJ::qnh
theorem qda:∀p,p∈qm7→p.ok prog:=qC qky qdA
def qqA:Pr:=⟨19,[Y0,(.str ⟨⟨[121]⟩⟩),(.str ⟨⟨[122]⟩⟩)],(.tup [Y14,(.int .i64 6)])⟩
theorem qlW:qqA.ok prog:=Pr.run (zL qda) 200 (by decide+kernel)
def qoD:List Pr:=qqA::qm7
theorem qcH:∀p,p∈qoD→p.ok prog:=qC qlW qda
def qpL:Pr:=⟨53,[(.str ⟨⟨[116]⟩⟩),(.str ⟨⟨[109]⟩⟩),Y12,Y13],Y1⟩
theorem qj9:qpL.ok prog:=Pr.run (zL qcH) 200 (by decide+kernel)
def qoj:List Pr:=qpL::qoD
theorem qcV:∀p,p∈qoj→p.ok prog:=qC qj9 qcH
set_option maxRecDepth 20000
def qpR:Pr:=⟨57,[(.str ⟨⟨[116]⟩⟩)],(.bool true)⟩
theorem qmN:qpR.ok prog:=Pr.run (zL qcV) 200 (by decide+kernel)
def qn7:List Pr:=qpR::qoj
theorem qdj:∀p,p∈qn7→p.ok prog:=qC qmN qcV
def qqy:Pr:=⟨57,[(.str ⟨⟨[109]⟩⟩)],(.bool true)⟩
theorem qlh:qqy.ok prog:=Pr.run (zL qdj) 200 (by decide+kernel)
def qnq:List Pr:=qqy::qn7
theorem qdw:∀p,p∈qnq→p.ok prog:=qC qlh qdj
def qqd:Pr:=⟨56,[Y1],z0⟩
theorem qkQ:qqd.ok prog:=Pr.run (zL qdw) 200 (by decide+kernel)
def qnb:List Pr:=qqd::qnq
theorem qcI:∀p,p∈qnb→p.ok prog:=qC qkQ qdw
def qpM:Pr:=⟨24,[Y0,Y1],(.tup [(.bool true),z0])⟩
theorem qmO:qpM.ok prog:=Pr.run (zL qcI) 200 (by decide+kernel)
def qnG:List Pr:=qpM::qnb
theorem qdD:∀p,p∈qnG→p.ok prog:=qC qmO qcI
def qpK:Pr:=⟨57,[(.str ⟨⟨[112]⟩⟩)],(.bool true)⟩
theorem qjY:qpK.ok prog:=Pr.run (zL qdD) 200 (by decide+kernel)
def qoT:List Pr:=qpK::qnG
theorem qdq:∀p,p∈qoT→p.ok prog:=qC qjY qdD
def qpO:Pr:=⟨57,[(.str ⟨⟨[97]⟩⟩)],(.bool true)⟩
theorem qkD:qpO.ok prog:=Pr.run (zL qdq) 200 (by decide+kernel)
def qoU:List Pr:=qpO::qoT
theorem qcW:∀p,p∈qoU→p.ok prog:=qC qkD qdq
set_option maxRecDepth 20000
def qqp:Pr:=⟨57,[(.str ⟨⟨[98]⟩⟩)],(.bool true)⟩
theorem qmw:qqp.ok prog:=Pr.run (zL qcW) 200 (by decide+kernel)
def qnx:List Pr:=qqp::qoU
theorem qdv:∀p,p∈qnx→p.ok prog:=qC qmw qcW
def qqB:Pr:=⟨130,[Y2],z0⟩
theorem qkC:qqB.ok prog:=Pr.run (zL qdv) 200 (by decide+kernel)
def qoJ:List Pr:=qqB::qnx
theorem qcP:∀p,p∈qoJ→p.ok prog:=qC qkC qdv
def qpN:Pr:=⟨90,[Y3],z0⟩
theorem qmS:qpN.ok prog:=Pr.run (zL qcP) 200 (by decide+kernel)
def qox:List Pr:=qpN::qoJ
theorem qdl:∀p,p∈qox→p.ok prog:=qC qmS qcP
def qp3:Pr:=⟨57,[(.str ⟨⟨[107]⟩⟩)],(.bool true)⟩
theorem qk6:qp3.ok prog:=Pr.run (zL qdl) 200 (by decide+kernel)
def qom:List Pr:=qp3::qox
theorem qdg:∀p,p∈qom→p.ok prog:=qC qk6 qdl
def qp7:Pr:=⟨90,[Y8],z0⟩
theorem qlq:qp7.ok prog:=Pr.run (zL qdg) 200 (by decide+kernel)
def qow:List Pr:=qp7::qom
theorem qdM:∀p,p∈qow→p.ok prog:=qC qlq qdg
def qqk:Pr:=⟨27,[Y2,(.sl true [Y3,Y8])],(.tup [Y5,z0])⟩
theorem qmQ:qqk.ok prog:=Pr.run (zL qdM) 200 (by decide+kernel)
def qm9:List Pr:=qqk::qow
theorem qdp:∀p,p∈qm9→p.ok prog:=qC qmQ qdM
set_option maxRecDepth 20000
def qqu:Pr:=⟨27,[Y2,(.sl true [Y8,Y8])],(.tup [Y14,(.int .i64 10)])⟩
theorem qkJ:qqu.ok prog:=Pr.run (zL qdp) 200 (by decide+kernel)
def qnl:List Pr:=qqu::qm9
theorem qcU:∀p,p∈qnl→p.ok prog:=qC qkJ qdp
def qqa:Pr:=⟨23,[Y5,(.agg [sN,(.int .i64 7),(.str ⟨⟨[]⟩⟩),sN,sN,sN,(.sl true [Y20]),(.sl true [(.agg [sN,(.int .i64 2),(.str ⟨⟨[]⟩⟩),(.sl true [Y11]),(.sl true [Y8]),sN,sN,sN]),(.agg [sN,(.int .i64 7),(.str ⟨⟨[]⟩⟩),sN,sN,sN,Y18,(.sl true [(.agg [sN,(.int .i64 2),(.str ⟨⟨[]⟩⟩),(.sl true [Y4]),(.sl true [Y11]),sN,sN,sN]),(.agg [sN,(.int .i64 2),(.str ⟨⟨[]⟩⟩),(.sl true [Y3]),(.sl true [(.agg [(.int .i64 10),(.int .i64 3),z0,z0,z0,(.str ⟨⟨[]⟩⟩),(.sl true [Y3,Y4])])]),sN,sN,sN])])])])])],(.bool true)⟩
theorem qkk:qqa.ok prog:=Pr.run (zL qcU) 200 (by decide+kernel)
def qoL:List Pr:=qqa::qnl
theorem qdG:∀p,p∈qoL→p.ok prog:=qC qkk qcU
def qpP:Pr:=⟨53,[(.str ⟨⟨[120,49]⟩⟩),(.str ⟨⟨[108]⟩⟩),Y10,Y9],Y7⟩
theorem qmT:qpP.ok prog:=Pr.run (zL qdG) 200 (by decide+kernel)
def qnr:List Pr:=qpP::qoL
theorem qcD:∀p,p∈qnr→p.ok prog:=qC qmT qdG
def qp9:Pr:=⟨23,[Y6,Y7],(.bool true)⟩
theorem qmk:qp9.ok prog:=Pr.run (zL qcD) 200 (by decide+kernel)
def qoa:List Pr:=qp9::qnr
theorem qcA:∀p,p∈qoa→p.ok prog:=qC qmk qcD
def qqm:Pr:=⟨30,[(.sl false [(.str ⟨⟨[121]⟩⟩),(.str ⟨⟨[122]⟩⟩)]),(.sl true [(.str ⟨⟨[121]⟩⟩),(.str ⟨⟨[122]⟩⟩)])],(.bool true)⟩
theorem qly:qqm.ok prog:=Pr.run (zL qcA) 200 (by decide+kernel)
def qnM:List Pr:=qqm::qoa
theorem qcw:∀p,p∈qnM→p.ok prog:=qC qly qcA
def qqi:Pr:=⟨30,[(.sl false [(.str ⟨⟨[108]⟩⟩),(.str ⟨⟨[120]⟩⟩)]),(.sl true [(.str ⟨⟨[108]⟩⟩),(.str ⟨⟨[120]⟩⟩)])],(.bool true)⟩
theorem qlV:qqi.ok prog:=Pr.run (zL qcw) 200 (by decide+kernel)
def qpq:List Pr:=qqi::qnM
theorem qiy:∀p,p∈qpq→p.ok prog:=qC qlV qcw
set_option maxRecDepth 20000
def qnT:Pr:=⟨18,[],.bool true⟩
theorem qmV:qnT.ok prog:=Pr.run (zL qiy) 200 (by decide+kernel)
theorem zg.same{s:Bz}{ks taken:List Bz}{t:Bz}(hk:∀x,x∈ks↔x∈taken)(h:zg s ks t):zg s taken t:=by
 unfold zg at *;simpa only[hk] using h
theorem QV{s:Bz}(h:qb s=true):s.size≤16:=by
 unfold qb at h;simp only[qq5,decide_eq_true_eq] at h;exact h.1.1.1.2
theorem ZQ(S:St):Fn prog 18 [] S (.bool true):=qmV S
end Go.Proofs.YtbifpocccfkhhaaGreatDoor
namespace Go.Proofs.YtbifpocccfkhhaaGreatDoor
open Go Go.ChangeShapes Go.WideShapes Go.ChangeAt Go.RowKit
def E0(W:World):En:=⟨fun b o=>W.cell? ⟨b,o,none⟩,fun _ _=>none⟩
theorem laid_tail{P:Program}{W:World}{x:String×DataW Unit}{l:List (String×DataW Unit)}(h:laidMet P (x::l) W):laidMet P l W:=by
 obtain ⟨ps,hl,hn,hf⟩:=h;obtain ⟨n,d⟩:=x;obtain ⟨g,t,cs,fuel,p,q,h1,h2,h3,h4,h5,rfl⟩:=hl;refine ⟨q,h5,?_,fun b off hm=>hf b off (qq9 _ hm)⟩;exact (List.nodup_append.1 hn).2.1
theorem tab_cells{P:Program}{W:World}{name:String}{k:IntKind}{zs:List Int}{g:Nat}(hg:P.globalNamed name=some g)(h:Lib.TabIs P W name k zs):
  ∃t fz,W.heap[g]?=some (.cells (zs.map fun z=>Value.int k z).toArray t fz):=by
 unfold Lib.TabIs World.var? at h;rw[hg] at h;simp only[qrh] at h;split at h
 ·rename_i cs t fz hh;cases h;exact ⟨t,fz,hh⟩
 ·cases h
theorem gSp : Tryz.prog.globalNamed "strings.asciiSpace" = some 0 := by kernel_rfl
theorem gPow : Tryz.prog.globalNamed "internal/strconv.uint64pow10" = some 2 := by kernel_rfl
theorem gSpType:(Tryz.prog.globals[0]?).map (·.type)=some 228:=by kernel_rfl
theorem gPowType:(Tryz.prog.globals[2]?).map (·.type)=some 264:=by kernel_rfl
theorem sp_at:∀o,o<256→Lib.asciiSpaceTab.getD o 0=(if o=9∨o=10∨o=11∨o=12∨o=13∨o=32 then 1 else 0):=by decide+kernel
theorem sp_is:(Rows.laid_strings_asciiSpace:DataW Unit)=Lib.tabData .u8 Lib.asciiSpaceTab:=by kernel_rfl
theorem pow_is:(Rows.laid_internal_strconv_uint64pow10:DataW Unit)=Lib.tabData .u64 Lib.pow10Tab:=by kernel_rfl
theorem SR.start{W:World}(h:laidMetH Tryz.prog Rows.copyFreshRow.laid W):SR (E0 W) [] W:=by
 have h0 : laidMet Tryz.prog [("math/bits.deBruijn32tab", Rows.laid_math_bits_deBruijn32tab), ("math/bits.deBruijn64tab", Rows.laid_math_bits_deBruijn64tab), ("internal/strconv.uint64pow10", Rows.laid_internal_strconv_uint64pow10), ("unicode.White_Space", Rows.laid_unicode_White_Space), ("strings.asciiSpace", Rows.laid_strings_asciiSpace)] W := h
 have h3:=laid_tail (laid_tail h0);have h5:=laid_tail (laid_tail h3);rw[pow_is] at h3;rw[sp_is] at h5
 have t1 : Lib.TabIs Tryz.prog W "strings.asciiSpace" .u8 Lib.asciiSpaceTab := Lib.tabIs_of_head gSp gSpType Tryz.underlying228 (by kernel_rfl) (by kernel_rfl) (by kernel_rfl) h5
 have t2 : Lib.TabIs Tryz.prog W "internal/strconv.uint64pow10" .u64 Lib.pow10Tab := Lib.tabIs_of_head gPow gPowType Tryz.underlying264 (by kernel_rfl) (by kernel_rfl) (by kernel_rfl) h3
 refine ⟨⟨fun g o k n hg=>?_,fun g cs hg=>?_⟩,fun b o c h=>h,fun l o h=>by simp at h,fun l st x h=>by simp[E0] at h,fun b o ⟨l,st,x,_,h,_⟩=>by simp[E0] at h,fun b ⟨l,st,x,_,h,_⟩=>by simp[E0] at h,fun l l' st st' x x' _ _ h=>by simp[E0] at h⟩
 ·unfold qeo at hg;split at hg
  ·rename_i hc;obtain ⟨rfl,ho⟩:=hc;cases hg;have:=t1.cell gSp o (by rw[Lib.asciiSpaceTab_length];exact ho);rw[sp_at o ho] at this;exact this
  ·split at hg
   ·rename_i hc;obtain ⟨rfl,ho⟩:=hc;cases hg;have:=t2.cell gPow o (by rw[Lib.pow10Tab_length];exact ho);rw[Lib.pow10Tab_at o ho] at this;exact_mod_cast this
   ·cases hg
 ·unfold qdU at hg;split at hg
  ·rename_i hc;subst hc;cases hg;obtain ⟨t2,f2,g2⟩:=tab_cells gPow t2;refine ⟨t2,f2,?_⟩;rw[g2];simp[Lib.pow10Tab,qr2,Function.comp]
  ·cases hg
theorem own_none{W:World}{b:Nat}:¬ own (E0 W) [] b:=fun ⟨l,st,x,_,h,_⟩=>by simp[E0] at h
theorem kept_of{n:Nat}{W W':World}{E':En}{S':St}(h:Ext n (E0 W) [] W E' S' W')(may:MemPlace→Prop):W.keptBut W' may:=by
 have ho:=h.out;simp only[Prod.mk.injEq] at ho;refine ⟨ho.2,ho.1,fun i hi=>?_⟩;have:=h.frame i hi own_none;rw[this]
 cases hh:W.heap[i]? with
 | none=>trivial
 | some o=>cases o <;> simp
theorem same_of{n:Nat}{W W':World}{E':En}{S':St}(h:Ext n (E0 W) [] W E' S' W'){p:MemPlace}(hp:p.block<W.heap.size):W.sameAt W' p:=by
 have hb:=h.frame p.block hp own_none
 cases p with
 | cell b o=>exact cell?_heap hb
 | map b=>exact hb
theorem carryAll{H:Type}{enc:TypeId×Value→H}{P:Program}{w w':World}{sp:Nat→Bool}:∀{ts:List TypeId} {vs:List Value} {ds:List (DataW H)} {ps:List MemPlace},DataW.TrodAll enc P w 0 sp true ts vs ds ps→(∀p∈ps,w.sameAt w' p)→DataW.TrodAll enc P w' 0 sp true ts vs ds ps
 | [],[],[],_,h,_=>h
 | _::_,_::_,_::_,_,⟨p,q,⟨n,h1⟩,h2,e⟩,hs=>⟨p,q,⟨n,DataW.trod_carry n _ _ _ h1 fun x hx=>hs x (by rw[e];exact qq6 _ hx)⟩,carryAll h2 (fun x hx=>hs x (by rw[e];exact qq9 _ hx)),e⟩
theorem kids:Kids Tryz.prog (·<Tryz.prog.types.size):=kids_rows (by kernel_rfl) (by kernel_rfl)
theorem full:∀t e,t<Tryz.prog.types.size→Tryz.prog.underlying t=some (.slice e)→0<Tryz.prog.cellsOf e:=slices_full_of Tryz.prog (by kernel_rfl)
theorem law_of{H:Type}{enc:TypeId×Value→H}{k:Nat}{f:Func}{s:ChangeSpec}{W:World}{args:Array Value}{ds gs:List (DataW H)}{before:List MemPlace}{vs:List V}
  (hspec:Fn Tryz.prog k vs [] (.bool true)) (hs:SR (E0 W) [] W) (hv:VRs (E0 W) vs args) (hty:f.params.toList.all (fun t=>decide (t<Tryz.prog.types.size))=true) (hres:f.resultTypes=#[4])
  (hvars:s.vars=[]) (hW:DataW.Whole enc Tryz.prog f.params.toList s.vars false W args.toList ds gs before)
  (hfn:s.fn H (ds++gs)={ results:=[.lit (.bool true)],args:=ds++gs }):
  Calls Tryz.prog k args W fun e W'=>∃v,e=.returned v∧s.post enc Tryz.prog f false true false false W args v W':=by
 have hc:=callsIn_wide.1 (hspec.2 (E0 W) W args 0 hs hv);refine hc.mono ?_;rintro e W' ⟨u,r,E',S',rfl,⟨rfl,rfl⟩,hr,hs',hx,_⟩;cases hr;have hW':=hW;obtain ⟨p,q,hA,hV,hb,hz,hn⟩:=hW;rw[hvars] at hV;obtain ⟨rfl,rfl⟩:=trodVars_none hV;rw[qr8] at hb;subst hb;rw[qr8] at hfn;refine ⟨_,rfl,ds,[],before,[],before,[],hW',?_,?_,?_,kept_of hx _,fun h=>by cases h⟩
 ·rw[qr8,hfn,hres];exact trodAll_cons_mk (shut_bool Tryz.underlying4 _) trodAll_mk0
 ·rw[qr8,hfn];have hlt:∀p∈before,p.block<W.heap.size:=fun p hp=>hW'.lt p hp
  refine carryAll (DataW.TrodAll.respare kids full (fun t ht=>?_) hA fun p hp=>by simpa using hlt p hp) fun p hp=>same_of hx (hlt p hp)
  have:=qri.1 hty t ht;simpa using this
 ·rw[qr8,hfn,hvars];rfl
end Go.Proofs.YtbifpocccfkhhaaGreatDoor
end
