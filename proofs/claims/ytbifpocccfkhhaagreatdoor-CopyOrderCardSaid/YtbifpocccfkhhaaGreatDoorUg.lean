/- A part. -/
import Derived.Test.YtbifpocccfkhhaaGreatDoorUf
import Derived.Test.YtbifpocccfkhhaaGreatDoorCards
import Derived.Test.YtbifpocccfkhhaaGreatDoorTie
import Derived.WalkKit
import Derived.ProofKit
import Derived.OpenShut
import Derived.SliceStrings
import Derived.Deep.DeepHandedRow
import Derived.Deep.DeepWitnessRowRef
import Derived.Lib.LaidTab
import Derived.Lib.Space
import Derived.ReadAgain
set_option linter.all false
noncomputable section
namespace Go.Proofs.YtbifpocccfkhhaaGreatDoor
open Go Go.Proofs.Tryz
set_option maxRecDepth 20000
def pr7:Pr:=⟨56,[Y0],z0⟩
theorem qnE:pr7.ok prog:=Pr.run (zJ qfc) 200 (by decide+kernel)
def qpv:List Pr:=pr7::qpW
theorem qfl:∀p,p∈qpv→p.ok prog:=qC qnE qfc
def pr8:Pr:=⟨29,[Y0],(.tup [(.sl false [(.str ⟨⟨[121]⟩⟩),(.str ⟨⟨[122]⟩⟩)]),z0])⟩
theorem qoo:pr8.ok prog:=Pr.run (zJ qfl) 200 (by decide+kernel)
def qpJ:List Pr:=pr8::qpv
theorem qfH:∀p,p∈qpJ→p.ok prog:=qC qoo qfl
def pr9:Pr:=⟨31,[Y0],(.tup [(.sl false [(.str ⟨⟨[108]⟩⟩),(.str ⟨⟨[120]⟩⟩)]),z0])⟩
theorem qnH:pr9.ok prog:=Pr.run (zJ qfH) 200 (by decide+kernel)
def qpD:List Pr:=pr9::qpJ
theorem qhs:∀p,p∈qpD→p.ok prog:=qC qnH qfH
def qpR:Pr:=⟨90,[Y10],z0⟩
theorem qkT:qpR.ok prog:=Pr.run (zJ qhs) 200 (by decide+kernel)
def qoE:List Pr:=qpR::qpD
theorem qcN:∀p,p∈qoE→p.ok prog:=qC qkT qhs
def qpz:Pr:=⟨57,[(.str ⟨⟨[113]⟩⟩)],(.bool true)⟩
theorem qlt:qpz.ok prog:=Pr.run (zJ qcN) 200 (by decide+kernel)
def qnh:List Pr:=qpz::qoE
theorem qdc:∀p,p∈qnh→p.ok prog:=qC qlt qcN
def qpy:Pr:=⟨57,[(.str ⟨⟨[105]⟩⟩)],(.bool true)⟩
theorem qj4:qpy.ok prog:=Pr.run (zJ qdc) 200 (by decide+kernel)
def qnd:List Pr:=qpy::qnh
theorem qc2:∀p,p∈qnd→p.ok prog:=qC qj4 qdc
set_option maxRecDepth 20000
def qpC:Pr:=⟨90,[Y9],z0⟩
theorem qkM:qpC.ok prog:=Pr.run (zJ qc2) 200 (by decide+kernel)
def qnm:List Pr:=qpC::qnd
theorem qcX:∀p,p∈qnm→p.ok prog:=qC qkM qc2
def qpO:Pr:=⟨57,[(.str ⟨⟨[120,49]⟩⟩)],(.bool true)⟩
theorem ql4:qpO.ok prog:=Pr.run (zJ qcX) 200 (by decide+kernel)
def qof:List Pr:=qpO::qnm
theorem qcL:∀p,p∈qof→p.ok prog:=qC ql4 qcX
def qp3:Pr:=⟨32,[Y0,(.sl true [(.str ⟨⟨[121]⟩⟩),(.str ⟨⟨[122]⟩⟩)]),(.sl true [Y10,Y9])],(.tup [Y6,z0])⟩
theorem qj2:qp3.ok prog:=Pr.run (zJ qcL) 200 (by decide+kernel)
def qm4:List Pr:=qp3::qof
theorem qdv:∀p,p∈qm4→p.ok prog:=qC qj2 qcL
def qpl:Pr:=⟨19,[Y0,(.str ⟨⟨[121]⟩⟩),(.str ⟨⟨[120]⟩⟩)],(.tup [Y14,(.int .i64 10)])⟩
theorem qkt:qpl.ok prog:=Pr.run (zJ qdv) 200 (by decide+kernel)
def qmX:List Pr:=qpl::qm4
theorem qc8:∀p,p∈qmX→p.ok prog:=qC qkt qdv
def qqd:Pr:=⟨19,[Y0,(.str ⟨⟨[121]⟩⟩),(.str ⟨⟨[122]⟩⟩)],(.tup [Y14,(.int .i64 6)])⟩
theorem qlM:qqd.ok prog:=Pr.run (zJ qc8) 200 (by decide+kernel)
def qoq:List Pr:=qqd::qmX
theorem qcC:∀p,p∈qoq→p.ok prog:=qC qlM qc8
def qpn:Pr:=⟨53,[(.str ⟨⟨[116]⟩⟩),(.str ⟨⟨[109]⟩⟩),Y12,Y13],Y1⟩
theorem qj3:qpn.ok prog:=Pr.run (zJ qcC) 200 (by decide+kernel)
def qn5:List Pr:=qpn::qoq
theorem qcQ:∀p,p∈qn5→p.ok prog:=qC qj3 qcC
set_option maxRecDepth 20000
def qpt:Pr:=⟨57,[(.str ⟨⟨[116]⟩⟩)],(.bool true)⟩
theorem qmD:qpt.ok prog:=Pr.run (zJ qcQ) 200 (by decide+kernel)
def qnT:List Pr:=qpt::qn5
theorem qdg:∀p,p∈qnT→p.ok prog:=qC qmD qcQ
def qqb:Pr:=⟨57,[(.str ⟨⟨[109]⟩⟩)],(.bool true)⟩
theorem qk7:qqb.ok prog:=Pr.run (zJ qdg) 200 (by decide+kernel)
def qne:List Pr:=qqb::qnT
theorem qds:∀p,p∈qne→p.ok prog:=qC qk7 qdg
def qpQ:Pr:=⟨56,[Y1],z0⟩
theorem qkI:qpQ.ok prog:=Pr.run (zJ qds) 200 (by decide+kernel)
def qm0:List Pr:=qpQ::qne
theorem qcD:∀p,p∈qm0→p.ok prog:=qC qkI qds
def qpo:Pr:=⟨24,[Y0,Y1],(.tup [(.bool true),z0])⟩
theorem qmE:qpo.ok prog:=Pr.run (zJ qcD) 200 (by decide+kernel)
def qnr:List Pr:=qpo::qm0
theorem qdw:∀p,p∈qnr→p.ok prog:=qC qmE qcD
def qpm:Pr:=⟨57,[(.str ⟨⟨[112]⟩⟩)],(.bool true)⟩
theorem qjS:qpm.ok prog:=Pr.run (zJ qdw) 200 (by decide+kernel)
def qoC:List Pr:=qpm::qnr
theorem qdm:∀p,p∈qoC→p.ok prog:=qC qjS qdw
def qpq:Pr:=⟨57,[(.str ⟨⟨[97]⟩⟩)],(.bool true)⟩
theorem qky:qpq.ok prog:=Pr.run (zJ qdm) 200 (by decide+kernel)
def qoD:List Pr:=qpq::qoC
theorem qcS:∀p,p∈qoD→p.ok prog:=qC qky qdm
set_option maxRecDepth 20000
def qp2:Pr:=⟨57,[(.str ⟨⟨[98]⟩⟩)],(.bool true)⟩
theorem qmn:qp2.ok prog:=Pr.run (zJ qcS) 200 (by decide+kernel)
def qnl:List Pr:=qp2::qoD
theorem qdr:∀p,p∈qnl→p.ok prog:=qC qmn qcS
def qqf:Pr:=⟨130,[Y2],z0⟩
theorem qkx:qqf.ok prog:=Pr.run (zJ qdr) 200 (by decide+kernel)
def qou:List Pr:=qqf::qnl
theorem qcJ:∀p,p∈qou→p.ok prog:=qC qkx qdr
def qpp:Pr:=⟨90,[Y3],z0⟩
theorem qmI:qpp.ok prog:=Pr.run (zJ qcJ) 200 (by decide+kernel)
def qok:List Pr:=qpp::qou
theorem qdi:∀p,p∈qok→p.ok prog:=qC qmI qcJ
def qpG:Pr:=⟨57,[(.str ⟨⟨[107]⟩⟩)],(.bool true)⟩
theorem qkX:qpG.ok prog:=Pr.run (zJ qdi) 200 (by decide+kernel)
def qn9:List Pr:=qpG::qok
theorem qde:∀p,p∈qn9→p.ok prog:=qC qkX qdi
def qpK:Pr:=⟨90,[Y8],z0⟩
theorem qlg:qpK.ok prog:=Pr.run (zJ qde) 200 (by decide+kernel)
def qoj:List Pr:=qpK::qn9
theorem qdH:∀p,p∈qoj→p.ok prog:=qC qlg qde
def qpX:Pr:=⟨27,[Y2,(.sl true [Y3,Y8])],(.tup [Y5,z0])⟩
theorem qmG:qpX.ok prog:=Pr.run (zJ qdH) 200 (by decide+kernel)
def qmY:List Pr:=qpX::qoj
theorem qdl:∀p,p∈qmY→p.ok prog:=qC qmG qdH
set_option maxRecDepth 20000
def qp7:Pr:=⟨27,[Y2,(.sl true [Y8,Y8])],(.tup [Y14,(.int .i64 10)])⟩
theorem qkC:qp7.ok prog:=Pr.run (zJ qdl) 200 (by decide+kernel)
def qm9:List Pr:=qp7::qmY
theorem qcP:∀p,p∈qm9→p.ok prog:=qC qkC qdl
def qpN:Pr:=⟨23,[Y5,(.agg [sN,(.int .i64 7),(.str ⟨⟨[]⟩⟩),sN,sN,sN,(.sl true [Y20]),(.sl true [(.agg [sN,(.int .i64 2),(.str ⟨⟨[]⟩⟩),(.sl true [Y11]),(.sl true [Y8]),sN,sN,sN]),(.agg [sN,(.int .i64 7),(.str ⟨⟨[]⟩⟩),sN,sN,sN,Y18,(.sl true [(.agg [sN,(.int .i64 2),(.str ⟨⟨[]⟩⟩),(.sl true [Y4]),(.sl true [Y11]),sN,sN,sN]),(.agg [sN,(.int .i64 2),(.str ⟨⟨[]⟩⟩),(.sl true [Y3]),(.sl true [(.agg [(.int .i64 10),(.int .i64 3),z0,z0,z0,(.str ⟨⟨[]⟩⟩),(.sl true [Y3,Y4])])]),sN,sN,sN])])])])])],(.bool true)⟩
theorem qke:qpN.ok prog:=Pr.run (zJ qcP) 200 (by decide+kernel)
def qow:List Pr:=qpN::qm9
theorem qdB:∀p,p∈qow→p.ok prog:=qC qke qcP
def qpr:Pr:=⟨53,[(.str ⟨⟨[120,49]⟩⟩),(.str ⟨⟨[108]⟩⟩),Y10,Y9],Y7⟩
theorem qmJ:qpr.ok prog:=Pr.run (zJ qdB) 200 (by decide+kernel)
def qnf:List Pr:=qpr::qow
theorem qcy:∀p,p∈qnf→p.ok prog:=qC qmJ qdB
def qpM:Pr:=⟨23,[Y6,Y7],(.bool true)⟩
theorem qma:qpM.ok prog:=Pr.run (zJ qcy) 200 (by decide+kernel)
def qnW:List Pr:=qpM::qnf
theorem qcv:∀p,p∈qnW→p.ok prog:=qC qma qcy
def qpZ:Pr:=⟨30,[(.sl false [(.str ⟨⟨[121]⟩⟩),(.str ⟨⟨[122]⟩⟩)]),(.sl true [(.str ⟨⟨[121]⟩⟩),(.str ⟨⟨[122]⟩⟩)])],(.bool true)⟩
theorem qlo:qpZ.ok prog:=Pr.run (zJ qcv) 200 (by decide+kernel)
def qny:List Pr:=qpZ::qnW
theorem qcr:∀p,p∈qny→p.ok prog:=qC qlo qcv
def qpV:Pr:=⟨30,[(.sl false [(.str ⟨⟨[108]⟩⟩),(.str ⟨⟨[120]⟩⟩)]),(.sl true [(.str ⟨⟨[108]⟩⟩),(.str ⟨⟨[120]⟩⟩)])],(.bool true)⟩
theorem qlL:qpV.ok prog:=Pr.run (zJ qcr) 200 (by decide+kernel)
def qo8:List Pr:=qpV::qny
theorem qiw:∀p,p∈qo8→p.ok prog:=qC qlL qcr
set_option maxRecDepth 20000
def qnG:Pr:=⟨18,[],.bool true⟩
theorem qmL:qnG.ok prog:=Pr.run (zJ qiw) 200 (by decide+kernel)
theorem zd.same{s:Bz}{ks taken:List Bz}{t:Bz}(hk:∀x,x∈ks↔x∈taken)(h:zd s ks t):zd s taken t:=by
 unfold zd at *;simpa only[hk] using h
theorem Q1{s:Bz}(h:qb s=true):s.size≤16:=by
 unfold qb at h;simp only[qqL,decide_eq_true_eq] at h;exact h.1.1.1.2
theorem ze(S:St):Fn prog 18 [] S (.bool true):=qmL S
end Go.Proofs.YtbifpocccfkhhaaGreatDoor
namespace Go.Proofs.YtbifpocccfkhhaaGreatDoor
open Go Go.ChangeShapes Go.WideShapes Go.ChangeAt Go.RowKit
def E0(W:World):En:=⟨fun b o=>W.cell? ⟨b,o,none⟩,fun _ _=>none⟩
theorem laid_tail{P:Program}{W:World}{x:String×DataW Unit}{l:List (String×DataW Unit)}(h:laidMet P (x::l) W):laidMet P l W:=by
 obtain ⟨ps,hl,hn,hf⟩:=h;obtain ⟨n,d⟩:=x;obtain ⟨g,t,cs,fuel,p,q,h1,h2,h3,h4,h5,rfl⟩:=hl;refine ⟨q,h5,?_,fun b off hm=>hf b off (qqN _ hm)⟩;exact (List.nodup_append.1 hn).2.1
theorem tab_cells{P:Program}{W:World}{name:String}{k:IntKind}{zs:List Int}{g:Nat}(hg:P.globalNamed name=some g)(h:Lib.TabIs P W name k zs):
  ∃t fz,W.heap[g]?=some (.cells (zs.map fun z=>Value.int k z).toArray t fz):=by
 unfold Lib.TabIs World.var? at h;rw[hg] at h;simp only[qqU] at h;split at h
 ·rename_i cs t fz hh;cases h;exact ⟨t,fz,hh⟩
 ·cases h
theorem gSp : Tryz.prog.globalNamed "strings.asciiSpace" = some 0 := by kernel_rfl
theorem gPow : Tryz.prog.globalNamed "internal/strconv.uint64pow10" = some 2 := by kernel_rfl
theorem gSpType:(Tryz.prog.globals[0]?).map (·.type)=some 228:=by kernel_rfl
theorem gPowType:(Tryz.prog.globals[2]?).map (·.type)=some 264:=by kernel_rfl
theorem sp_at:∀o,o<256→Lib.asciiSpaceTab.getD o 0=(if o=9∨o=10∨o=11∨o=12∨o=13∨o=32 then 1 else 0):=by decide+kernel
theorem sp_is:(Rows.laid_strings_asciiSpace:DataW Unit)=Lib.tabData .u8 Lib.asciiSpaceTab:=by kernel_rfl
theorem pow_is:(Rows.laid_internal_strconv_uint64pow10:DataW Unit)=Lib.tabData .u64 Lib.pow10Tab:=by kernel_rfl
theorem SR.start{W:World}(h:laidMetH Tryz.prog Rows.copyFreshRow.laid W):SR (E0 W) [] W:=by
 have h0 : laidMet Tryz.prog [("math/bits.deBruijn32tab", Rows.laid_math_bits_deBruijn32tab), ("math/bits.deBruijn64tab", Rows.laid_math_bits_deBruijn64tab), ("internal/strconv.uint64pow10", Rows.laid_internal_strconv_uint64pow10), ("unicode.White_Space", Rows.laid_unicode_White_Space), ("strings.asciiSpace", Rows.laid_strings_asciiSpace)] W := h
 have h3:=laid_tail (laid_tail h0);have h5:=laid_tail (laid_tail h3);rw[pow_is] at h3;rw[sp_is] at h5
 have t1 : Lib.TabIs Tryz.prog W "strings.asciiSpace" .u8 Lib.asciiSpaceTab := Lib.tabIs_of_head gSp gSpType Tryz.underlying228 (by kernel_rfl) (by kernel_rfl) (by kernel_rfl) h5
 have t2 : Lib.TabIs Tryz.prog W "internal/strconv.uint64pow10" .u64 Lib.pow10Tab := Lib.tabIs_of_head gPow gPowType Tryz.underlying264 (by kernel_rfl) (by kernel_rfl) (by kernel_rfl) h3
 refine ⟨⟨fun g o k n hg=>?_,fun g cs hg=>?_⟩,fun b o c h=>h,fun l o h=>by simp at h,fun l st x h=>by simp[E0] at h,fun b o ⟨l,st,x,_,h,_⟩=>by simp[E0] at h,fun b ⟨l,st,x,_,h,_⟩=>by simp[E0] at h,fun l l' st st' x x' _ _ h=>by simp[E0] at h⟩
 ·unfold qej at hg;split at hg
  ·rename_i hc;obtain ⟨rfl,ho⟩:=hc;cases hg;have:=t1.cell gSp o (by rw[Lib.asciiSpaceTab_length];exact ho);rw[sp_at o ho] at this;exact this
  ·split at hg
   ·rename_i hc;obtain ⟨rfl,ho⟩:=hc;cases hg;have:=t2.cell gPow o (by rw[Lib.pow10Tab_length];exact ho);rw[Lib.pow10Tab_at o ho] at this;exact_mod_cast this
   ·cases hg
 ·unfold qdQ at hg;split at hg
  ·rename_i hc;subst hc;cases hg;obtain ⟨t2,f2,g2⟩:=tab_cells gPow t2;refine ⟨t2,f2,?_⟩;rw[g2];simp[Lib.pow10Tab,qrG,Function.comp]
  ·cases hg
theorem own_none{W:World}{b:Nat}:¬ own (E0 W) [] b:=fun ⟨l,st,x,_,h,_⟩=>by simp[E0] at h
theorem kept_of{n:Nat}{W W':World}{E':En}{S':St}(h:Ext n (E0 W) [] W E' S' W')(may:MemPlace→Prop):W.keptBut W' may:=by
 have ho:=h.out;simp only[Prod.mk.injEq] at ho;refine ⟨ho.2,ho.1,fun i hi=>?_⟩;have:=h.frame i hi own_none;rw[this]
 cases hh:W.heap[i]? with
 | none=>trivial
 | some o=>cases o <;> simp
theorem same_of{n:Nat}{W W':World}{E':En}{S':St}(h:Ext n (E0 W) [] W E' S' W'){p:MemPlace}(hp:p.block<W.heap.size):W.sameAt W' p:=by
 have hb:=h.frame p.block hp own_none
 cases p with
 | cell b o=>exact cell?_heap hb
 | map b=>exact hb
theorem carryAll{H:Type}{enc:TypeId×Value→H}{P:Program}{w w':World}{sp:Nat→Bool}:∀{ts:List TypeId} {vs:List Value} {ds:List (DataW H)} {ps:List MemPlace},DataW.TrodAll enc P w 0 sp true ts vs ds ps→(∀p∈ps,w.sameAt w' p)→DataW.TrodAll enc P w' 0 sp true ts vs ds ps
 | [],[],[],_,h,_=>h
 | _::_,_::_,_::_,_,⟨p,q,⟨n,h1⟩,h2,e⟩,hs=>⟨p,q,⟨n,DataW.trod_carry n _ _ _ h1 fun x hx=>hs x (by rw[e];exact qqK _ hx)⟩,carryAll h2 (fun x hx=>hs x (by rw[e];exact qqN _ hx)),e⟩
theorem kids:Kids Tryz.prog (·<Tryz.prog.types.size):=kids_rows (by kernel_rfl) (by kernel_rfl)
theorem full:∀t e,t<Tryz.prog.types.size→Tryz.prog.underlying t=some (.slice e)→0<Tryz.prog.cellsOf e:=slices_full_of Tryz.prog (by kernel_rfl)
theorem law_of{H:Type}{enc:TypeId×Value→H}{k:Nat}{f:Func}{s:ChangeSpec}{W:World}{args:Array Value}{ds gs:List (DataW H)}{before:List MemPlace}{vs:List V}
  (hspec:Fn Tryz.prog k vs [] (.bool true)) (hs:SR (E0 W) [] W) (hv:VRs (E0 W) vs args) (hty:f.params.toList.all (fun t=>decide (t<Tryz.prog.types.size))=true) (hres:f.resultTypes=#[4])
  (hvars:s.vars=[]) (hW:DataW.Whole enc Tryz.prog f.params.toList s.vars false W args.toList ds gs before)
  (hfn:s.fn H (ds++gs)={ results:=[.lit (.bool true)],args:=ds++gs }):
  Calls Tryz.prog k args W fun e W'=>∃v,e=.returned v∧s.post enc Tryz.prog f false true false false W args v W':=by
 have hc:=callsIn_wide.1 (hspec.2 (E0 W) W args 0 hs hv);refine hc.mono ?_;rintro e W' ⟨u,r,E',S',rfl,⟨rfl,rfl⟩,hr,hs',hx,_⟩;cases hr;have hW':=hW;obtain ⟨p,q,hA,hV,hb,hz,hn⟩:=hW;rw[hvars] at hV;obtain ⟨rfl,rfl⟩:=trodVars_none hV;rw[qrC] at hb;subst hb;rw[qrC] at hfn;refine ⟨_,rfl,ds,[],before,[],before,[],hW',?_,?_,?_,kept_of hx _,fun h=>by cases h⟩
 ·rw[qrC,hfn,hres];exact trodAll_cons_mk (shut_bool Tryz.underlying4 _) trodAll_mk0
 ·rw[qrC,hfn];have hlt:∀p∈before,p.block<W.heap.size:=fun p hp=>hW'.lt p hp
  refine carryAll (DataW.TrodAll.respare kids full (fun t ht=>?_) hA fun p hp=>by simpa using hlt p hp) fun p hp=>same_of hx (hlt p hp)
  have:=qqV.1 hty t ht;simpa using this
 ·rw[qrC,hfn,hvars];rfl
end Go.Proofs.YtbifpocccfkhhaaGreatDoor
end
