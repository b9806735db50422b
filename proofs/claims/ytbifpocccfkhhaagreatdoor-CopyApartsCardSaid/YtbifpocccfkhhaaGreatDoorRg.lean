/- A part. -/
import Derived.Test.YtbifpocccfkhhaaGreatDoorRf
import Derived.Test.YtbifpocccfkhhaaGreatDoorCards
import Derived.Test.YtbifpocccfkhhaaGreatDoorTie
import Derived.WalkKit
import Derived.ProofKit
import Derived.OpenShut
import Derived.SliceStrings
import Derived.Deep.DeepHandedRow
import Derived.Deep.DeepWitnessRowRef
import Derived.Lib.LaidTab
import Derived.Lib.Space
import Derived.ReadAgain
set_option linter.all false
noncomputable section
namespace Go.Proofs.YtbifpocccfkhhaaGreatDoor
open Go Go.Proofs.Tryz
set_option maxRecDepth 20000
def pr7:Pr:=⟨56,[Y0],z0⟩
theorem qng:pr7.ok prog:=Pr.run (zM qe2) 200 (by decide+kernel)
def qoZ:List Pr:=pr7::qpn
theorem qfb:∀p,p∈qoZ→p.ok prog:=qH qng qe2
def pr8:Pr:=⟨29,[Y0],(.tup [(.sl false [(.str ⟨⟨[121]⟩⟩),(.str ⟨⟨[122]⟩⟩)]),z0])⟩
theorem qnO:pr8.ok prog:=Pr.run (zM qfb) 200 (by decide+kernel)
def qpb:List Pr:=pr8::qoZ
theorem qfz:∀p,p∈qpb→p.ok prog:=qH qnO qfb
def pr9:Pr:=⟨31,[Y0],(.tup [(.sl false [(.str ⟨⟨[108]⟩⟩),(.str ⟨⟨[120]⟩⟩)]),z0])⟩
theorem qni:pr9.ok prog:=Pr.run (zM qfz) 200 (by decide+kernel)
def qo6:List Pr:=pr9::qpb
theorem qhr:∀p,p∈qo6→p.ok prog:=qH qni qfz
def qpj:Pr:=⟨90,[Y10],z0⟩
theorem qkq:qpj.ok prog:=Pr.run (zM qhr) 200 (by decide+kernel)
def qn5:List Pr:=qpj::qo6
theorem qcz:∀p,p∈qn5→p.ok prog:=qH qkq qhr
def qo3:Pr:=⟨57,[(.str ⟨⟨[113]⟩⟩)],(.bool true)⟩
theorem qk0:qo3.ok prog:=Pr.run (zM qcz) 200 (by decide+kernel)
def qmY:List Pr:=qo3::qn5
theorem qcU:∀p,p∈qmY→p.ok prog:=qH qk0 qcz
def qo2:Pr:=⟨57,[(.str ⟨⟨[105]⟩⟩)],(.bool true)⟩
theorem qjH:qo2.ok prog:=Pr.run (zM qcU) 200 (by decide+kernel)
def qmR:List Pr:=qo2::qmY
theorem qcL:∀p,p∈qmR→p.ok prog:=qH qjH qcU
set_option maxRecDepth 20000
def qo5:Pr:=⟨90,[Y9],z0⟩
theorem qkl:qo5.ok prog:=Pr.run (zM qcL) 200 (by decide+kernel)
def qm2:List Pr:=qo5::qmR
theorem qcG:∀p,p∈qm2→p.ok prog:=qH qkl qcL
def qpg:Pr:=⟨57,[(.str ⟨⟨[120,49]⟩⟩)],(.bool true)⟩
theorem qlB:qpg.ok prog:=Pr.run (zM qcG) 200 (by decide+kernel)
def qnJ:List Pr:=qpg::qm2
theorem qcy:∀p,p∈qnJ→p.ok prog:=qH qlB qcG
def qpu:Pr:=⟨32,[Y0,(.sl true [(.str ⟨⟨[121]⟩⟩),(.str ⟨⟨[122]⟩⟩)]),(.sl true [Y10,Y9])],(.tup [Y6,z0])⟩
theorem qjE:qpu.ok prog:=Pr.run (zM qcy) 200 (by decide+kernel)
def qmJ:List Pr:=qpu::qnJ
theorem qdc:∀p,p∈qmJ→p.ok prog:=qH qjE qcy
def qoN:Pr:=⟨19,[Y0,(.str ⟨⟨[121]⟩⟩),(.str ⟨⟨[120]⟩⟩)],(.tup [Y14,(.int .i64 10)])⟩
theorem qj7:qoN.ok prog:=Pr.run (zM qdc) 200 (by decide+kernel)
def qmz:List Pr:=qoN::qmJ
theorem qcS:∀p,p∈qmz→p.ok prog:=qH qj7 qdc
def qpC:Pr:=⟨19,[Y0,(.str ⟨⟨[121]⟩⟩),(.str ⟨⟨[122]⟩⟩)],(.tup [Y14,(.int .i64 6)])⟩
theorem qlm:qpC.ok prog:=Pr.run (zM qcS) 200 (by decide+kernel)
def qnQ:List Pr:=qpC::qmz
theorem qcp:∀p,p∈qnQ→p.ok prog:=qH qlm qcS
def qoP:Pr:=⟨53,[(.str ⟨⟨[116]⟩⟩),(.str ⟨⟨[109]⟩⟩),Y12,Y13],Y1⟩
theorem qjF:qoP.ok prog:=Pr.run (zM qcp) 200 (by decide+kernel)
def qnz:List Pr:=qoP::qnQ
theorem qcC:∀p,p∈qnz→p.ok prog:=qH qjF qcp
set_option maxRecDepth 20000
def qoX:Pr:=⟨57,[(.str ⟨⟨[116]⟩⟩)],(.bool true)⟩
theorem qmc:qoX.ok prog:=Pr.run (zM qcC) 200 (by decide+kernel)
def qnp:List Pr:=qoX::qnz
theorem qcX:∀p,p∈qnp→p.ok prog:=qH qmc qcC
def qpA:Pr:=⟨57,[(.str ⟨⟨[109]⟩⟩)],(.bool true)⟩
theorem qkE:qpA.ok prog:=Pr.run (zM qcX) 200 (by decide+kernel)
def qmS:List Pr:=qpA::qnp
theorem qda:∀p,p∈qmS→p.ok prog:=qH qkE qcX
def qpi:Pr:=⟨56,[Y1],z0⟩
theorem qkj:qpi.ok prog:=Pr.run (zM qda) 200 (by decide+kernel)
def qmD:List Pr:=qpi::qmS
theorem qcq:∀p,p∈qmD→p.ok prog:=qH qkj qda
def qoR:Pr:=⟨24,[Y0,Y1],(.tup [(.bool true),z0])⟩
theorem qmd:qoR.ok prog:=Pr.run (zM qcq) 200 (by decide+kernel)
def qna:List Pr:=qoR::qmD
theorem qde:∀p,p∈qna→p.ok prog:=qH qmd qcq
def qoO:Pr:=⟨57,[(.str ⟨⟨[112]⟩⟩)],(.bool true)⟩
theorem qjv:qoO.ok prog:=Pr.run (zM qde) 200 (by decide+kernel)
def qn1:List Pr:=qoO::qna
theorem qc2:∀p,p∈qn1→p.ok prog:=qH qjv qde
def qoT:Pr:=⟨57,[(.str ⟨⟨[97]⟩⟩)],(.bool true)⟩
theorem qkb:qoT.ok prog:=Pr.run (zM qc2) 200 (by decide+kernel)
def qn3:List Pr:=qoT::qn1
theorem qcD:∀p,p∈qn3→p.ok prog:=qH qkb qc2
set_option maxRecDepth 20000
def qpt:Pr:=⟨57,[(.str ⟨⟨[98]⟩⟩)],(.bool true)⟩
theorem qlW:qpt.ok prog:=Pr.run (zM qcD) 200 (by decide+kernel)
def qm1:List Pr:=qpt::qn3
theorem qc9:∀p,p∈qm1→p.ok prog:=qH qlW qcD
def qpD:Pr:=⟨130,[Y2],z0⟩
theorem qka:qpD.ok prog:=Pr.run (zM qc9) 200 (by decide+kernel)
def qnT:List Pr:=qpD::qm1
theorem qcw:∀p,p∈qnT→p.ok prog:=qH qka qc9
def qoS:Pr:=⟨90,[Y3],z0⟩
theorem qmi:qoS.ok prog:=Pr.run (zM qcw) 200 (by decide+kernel)
def qnL:List Pr:=qoS::qnT
theorem qcZ:∀p,p∈qnL→p.ok prog:=qH qmi qcw
def qo8:Pr:=⟨57,[(.str ⟨⟨[107]⟩⟩)],(.bool true)⟩
theorem qkv:qo8.ok prog:=Pr.run (zM qcZ) 200 (by decide+kernel)
def qnE:List Pr:=qo8::qnL
theorem qcV:∀p,p∈qnE→p.ok prog:=qH qkv qcZ
def qpc:Pr:=⟨90,[Y8],z0⟩
theorem qkN:qpc.ok prog:=Pr.run (zM qcV) 200 (by decide+kernel)
def qnK:List Pr:=qpc::qnE
theorem qdm:∀p,p∈qnK→p.ok prog:=qH qkN qcV
def qpo:Pr:=⟨27,[Y2,(.sl true [Y3,Y8])],(.tup [Y5,z0])⟩
theorem qmh:qpo.ok prog:=Pr.run (zM qdm) 200 (by decide+kernel)
def qmB:List Pr:=qpo::qnK
theorem qc1:∀p,p∈qmB→p.ok prog:=qH qmh qdm
set_option maxRecDepth 20000
def qpy:Pr:=⟨27,[Y2,(.sl true [Y8,Y8])],(.tup [Y14,(.int .i64 10)])⟩
theorem qkd:qpy.ok prog:=Pr.run (zM qc1) 200 (by decide+kernel)
def qmN:List Pr:=qpy::qmB
theorem qcB:∀p,p∈qmN→p.ok prog:=qH qkd qc1
def qpf:Pr:=⟨23,[Y5,(.agg [sN,(.int .i64 7),(.str ⟨⟨[]⟩⟩),sN,sN,sN,(.sl true [Y20]),(.sl true [(.agg [sN,(.int .i64 2),(.str ⟨⟨[]⟩⟩),(.sl true [Y11]),(.sl true [Y8]),sN,sN,sN]),(.agg [sN,(.int .i64 7),(.str ⟨⟨[]⟩⟩),sN,sN,sN,Y18,(.sl true [(.agg [sN,(.int .i64 2),(.str ⟨⟨[]⟩⟩),(.sl true [Y4]),(.sl true [Y11]),sN,sN,sN]),(.agg [sN,(.int .i64 2),(.str ⟨⟨[]⟩⟩),(.sl true [Y3]),(.sl true [(.agg [(.int .i64 10),(.int .i64 3),z0,z0,z0,(.str ⟨⟨[]⟩⟩),(.sl true [Y3,Y4])])]),sN,sN,sN])])])])])],(.bool true)⟩
theorem qjQ:qpf.ok prog:=Pr.run (zM qcB) 200 (by decide+kernel)
def qnU:List Pr:=qpf::qmN
theorem qdi:∀p,p∈qnU→p.ok prog:=qH qjQ qcB
def qoU:Pr:=⟨53,[(.str ⟨⟨[120,49]⟩⟩),(.str ⟨⟨[108]⟩⟩),Y10,Y9],Y7⟩
theorem qmj:qoU.ok prog:=Pr.run (zM qdi) 200 (by decide+kernel)
def qmT:List Pr:=qoU::qnU
theorem qcm:∀p,p∈qmT→p.ok prog:=qH qmj qdi
def qpe:Pr:=⟨23,[Y6,Y7],(.bool true)⟩
theorem qlK:qpe.ok prog:=Pr.run (zM qcm) 200 (by decide+kernel)
def qnq:List Pr:=qpe::qmT
theorem qci:∀p,p∈qnq→p.ok prog:=qH qlK qcm
def qpq:Pr:=⟨30,[(.sl false [(.str ⟨⟨[121]⟩⟩),(.str ⟨⟨[122]⟩⟩)]),(.sl true [(.str ⟨⟨[121]⟩⟩),(.str ⟨⟨[122]⟩⟩)])],(.bool true)⟩
theorem qkU:qpq.ok prog:=Pr.run (zM qci) 200 (by decide+kernel)
def qnc:List Pr:=qpq::qnq
theorem qcf:∀p,p∈qnc→p.ok prog:=qH qkU qci
def qpm:Pr:=⟨30,[(.sl false [(.str ⟨⟨[108]⟩⟩),(.str ⟨⟨[120]⟩⟩)]),(.sl true [(.str ⟨⟨[108]⟩⟩),(.str ⟨⟨[120]⟩⟩)])],(.bool true)⟩
theorem qll:qpm.ok prog:=Pr.run (zM qcf) 200 (by decide+kernel)
def qox:List Pr:=qpm::qnc
theorem qil:∀p,p∈qox→p.ok prog:=qH qll qcf
set_option maxRecDepth 20000
def qnh:Pr:=⟨18,[],.bool true⟩
theorem qml:qnh.ok prog:=Pr.run (zM qil) 200 (by decide+kernel)
theorem zu.same{s:Bz}{ks taken:List Bz}{t:Bz}(hk:∀x,x∈ks↔x∈taken)(h:zu s ks t):zu s taken t:=by
 unfold zu at *;simpa only[hk] using h
theorem ZM{s:Bz}(h:qb s=true):s.size≤16:=by
 unfold qb at h;simp only[qp1,decide_eq_true_eq] at h;exact h.1.1.1.2
theorem qau(S:St):Fn prog 18 [] S (.bool true):=qml S
end Go.Proofs.YtbifpocccfkhhaaGreatDoor
namespace Go.Proofs.YtbifpocccfkhhaaGreatDoor
open Go Go.ChangeShapes Go.WideShapes Go.ChangeAt Go.RowKit
def E0(W:World):En:=⟨fun b o=>W.cell? ⟨b,o,none⟩,fun _ _=>none⟩
theorem laid_tail{P:Program}{W:World}{x:String×DataW Unit}{l:List (String×DataW Unit)}(h:laidMet P (x::l) W):laidMet P l W:=by
 obtain ⟨ps,hl,hn,hf⟩:=h;obtain ⟨n,d⟩:=x;obtain ⟨g,t,cs,fuel,p,q,h1,h2,h3,h4,h5,rfl⟩:=hl;refine ⟨q,h5,?_,fun b off hm=>hf b off (qrs _ hm)⟩;exact (List.nodup_append.1 hn).2.1
theorem tab_cells{P:Program}{W:World}{name:String}{k:IntKind}{zs:List Int}{g:Nat}(hg:P.globalNamed name=some g)(h:Lib.TabIs P W name k zs):
  ∃t fz,W.heap[g]?=some (.cells (zs.map fun z=>Value.int k z).toArray t fz):=by
 unfold Lib.TabIs World.var? at h;rw[hg] at h;simp only[qqf] at h;split at h
 ·rename_i cs t fz hh;cases h;exact ⟨t,fz,hh⟩
 ·cases h
theorem gSp : Tryz.prog.globalNamed "strings.asciiSpace" = some 0 := by kernel_rfl
theorem gPow : Tryz.prog.globalNamed "internal/strconv.uint64pow10" = some 2 := by kernel_rfl
theorem gSpType:(Tryz.prog.globals[0]?).map (·.type)=some 228:=by kernel_rfl
theorem gPowType:(Tryz.prog.globals[2]?).map (·.type)=some 264:=by kernel_rfl
theorem sp_at:∀o,o<256→Lib.asciiSpaceTab.getD o 0=(if o=9∨o=10∨o=11∨o=12∨o=13∨o=32 then 1 else 0):=by decide+kernel
theorem sp_is:(Rows.laid_strings_asciiSpace:DataW Unit)=Lib.tabData .u8 Lib.asciiSpaceTab:=by kernel_rfl
theorem pow_is:(Rows.laid_internal_strconv_uint64pow10:DataW Unit)=Lib.tabData .u64 Lib.pow10Tab:=by kernel_rfl
theorem SR.start{W:World}(h:laidMetH Tryz.prog Rows.copyFreshRow.laid W):SR (E0 W) [] W:=by
 have h0 : laidMet Tryz.prog [("math/bits.deBruijn32tab", Rows.laid_math_bits_deBruijn32tab), ("math/bits.deBruijn64tab", Rows.laid_math_bits_deBruijn64tab), ("internal/strconv.uint64pow10", Rows.laid_internal_strconv_uint64pow10), ("unicode.White_Space", Rows.laid_unicode_White_Space), ("strings.asciiSpace", Rows.laid_strings_asciiSpace)] W := h
 have h3:=laid_tail (laid_tail h0);have h5:=laid_tail (laid_tail h3);rw[pow_is] at h3;rw[sp_is] at h5
 have t1 : Lib.TabIs Tryz.prog W "strings.asciiSpace" .u8 Lib.asciiSpaceTab := Lib.tabIs_of_head gSp gSpType Tryz.underlying228 (by kernel_rfl) (by kernel_rfl) (by kernel_rfl) h5
 have t2 : Lib.TabIs Tryz.prog W "internal/strconv.uint64pow10" .u64 Lib.pow10Tab := Lib.tabIs_of_head gPow gPowType Tryz.underlying264 (by kernel_rfl) (by kernel_rfl) (by kernel_rfl) h3
 refine ⟨⟨fun g o k n hg=>?_,fun g cs hg=>?_⟩,fun b o c h=>h,fun l o h=>by simp at h,fun l st x h=>by simp[E0] at h,fun b o ⟨l,st,x,_,h,_⟩=>by simp[E0] at h,fun b ⟨l,st,x,_,h,_⟩=>by simp[E0] at h,fun l l' st st' x x' _ _ h=>by simp[E0] at h⟩
 ·unfold qd4 at hg;split at hg
  ·rename_i hc;obtain ⟨rfl,ho⟩:=hc;cases hg;have:=t1.cell gSp o (by rw[Lib.asciiSpaceTab_length];exact ho);rw[sp_at o ho] at this;exact this
  ·split at hg
   ·rename_i hc;obtain ⟨rfl,ho⟩:=hc;cases hg;have:=t2.cell gPow o (by rw[Lib.pow10Tab_length];exact ho);rw[Lib.pow10Tab_at o ho] at this;exact_mod_cast this
   ·cases hg
 ·unfold qdw at hg;split at hg
  ·rename_i hc;subst hc;cases hg;obtain ⟨t2,f2,g2⟩:=tab_cells gPow t2;refine ⟨t2,f2,?_⟩;rw[g2];simp[Lib.pow10Tab,qrJ,Function.comp]
  ·cases hg
theorem own_none{W:World}{b:Nat}:¬ own (E0 W) [] b:=fun ⟨l,st,x,_,h,_⟩=>by simp[E0] at h
theorem kept_of{n:Nat}{W W':World}{E':En}{S':St}(h:Ext n (E0 W) [] W E' S' W')(may:MemPlace→Prop):W.keptBut W' may:=by
 have ho:=h.out;simp only[Prod.mk.injEq] at ho;refine ⟨ho.2,ho.1,fun i hi=>?_⟩;have:=h.frame i hi own_none;rw[this]
 cases hh:W.heap[i]? with
 | none=>trivial
 | some o=>cases o <;> simp
theorem same_of{n:Nat}{W W':World}{E':En}{S':St}(h:Ext n (E0 W) [] W E' S' W'){p:MemPlace}(hp:p.block<W.heap.size):W.sameAt W' p:=by
 have hb:=h.frame p.block hp own_none
 cases p with
 | cell b o=>exact cell?_heap hb
 | map b=>exact hb
theorem carryAll{H:Type}{enc:TypeId×Value→H}{P:Program}{w w':World}{sp:Nat→Bool}:∀{ts:List TypeId} {vs:List Value} {ds:List (DataW H)} {ps:List MemPlace},DataW.TrodAll enc P w 0 sp true ts vs ds ps→(∀p∈ps,w.sameAt w' p)→DataW.TrodAll enc P w' 0 sp true ts vs ds ps
 | [],[],[],_,h,_=>h
 | _::_,_::_,_::_,_,⟨p,q,⟨n,h1⟩,h2,e⟩,hs=>⟨p,q,⟨n,DataW.trod_carry n _ _ _ h1 fun x hx=>hs x (by rw[e];exact qrk _ hx)⟩,carryAll h2 (fun x hx=>hs x (by rw[e];exact qrs _ hx)),e⟩
theorem kids:Kids Tryz.prog (·<Tryz.prog.types.size):=kids_rows (by kernel_rfl) (by kernel_rfl)
theorem full:∀t e,t<Tryz.prog.types.size→Tryz.prog.underlying t=some (.slice e)→0<Tryz.prog.cellsOf e:=slices_full_of Tryz.prog (by kernel_rfl)
theorem law_of{H:Type}{enc:TypeId×Value→H}{k:Nat}{f:Func}{s:ChangeSpec}{W:World}{args:Array Value}{ds gs:List (DataW H)}{before:List MemPlace}{vs:List V}
  (hspec:Fn Tryz.prog k vs [] (.bool true)) (hs:SR (E0 W) [] W) (hv:VRs (E0 W) vs args) (hty:f.params.toList.all (fun t=>decide (t<Tryz.prog.types.size))=true) (hres:f.resultTypes=#[4])
  (hvars:s.vars=[]) (hW:DataW.Whole enc Tryz.prog f.params.toList s.vars false W args.toList ds gs before)
  (hfn:s.fn H (ds++gs)={ results:=[.lit (.bool true)],args:=ds++gs }):
  Calls Tryz.prog k args W fun e W'=>∃v,e=.returned v∧s.post enc Tryz.prog f false true false false W args v W':=by
 have hc:=callsIn_wide.1 (hspec.2 (E0 W) W args 0 hs hv);refine hc.mono ?_;rintro e W' ⟨u,r,E',S',rfl,⟨rfl,rfl⟩,hr,hs',hx,_⟩;cases hr;have hW':=hW;obtain ⟨p,q,hA,hV,hb,hz,hn⟩:=hW;rw[hvars] at hV;obtain ⟨rfl,rfl⟩:=trodVars_none hV;rw[qqV] at hb;subst hb;rw[qqV] at hfn;refine ⟨_,rfl,ds,[],before,[],before,[],hW',?_,?_,?_,kept_of hx _,fun h=>by cases h⟩
 ·rw[qqV,hfn,hres];exact trodAll_cons_mk (shut_bool Tryz.underlying4 _) trodAll_mk0
 ·rw[qqV,hfn];have hlt:∀p∈before,p.block<W.heap.size:=fun p hp=>hW'.lt p hp
  refine carryAll (DataW.TrodAll.respare kids full (fun t ht=>?_) hA fun p hp=>by simpa using hlt p hp) fun p hp=>same_of hx (hlt p hp)
  have:=qqi.1 hty t ht;simpa using this
 ·rw[qqV,hfn,hvars];rfl
end Go.Proofs.YtbifpocccfkhhaaGreatDoor
end
