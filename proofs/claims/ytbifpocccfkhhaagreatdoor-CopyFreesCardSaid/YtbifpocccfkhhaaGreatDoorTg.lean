/- A part. -/
import Derived.Test.YtbifpocccfkhhaaGreatDoorTf
import Derived.Test.YtbifpocccfkhhaaGreatDoorCards
import Derived.Test.YtbifpocccfkhhaaGreatDoorTie
import Derived.WalkKit
import Derived.ProofKit
import Derived.OpenShut
import Derived.SliceStrings
import Derived.Deep.DeepHandedRow
import Derived.Deep.DeepWitnessRowRef
import Derived.Lib.LaidTab
import Derived.Lib.Space
import Derived.ReadAgain
set_option linter.all false
noncomputable section
namespace Go.Proofs.YtbifpocccfkhhaaGreatDoor
open Go Go.Proofs.Tryz
set_option maxRecDepth 20000
def pr7:Pr:=⟨56,[Y0],z0⟩
theorem qmw:pr7.ok prog:=Pr.run (zB qew) 200 (by decide+kernel)
def qoi:List Pr:=pr7::qoJ
theorem qeF:∀p,p∈qoi→p.ok prog:=qy qmw qew
def pr8:Pr:=⟨29,[Y0],(.tup [(.sl false [(.str ⟨⟨[121]⟩⟩),(.str ⟨⟨[122]⟩⟩)]),z0])⟩
theorem qna:pr8.ok prog:=Pr.run (zB qeF) 200 (by decide+kernel)
def qov:List Pr:=pr8::qoi
theorem qeY:∀p,p∈qov→p.ok prog:=qy qna qeF
def pr9:Pr:=⟨31,[Y0],(.tup [(.sl false [(.str ⟨⟨[108]⟩⟩),(.str ⟨⟨[120]⟩⟩)]),z0])⟩
theorem qmz:pr9.ok prog:=Pr.run (zB qeY) 200 (by decide+kernel)
def qop:List Pr:=pr9::qov
theorem qgB:∀p,p∈qop→p.ok prog:=qy qmz qeY
def qoD:Pr:=⟨90,[Y10],z0⟩
theorem qjJ:qoD.ok prog:=Pr.run (zB qgB) 200 (by decide+kernel)
def qnv:List Pr:=qoD::qop
theorem qci:∀p,p∈qnv→p.ok prog:=qy qjJ qgB
def qom:Pr:=⟨57,[(.str ⟨⟨[113]⟩⟩)],(.bool true)⟩
theorem qkj:qom.ok prog:=Pr.run (zB qci) 200 (by decide+kernel)
def qma:List Pr:=qom::qnv
theorem qcF:∀p,p∈qma→p.ok prog:=qy qkj qci
def qol:Pr:=⟨57,[(.str ⟨⟨[105]⟩⟩)],(.bool true)⟩
theorem qiY:qol.ok prog:=Pr.run (zB qcF) 200 (by decide+kernel)
def ql5:List Pr:=qol::qma
theorem qcw:∀p,p∈ql5→p.ok prog:=qy qiY qcF
set_option maxRecDepth 20000
def qoo:Pr:=⟨90,[Y9],z0⟩
theorem qjC:qoo.ok prog:=Pr.run (zB qcw) 200 (by decide+kernel)
def qme:List Pr:=qoo::ql5
theorem qcr:∀p,p∈qme→p.ok prog:=qy qjC qcw
def qoA:Pr:=⟨57,[(.str ⟨⟨[120,49]⟩⟩)],(.bool true)⟩
theorem qkW:qoA.ok prog:=Pr.run (zB qcr) 200 (by decide+kernel)
def qm1:List Pr:=qoA::qme
theorem qcg:∀p,p∈qm1→p.ok prog:=qy qkW qcr
def qoQ:Pr:=⟨32,[Y0,(.sl true [(.str ⟨⟨[121]⟩⟩),(.str ⟨⟨[122]⟩⟩)]),(.sl true [Y10,Y9])],(.tup [Y6,z0])⟩
theorem qiW:qoQ.ok prog:=Pr.run (zB qcg) 200 (by decide+kernel)
def qlX:List Pr:=qoQ::qm1
theorem qcZ:∀p,p∈qlX→p.ok prog:=qy qiW qcg
def qn9:Pr:=⟨19,[Y0,(.str ⟨⟨[121]⟩⟩),(.str ⟨⟨[120]⟩⟩)],(.tup [Y14,(.int .i64 10)])⟩
theorem qjj:qn9.ok prog:=Pr.run (zB qcZ) 200 (by decide+kernel)
def qlP:List Pr:=qn9::qlX
theorem qcC:∀p,p∈qlP→p.ok prog:=qy qjj qcZ
def qo0:Pr:=⟨19,[Y0,(.str ⟨⟨[121]⟩⟩),(.str ⟨⟨[122]⟩⟩)],(.tup [Y14,(.int .i64 6)])⟩
theorem qkF:qo0.ok prog:=Pr.run (zB qcC) 200 (by decide+kernel)
def qnc:List Pr:=qo0::qlP
theorem qb7:∀p,p∈qnc→p.ok prog:=qy qkF qcC
def qob:Pr:=⟨53,[(.str ⟨⟨[116]⟩⟩),(.str ⟨⟨[109]⟩⟩),Y12,Y13],Y1⟩
theorem qiX:qob.ok prog:=Pr.run (zB qb7) 200 (by decide+kernel)
def qmU:List Pr:=qob::qnc
theorem qcl:∀p,p∈qmU→p.ok prog:=qy qiX qb7
set_option maxRecDepth 20000
def qoh:Pr:=⟨57,[(.str ⟨⟨[116]⟩⟩)],(.bool true)⟩
theorem qlv:qoh.ok prog:=Pr.run (zB qcl) 200 (by decide+kernel)
def qmJ:List Pr:=qoh::qmU
theorem qcJ:∀p,p∈qmJ→p.ok prog:=qy qlv qcl
def qoY:Pr:=⟨57,[(.str ⟨⟨[109]⟩⟩)],(.bool true)⟩
theorem qjW:qoY.ok prog:=Pr.run (zB qcJ) 200 (by decide+kernel)
def ql6:List Pr:=qoY::qmJ
theorem qcU:∀p,p∈ql6→p.ok prog:=qy qjW qcJ
def qoC:Pr:=⟨56,[Y1],z0⟩
theorem qjy:qoC.ok prog:=Pr.run (zB qcU) 200 (by decide+kernel)
def qlS:List Pr:=qoC::ql6
theorem qb8:∀p,p∈qlS→p.ok prog:=qy qjy qcU
def qoc:Pr:=⟨24,[Y0,Y1],(.tup [(.bool true),z0])⟩
theorem qlw:qoc.ok prog:=Pr.run (zB qb8) 200 (by decide+kernel)
def qmk:List Pr:=qoc::qlS
theorem qc0:∀p,p∈qmk→p.ok prog:=qy qlw qb8
def qoa:Pr:=⟨57,[(.str ⟨⟨[112]⟩⟩)],(.bool true)⟩
theorem qiO:qoa.ok prog:=Pr.run (zB qc0) 200 (by decide+kernel)
def qns:List Pr:=qoa::qmk
theorem qcO:∀p,p∈qns→p.ok prog:=qy qiO qc0
def qoe:Pr:=⟨57,[(.str ⟨⟨[97]⟩⟩)],(.bool true)⟩
theorem qjo:qoe.ok prog:=Pr.run (zB qcO) 200 (by decide+kernel)
def qnt:List Pr:=qoe::qns
theorem qcm:∀p,p∈qnt→p.ok prog:=qy qjo qcO
set_option maxRecDepth 20000
def qoP:Pr:=⟨57,[(.str ⟨⟨[98]⟩⟩)],(.bool true)⟩
theorem qlf:qoP.ok prog:=Pr.run (zB qcm) 200 (by decide+kernel)
def qmd:List Pr:=qoP::qnt
theorem qcT:∀p,p∈qmd→p.ok prog:=qy qlf qcm
def qo2:Pr:=⟨130,[Y2],z0⟩
theorem qjn:qo2.ok prog:=Pr.run (zB qcT) 200 (by decide+kernel)
def qni:List Pr:=qo2::qmd
theorem qce:∀p,p∈qni→p.ok prog:=qy qjn qcT
def qod:Pr:=⟨90,[Y3],z0⟩
theorem qlA:qod.ok prog:=Pr.run (zB qce) 200 (by decide+kernel)
def qm6:List Pr:=qod::qni
theorem qcL:∀p,p∈qm6→p.ok prog:=qy qlA qce
def qos:Pr:=⟨57,[(.str ⟨⟨[107]⟩⟩)],(.bool true)⟩
theorem qjN:qos.ok prog:=Pr.run (zB qcL) 200 (by decide+kernel)
def qmX:List Pr:=qos::qm6
theorem qcH:∀p,p∈qmX→p.ok prog:=qy qjN qcL
def qow:Pr:=⟨90,[Y8],z0⟩
theorem qj4:qow.ok prog:=Pr.run (zB qcH) 200 (by decide+kernel)
def qm5:List Pr:=qow::qmX
theorem qc9:∀p,p∈qm5→p.ok prog:=qy qj4 qcH
def qoK:Pr:=⟨27,[Y2,(.sl true [Y3,Y8])],(.tup [Y5,z0])⟩
theorem qly:qoK.ok prog:=Pr.run (zB qc9) 200 (by decide+kernel)
def qlQ:List Pr:=qoK::qm5
theorem qcN:∀p,p∈qlQ→p.ok prog:=qy qly qc9
set_option maxRecDepth 20000
def qoU:Pr:=⟨27,[Y2,(.sl true [Y8,Y8])],(.tup [Y14,(.int .i64 10)])⟩
theorem qjs:qoU.ok prog:=Pr.run (zB qcN) 200 (by decide+kernel)
def ql1:List Pr:=qoU::qlQ
theorem qck:∀p,p∈ql1→p.ok prog:=qy qjs qcN
def qoz:Pr:=⟨23,[Y5,(.agg [sN,(.int .i64 7),(.str ⟨⟨[]⟩⟩),sN,sN,sN,(.sl true [Y20]),(.sl true [(.agg [sN,(.int .i64 2),(.str ⟨⟨[]⟩⟩),(.sl true [Y11]),(.sl true [Y8]),sN,sN,sN]),(.agg [sN,(.int .i64 7),(.str ⟨⟨[]⟩⟩),sN,sN,sN,Y18,(.sl true [(.agg [sN,(.int .i64 2),(.str ⟨⟨[]⟩⟩),(.sl true [Y4]),(.sl true [Y11]),sN,sN,sN]),(.agg [sN,(.int .i64 2),(.str ⟨⟨[]⟩⟩),(.sl true [Y3]),(.sl true [(.agg [(.int .i64 10),(.int .i64 3),z0,z0,z0,(.str ⟨⟨[]⟩⟩),(.sl true [Y3,Y4])])]),sN,sN,sN])])])])])],(.bool true)⟩
theorem qi5:qoz.ok prog:=Pr.run (zB qck) 200 (by decide+kernel)
def qnk:List Pr:=qoz::ql1
theorem qc4:∀p,p∈qnk→p.ok prog:=qy qi5 qck
def qof:Pr:=⟨53,[(.str ⟨⟨[120,49]⟩⟩),(.str ⟨⟨[108]⟩⟩),Y10,Y9],Y7⟩
theorem qlB:qof.ok prog:=Pr.run (zB qc4) 200 (by decide+kernel)
def ql7:List Pr:=qof::qnk
theorem qb2:∀p,p∈ql7→p.ok prog:=qy qlB qc4
def qoy:Pr:=⟨23,[Y6,Y7],(.bool true)⟩
theorem qk2:qoy.ok prog:=Pr.run (zB qb2) 200 (by decide+kernel)
def qmM:List Pr:=qoy::ql7
theorem qbX:∀p,p∈qmM→p.ok prog:=qy qk2 qb2
def qoM:Pr:=⟨30,[(.sl false [(.str ⟨⟨[121]⟩⟩),(.str ⟨⟨[122]⟩⟩)]),(.sl true [(.str ⟨⟨[121]⟩⟩),(.str ⟨⟨[122]⟩⟩)])],(.bool true)⟩
theorem qke:qoM.ok prog:=Pr.run (zB qbX) 200 (by decide+kernel)
def qmq:List Pr:=qoM::qmM
theorem qbU:∀p,p∈qmq→p.ok prog:=qy qke qbX
def qoI:Pr:=⟨30,[(.sl false [(.str ⟨⟨[108]⟩⟩),(.str ⟨⟨[120]⟩⟩)]),(.sl true [(.str ⟨⟨[108]⟩⟩),(.str ⟨⟨[120]⟩⟩)])],(.bool true)⟩
theorem qkE:qoI.ok prog:=Pr.run (zB qbU) 200 (by decide+kernel)
def qnX:List Pr:=qoI::qmq
theorem qhB:∀p,p∈qnX→p.ok prog:=qy qkE qbU
set_option maxRecDepth 20000
def qmy:Pr:=⟨18,[],.bool true⟩
theorem qlD:qmy.ok prog:=Pr.run (zB qhB) 200 (by decide+kernel)
theorem zd.same{s:Bz}{ks taken:List Bz}{t:Bz}(hk:∀x,x∈ks↔x∈taken)(h:zd s ks t):zd s taken t:=by
 unfold zd at *;simpa only[hk] using h
theorem ZG{s:Bz}(h:qb s=true):s.size≤16:=by
 unfold qb at h;simp only[qpy,decide_eq_true_eq] at h;exact h.1.1.1.2
theorem qah(S:St):Fn prog 18 [] S (.bool true):=qlD S
end Go.Proofs.YtbifpocccfkhhaaGreatDoor
namespace Go.Proofs.YtbifpocccfkhhaaGreatDoor
open Go Go.ChangeShapes Go.WideShapes Go.ChangeAt Go.RowKit
def E0(W:World):En:=⟨fun b o=>W.cell? ⟨b,o,none⟩,fun _ _=>none⟩
theorem laid_tail{P:Program}{W:World}{x:String×DataW Unit}{l:List (String×DataW Unit)}(h:laidMet P (x::l) W):laidMet P l W:=by
 obtain ⟨ps,hl,hn,hf⟩:=h;obtain ⟨n,d⟩:=x;obtain ⟨g,t,cs,fuel,p,q,h1,h2,h3,h4,h5,rfl⟩:=hl;refine ⟨q,h5,?_,fun b off hm=>hf b off (qpA _ hm)⟩;exact (List.nodup_append.1 hn).2.1
theorem tab_cells{P:Program}{W:World}{name:String}{k:IntKind}{zs:List Int}{g:Nat}(hg:P.globalNamed name=some g)(h:Lib.TabIs P W name k zs):
  ∃t fz,W.heap[g]?=some (.cells (zs.map fun z=>Value.int k z).toArray t fz):=by
 unfold Lib.TabIs World.var? at h;rw[hg] at h;simp only[qpC] at h;split at h
 ·rename_i cs t fz hh;cases h;exact ⟨t,fz,hh⟩
 ·cases h
theorem gSp : Tryz.prog.globalNamed "strings.asciiSpace" = some 0 := by kernel_rfl
theorem gPow : Tryz.prog.globalNamed "internal/strconv.uint64pow10" = some 2 := by kernel_rfl
theorem gSpType:(Tryz.prog.globals[0]?).map (·.type)=some 228:=by kernel_rfl
theorem gPowType:(Tryz.prog.globals[2]?).map (·.type)=some 264:=by kernel_rfl
theorem sp_at:∀o,o<256→Lib.asciiSpaceTab.getD o 0=(if o=9∨o=10∨o=11∨o=12∨o=13∨o=32 then 1 else 0):=by decide+kernel
theorem sp_is:(Rows.laid_strings_asciiSpace:DataW Unit)=Lib.tabData .u8 Lib.asciiSpaceTab:=by kernel_rfl
theorem pow_is:(Rows.laid_internal_strconv_uint64pow10:DataW Unit)=Lib.tabData .u64 Lib.pow10Tab:=by kernel_rfl
theorem SR.start{W:World}(h:laidMetH Tryz.prog Rows.copyFreshRow.laid W):SR (E0 W) [] W:=by
 have h0 : laidMet Tryz.prog [("math/bits.deBruijn32tab", Rows.laid_math_bits_deBruijn32tab), ("math/bits.deBruijn64tab", Rows.laid_math_bits_deBruijn64tab), ("internal/strconv.uint64pow10", Rows.laid_internal_strconv_uint64pow10), ("unicode.White_Space", Rows.laid_unicode_White_Space), ("strings.asciiSpace", Rows.laid_strings_asciiSpace)] W := h
 have h3:=laid_tail (laid_tail h0);have h5:=laid_tail (laid_tail h3);rw[pow_is] at h3;rw[sp_is] at h5
 have t1 : Lib.TabIs Tryz.prog W "strings.asciiSpace" .u8 Lib.asciiSpaceTab := Lib.tabIs_of_head gSp gSpType Tryz.underlying228 (by kernel_rfl) (by kernel_rfl) (by kernel_rfl) h5
 have t2 : Lib.TabIs Tryz.prog W "internal/strconv.uint64pow10" .u64 Lib.pow10Tab := Lib.tabIs_of_head gPow gPowType Tryz.underlying264 (by kernel_rfl) (by kernel_rfl) (by kernel_rfl) h3
 refine ⟨⟨fun g o k n hg=>?_,fun g cs hg=>?_⟩,fun b o c h=>h,fun l o h=>by simp at h,fun l st x h=>by simp[E0] at h,fun b o ⟨l,st,x,_,h,_⟩=>by simp[E0] at h,fun b ⟨l,st,x,_,h,_⟩=>by simp[E0] at h,fun l l' st st' x x' _ _ h=>by simp[E0] at h⟩
 ·unfold qdI at hg;split at hg
  ·rename_i hc;obtain ⟨rfl,ho⟩:=hc;cases hg;have:=t1.cell gSp o (by rw[Lib.asciiSpaceTab_length];exact ho);rw[sp_at o ho] at this;exact this
  ·split at hg
   ·rename_i hc;obtain ⟨rfl,ho⟩:=hc;cases hg;have:=t2.cell gPow o (by rw[Lib.pow10Tab_length];exact ho);rw[Lib.pow10Tab_at o ho] at this;exact_mod_cast this
   ·cases hg
 ·unfold qdh at hg;split at hg
  ·rename_i hc;subst hc;cases hg;obtain ⟨t2,f2,g2⟩:=tab_cells gPow t2;refine ⟨t2,f2,?_⟩;rw[g2];simp[Lib.pow10Tab,qqI,Function.comp]
  ·cases hg
theorem own_none{W:World}{b:Nat}:¬ own (E0 W) [] b:=fun ⟨l,st,x,_,h,_⟩=>by simp[E0] at h
theorem kept_of{n:Nat}{W W':World}{E':En}{S':St}(h:Ext n (E0 W) [] W E' S' W')(may:MemPlace→Prop):W.keptBut W' may:=by
 have ho:=h.out;simp only[Prod.mk.injEq] at ho;refine ⟨ho.2,ho.1,fun i hi=>?_⟩;have:=h.frame i hi own_none;rw[this]
 cases hh:W.heap[i]? with
 | none=>trivial
 | some o=>cases o <;> simp
theorem same_of{n:Nat}{W W':World}{E':En}{S':St}(h:Ext n (E0 W) [] W E' S' W'){p:MemPlace}(hp:p.block<W.heap.size):W.sameAt W' p:=by
 have hb:=h.frame p.block hp own_none
 cases p with
 | cell b o=>exact cell?_heap hb
 | map b=>exact hb
theorem carryAll{H:Type}{enc:TypeId×Value→H}{P:Program}{w w':World}{sp:Nat→Bool}:∀{ts:List TypeId} {vs:List Value} {ds:List (DataW H)} {ps:List MemPlace},DataW.TrodAll enc P w 0 sp true ts vs ds ps→(∀p∈ps,w.sameAt w' p)→DataW.TrodAll enc P w' 0 sp true ts vs ds ps
 | [],[],[],_,h,_=>h
 | _::_,_::_,_::_,_,⟨p,q,⟨n,h1⟩,h2,e⟩,hs=>⟨p,q,⟨n,DataW.trod_carry n _ _ _ h1 fun x hx=>hs x (by rw[e];exact qpx _ hx)⟩,carryAll h2 (fun x hx=>hs x (by rw[e];exact qpA _ hx)),e⟩
theorem kids:Kids Tryz.prog (·<Tryz.prog.types.size):=kids_rows (by kernel_rfl) (by kernel_rfl)
theorem full:∀t e,t<Tryz.prog.types.size→Tryz.prog.underlying t=some (.slice e)→0<Tryz.prog.cellsOf e:=slices_full_of Tryz.prog (by kernel_rfl)
theorem law_of{H:Type}{enc:TypeId×Value→H}{k:Nat}{f:Func}{s:ChangeSpec}{W:World}{args:Array Value}{ds gs:List (DataW H)}{before:List MemPlace}{vs:List V}
  (hspec:Fn Tryz.prog k vs [] (.bool true)) (hs:SR (E0 W) [] W) (hv:VRs (E0 W) vs args) (hty:f.params.toList.all (fun t=>decide (t<Tryz.prog.types.size))=true) (hres:f.resultTypes=#[4])
  (hvars:s.vars=[]) (hW:DataW.Whole enc Tryz.prog f.params.toList s.vars false W args.toList ds gs before)
  (hfn:s.fn H (ds++gs)={ results:=[.lit (.bool true)],args:=ds++gs }):
  Calls Tryz.prog k args W fun e W'=>∃v,e=.returned v∧s.post enc Tryz.prog f false true false false W args v W':=by
 have hc:=callsIn_wide.1 (hspec.2 (E0 W) W args 0 hs hv);refine hc.mono ?_;rintro e W' ⟨u,r,E',S',rfl,⟨rfl,rfl⟩,hr,hs',hx,_⟩;cases hr;have hW':=hW;obtain ⟨p,q,hA,hV,hb,hz,hn⟩:=hW;rw[hvars] at hV;obtain ⟨rfl,rfl⟩:=trodVars_none hV;rw[qqu] at hb;subst hb;rw[qqu] at hfn;refine ⟨_,rfl,ds,[],before,[],before,[],hW',?_,?_,?_,kept_of hx _,fun h=>by cases h⟩
 ·rw[qqu,hfn,hres];exact trodAll_cons_mk (shut_bool Tryz.underlying4 _) trodAll_mk0
 ·rw[qqu,hfn];have hlt:∀p∈before,p.block<W.heap.size:=fun p hp=>hW'.lt p hp
  refine carryAll (DataW.TrodAll.respare kids full (fun t ht=>?_) hA fun p hp=>by simpa using hlt p hp) fun p hp=>same_of hx (hlt p hp)
  have:=qpG.1 hty t ht;simpa using this
 ·rw[qqu,hfn,hvars];rfl
end Go.Proofs.YtbifpocccfkhhaaGreatDoor
end
