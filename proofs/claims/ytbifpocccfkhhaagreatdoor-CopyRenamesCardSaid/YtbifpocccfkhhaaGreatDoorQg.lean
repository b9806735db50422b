/- A part. -/
import Derived.Test.YtbifpocccfkhhaaGreatDoorQf
import Derived.Test.YtbifpocccfkhhaaGreatDoorCards
import Derived.Test.YtbifpocccfkhhaaGreatDoorTie
import Derived.WalkKit
import Derived.ProofKit
import Derived.OpenShut
import Derived.SliceStrings
import Derived.Deep.DeepHandedRow
import Derived.Deep.DeepWitnessRowRef
import Derived.Lib.LaidTab
import Derived.Lib.Space
import Derived.ReadAgain
set_option linter.all false
noncomputable section
namespace Go.Proofs.YtbifpocccfkhhaaGreatDoor
open Go Go.Proofs.Tryz
set_option maxRecDepth 20000
def pr7:Pr:=⟨56,[Y0],(.int .i64 0)⟩
theorem qs4:pr7.ok prog:=Pr.run (qbq qmA) 200 (by decide+kernel)
def prs7:List Pr:=pr7::prs6
theorem qnc:∀p,p∈prs7→p.ok prog:=qaD qs4 qmA
def pr8:Pr:=⟨29,[Y0],(.tup [(.sl false [(.str ⟨⟨[121]⟩⟩),(.str ⟨⟨[122]⟩⟩)]),(.int .i64 0)])⟩
theorem qsF:pr8.ok prog:=Pr.run (qbq qnc) 200 (by decide+kernel)
def prs8:List Pr:=pr8::prs7
theorem qlK:∀p,p∈prs8→p.ok prog:=qaD qsF qnc
def pr9:Pr:=⟨31,[Y0],(.tup [(.sl false [(.str ⟨⟨[108]⟩⟩),(.str ⟨⟨[120]⟩⟩)]),(.int .i64 0)])⟩
theorem qts:pr9.ok prog:=Pr.run (qbq qlK) 200 (by decide+kernel)
def prs9:List Pr:=pr9::prs8
theorem qnA:∀p,p∈prs9→p.ok prog:=qaD qts qlK
def pr10:Pr:=⟨90,[Y10],(.int .i64 0)⟩
theorem qqG:pr10.ok prog:=Pr.run (qbq qnA) 200 (by decide+kernel)
def qtz:List Pr:=pr10::prs9
theorem qiY:∀p,p∈qtz→p.ok prog:=qaD qqG qnA
def pr11:Pr:=⟨57,[(.str ⟨⟨[113]⟩⟩)],(.bool true)⟩
theorem qql:pr11.ok prog:=Pr.run (qbq qiY) 200 (by decide+kernel)
def qtr:List Pr:=pr11::qtz
theorem qi5:∀p,p∈qtr→p.ok prog:=qaD qql qiY
def pr12:Pr:=⟨57,[(.str ⟨⟨[105]⟩⟩)],(.bool true)⟩
theorem qqu:pr12.ok prog:=Pr.run (qbq qi5) 200 (by decide+kernel)
def qtd:List Pr:=pr12::qtr
theorem qjC:∀p,p∈qtd→p.ok prog:=qaD qqu qi5
set_option maxRecDepth 20000
def pr13:Pr:=⟨90,[Y9],(.int .i64 0)⟩
theorem qqa:pr13.ok prog:=Pr.run (qbq qjC) 200 (by decide+kernel)
def qse:List Pr:=pr13::qtd
theorem qjp:∀p,p∈qse→p.ok prog:=qaD qqa qjC
def pr14:Pr:=⟨57,[(.str ⟨⟨[120,49]⟩⟩)],(.bool true)⟩
theorem qpC:pr14.ok prog:=Pr.run (qbq qjp) 200 (by decide+kernel)
def qtD:List Pr:=pr14::qse
theorem qiS:∀p,p∈qtD→p.ok prog:=qaD qpC qjp
def pr15:Pr:=⟨32,[Y0,(.sl true [(.str ⟨⟨[121]⟩⟩),(.str ⟨⟨[122]⟩⟩)]),(.sl true [Y10,Y9])],(.tup [Y6,(.int .i64 0)])⟩
theorem qqh:pr15.ok prog:=Pr.run (qbq qiS) 200 (by decide+kernel)
def qsJ:List Pr:=pr15::qtD
theorem qiP:∀p,p∈qsJ→p.ok prog:=qaD qqh qiS
def pr16:Pr:=⟨19,[Y0,(.str ⟨⟨[121]⟩⟩),(.str ⟨⟨[120]⟩⟩)],(.tup [Y14,(.int .i64 10)])⟩
theorem qrY:pr16.ok prog:=Pr.run (qbq qiP) 200 (by decide+kernel)
def qsg:List Pr:=pr16::qsJ
theorem qiT:∀p,p∈qsg→p.ok prog:=qaD qrY qiP
def pr17:Pr:=⟨19,[Y0,(.str ⟨⟨[121]⟩⟩),(.str ⟨⟨[122]⟩⟩)],(.tup [Y14,(.int .i64 6)])⟩
theorem qro:pr17.ok prog:=Pr.run (qbq qiT) 200 (by decide+kernel)
def qsH:List Pr:=pr17::qsg
theorem qjv:∀p,p∈qsH→p.ok prog:=qaD qro qiT
def pr18:Pr:=⟨53,[(.str ⟨⟨[116]⟩⟩),(.str ⟨⟨[109]⟩⟩),Y12,Y13],Y1⟩
theorem qqm:pr18.ok prog:=Pr.run (qbq qjv) 200 (by decide+kernel)
def qtq:List Pr:=pr18::qsH
theorem qi4:∀p,p∈qtq→p.ok prog:=qaD qqm qjv
set_option maxRecDepth 20000
def pr19:Pr:=⟨57,[(.str ⟨⟨[116]⟩⟩)],(.bool true)⟩
theorem qq4:pr19.ok prog:=Pr.run (qbq qi4) 200 (by decide+kernel)
def qsE:List Pr:=pr19::qtq
theorem qjd:∀p,p∈qsE→p.ok prog:=qaD qq4 qi4
def pr20:Pr:=⟨57,[(.str ⟨⟨[109]⟩⟩)],(.bool true)⟩
theorem qrK:pr20.ok prog:=Pr.run (qbq qjd) 200 (by decide+kernel)
def qte:List Pr:=pr20::qsE
theorem qjP:∀p,p∈qte→p.ok prog:=qaD qrK qjd
def pr21:Pr:=⟨56,[Y1],(.int .i64 0)⟩
theorem qpY:pr21.ok prog:=Pr.run (qbq qjP) 200 (by decide+kernel)
def qsn:List Pr:=pr21::qte
theorem qjy:∀p,p∈qsn→p.ok prog:=qaD qpY qjP
def pr22:Pr:=⟨24,[Y0,Y1],(.tup [(.bool true),(.int .i64 0)])⟩
theorem qq5:pr22.ok prog:=Pr.run (qbq qjy) 200 (by decide+kernel)
def qsx:List Pr:=pr22::qsn
theorem qi3:∀p,p∈qsx→p.ok prog:=qaD qq5 qjy
def pr23:Pr:=⟨57,[(.str ⟨⟨[112]⟩⟩)],(.bool true)⟩
theorem qpD:pr23.ok prog:=Pr.run (qbq qi3) 200 (by decide+kernel)
def qto:List Pr:=pr23::qsx
theorem qjm:∀p,p∈qto→p.ok prog:=qaD qpD qi3
def pr24:Pr:=⟨57,[(.str ⟨⟨[97]⟩⟩)],(.bool true)⟩
theorem qpq:pr24.ok prog:=Pr.run (qbq qjm) 200 (by decide+kernel)
def qtx:List Pr:=pr24::qto
theorem qi6:∀p,p∈qtx→p.ok prog:=qaD qpq qjm
set_option maxRecDepth 20000
def pr25:Pr:=⟨57,[(.str ⟨⟨[98]⟩⟩)],(.bool true)⟩
theorem qqj:pr25.ok prog:=Pr.run (qbq qi6) 200 (by decide+kernel)
def qsd:List Pr:=pr25::qtx
theorem qjN:∀p,p∈qsd→p.ok prog:=qaD qqj qi6
def pr26:Pr:=⟨130,[Y2],(.int .i64 0)⟩
theorem qpn:pr26.ok prog:=Pr.run (qbq qjN) 200 (by decide+kernel)
def qsY:List Pr:=pr26::qsd
theorem qiN:∀p,p∈qsY→p.ok prog:=qaD qpn qjN
def pr27:Pr:=⟨90,[Y3],(.int .i64 0)⟩
theorem qri:pr27.ok prog:=Pr.run (qbq qiN) 200 (by decide+kernel)
def qsv:List Pr:=pr27::qsY
theorem qjg:∀p,p∈qsv→p.ok prog:=qaD qri qiN
def pr28:Pr:=⟨57,[(.str ⟨⟨[107]⟩⟩)],(.bool true)⟩
theorem qqR:pr28.ok prog:=Pr.run (qbq qjg) 200 (by decide+kernel)
def qtv:List Pr:=pr28::qsv
theorem qi7:∀p,p∈qtv→p.ok prog:=qaD qqR qjg
def pr29:Pr:=⟨90,[Y8],(.int .i64 0)⟩
theorem qpt:pr29.ok prog:=Pr.run (qbq qi7) 200 (by decide+kernel)
def qss:List Pr:=pr29::qtv
theorem qjz:∀p,p∈qss→p.ok prog:=qaD qpt qi7
def pr30:Pr:=⟨27,[Y2,(.sl true [Y3,Y8])],(.tup [Y5,(.int .i64 0)])⟩
theorem qrg:pr30.ok prog:=Pr.run (qbq qjz) 200 (by decide+kernel)
def qsi:List Pr:=pr30::qss
theorem qjl:∀p,p∈qsi→p.ok prog:=qaD qrg qjz
set_option maxRecDepth 20000
def pr31:Pr:=⟨27,[Y2,(.sl true [Y8,Y8])],(.tup [Y14,(.int .i64 10)])⟩
theorem qpE:pr31.ok prog:=Pr.run (qbq qjl) 200 (by decide+kernel)
def qs1:List Pr:=pr31::qsi
theorem qi2:∀p,p∈qs1→p.ok prog:=qaD qpE qjl
def pr32:Pr:=⟨23,[Y5,(.agg [(.sl true []),(.int .i64 7),(.str ⟨⟨[]⟩⟩),(.sl true []),(.sl true []),(.sl true []),(.sl true [Y20]),(.sl true [(.agg [(.sl true []),(.int .i64 2),(.str ⟨⟨[]⟩⟩),(.sl true [Y11]),(.sl true [Y8]),(.sl true []),(.sl true []),(.sl true [])]),(.agg [(.sl true []),(.int .i64 7),(.str ⟨⟨[]⟩⟩),(.sl true []),(.sl true []),(.sl true []),Y18,(.sl true [(.agg [(.sl true []),(.int .i64 2),(.str ⟨⟨[]⟩⟩),(.sl true [Y4]),(.sl true [Y11]),(.sl true []),(.sl true []),(.sl true [])]),(.agg [(.sl true []),(.int .i64 2),(.str ⟨⟨[]⟩⟩),(.sl true [Y3]),(.sl true [(.agg [(.int .i64 10),(.int .i64 3),(.int .i64 0),(.int .i64 0),(.int .i64 0),(.str ⟨⟨[]⟩⟩),(.sl true [Y3,Y4])])]),(.sl true []),(.sl true []),(.sl true [])])])])])])],(.bool true)⟩
theorem qq3:pr32.ok prog:=Pr.run (qbq qi2) 200 (by decide+kernel)
def qs5:List Pr:=pr32::qs1
theorem qjr:∀p,p∈qs5→p.ok prog:=qaD qq3 qi2
def pr33:Pr:=⟨53,[(.str ⟨⟨[120,49]⟩⟩),(.str ⟨⟨[108]⟩⟩),Y10,Y9],Y7⟩
theorem qrj:pr33.ok prog:=Pr.run (qbq qjr) 200 (by decide+kernel)
def qtf:List Pr:=pr33::qs5
theorem qji:∀p,p∈qtf→p.ok prog:=qaD qrj qjr
def pr34:Pr:=⟨23,[Y6,Y7],(.bool true)⟩
theorem qpO:pr34.ok prog:=Pr.run (qbq qji) 200 (by decide+kernel)
def qsL:List Pr:=pr34::qtf
theorem qi0:∀p,p∈qsL→p.ok prog:=qaD qpO qji
def pr35:Pr:=⟨30,[(.sl false [(.str ⟨⟨[121]⟩⟩),(.str ⟨⟨[122]⟩⟩)]),(.sl true [(.str ⟨⟨[121]⟩⟩),(.str ⟨⟨[122]⟩⟩)])],(.bool true)⟩
theorem qp2:pr35.ok prog:=Pr.run (qbq qi0) 200 (by decide+kernel)
def qsP:List Pr:=pr35::qsL
theorem qiU:∀p,p∈qsP→p.ok prog:=qaD qp2 qi0
def pr36:Pr:=⟨30,[(.sl false [(.str ⟨⟨[108]⟩⟩),(.str ⟨⟨[120]⟩⟩)]),(.sl true [(.str ⟨⟨[108]⟩⟩),(.str ⟨⟨[120]⟩⟩)])],(.bool true)⟩
theorem qrn:pr36.ok prog:=Pr.run (qbq qiU) 200 (by decide+kernel)
def qtP:List Pr:=pr36::qsP
theorem qnK:∀p,p∈qtP→p.ok prog:=qaD qrn qiU
set_option maxRecDepth 20000
def qtp:Pr:=⟨18,[],.bool true⟩
theorem qrw:qtp.ok prog:=Pr.run (qbq qnK) 200 (by decide+kernel)
theorem qiz{s:ByteArray}(h:qab s=true):s.size≤16:=by
 unfold qab at h;simp only[qt3,decide_eq_true_eq] at h;exact h.1.1.1.2
theorem qhn(S:St):Fn prog 18 [] S (.bool true):=qrw S
end Go.Proofs.YtbifpocccfkhhaaGreatDoor
namespace Go.Proofs.YtbifpocccfkhhaaGreatDoor
open Go Go.ChangeShapes Go.WideShapes Go.ChangeAt Go.RowKit
def E0(W:World):En:=⟨fun b o=>W.cell? ⟨b,o,none⟩,fun _ _=>none⟩
theorem laid_tail{P:Program}{W:World}{x:String×DataW Unit}{l:List (String×DataW Unit)}(h:laidMet P (x::l) W):laidMet P l W:=by
 obtain ⟨ps,hl,hn,hf⟩:=h;obtain ⟨n,d⟩:=x;obtain ⟨g,t,cs,fuel,p,q,h1,h2,h3,h4,h5,rfl⟩:=hl;refine ⟨q,h5,?_,fun b off hm=>hf b off (qvt _ hm)⟩;exact (List.nodup_append.1 hn).2.1
theorem tab_cells{P:Program}{W:World}{name:String}{k:IntKind}{zs:List Int}{g:Nat}(hg:P.globalNamed name=some g)(h:Lib.TabIs P W name k zs):
  ∃t fz,W.heap[g]?=some (.cells (zs.map fun z=>Value.int k z).toArray t fz):=by
 unfold Lib.TabIs World.var? at h;rw[hg] at h;simp only[qug] at h;split at h
 ·rename_i cs t fz hh;cases h;exact ⟨t,fz,hh⟩
 ·cases h
theorem gSp : Tryz.prog.globalNamed "strings.asciiSpace" = some 0 := by kernel_rfl
theorem gPow : Tryz.prog.globalNamed "internal/strconv.uint64pow10" = some 2 := by kernel_rfl
theorem gSpType:(Tryz.prog.globals[0]?).map (·.type)=some 228:=by kernel_rfl
theorem gPowType:(Tryz.prog.globals[2]?).map (·.type)=some 264:=by kernel_rfl
theorem sp_at:∀o,o<256→Lib.asciiSpaceTab.getD o 0=(if o=9∨o=10∨o=11∨o=12∨o=13∨o=32 then 1 else 0):=by decide+kernel
theorem sp_is:(Rows.laid_strings_asciiSpace:DataW Unit)=Lib.tabData .u8 Lib.asciiSpaceTab:=by kernel_rfl
theorem pow_is:(Rows.laid_internal_strconv_uint64pow10:DataW Unit)=Lib.tabData .u64 Lib.pow10Tab:=by kernel_rfl
theorem SR.start{W:World}(h:laidMetH Tryz.prog Rows.copyFreshRow.laid W):SR (E0 W) [] W:=by
 have h0 : laidMet Tryz.prog [("math/bits.deBruijn32tab", Rows.laid_math_bits_deBruijn32tab), ("math/bits.deBruijn64tab", Rows.laid_math_bits_deBruijn64tab), ("internal/strconv.uint64pow10", Rows.laid_internal_strconv_uint64pow10), ("unicode.White_Space", Rows.laid_unicode_White_Space), ("strings.asciiSpace", Rows.laid_strings_asciiSpace)] W := h
 have h3:=laid_tail (laid_tail h0);have h5:=laid_tail (laid_tail h3);rw[pow_is] at h3;rw[sp_is] at h5
 have t1 : Lib.TabIs Tryz.prog W "strings.asciiSpace" .u8 Lib.asciiSpaceTab := Lib.tabIs_of_head gSp gSpType Tryz.underlying228 (by kernel_rfl) (by kernel_rfl) (by kernel_rfl) h5
 have t2 : Lib.TabIs Tryz.prog W "internal/strconv.uint64pow10" .u64 Lib.pow10Tab := Lib.tabIs_of_head gPow gPowType Tryz.underlying264 (by kernel_rfl) (by kernel_rfl) (by kernel_rfl) h3
 refine ⟨⟨fun g o k n hg=>?_,fun g cs hg=>?_⟩,fun b o c h=>h,fun l o h=>by simp at h,fun l st x h=>by simp[E0] at h,fun b o ⟨l,st,x,_,h,_⟩=>by simp[E0] at h,fun b ⟨l,st,x,_,h,_⟩=>by simp[E0] at h,fun l l' st st' x x' _ _ h=>by simp[E0] at h⟩
 ·unfold qjY at hg;split at hg
  ·rename_i hc;obtain ⟨rfl,ho⟩:=hc;cases hg;have:=t1.cell gSp o (by rw[Lib.asciiSpaceTab_length];exact ho);rw[sp_at o ho] at this;exact this
  ·split at hg
   ·rename_i hc;obtain ⟨rfl,ho⟩:=hc;cases hg;have:=t2.cell gPow o (by rw[Lib.pow10Tab_length];exact ho);rw[Lib.pow10Tab_at o ho] at this;exact_mod_cast this
   ·cases hg
 ·unfold ql1 at hg;split at hg
  ·rename_i hc;subst hc;cases hg;obtain ⟨t2,f2,g2⟩:=tab_cells gPow t2;refine ⟨t2,f2,?_⟩;rw[g2];simp[Lib.pow10Tab,qvS,Function.comp]
  ·cases hg
theorem own_none{W:World}{b:Nat}:¬ own (E0 W) [] b:=fun ⟨l,st,x,_,h,_⟩=>by simp[E0] at h
theorem kept_of{n:Nat}{W W':World}{E':En}{S':St}(h:Ext n (E0 W) [] W E' S' W')(may:MemPlace→Prop):W.keptBut W' may:=by
 have ho:=h.out;simp only[Prod.mk.injEq] at ho;refine ⟨ho.2,ho.1,fun i hi=>?_⟩;have:=h.frame i hi own_none;rw[this]
 cases hh:W.heap[i]? with
 | none=>trivial
 | some o=>cases o <;> simp
theorem same_of{n:Nat}{W W':World}{E':En}{S':St}(h:Ext n (E0 W) [] W E' S' W'){p:MemPlace}(hp:p.block<W.heap.size):W.sameAt W' p:=by
 have hb:=h.frame p.block hp own_none
 cases p with
 | cell b o=>exact cell?_heap hb
 | map b=>exact hb
theorem carryAll{H:Type}{enc:TypeId×Value→H}{P:Program}{w w':World}{sp:Nat→Bool}:∀{ts:List TypeId} {vs:List Value} {ds:List (DataW H)} {ps:List MemPlace},DataW.TrodAll enc P w 0 sp true ts vs ds ps→(∀p∈ps,w.sameAt w' p)→DataW.TrodAll enc P w' 0 sp true ts vs ds ps
 | [],[],[],_,h,_=>h
 | _::_,_::_,_::_,_,⟨p,q,⟨n,h1⟩,h2,e⟩,hs=>⟨p,q,⟨n,DataW.trod_carry n _ _ _ h1 fun x hx=>hs x (by rw[e];exact qvx _ hx)⟩,carryAll h2 (fun x hx=>hs x (by rw[e];exact qvt _ hx)),e⟩
theorem kids:Kids Tryz.prog (·<Tryz.prog.types.size):=kids_rows (by kernel_rfl) (by kernel_rfl)
theorem full:∀t e,t<Tryz.prog.types.size→Tryz.prog.underlying t=some (.slice e)→0<Tryz.prog.cellsOf e:=slices_full_of Tryz.prog (by kernel_rfl)
theorem law_of{H:Type}{enc:TypeId×Value→H}{k:Nat}{f:Func}{s:ChangeSpec}{W:World}{args:Array Value}{ds gs:List (DataW H)}{before:List MemPlace}{vs:List V}
  (hspec:Fn Tryz.prog k vs [] (.bool true)) (hs:SR (E0 W) [] W) (hv:VRs (E0 W) vs args) (hty:f.params.toList.all (fun t=>decide (t<Tryz.prog.types.size))=true) (hres:f.resultTypes=#[4])
  (hvars:s.vars=[]) (hW:DataW.Whole enc Tryz.prog f.params.toList s.vars false W args.toList ds gs before)
  (hfn:s.fn H (ds++gs)={ results:=[.lit (.bool true)],args:=ds++gs }):
  Calls Tryz.prog k args W fun e W'=>∃v,e=.returned v∧s.post enc Tryz.prog f false true false false W args v W':=by
 have hc:=callsIn_wide.1 (hspec.2 (E0 W) W args 0 hs hv);refine hc.mono ?_;rintro e W' ⟨u,r,E',S',rfl,⟨rfl,rfl⟩,hr,hs',hx,_⟩;cases hr;have hW':=hW;obtain ⟨p,q,hA,hV,hb,hz,hn⟩:=hW;rw[hvars] at hV;obtain ⟨rfl,rfl⟩:=trodVars_none hV;rw[qu4] at hb;subst hb;rw[qu4] at hfn;refine ⟨_,rfl,ds,[],before,[],before,[],hW',?_,?_,?_,kept_of hx _,fun h=>by cases h⟩
 ·rw[qu4,hfn,hres];exact trodAll_cons_mk (shut_bool Tryz.underlying4 _) trodAll_mk0
 ·rw[qu4,hfn];have hlt:∀p∈before,p.block<W.heap.size:=fun p hp=>hW'.lt p hp
  refine carryAll (DataW.TrodAll.respare kids full (fun t ht=>?_) hA fun p hp=>by simpa using hlt p hp) fun p hp=>same_of hx (hlt p hp)
  have:=quj.1 hty t ht;simpa using this
 ·rw[qu4,hfn,hvars];rfl
end Go.Proofs.YtbifpocccfkhhaaGreatDoor
end
