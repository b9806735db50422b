/- A part of it. -/
import Derived.Test.YtbifpocccfkhhaaGreatDoorKf
import Derived.Test.YtbifpocccfkhhaaGreatDoorCards
import Derived.Test.YtbifpocccfkhhaaGreatDoorTie
import Derived.WalkKit
import Derived.ProofKit
import Derived.OpenShut
import Derived.SliceStrings
import Derived.Deep.DeepHandedRow
import Derived.Deep.DeepWitnessRowRef
import Derived.Lib.LaidTab
import Derived.Lib.Space
import Derived.ReadAgain
set_option linter.all false
noncomputable section
namespace Go.Proofs.YtbifpocccfkhhaaGreatDoor
open Go Go.Proofs.Tryz
set_option maxRecDepth 20000
def pr7:Pr:=⟨56,[Y0],(.int .i64 0)⟩
theorem qsm:pr7.ok prog:=Pr.run (qbq qlF) 200 (by decide+kernel)
def prs7:List Pr:=pr7::prs6
theorem qmp:∀p,p∈prs7→p.ok prog:=qaF qsm qlF
def pr8:Pr:=⟨29,[Y0],(.tup [(.sl false [(.str ⟨⟨[121]⟩⟩),(.str ⟨⟨[122]⟩⟩)]),(.int .i64 0)])⟩
theorem qtg:pr8.ok prog:=Pr.run (qbq qmp) 200 (by decide+kernel)
def prs8:List Pr:=pr8::prs7
theorem qmQ:∀p,p∈prs8→p.ok prog:=qaF qtg qmp
def pr9:Pr:=⟨31,[Y0],(.tup [(.sl false [(.str ⟨⟨[108]⟩⟩),(.str ⟨⟨[120]⟩⟩)]),(.int .i64 0)])⟩
theorem qsB:pr9.ok prog:=Pr.run (qbq qmQ) 200 (by decide+kernel)
def prs9:List Pr:=pr9::prs8
theorem qmr:∀p,p∈prs9→p.ok prog:=qaF qsB qmQ
def pr10:Pr:=⟨90,[Y10],(.int .i64 0)⟩
theorem qpG:pr10.ok prog:=Pr.run (qbq qmr) 200 (by decide+kernel)
def qsd:List Pr:=pr10::prs9
theorem qjF:∀p,p∈qsd→p.ok prog:=qaF qpG qmr
def pr11:Pr:=⟨57,[(.str ⟨⟨[113]⟩⟩)],(.bool true)⟩
theorem qpt:pr11.ok prog:=Pr.run (qbq qjF) 200 (by decide+kernel)
def qsV:List Pr:=pr11::qsd
theorem qjd:∀p,p∈qsV→p.ok prog:=qaF qpt qjF
def pr12:Pr:=⟨57,[(.str ⟨⟨[105]⟩⟩)],(.bool true)⟩
theorem qqO:pr12.ok prog:=Pr.run (qbq qjd) 200 (by decide+kernel)
def qsp:List Pr:=pr12::qsV
theorem qi4:∀p,p∈qsp→p.ok prog:=qaF qqO qjd
def pr13:Pr:=⟨90,[Y9],(.int .i64 0)⟩
theorem qpR:pr13.ok prog:=Pr.run (qbq qi4) 200 (by decide+kernel)
def qr9:List Pr:=pr13::qsp
theorem qjA:∀p,p∈qr9→p.ok prog:=qaF qpR qi4
def pr14:Pr:=⟨57,[(.str ⟨⟨[120,49]⟩⟩)],(.bool true)⟩
theorem qrt:pr14.ok prog:=Pr.run (qbq qjA) 200 (by decide+kernel)
def qsA:List Pr:=pr14::qr9
theorem qiW:∀p,p∈qsA→p.ok prog:=qaF qrt qjA
def pr15:Pr:=⟨32,[Y0,(.sl true [(.str ⟨⟨[121]⟩⟩),(.str ⟨⟨[122]⟩⟩)]),(.sl true [Y10,Y9])],(.tup [Y6,(.int .i64 0)])⟩
theorem qqY:pr15.ok prog:=Pr.run (qbq qiW) 200 (by decide+kernel)
def qsL:List Pr:=pr15::qsA
theorem qi6:∀p,p∈qsL→p.ok prog:=qaF qqY qiW
def pr16:Pr:=⟨19,[Y0,(.str ⟨⟨[121]⟩⟩),(.str ⟨⟨[120]⟩⟩)],(.tup [Y14,(.int .i64 10)])⟩
theorem qqf:pr16.ok prog:=Pr.run (qbq qi6) 200 (by decide+kernel)
def qte:List Pr:=pr16::qsL
theorem qiY:∀p,p∈qte→p.ok prog:=qaF qqf qi6
def pr17:Pr:=⟨19,[Y0,(.str ⟨⟨[121]⟩⟩),(.str ⟨⟨[122]⟩⟩)],(.tup [Y14,(.int .i64 6)])⟩
theorem qpj:pr17.ok prog:=Pr.run (qbq qiY) 200 (by decide+kernel)
def qso:List Pr:=pr17::qte
theorem qja:∀p,p∈qso→p.ok prog:=qaF qpj qiY
def pr18:Pr:=⟨53,[(.str ⟨⟨[116]⟩⟩),(.str ⟨⟨[109]⟩⟩),Y12,Y13],Y1⟩
theorem qpM:pr18.ok prog:=Pr.run (qbq qja) 200 (by decide+kernel)
def qss:List Pr:=pr18::qso
theorem qiP:∀p,p∈qss→p.ok prog:=qaF qpM qja
def pr19:Pr:=⟨57,[(.str ⟨⟨[116]⟩⟩)],(.bool true)⟩
theorem qqS:pr19.ok prog:=Pr.run (qbq qiP) 200 (by decide+kernel)
def qsF:List Pr:=pr19::qss
theorem qjz:∀p,p∈qsF→p.ok prog:=qaF qqS qiP
def pr20:Pr:=⟨57,[(.str ⟨⟨[109]⟩⟩)],(.bool true)⟩
theorem qpJ:pr20.ok prog:=Pr.run (qbq qjz) 200 (by decide+kernel)
def qsM:List Pr:=pr20::qsF
theorem qjs:∀p,p∈qsM→p.ok prog:=qaF qpJ qjz
def pr21:Pr:=⟨56,[Y1],(.int .i64 0)⟩
theorem qq9:pr21.ok prog:=Pr.run (qbq qjs) 200 (by decide+kernel)
def qs1:List Pr:=pr21::qsM
theorem qjC:∀p,p∈qs1→p.ok prog:=qaF qq9 qjs
def pr22:Pr:=⟨24,[Y0,Y1],(.tup [(.bool true),(.int .i64 0)])⟩
theorem qrA:pr22.ok prog:=Pr.run (qbq qjC) 200 (by decide+kernel)
def qsH:List Pr:=pr22::qs1
theorem qiU:∀p,p∈qsH→p.ok prog:=qaF qrA qjC
def pr23:Pr:=⟨57,[(.str ⟨⟨[112]⟩⟩)],(.bool true)⟩
theorem qpg:pr23.ok prog:=Pr.run (qbq qiU) 200 (by decide+kernel)
def qsg:List Pr:=pr23::qsH
theorem qjI:∀p,p∈qsg→p.ok prog:=qaF qpg qiU
def pr24:Pr:=⟨57,[(.str ⟨⟨[97]⟩⟩)],(.bool true)⟩
theorem qqs:pr24.ok prog:=Pr.run (qbq qjI) 200 (by decide+kernel)
def qsZ:List Pr:=pr24::qsg
theorem qjr:∀p,p∈qsZ→p.ok prog:=qaF qqs qjI
def pr25:Pr:=⟨57,[(.str ⟨⟨[98]⟩⟩)],(.bool true)⟩
theorem qrF:pr25.ok prog:=Pr.run (qbq qjr) 200 (by decide+kernel)
def qse:List Pr:=pr25::qsZ
theorem qjD:∀p,p∈qse→p.ok prog:=qaF qrF qjr
def pr26:Pr:=⟨130,[Y2],(.int .i64 0)⟩
theorem qpH:pr26.ok prog:=Pr.run (qbq qjD) 200 (by decide+kernel)
def qsq:List Pr:=pr26::qse
theorem qiJ:∀p,p∈qsq→p.ok prog:=qaF qpH qjD
def pr27:Pr:=⟨90,[Y3],(.int .i64 0)⟩
theorem qrh:pr27.ok prog:=Pr.run (qbq qiJ) 200 (by decide+kernel)
def qsT:List Pr:=pr27::qsq
theorem qiM:∀p,p∈qsT→p.ok prog:=qaF qrh qiJ
def pr28:Pr:=⟨57,[(.str ⟨⟨[107]⟩⟩)],(.bool true)⟩
theorem qqQ:pr28.ok prog:=Pr.run (qbq qiM) 200 (by decide+kernel)
def qs3:List Pr:=pr28::qsT
theorem qi1:∀p,p∈qs3→p.ok prog:=qaF qqQ qiM
def pr29:Pr:=⟨90,[Y8],(.int .i64 0)⟩
theorem qrH:pr29.ok prog:=Pr.run (qbq qi1) 200 (by decide+kernel)
def qsb:List Pr:=pr29::qs3
theorem qiZ:∀p,p∈qsb→p.ok prog:=qaF qrH qi1
def pr30:Pr:=⟨27,[Y2,(.sl true [Y3,Y8])],(.tup [Y5,(.int .i64 0)])⟩
theorem qqo:pr30.ok prog:=Pr.run (qbq qiZ) 200 (by decide+kernel)
def qsS:List Pr:=pr30::qsb
theorem qiS:∀p,p∈qsS→p.ok prog:=qaF qqo qiZ
def pr31:Pr:=⟨27,[Y2,(.sl true [Y8,Y8])],(.tup [Y14,(.int .i64 10)])⟩
theorem qqU:pr31.ok prog:=Pr.run (qbq qiS) 200 (by decide+kernel)
def qsi:List Pr:=pr31::qsS
theorem qi3:∀p,p∈qsi→p.ok prog:=qaF qqU qiS
def pr32:Pr:=⟨23,[Y5,(.agg [(.sl true []),(.int .i64 7),(.str ⟨⟨[]⟩⟩),(.sl true []),(.sl true []),(.sl true []),(.sl true [Y20]),(.sl true [(.agg [(.sl true []),(.int .i64 2),(.str ⟨⟨[]⟩⟩),(.sl true [Y11]),(.sl true [Y8]),(.sl true []),(.sl true []),(.sl true [])]),(.agg [(.sl true []),(.int .i64 7),(.str ⟨⟨[]⟩⟩),(.sl true []),(.sl true []),(.sl true []),Y18,(.sl true [(.agg [(.sl true []),(.int .i64 2),(.str ⟨⟨[]⟩⟩),(.sl true [Y4]),(.sl true [Y11]),(.sl true []),(.sl true []),(.sl true [])]),(.agg [(.sl true []),(.int .i64 2),(.str ⟨⟨[]⟩⟩),(.sl true [Y3]),(.sl true [(.agg [(.int .i64 10),(.int .i64 3),(.int .i64 0),(.int .i64 0),(.int .i64 0),(.str ⟨⟨[]⟩⟩),(.sl true [Y3,Y4])])]),(.sl true []),(.sl true []),(.sl true [])])])])])])],(.bool true)⟩
theorem qrY:pr32.ok prog:=Pr.run (qbq qi3) 200 (by decide+kernel)
def qth:List Pr:=pr32::qsi
theorem qjo:∀p,p∈qth→p.ok prog:=qaF qrY qi3
def pr33:Pr:=⟨53,[(.str ⟨⟨[120,49]⟩⟩),(.str ⟨⟨[108]⟩⟩),Y10,Y9],Y7⟩
theorem qqZ:pr33.ok prog:=Pr.run (qbq qjo) 200 (by decide+kernel)
def qta:List Pr:=pr33::qth
theorem qjt:∀p,p∈qta→p.ok prog:=qaF qqZ qjo
def pr34:Pr:=⟨23,[Y6,Y7],(.bool true)⟩
theorem qq4:pr34.ok prog:=Pr.run (qbq qjt) 200 (by decide+kernel)
def qsw:List Pr:=pr34::qta
theorem qi0:∀p,p∈qsw→p.ok prog:=qaF qq4 qjt
def pr35:Pr:=⟨30,[(.sl false [(.str ⟨⟨[121]⟩⟩),(.str ⟨⟨[122]⟩⟩)]),(.sl true [(.str ⟨⟨[121]⟩⟩),(.str ⟨⟨[122]⟩⟩)])],(.bool true)⟩
theorem qrW:pr35.ok prog:=Pr.run (qbq qi0) 200 (by decide+kernel)
def qsl:List Pr:=pr35::qsw
theorem qjf:∀p,p∈qsl→p.ok prog:=qaF qrW qi0
def pr36:Pr:=⟨30,[(.sl false [(.str ⟨⟨[108]⟩⟩),(.str ⟨⟨[120]⟩⟩)]),(.sl true [(.str ⟨⟨[108]⟩⟩),(.str ⟨⟨[120]⟩⟩)])],(.bool true)⟩
theorem qpx:pr36.ok prog:=Pr.run (qbq qjf) 200 (by decide+kernel)
def qts:List Pr:=pr36::qsl
theorem qog:∀p,p∈qts→p.ok prog:=qaF qpx qjf
def qsX:Pr:=⟨18,[],.bool true⟩
theorem qpW:qsX.ok prog:=Pr.run (qbq qog) 200 (by decide+kernel)
theorem qgf(S:St):Fn prog 18 [] S (.bool true):=qpW S
end Go.Proofs.YtbifpocccfkhhaaGreatDoor
namespace Go.Proofs.YtbifpocccfkhhaaGreatDoor
open Go Go.ChangeShapes Go.WideShapes Go.ChangeAt Go.RowKit
def E0(W:World):En:=⟨fun b o=>W.cell? ⟨b,o,none⟩,fun _ _=>none⟩
theorem laid_tail{P:Program}{W:World}{x:String×DataW Unit}{l:List (String×DataW Unit)}(h:laidMet P (x::l) W):laidMet P l W:=by
 obtain ⟨ps,hl,hn,hf⟩:=h;obtain ⟨n,d⟩:=x;obtain ⟨g,t,cs,fuel,p,q,h1,h2,h3,h4,h5,rfl⟩:=hl;refine ⟨q,h5,?_,fun b off hm=>hf b off (qvf _ hm)⟩;exact (List.nodup_append.1 hn).2.1
theorem tab_cells{P:Program}{W:World}{name:String}{k:IntKind}{zs:List Int}{g:Nat}(hg:P.globalNamed name=some g)(h:Lib.TabIs P W name k zs):
  ∃t fz,W.heap[g]?=some (.cells (zs.map fun z=>Value.int k z).toArray t fz):=by
 unfold Lib.TabIs World.var? at h;rw[hg] at h;simp only[qtT] at h;split at h
 ·rename_i cs t fz hh;cases h;exact ⟨t,fz,hh⟩
 ·cases h
theorem gSp : Tryz.prog.globalNamed "strings.asciiSpace" = some 0 := by kernel_rfl
theorem gPow : Tryz.prog.globalNamed "internal/strconv.uint64pow10" = some 2 := by kernel_rfl
theorem gSpType:(Tryz.prog.globals[0]?).map (·.type)=some 228:=by kernel_rfl
theorem gPowType:(Tryz.prog.globals[2]?).map (·.type)=some 264:=by kernel_rfl
theorem sp_at:∀o,o<256→Lib.asciiSpaceTab.getD o 0=(if o=9∨o=10∨o=11∨o=12∨o=13∨o=32 then 1 else 0):=by decide+kernel
theorem sp_is:(Rows.laid_strings_asciiSpace:DataW Unit)=Lib.tabData .u8 Lib.asciiSpaceTab:=by kernel_rfl
theorem pow_is:(Rows.laid_internal_strconv_uint64pow10:DataW Unit)=Lib.tabData .u64 Lib.pow10Tab:=by kernel_rfl
theorem SR.start{W:World}(h:laidMetH Tryz.prog Rows.copyFreshRow.laid W):SR (E0 W) [] W:=by
 have h0 : laidMet Tryz.prog [("math/bits.deBruijn32tab", Rows.laid_math_bits_deBruijn32tab), ("math/bits.deBruijn64tab", Rows.laid_math_bits_deBruijn64tab), ("internal/strconv.uint64pow10", Rows.laid_internal_strconv_uint64pow10), ("unicode.White_Space", Rows.laid_unicode_White_Space), ("strings.asciiSpace", Rows.laid_strings_asciiSpace)] W := h
 have h3:=laid_tail (laid_tail h0);have h5:=laid_tail (laid_tail h3);rw[pow_is] at h3;rw[sp_is] at h5
 have t1 : Lib.TabIs Tryz.prog W "strings.asciiSpace" .u8 Lib.asciiSpaceTab := Lib.tabIs_of_head gSp gSpType Tryz.underlying228 (by kernel_rfl) (by kernel_rfl) (by kernel_rfl) h5
 have t2 : Lib.TabIs Tryz.prog W "internal/strconv.uint64pow10" .u64 Lib.pow10Tab := Lib.tabIs_of_head gPow gPowType Tryz.underlying264 (by kernel_rfl) (by kernel_rfl) (by kernel_rfl) h3
 refine ⟨⟨fun g o k n hg=>?_,fun g cs hg=>?_⟩,fun b o c h=>h,fun l o h=>by simp at h,fun l st x h=>by simp[E0] at h,fun b o ⟨l,st,x,_,h,_⟩=>by simp[E0] at h,fun b ⟨l,st,x,_,h,_⟩=>by simp[E0] at h,fun l l' st st' x x' _ _ h=>by simp[E0] at h⟩
 ·unfold qjN at hg;split at hg
  ·rename_i hc;obtain ⟨rfl,ho⟩:=hc;cases hg;have:=t1.cell gSp o (by rw[Lib.asciiSpaceTab_length];exact ho);rw[sp_at o ho] at this;exact this
  ·split at hg
   ·rename_i hc;obtain ⟨rfl,ho⟩:=hc;cases hg;have:=t2.cell gPow o (by rw[Lib.pow10Tab_length];exact ho);rw[Lib.pow10Tab_at o ho] at this;exact_mod_cast this
   ·cases hg
 ·unfold qjR at hg;split at hg
  ·rename_i hc;subst hc;cases hg;obtain ⟨t2,f2,g2⟩:=tab_cells gPow t2;refine ⟨t2,f2,?_⟩;rw[g2];simp[Lib.pow10Tab,qvm,Function.comp]
  ·cases hg
theorem own_none{W:World}{b:Nat}:¬ own (E0 W) [] b:=fun ⟨l,st,x,_,h,_⟩=>by simp[E0] at h
theorem kept_of{n:Nat}{W W':World}{E':En}{S':St}(h:Ext n (E0 W) [] W E' S' W')(may:MemPlace→Prop):W.keptBut W' may:=by
 have ho:=h.out;simp only[Prod.mk.injEq] at ho;refine ⟨ho.2,ho.1,fun i hi=>?_⟩;have:=h.frame i hi own_none;rw[this]
 cases hh:W.heap[i]? with
 | none=>trivial
 | some o=>cases o <;> simp
theorem same_of{n:Nat}{W W':World}{E':En}{S':St}(h:Ext n (E0 W) [] W E' S' W'){p:MemPlace}(hp:p.block<W.heap.size):W.sameAt W' p:=by
 have hb:=h.frame p.block hp own_none
 cases p with
 | cell b o=>exact cell?_heap hb
 | map b=>exact hb
theorem carryAll{H:Type}{enc:TypeId×Value→H}{P:Program}{w w':World}{sp:Nat→Bool}:∀{ts:List TypeId} {vs:List Value} {ds:List (DataW H)} {ps:List MemPlace},DataW.TrodAll enc P w 0 sp true ts vs ds ps→(∀p∈ps,w.sameAt w' p)→DataW.TrodAll enc P w' 0 sp true ts vs ds ps
 | [],[],[],_,h,_=>h
 | _::_,_::_,_::_,_,⟨p,q,⟨n,h1⟩,h2,e⟩,hs=>⟨p,q,⟨n,DataW.trod_carry n _ _ _ h1 fun x hx=>hs x (by rw[e];exact qvh _ hx)⟩,carryAll h2 (fun x hx=>hs x (by rw[e];exact qvf _ hx)),e⟩
theorem kids:Kids Tryz.prog (·<Tryz.prog.types.size):=kids_rows (by kernel_rfl) (by kernel_rfl)
theorem full:∀t e,t<Tryz.prog.types.size→Tryz.prog.underlying t=some (.slice e)→0<Tryz.prog.cellsOf e:=slices_full_of Tryz.prog (by kernel_rfl)
theorem law_of{H:Type}{enc:TypeId×Value→H}{k:Nat}{f:Func}{s:ChangeSpec}{W:World}{args:Array Value}{ds gs:List (DataW H)}{before:List MemPlace}{vs:List V}
  (hspec:Fn Tryz.prog k vs [] (.bool true)) (hs:SR (E0 W) [] W) (hv:VRs (E0 W) vs args) (hty:f.params.toList.all (fun t=>decide (t<Tryz.prog.types.size))=true) (hres:f.resultTypes=#[4])
  (hvars:s.vars=[]) (hW:DataW.Whole enc Tryz.prog f.params.toList s.vars false W args.toList ds gs before)
  (hfn:s.fn H (ds++gs)={ results:=[.lit (.bool true)],args:=ds++gs }):
  Calls Tryz.prog k args W fun e W'=>∃v,e=.returned v∧s.post enc Tryz.prog f false true false false W args v W':=by
 have hc:=callsIn_wide.1 (hspec.2 (E0 W) W args 0 hs hv);refine hc.mono ?_;rintro e W' ⟨u,r,E',S',rfl,⟨rfl,rfl⟩,hr,hs',hx,_⟩;cases hr;have hW':=hW;obtain ⟨p,q,hA,hV,hb,hz,hn⟩:=hW;rw[hvars] at hV;obtain ⟨rfl,rfl⟩:=trodVars_none hV;rw[quW] at hb;subst hb;rw[quW] at hfn;refine ⟨_,rfl,ds,[],before,[],before,[],hW',?_,?_,?_,kept_of hx _,fun h=>by cases h⟩
 ·rw[quW,hfn,hres];exact trodAll_cons_mk (shut_bool Tryz.underlying4 _) trodAll_mk0
 ·rw[quW,hfn];have hlt:∀p∈before,p.block<W.heap.size:=fun p hp=>hW'.lt p hp
  refine carryAll (DataW.TrodAll.respare kids full (fun t ht=>?_) hA fun p hp=>by simpa using hlt p hp) fun p hp=>same_of hx (hlt p hp)
  have:=qtY.1 hty t ht;simpa using this
 ·rw[quW,hfn,hvars];rfl
