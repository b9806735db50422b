/- Part of the proof. -/
import Derived.Test.YtbifpocccfkhhaaGreatDoorPf
import Derived.Test.YtbifpocccfkhhaaGreatDoorCards
import Derived.Test.YtbifpocccfkhhaaGreatDoorTie
import Derived.WalkKit
import Derived.ProofKit
import Derived.OpenShut
import Derived.SliceStrings
import Derived.Deep.DeepHandedRow
import Derived.Deep.DeepWitnessRowRef
import Derived.Lib.LaidTab
import Derived.Lib.Space
import Derived.ReadAgain
set_option linter.all false
noncomputable section
namespace Go.Proofs.YtbifpocccfkhhaaGreatDoor
open Go Go.Proofs.Tryz
set_option maxRecDepth 20000
def pr7:Pr:=⟨56,[Y0],(.int .i64 0)⟩
theorem qsL:pr7.ok prog:=Pr.run (qbn qmr) 200 (by decide+kernel)
def prs7:List Pr:=pr7::prs6
theorem qm4:∀p,p∈prs7→p.ok prog:=qaD qsL qmr
def pr8:Pr:=⟨29,[Y0],(.tup [(.sl false [(.str ⟨⟨[121]⟩⟩),(.str ⟨⟨[122]⟩⟩)]),(.int .i64 0)])⟩
theorem qso:pr8.ok prog:=Pr.run (qbn qm4) 200 (by decide+kernel)
def prs8:List Pr:=pr8::prs7
theorem qlw:∀p,p∈prs8→p.ok prog:=qaD qso qm4
def pr9:Pr:=⟨31,[Y0],(.tup [(.sl false [(.str ⟨⟨[108]⟩⟩),(.str ⟨⟨[120]⟩⟩)]),(.int .i64 0)])⟩
theorem qs9:pr9.ok prog:=Pr.run (qbn qlw) 200 (by decide+kernel)
def prs9:List Pr:=pr9::prs8
theorem qnt:∀p,p∈prs9→p.ok prog:=qaD qs9 qlw
def pr10:Pr:=⟨90,[Y10],(.int .i64 0)⟩
theorem qqu:pr10.ok prog:=Pr.run (qbn qnt) 200 (by decide+kernel)
def qth:List Pr:=pr10::prs9
theorem qiQ:∀p,p∈qth→p.ok prog:=qaD qqu qnt
def pr11:Pr:=⟨57,[(.str ⟨⟨[113]⟩⟩)],(.bool true)⟩
theorem qp9:pr11.ok prog:=Pr.run (qbn qiQ) 200 (by decide+kernel)
def qs8:List Pr:=pr11::qth
theorem qiW:∀p,p∈qs8→p.ok prog:=qaD qp9 qiQ
def pr12:Pr:=⟨57,[(.str ⟨⟨[105]⟩⟩)],(.bool true)⟩
theorem qqi:pr12.ok prog:=Pr.run (qbn qiW) 200 (by decide+kernel)
def qsT:List Pr:=pr12::qs8
theorem qjq:∀p,p∈qsT→p.ok prog:=qaD qqi qiW
set_option maxRecDepth 20000
def pr13:Pr:=⟨90,[Y9],(.int .i64 0)⟩
theorem qpY:pr13.ok prog:=Pr.run (qbn qjq) 200 (by decide+kernel)
def qrZ:List Pr:=pr13::qsT
theorem qjd:∀p,p∈qrZ→p.ok prog:=qaD qpY qjq
def pr14:Pr:=⟨57,[(.str ⟨⟨[120,49]⟩⟩)],(.bool true)⟩
theorem qpp:pr14.ok prog:=Pr.run (qbn qjd) 200 (by decide+kernel)
def qto:List Pr:=pr14::qrZ
theorem qiK:∀p,p∈qto→p.ok prog:=qaD qpp qjd
def pr15:Pr:=⟨32,[Y0,(.sl true [(.str ⟨⟨[121]⟩⟩),(.str ⟨⟨[122]⟩⟩)]),(.sl true [Y10,Y9])],(.tup [Y6,(.int .i64 0)])⟩
theorem qp6:pr15.ok prog:=Pr.run (qbn qiK) 200 (by decide+kernel)
def qsr:List Pr:=pr15::qto
theorem qiH:∀p,p∈qsr→p.ok prog:=qaD qp6 qiK
def pr16:Pr:=⟨19,[Y0,(.str ⟨⟨[121]⟩⟩),(.str ⟨⟨[120]⟩⟩)],(.tup [Y14,(.int .i64 10)])⟩
theorem qrM:pr16.ok prog:=Pr.run (qbn qiH) 200 (by decide+kernel)
def qr1:List Pr:=pr16::qsr
theorem qiL:∀p,p∈qr1→p.ok prog:=qaD qrM qiH
def pr17:Pr:=⟨19,[Y0,(.str ⟨⟨[121]⟩⟩),(.str ⟨⟨[122]⟩⟩)],(.tup [Y14,(.int .i64 6)])⟩
theorem qrc:pr17.ok prog:=Pr.run (qbn qiL) 200 (by decide+kernel)
def qsq:List Pr:=pr17::qr1
theorem qjj:∀p,p∈qsq→p.ok prog:=qaD qrc qiL
def pr18:Pr:=⟨53,[(.str ⟨⟨[116]⟩⟩),(.str ⟨⟨[109]⟩⟩),Y12,Y13],Y1⟩
theorem qqa:pr18.ok prog:=Pr.run (qbn qjj) 200 (by decide+kernel)
def qs7:List Pr:=pr18::qsq
theorem qiV:∀p,p∈qs7→p.ok prog:=qaD qqa qjj
set_option maxRecDepth 20000
def pr19:Pr:=⟨57,[(.str ⟨⟨[116]⟩⟩)],(.bool true)⟩
theorem qqR:pr19.ok prog:=Pr.run (qbn qiV) 200 (by decide+kernel)
def qsn:List Pr:=pr19::qs7
theorem qi2:∀p,p∈qsn→p.ok prog:=qaD qqR qiV
def pr20:Pr:=⟨57,[(.str ⟨⟨[109]⟩⟩)],(.bool true)⟩
theorem qry:pr20.ok prog:=Pr.run (qbn qi2) 200 (by decide+kernel)
def qsV:List Pr:=pr20::qsn
theorem qjD:∀p,p∈qsV→p.ok prog:=qaD qry qi2
def pr21:Pr:=⟨56,[Y1],(.int .i64 0)⟩
theorem qpM:pr21.ok prog:=Pr.run (qbn qjD) 200 (by decide+kernel)
def qr7:List Pr:=pr21::qsV
theorem qjm:∀p,p∈qr7→p.ok prog:=qaD qpM qjD
def pr22:Pr:=⟨24,[Y0,Y1],(.tup [(.bool true),(.int .i64 0)])⟩
theorem qqS:pr22.ok prog:=Pr.run (qbn qjm) 200 (by decide+kernel)
def qsg:List Pr:=pr22::qr7
theorem qiU:∀p,p∈qsg→p.ok prog:=qaD qqS qjm
def pr23:Pr:=⟨57,[(.str ⟨⟨[112]⟩⟩)],(.bool true)⟩
theorem qpq:pr23.ok prog:=Pr.run (qbn qiU) 200 (by decide+kernel)
def qs5:List Pr:=pr23::qsg
theorem qjb:∀p,p∈qs5→p.ok prog:=qaD qpq qiU
def pr24:Pr:=⟨57,[(.str ⟨⟨[97]⟩⟩)],(.bool true)⟩
theorem qpf:pr24.ok prog:=Pr.run (qbn qjb) 200 (by decide+kernel)
def qte:List Pr:=pr24::qs5
theorem qiX:∀p,p∈qte→p.ok prog:=qaD qpf qjb
set_option maxRecDepth 20000
def pr25:Pr:=⟨57,[(.str ⟨⟨[98]⟩⟩)],(.bool true)⟩
theorem qp7:pr25.ok prog:=Pr.run (qbn qiX) 200 (by decide+kernel)
def qrY:List Pr:=pr25::qte
theorem qjB:∀p,p∈qrY→p.ok prog:=qaD qp7 qiX
def pr26:Pr:=⟨130,[Y2],(.int .i64 0)⟩
theorem qpc:pr26.ok prog:=Pr.run (qbn qjB) 200 (by decide+kernel)
def qsF:List Pr:=pr26::qrY
theorem qiF:∀p,p∈qsF→p.ok prog:=qaD qpc qjB
def pr27:Pr:=⟨90,[Y3],(.int .i64 0)⟩
theorem qq6:pr27.ok prog:=Pr.run (qbn qiF) 200 (by decide+kernel)
def qsf:List Pr:=pr27::qsF
theorem qi5:∀p,p∈qsf→p.ok prog:=qaD qq6 qiF
def pr28:Pr:=⟨57,[(.str ⟨⟨[107]⟩⟩)],(.bool true)⟩
theorem qqF:pr28.ok prog:=Pr.run (qbn qi5) 200 (by decide+kernel)
def qtc:List Pr:=pr28::qsf
theorem qiY:∀p,p∈qtc→p.ok prog:=qaD qqF qi5
def pr29:Pr:=⟨90,[Y8],(.int .i64 0)⟩
theorem qpi:pr29.ok prog:=Pr.run (qbn qiY) 200 (by decide+kernel)
def qsc:List Pr:=pr29::qtc
theorem qjn:∀p,p∈qsc→p.ok prog:=qaD qpi qiY
def pr30:Pr:=⟨27,[Y2,(.sl true [Y3,Y8])],(.tup [Y5,(.int .i64 0)])⟩
theorem qq4:pr30.ok prog:=Pr.run (qbn qjn) 200 (by decide+kernel)
def qr2:List Pr:=pr30::qsc
theorem qja:∀p,p∈qr2→p.ok prog:=qaD qq4 qjn
set_option maxRecDepth 20000
def pr31:Pr:=⟨27,[Y2,(.sl true [Y8,Y8])],(.tup [Y14,(.int .i64 10)])⟩
theorem qpr:pr31.ok prog:=Pr.run (qbn qja) 200 (by decide+kernel)
def qsH:List Pr:=pr31::qr2
theorem qiT:∀p,p∈qsH→p.ok prog:=qaD qpr qja
def pr32:Pr:=⟨23,[Y5,(.agg [(.sl true []),(.int .i64 7),(.str ⟨⟨[]⟩⟩),(.sl true []),(.sl true []),(.sl true []),(.sl true [Y20]),(.sl true [(.agg [(.sl true []),(.int .i64 2),(.str ⟨⟨[]⟩⟩),(.sl true [Y11]),(.sl true [Y8]),(.sl true []),(.sl true []),(.sl true [])]),(.agg [(.sl true []),(.int .i64 7),(.str ⟨⟨[]⟩⟩),(.sl true []),(.sl true []),(.sl true []),Y18,(.sl true [(.agg [(.sl true []),(.int .i64 2),(.str ⟨⟨[]⟩⟩),(.sl true [Y4]),(.sl true [Y11]),(.sl true []),(.sl true []),(.sl true [])]),(.agg [(.sl true []),(.int .i64 2),(.str ⟨⟨[]⟩⟩),(.sl true [Y3]),(.sl true [(.agg [(.int .i64 10),(.int .i64 3),(.int .i64 0),(.int .i64 0),(.int .i64 0),(.str ⟨⟨[]⟩⟩),(.sl true [Y3,Y4])])]),(.sl true []),(.sl true []),(.sl true [])])])])])])],(.bool true)⟩
theorem qqQ:pr32.ok prog:=Pr.run (qbn qiT) 200 (by decide+kernel)
def qsM:List Pr:=pr32::qsH
theorem qjf:∀p,p∈qsM→p.ok prog:=qaD qqQ qiT
def pr33:Pr:=⟨53,[(.str ⟨⟨[120,49]⟩⟩),(.str ⟨⟨[108]⟩⟩),Y10,Y9],Y7⟩
theorem qq7:pr33.ok prog:=Pr.run (qbn qjf) 200 (by decide+kernel)
def qsW:List Pr:=pr33::qsM
theorem qi7:∀p,p∈qsW→p.ok prog:=qaD qq7 qjf
def pr34:Pr:=⟨23,[Y6,Y7],(.bool true)⟩
theorem qpC:pr34.ok prog:=Pr.run (qbn qi7) 200 (by decide+kernel)
def qst:List Pr:=pr34::qsW
theorem qiR:∀p,p∈qst→p.ok prog:=qaD qpC qi7
def pr35:Pr:=⟨30,[(.sl false [(.str ⟨⟨[121]⟩⟩),(.str ⟨⟨[122]⟩⟩)]),(.sl true [(.str ⟨⟨[121]⟩⟩),(.str ⟨⟨[122]⟩⟩)])],(.bool true)⟩
theorem qpQ:pr35.ok prog:=Pr.run (qbn qiR) 200 (by decide+kernel)
def qsw:List Pr:=pr35::qst
theorem qiM:∀p,p∈qsw→p.ok prog:=qaD qpQ qiR
def pr36:Pr:=⟨30,[(.sl false [(.str ⟨⟨[108]⟩⟩),(.str ⟨⟨[120]⟩⟩)]),(.sl true [(.str ⟨⟨[108]⟩⟩),(.str ⟨⟨[120]⟩⟩)])],(.bool true)⟩
theorem qrb:pr36.ok prog:=Pr.run (qbn qiM) 200 (by decide+kernel)
def qtA:List Pr:=pr36::qsw
theorem qnE:∀p,p∈qtA→p.ok prog:=qaD qrb qiM
set_option maxRecDepth 20000
def qs6:Pr:=⟨18,[],.bool true⟩
theorem qrk:qs6.ok prog:=Pr.run (qbn qnE) 200 (by decide+kernel)
theorem qis{s:ByteArray}(h:qab s=true):s.size≤16:=by
 unfold qab at h;simp only[qtL,decide_eq_true_eq] at h;exact h.1.1.1.2
theorem qfU(S:St):Fn prog 18 [] S (.bool true):=qrk S
end Go.Proofs.YtbifpocccfkhhaaGreatDoor
namespace Go.Proofs.YtbifpocccfkhhaaGreatDoor
open Go Go.ChangeShapes Go.WideShapes Go.ChangeAt Go.RowKit
def E0(W:World):En:=⟨fun b o=>W.cell? ⟨b,o,none⟩,fun _ _=>none⟩
theorem laid_tail{P:Program}{W:World}{x:String×DataW Unit}{l:List (String×DataW Unit)}(h:laidMet P (x::l) W):laidMet P l W:=by
 obtain ⟨ps,hl,hn,hf⟩:=h;obtain ⟨n,d⟩:=x;obtain ⟨g,t,cs,fuel,p,q,h1,h2,h3,h4,h5,rfl⟩:=hl;refine ⟨q,h5,?_,fun b off hm=>hf b off (qvd _ hm)⟩;exact (List.nodup_append.1 hn).2.1
theorem tab_cells{P:Program}{W:World}{name:String}{k:IntKind}{zs:List Int}{g:Nat}(hg:P.globalNamed name=some g)(h:Lib.TabIs P W name k zs):
  ∃t fz,W.heap[g]?=some (.cells (zs.map fun z=>Value.int k z).toArray t fz):=by
 unfold Lib.TabIs World.var? at h;rw[hg] at h;simp only[qtZ] at h;split at h
 ·rename_i cs t fz hh;cases h;exact ⟨t,fz,hh⟩
 ·cases h
theorem gSp : Tryz.prog.globalNamed "strings.asciiSpace" = some 0 := by kernel_rfl
theorem gPow : Tryz.prog.globalNamed "internal/strconv.uint64pow10" = some 2 := by kernel_rfl
theorem gSpType:(Tryz.prog.globals[0]?).map (·.type)=some 228:=by kernel_rfl
theorem gPowType:(Tryz.prog.globals[2]?).map (·.type)=some 264:=by kernel_rfl
theorem sp_at:∀o,o<256→Lib.asciiSpaceTab.getD o 0=(if o=9∨o=10∨o=11∨o=12∨o=13∨o=32 then 1 else 0):=by decide+kernel
theorem sp_is:(Rows.laid_strings_asciiSpace:DataW Unit)=Lib.tabData .u8 Lib.asciiSpaceTab:=by kernel_rfl
theorem pow_is:(Rows.laid_internal_strconv_uint64pow10:DataW Unit)=Lib.tabData .u64 Lib.pow10Tab:=by kernel_rfl
theorem SR.start{W:World}(h:laidMetH Tryz.prog Rows.copyFreshRow.laid W):SR (E0 W) [] W:=by
 have h0 : laidMet Tryz.prog [("math/bits.deBruijn32tab", Rows.laid_math_bits_deBruijn32tab), ("math/bits.deBruijn64tab", Rows.laid_math_bits_deBruijn64tab), ("internal/strconv.uint64pow10", Rows.laid_internal_strconv_uint64pow10), ("unicode.White_Space", Rows.laid_unicode_White_Space), ("strings.asciiSpace", Rows.laid_strings_asciiSpace)] W := h
 have h3:=laid_tail (laid_tail h0);have h5:=laid_tail (laid_tail h3);rw[pow_is] at h3;rw[sp_is] at h5
 have t1 : Lib.TabIs Tryz.prog W "strings.asciiSpace" .u8 Lib.asciiSpaceTab := Lib.tabIs_of_head gSp gSpType Tryz.underlying228 (by kernel_rfl) (by kernel_rfl) (by kernel_rfl) h5
 have t2 : Lib.TabIs Tryz.prog W "internal/strconv.uint64pow10" .u64 Lib.pow10Tab := Lib.tabIs_of_head gPow gPowType Tryz.underlying264 (by kernel_rfl) (by kernel_rfl) (by kernel_rfl) h3
 refine ⟨⟨fun g o k n hg=>?_,fun g cs hg=>?_⟩,fun b o c h=>h,fun l o h=>by simp at h,fun l st x h=>by simp[E0] at h,fun b o ⟨l,st,x,_,h,_⟩=>by simp[E0] at h,fun b ⟨l,st,x,_,h,_⟩=>by simp[E0] at h,fun l l' st st' x x' _ _ h=>by simp[E0] at h⟩
 ·unfold qjL at hg;split at hg
  ·rename_i hc;obtain ⟨rfl,ho⟩:=hc;cases hg;have:=t1.cell gSp o (by rw[Lib.asciiSpaceTab_length];exact ho);rw[sp_at o ho] at this;exact this
  ·split at hg
   ·rename_i hc;obtain ⟨rfl,ho⟩:=hc;cases hg;have:=t2.cell gPow o (by rw[Lib.pow10Tab_length];exact ho);rw[Lib.pow10Tab_at o ho] at this;exact_mod_cast this
   ·cases hg
 ·unfold qlQ at hg;split at hg
  ·rename_i hc;subst hc;cases hg;obtain ⟨t2,f2,g2⟩:=tab_cells gPow t2;refine ⟨t2,f2,?_⟩;rw[g2];simp[Lib.pow10Tab,qvs,Function.comp]
  ·cases hg
theorem own_none{W:World}{b:Nat}:¬ own (E0 W) [] b:=fun ⟨l,st,x,_,h,_⟩=>by simp[E0] at h
theorem kept_of{n:Nat}{W W':World}{E':En}{S':St}(h:Ext n (E0 W) [] W E' S' W')(may:MemPlace→Prop):W.keptBut W' may:=by
 have ho:=h.out;simp only[Prod.mk.injEq] at ho;refine ⟨ho.2,ho.1,fun i hi=>?_⟩;have:=h.frame i hi own_none;rw[this]
 cases hh:W.heap[i]? with
 | none=>trivial
 | some o=>cases o <;> simp
theorem same_of{n:Nat}{W W':World}{E':En}{S':St}(h:Ext n (E0 W) [] W E' S' W'){p:MemPlace}(hp:p.block<W.heap.size):W.sameAt W' p:=by
 have hb:=h.frame p.block hp own_none
 cases p with
 | cell b o=>exact cell?_heap hb
 | map b=>exact hb
theorem carryAll{H:Type}{enc:TypeId×Value→H}{P:Program}{w w':World}{sp:Nat→Bool}:∀{ts:List TypeId} {vs:List Value} {ds:List (DataW H)} {ps:List MemPlace},DataW.TrodAll enc P w 0 sp true ts vs ds ps→(∀p∈ps,w.sameAt w' p)→DataW.TrodAll enc P w' 0 sp true ts vs ds ps
 | [],[],[],_,h,_=>h
 | _::_,_::_,_::_,_,⟨p,q,⟨n,h1⟩,h2,e⟩,hs=>⟨p,q,⟨n,DataW.trod_carry n _ _ _ h1 fun x hx=>hs x (by rw[e];exact qu3 _ hx)⟩,carryAll h2 (fun x hx=>hs x (by rw[e];exact qvd _ hx)),e⟩
theorem kids:Kids Tryz.prog (·<Tryz.prog.types.size):=kids_rows (by kernel_rfl) (by kernel_rfl)
theorem full:∀t e,t<Tryz.prog.types.size→Tryz.prog.underlying t=some (.slice e)→0<Tryz.prog.cellsOf e:=slices_full_of Tryz.prog (by kernel_rfl)
theorem law_of{H:Type}{enc:TypeId×Value→H}{k:Nat}{f:Func}{s:ChangeSpec}{W:World}{args:Array Value}{ds gs:List (DataW H)}{before:List MemPlace}{vs:List V}
  (hspec:Fn Tryz.prog k vs [] (.bool true)) (hs:SR (E0 W) [] W) (hv:VRs (E0 W) vs args) (hty:f.params.toList.all (fun t=>decide (t<Tryz.prog.types.size))=true) (hres:f.resultTypes=#[4])
  (hvars:s.vars=[]) (hW:DataW.Whole enc Tryz.prog f.params.toList s.vars false W args.toList ds gs before)
  (hfn:s.fn H (ds++gs)={ results:=[.lit (.bool true)],args:=ds++gs }):
  Calls Tryz.prog k args W fun e W'=>∃v,e=.returned v∧s.post enc Tryz.prog f false true false false W args v W':=by
 have hc:=callsIn_wide.1 (hspec.2 (E0 W) W args 0 hs hv);refine hc.mono ?_;rintro e W' ⟨u,r,E',S',rfl,⟨rfl,rfl⟩,hr,hs',hx,_⟩;cases hr;have hW':=hW;obtain ⟨p,q,hA,hV,hb,hz,hn⟩:=hW;rw[hvars] at hV;obtain ⟨rfl,rfl⟩:=trodVars_none hV;rw[quG] at hb;subst hb;rw[quG] at hfn;refine ⟨_,rfl,ds,[],before,[],before,[],hW',?_,?_,?_,kept_of hx _,fun h=>by cases h⟩
 ·rw[quG,hfn,hres];exact trodAll_cons_mk (shut_bool Tryz.underlying4 _) trodAll_mk0
 ·rw[quG,hfn];have hlt:∀p∈before,p.block<W.heap.size:=fun p hp=>hW'.lt p hp
  refine carryAll (DataW.TrodAll.respare kids full (fun t ht=>?_) hA fun p hp=>by simpa using hlt p hp) fun p hp=>same_of hx (hlt p hp)
  have:=qt2.1 hty t ht;simpa using this
 ·rw[quG,hfn,hvars];rfl
end Go.Proofs.YtbifpocccfkhhaaGreatDoor
end
