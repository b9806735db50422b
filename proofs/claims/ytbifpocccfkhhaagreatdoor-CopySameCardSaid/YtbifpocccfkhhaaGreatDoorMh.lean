/- Part of the proof. -/
import Derived.Test.YtbifpocccfkhhaaGreatDoorMg
import Derived.Test.YtbifpocccfkhhaaGreatDoorCards
import Derived.Test.YtbifpocccfkhhaaGreatDoorTie
import Derived.WalkKit
import Derived.ProofKit
import Derived.OpenShut
import Derived.SliceStrings
import Derived.Deep.DeepHandedRow
import Derived.Deep.DeepWitnessRowRef
import Derived.Lib.LaidTab
import Derived.Lib.Space
import Derived.ReadAgain
set_option linter.all false
noncomputable section
namespace Go.Proofs.YtbifpocccfkhhaaGreatDoor
open Go Go.Proofs.Tryz
set_option maxRecDepth 20000
def pr7:Pr:=⟨56,[Y0],(.int .i64 0)⟩
theorem qqp:pr7.ok prog:=Pr.run (qa4 qkE) 200 (by decide+kernel)
def prs7:List Pr:=pr7::prs6
theorem qlc:∀p,p∈prs7→p.ok prog:=qau qqp qkE
def pr8:Pr:=⟨29,[Y0],(.tup [(.sl false [(.str ⟨⟨[121]⟩⟩),(.str ⟨⟨[122]⟩⟩)]),(.int .i64 0)])⟩
theorem qp6:pr8.ok prog:=Pr.run (qa4 qlc) 200 (by decide+kernel)
def prs8:List Pr:=pr8::prs7
theorem qj5:∀p,p∈prs8→p.ok prog:=qau qp6 qlc
def pr9:Pr:=⟨31,[Y0],(.tup [(.sl false [(.str ⟨⟨[108]⟩⟩),(.str ⟨⟨[120]⟩⟩)]),(.int .i64 0)])⟩
theorem qqG:pr9.ok prog:=Pr.run (qa4 qj5) 200 (by decide+kernel)
def prs9:List Pr:=pr9::prs8
theorem qlv:∀p,p∈prs9→p.ok prog:=qau qqG qj5
def pr10:Pr:=⟨90,[Y10],(.int .i64 0)⟩
theorem qoj:pr10.ok prog:=Pr.run (qa4 qlv) 200 (by decide+kernel)
def qqK:List Pr:=pr10::prs9
theorem qhS:∀p,p∈qqK→p.ok prog:=qau qoj qlv
def pr11:Pr:=⟨57,[(.str ⟨⟨[113]⟩⟩)],(.bool true)⟩
theorem qn1:pr11.ok prog:=Pr.run (qa4 qhS) 200 (by decide+kernel)
def qqF:List Pr:=pr11::qqK
theorem qhZ:∀p,p∈qqF→p.ok prog:=qau qn1 qhS
def pr12:Pr:=⟨57,[(.str ⟨⟨[105]⟩⟩)],(.bool true)⟩
theorem qn8:pr12.ok prog:=Pr.run (qa4 qhZ) 200 (by decide+kernel)
def qqu:List Pr:=pr12::qqF
theorem qiq:∀p,p∈qqu→p.ok prog:=qau qn8 qhZ
set_option maxRecDepth 20000
def pr13:Pr:=⟨90,[Y9],(.int .i64 0)⟩
theorem qnP:pr13.ok prog:=Pr.run (qa4 qiq) 200 (by decide+kernel)
def qpL:List Pr:=pr13::qqu
theorem qie:∀p,p∈qpL→p.ok prog:=qau qnP qiq
def pr14:Pr:=⟨57,[(.str ⟨⟨[120,49]⟩⟩)],(.bool true)⟩
theorem qni:pr14.ok prog:=Pr.run (qa4 qie) 200 (by decide+kernel)
def qqQ:List Pr:=pr14::qpL
theorem qhL:∀p,p∈qqQ→p.ok prog:=qau qni qie
def pr15:Pr:=⟨32,[Y0,(.sl true [(.str ⟨⟨[121]⟩⟩),(.str ⟨⟨[122]⟩⟩)]),(.sl true [Y10,Y9])],(.tup [Y6,(.int .i64 0)])⟩
theorem qnY:pr15.ok prog:=Pr.run (qa4 qhL) 200 (by decide+kernel)
def qp9:List Pr:=pr15::qqQ
theorem qhJ:∀p,p∈qp9→p.ok prog:=qau qnY qhL
def pr16:Pr:=⟨19,[Y0,(.str ⟨⟨[121]⟩⟩),(.str ⟨⟨[120]⟩⟩)],(.tup [Y14,(.int .i64 10)])⟩
theorem qpz:pr16.ok prog:=Pr.run (qa4 qhJ) 200 (by decide+kernel)
def qpN:List Pr:=pr16::qp9
theorem qhM:∀p,p∈qpN→p.ok prog:=qau qpz qhJ
def pr17:Pr:=⟨19,[Y0,(.str ⟨⟨[121]⟩⟩),(.str ⟨⟨[122]⟩⟩)],(.tup [Y14,(.int .i64 6)])⟩
theorem qo0:pr17.ok prog:=Pr.run (qa4 qhM) 200 (by decide+kernel)
def qp8:List Pr:=pr17::qpN
theorem qij:∀p,p∈qp8→p.ok prog:=qau qo0 qhM
def pr18:Pr:=⟨53,[(.str ⟨⟨[116]⟩⟩),(.str ⟨⟨[109]⟩⟩),Y12,Y13],Y1⟩
theorem qn2:pr18.ok prog:=Pr.run (qa4 qij) 200 (by decide+kernel)
def qqE:List Pr:=pr18::qp8
theorem qhY:∀p,p∈qqE→p.ok prog:=qau qn2 qij
set_option maxRecDepth 20000
def pr19:Pr:=⟨57,[(.str ⟨⟨[116]⟩⟩)],(.bool true)⟩
theorem qoG:pr19.ok prog:=Pr.run (qa4 qhY) 200 (by decide+kernel)
def qp5:List Pr:=pr19::qqE
theorem qh3:∀p,p∈qp5→p.ok prog:=qau qoG qhY
def pr20:Pr:=⟨57,[(.str ⟨⟨[109]⟩⟩)],(.bool true)⟩
theorem qpm:pr20.ok prog:=Pr.run (qa4 qh3) 200 (by decide+kernel)
def qqv:List Pr:=pr20::qp5
theorem qiz:∀p,p∈qqv→p.ok prog:=qau qpm qh3
def pr21:Pr:=⟨56,[Y1],(.int .i64 0)⟩
theorem qnD:pr21.ok prog:=Pr.run (qa4 qiz) 200 (by decide+kernel)
def qpT:List Pr:=pr21::qqv
theorem qim:∀p,p∈qpT→p.ok prog:=qau qnD qiz
def pr22:Pr:=⟨24,[Y0,Y1],(.tup [(.bool true),(.int .i64 0)])⟩
theorem qoH:pr22.ok prog:=Pr.run (qa4 qim) 200 (by decide+kernel)
def qp0:List Pr:=pr22::qpT
theorem qhX:∀p,p∈qp0→p.ok prog:=qau qoH qim
def pr23:Pr:=⟨57,[(.str ⟨⟨[112]⟩⟩)],(.bool true)⟩
theorem qnj:pr23.ok prog:=Pr.run (qa4 qhX) 200 (by decide+kernel)
def qqC:List Pr:=pr23::qp0
theorem qib:∀p,p∈qqC→p.ok prog:=qau qnj qhX
def pr24:Pr:=⟨57,[(.str ⟨⟨[97]⟩⟩)],(.bool true)⟩
theorem qna:pr24.ok prog:=Pr.run (qa4 qib) 200 (by decide+kernel)
def qqJ:List Pr:=pr24::qqC
theorem qh0:∀p,p∈qqJ→p.ok prog:=qau qna qib
set_option maxRecDepth 20000
def pr25:Pr:=⟨57,[(.str ⟨⟨[98]⟩⟩)],(.bool true)⟩
theorem qnZ:pr25.ok prog:=Pr.run (qa4 qh0) 200 (by decide+kernel)
def qpK:List Pr:=pr25::qqJ
theorem qiy:∀p,p∈qpK→p.ok prog:=qau qnZ qh0
def pr26:Pr:=⟨130,[Y2],(.int .i64 0)⟩
theorem qm7:pr26.ok prog:=Pr.run (qa4 qiy) 200 (by decide+kernel)
def qqk:List Pr:=pr26::qpK
theorem qhH:∀p,p∈qqk→p.ok prog:=qau qm7 qiy
def pr27:Pr:=⟨90,[Y3],(.int .i64 0)⟩
theorem qoU:pr27.ok prog:=Pr.run (qa4 qhH) 200 (by decide+kernel)
def qpZ:List Pr:=pr27::qqk
theorem qh6:∀p,p∈qpZ→p.ok prog:=qau qoU qhH
def pr28:Pr:=⟨57,[(.str ⟨⟨[107]⟩⟩)],(.bool true)⟩
theorem qou:pr28.ok prog:=Pr.run (qa4 qh6) 200 (by decide+kernel)
def qqI:List Pr:=pr28::qpZ
theorem qh1:∀p,p∈qqI→p.ok prog:=qau qou qh6
def pr29:Pr:=⟨90,[Y8],(.int .i64 0)⟩
theorem qnb:pr29.ok prog:=Pr.run (qa4 qh1) 200 (by decide+kernel)
def qpX:List Pr:=pr29::qqI
theorem qin:∀p,p∈qpX→p.ok prog:=qau qnb qh1
def pr30:Pr:=⟨27,[Y2,(.sl true [Y3,Y8])],(.tup [Y5,(.int .i64 0)])⟩
theorem qoP:pr30.ok prog:=Pr.run (qa4 qin) 200 (by decide+kernel)
def qpP:List Pr:=pr30::qpX
theorem qia:∀p,p∈qpP→p.ok prog:=qau qoP qin
set_option maxRecDepth 20000
def pr31:Pr:=⟨27,[Y2,(.sl true [Y8,Y8])],(.tup [Y14,(.int .i64 10)])⟩
theorem qnk:pr31.ok prog:=Pr.run (qa4 qia) 200 (by decide+kernel)
def qqm:List Pr:=pr31::qpP
theorem qhW:∀p,p∈qqm→p.ok prog:=qau qnk qia
def pr32:Pr:=⟨23,[Y5,(.agg [(.sl true []),(.int .i64 7),(.str ⟨⟨[]⟩⟩),(.sl true []),(.sl true []),(.sl true []),(.sl true [Y20]),(.sl true [(.agg [(.sl true []),(.int .i64 2),(.str ⟨⟨[]⟩⟩),(.sl true [Y11]),(.sl true [Y8]),(.sl true []),(.sl true []),(.sl true [])]),(.agg [(.sl true []),(.int .i64 7),(.str ⟨⟨[]⟩⟩),(.sl true []),(.sl true []),(.sl true []),Y18,(.sl true [(.agg [(.sl true []),(.int .i64 2),(.str ⟨⟨[]⟩⟩),(.sl true [Y4]),(.sl true [Y11]),(.sl true []),(.sl true []),(.sl true [])]),(.agg [(.sl true []),(.int .i64 2),(.str ⟨⟨[]⟩⟩),(.sl true [Y3]),(.sl true [(.agg [(.int .i64 10),(.int .i64 3),(.int .i64 0),(.int .i64 0),(.int .i64 0),(.str ⟨⟨[]⟩⟩),(.sl true [Y3,Y4])])]),(.sl true []),(.sl true []),(.sl true [])])])])])])],(.bool true)⟩
theorem qoF:pr32.ok prog:=Pr.run (qa4 qhW) 200 (by decide+kernel)
def qqq:List Pr:=pr32::qqm
theorem qig:∀p,p∈qqq→p.ok prog:=qau qoF qhW
def pr33:Pr:=⟨53,[(.str ⟨⟨[120,49]⟩⟩),(.str ⟨⟨[108]⟩⟩),Y10,Y9],Y7⟩
theorem qoV:pr33.ok prog:=Pr.run (qa4 qig) 200 (by decide+kernel)
def qqw:List Pr:=pr33::qqq
theorem qh7:∀p,p∈qqw→p.ok prog:=qau qoV qig
def pr34:Pr:=⟨23,[Y6,Y7],(.bool true)⟩
theorem qnu:pr34.ok prog:=Pr.run (qa4 qh7) 200 (by decide+kernel)
def qqb:List Pr:=pr34::qqw
theorem qhU:∀p,p∈qqb→p.ok prog:=qau qnu qh7
def pr35:Pr:=⟨30,[(.sl false [(.str ⟨⟨[121]⟩⟩),(.str ⟨⟨[122]⟩⟩)]),(.sl true [(.str ⟨⟨[121]⟩⟩),(.str ⟨⟨[122]⟩⟩)])],(.bool true)⟩
theorem qnI:pr35.ok prog:=Pr.run (qa4 qhU) 200 (by decide+kernel)
def qqd:List Pr:=pr35::qqb
theorem qhN:∀p,p∈qqd→p.ok prog:=qau qnI qhU
def pr36:Pr:=⟨30,[(.sl false [(.str ⟨⟨[108]⟩⟩),(.str ⟨⟨[120]⟩⟩)]),(.sl true [(.str ⟨⟨[108]⟩⟩),(.str ⟨⟨[120]⟩⟩)])],(.bool true)⟩
theorem qoZ:pr36.ok prog:=Pr.run (qa4 qhN) 200 (by decide+kernel)
def qq0:List Pr:=pr36::qqd
theorem qlF:∀p,p∈qq0→p.ok prog:=qau qoZ qhN
set_option maxRecDepth 20000
def qqD:Pr:=⟨18,[],.bool true⟩
theorem qpa:qqD.ok prog:=Pr.run (qa4 qlF) 200 (by decide+kernel)
theorem qhx{s:ByteArray}(h:qac s=true):s.size≤16:=by
 unfold qac at h;simp only[qri,decide_eq_true_eq] at h;exact h.1.1.1.2
theorem qev(S:St):Fn prog 18 [] S (.bool true):=qpa S
end Go.Proofs.YtbifpocccfkhhaaGreatDoor
namespace Go.Proofs.YtbifpocccfkhhaaGreatDoor
open Go Go.ChangeShapes Go.WideShapes Go.ChangeAt Go.RowKit
def E0(W:World):En:=⟨fun b o=>W.cell? ⟨b,o,none⟩,fun _ _=>none⟩
theorem laid_tail{P:Program}{W:World}{x:String×DataW Unit}{l:List (String×DataW Unit)}(h:laidMet P (x::l) W):laidMet P l W:=by
 obtain ⟨ps,hl,hn,hf⟩:=h;obtain ⟨n,d⟩:=x;obtain ⟨g,t,cs,fuel,p,q,h1,h2,h3,h4,h5,rfl⟩:=hl;refine ⟨q,h5,?_,fun b off hm=>hf b off (qsx _ hm)⟩;exact (List.nodup_append.1 hn).2.1
theorem tab_cells{P:Program}{W:World}{name:String}{k:IntKind}{zs:List Int}{g:Nat}(hg:P.globalNamed name=some g)(h:Lib.TabIs P W name k zs):
  ∃t fz,W.heap[g]?=some (.cells (zs.map fun z=>Value.int k z).toArray t fz):=by
 unfold Lib.TabIs World.var? at h;rw[hg] at h;simp only[qrg] at h;split at h
 ·rename_i cs t fz hh;cases h;exact ⟨t,fz,hh⟩
 ·cases h
theorem gSp : Tryz.prog.globalNamed "strings.asciiSpace" = some 0 := by kernel_rfl
theorem gPow : Tryz.prog.globalNamed "internal/strconv.uint64pow10" = some 2 := by kernel_rfl
theorem gSpType:(Tryz.prog.globals[0]?).map (·.type)=some 228:=by kernel_rfl
theorem gPowType:(Tryz.prog.globals[2]?).map (·.type)=some 264:=by kernel_rfl
theorem sp_at:∀o,o<256→Lib.asciiSpaceTab.getD o 0=(if o=9∨o=10∨o=11∨o=12∨o=13∨o=32 then 1 else 0):=by decide+kernel
theorem sp_is:(Rows.laid_strings_asciiSpace:DataW Unit)=Lib.tabData .u8 Lib.asciiSpaceTab:=by kernel_rfl
theorem pow_is:(Rows.laid_internal_strconv_uint64pow10:DataW Unit)=Lib.tabData .u64 Lib.pow10Tab:=by kernel_rfl
theorem SR.start{W:World}(h:laidMetH Tryz.prog Rows.copyFreshRow.laid W):SR (E0 W) [] W:=by
 have h0 : laidMet Tryz.prog [("math/bits.deBruijn32tab", Rows.laid_math_bits_deBruijn32tab), ("math/bits.deBruijn64tab", Rows.laid_math_bits_deBruijn64tab), ("internal/strconv.uint64pow10", Rows.laid_internal_strconv_uint64pow10), ("unicode.White_Space", Rows.laid_unicode_White_Space), ("strings.asciiSpace", Rows.laid_strings_asciiSpace)] W := h
 have h3:=laid_tail (laid_tail h0);have h5:=laid_tail (laid_tail h3);rw[pow_is] at h3;rw[sp_is] at h5
 have t1 : Lib.TabIs Tryz.prog W "strings.asciiSpace" .u8 Lib.asciiSpaceTab := Lib.tabIs_of_head gSp gSpType Tryz.underlying228 (by kernel_rfl) (by kernel_rfl) (by kernel_rfl) h5
 have t2 : Lib.TabIs Tryz.prog W "internal/strconv.uint64pow10" .u64 Lib.pow10Tab := Lib.tabIs_of_head gPow gPowType Tryz.underlying264 (by kernel_rfl) (by kernel_rfl) (by kernel_rfl) h3
 refine ⟨⟨fun g o k n hg=>?_,fun g cs hg=>?_⟩,fun b o c h=>h,fun l o h=>by simp at h,fun l st x h=>by simp[E0] at h,fun b o ⟨l,st,x,_,h,_⟩=>by simp[E0] at h,fun b ⟨l,st,x,_,h,_⟩=>by simp[E0] at h,fun l l' st st' x x' _ _ h=>by simp[E0] at h⟩
 ·unfold qiI at hg;split at hg
  ·rename_i hc;obtain ⟨rfl,ho⟩:=hc;cases hg;have:=t1.cell gSp o (by rw[Lib.asciiSpaceTab_length];exact ho);rw[sp_at o ho] at this;exact this
  ·split at hg
   ·rename_i hc;obtain ⟨rfl,ho⟩:=hc;cases hg;have:=t2.cell gPow o (by rw[Lib.pow10Tab_length];exact ho);rw[Lib.pow10Tab_at o ho] at this;exact_mod_cast this
   ·cases hg
 ·unfold qiV at hg;split at hg
  ·rename_i hc;subst hc;cases hg;obtain ⟨t2,f2,g2⟩:=tab_cells gPow t2;refine ⟨t2,f2,?_⟩;rw[g2];simp[Lib.pow10Tab,List.map_map,Function.comp]
  ·cases hg
theorem own_none{W:World}{b:Nat}:¬ own (E0 W) [] b:=fun ⟨l,st,x,_,h,_⟩=>by simp[E0] at h
theorem kept_of{n:Nat}{W W':World}{E':En}{S':St}(h:Ext n (E0 W) [] W E' S' W')(may:MemPlace→Prop):W.keptBut W' may:=by
 have ho:=h.out;simp only[Prod.mk.injEq] at ho;refine ⟨ho.2,ho.1,fun i hi=>?_⟩;have:=h.frame i hi own_none;rw[this]
 cases hh:W.heap[i]? with
 | none=>trivial
 | some o=>cases o <;> simp
theorem same_of{n:Nat}{W W':World}{E':En}{S':St}(h:Ext n (E0 W) [] W E' S' W'){p:MemPlace}(hp:p.block<W.heap.size):W.sameAt W' p:=by
 have hb:=h.frame p.block hp own_none
 cases p with
 | cell b o=>exact cell?_heap hb
 | map b=>exact hb
theorem carryAll{H:Type}{enc:TypeId×Value→H}{P:Program}{w w':World}{sp:Nat→Bool}:∀{ts:List TypeId} {vs:List Value} {ds:List (DataW H)} {ps:List MemPlace},DataW.TrodAll enc P w 0 sp true ts vs ds ps→(∀p∈ps,w.sameAt w' p)→DataW.TrodAll enc P w' 0 sp true ts vs ds ps
 | [],[],[],_,h,_=>h
 | _::_,_::_,_::_,_,⟨p,q,⟨n,h1⟩,h2,e⟩,hs=>⟨p,q,⟨n,DataW.trod_carry n _ _ _ h1 fun x hx=>hs x (by rw[e];exact qsy _ hx)⟩,carryAll h2 (fun x hx=>hs x (by rw[e];exact qsx _ hx)),e⟩
theorem kids:Kids Tryz.prog (·<Tryz.prog.types.size):=kids_rows (by kernel_rfl) (by kernel_rfl)
theorem full:∀t e,t<Tryz.prog.types.size→Tryz.prog.underlying t=some (.slice e)→0<Tryz.prog.cellsOf e:=slices_full_of Tryz.prog (by kernel_rfl)
theorem law_of{H:Type}{enc:TypeId×Value→H}{k:Nat}{f:Func}{s:ChangeSpec}{W:World}{args:Array Value}{ds gs:List (DataW H)}{before:List MemPlace}{vs:List V}
  (hspec:Fn Tryz.prog k vs [] (.bool true)) (hs:SR (E0 W) [] W) (hv:VRs (E0 W) vs args) (hty:f.params.toList.all (fun t=>decide (t<Tryz.prog.types.size))=true) (hres:f.resultTypes=#[4])
  (hvars:s.vars=[]) (hW:DataW.Whole enc Tryz.prog f.params.toList s.vars false W args.toList ds gs before)
  (hfn:s.fn H (ds++gs)={ results:=[.lit (.bool true)],args:=ds++gs }):
  Calls Tryz.prog k args W fun e W'=>∃v,e=.returned v∧s.post enc Tryz.prog f false true false false W args v W':=by
 have hc:=callsIn_wide.1 (hspec.2 (E0 W) W args 0 hs hv);refine hc.mono ?_;rintro e W' ⟨u,r,E',S',rfl,⟨rfl,rfl⟩,hr,hs',hx,_⟩;cases hr;have hW':=hW;obtain ⟨p,q,hA,hV,hb,hz,hn⟩:=hW;rw[hvars] at hV;obtain ⟨rfl,rfl⟩:=trodVars_none hV;rw[qsm] at hb;subst hb;rw[qsm] at hfn;refine ⟨_,rfl,ds,[],before,[],before,[],hW',?_,?_,?_,kept_of hx _,fun h=>by cases h⟩
 ·rw[qsm,hfn,hres];exact trodAll_cons_mk (shut_bool Tryz.underlying4 _) trodAll_mk0
 ·rw[qsm,hfn];have hlt:∀p∈before,p.block<W.heap.size:=fun p hp=>hW'.lt p hp
  refine carryAll (DataW.TrodAll.respare kids full (fun t ht=>?_) hA fun p hp=>by simpa using hlt p hp) fun p hp=>same_of hx (hlt p hp)
  have:=qrn.1 hty t ht;simpa using this
 ·rw[qsm,hfn,hvars];rfl
end Go.Proofs.YtbifpocccfkhhaaGreatDoor
end
