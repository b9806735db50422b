/- A part. -/
import Derived.Test.YtbifpocccfkhhaaGreatDoorYe
import Derived.Test.YtbifpocccfkhhaaGreatDoorCards
import Derived.Test.YtbifpocccfkhhaaGreatDoorTie
import Derived.WalkKit
import Derived.ProofKit
import Derived.OpenShut
import Derived.SliceStrings
import Derived.Deep.DeepHandedRow
import Derived.Deep.DeepWitnessRowRef
import Derived.Lib.LaidTab
import Derived.Lib.Space
import Derived.ReadAgain
set_option linter.all false
noncomputable section
namespace Go.Proofs.YtbifpocccfkhhaaGreatDoor
open Go Go.Proofs.Tryz
set_option maxRecDepth 20000
def pr7:Pr:=⟨56,[Y0],z0⟩
theorem qu7:pr7.ok prog:=Pr.run (ij qjh) 200 (by decide+kernel)
def qji:List Pr:=pr7::qjg
theorem qjj:∀p,p∈qji->p.ok prog:=iC qu7 qjh
def pr8:Pr:=⟨29,[Y0],(.aV [(.sl false [(.str ⟨⟨[121]⟩⟩),(.str ⟨⟨[122]⟩⟩)]),z0])⟩
theorem qu8:pr8.ok prog:=Pr.run (ij qjj) 200 (by decide+kernel)
def qjk:List Pr:=pr8::qji
theorem qjl:∀p,p∈qjk->p.ok prog:=iC qu8 qjj
def pr9:Pr:=⟨31,[Y0],(.aV [(.sl false [(.str ⟨⟨[108]⟩⟩),(.str ⟨⟨[120]⟩⟩)]),z0])⟩
theorem qu9:pr9.ok prog:=Pr.run (ij qjl) 200 (by decide+kernel)
def qjm:List Pr:=pr9::qjk
theorem qjn:∀p,p∈qjm->p.ok prog:=iC qu9 qjl
def qhD:Pr:=⟨90,[zc],z0⟩
theorem quB:qhD.ok prog:=Pr.run (ij qjn) 200 (by decide+kernel)
def qih:List Pr:=qhD::qjm
theorem qii:∀p,p∈qih->p.ok prog:=iC quB qjn
def qhE:Pr:=⟨57,[(.str ⟨⟨[113]⟩⟩)],(.bool true)⟩
theorem quC:qhE.ok prog:=Pr.run (ij qii) 200 (by decide+kernel)
def qij:List Pr:=qhE::qih
theorem qik:∀p,p∈qij->p.ok prog:=iC quC qii
def qhF:Pr:=⟨57,[(.str ⟨⟨[105]⟩⟩)],(.bool true)⟩
theorem quD:qhF.ok prog:=Pr.run (ij qik) 200 (by decide+kernel)
def qil:List Pr:=qhF::qij
theorem qim:∀p,p∈qil->p.ok prog:=iC quD qik
set_option maxRecDepth 20000
def qhG:Pr:=⟨90,[Y9],z0⟩
theorem quE:qhG.ok prog:=Pr.run (ij qim) 200 (by decide+kernel)
def qin:List Pr:=qhG::qil
theorem qio:∀p,p∈qin->p.ok prog:=iC quE qim
def qhH:Pr:=⟨57,[(.str ⟨⟨[120,49]⟩⟩)],(.bool true)⟩
theorem quF:qhH.ok prog:=Pr.run (ij qio) 200 (by decide+kernel)
def qip:List Pr:=qhH::qin
theorem qiq:∀p,p∈qip->p.ok prog:=iC quF qio
def qhI:Pr:=⟨32,[Y0,(.sl true [(.str ⟨⟨[121]⟩⟩),(.str ⟨⟨[122]⟩⟩)]),(.sl true [zc,Y9])],(.aV [Y6,z0])⟩
theorem quG:qhI.ok prog:=Pr.run (ij qiq) 200 (by decide+kernel)
def qir:List Pr:=qhI::qip
theorem qis:∀p,p∈qir->p.ok prog:=iC quG qiq
def qhJ:Pr:=⟨19,[Y0,(.str ⟨⟨[121]⟩⟩),(.str ⟨⟨[120]⟩⟩)],(.aV [Ul,(.int .i64 10)])⟩
theorem quH:qhJ.ok prog:=Pr.run (ij qis) 200 (by decide+kernel)
def qit:List Pr:=qhJ::qir
theorem qiu:∀p,p∈qit->p.ok prog:=iC quH qis
def qhK:Pr:=⟨19,[Y0,(.str ⟨⟨[121]⟩⟩),(.str ⟨⟨[122]⟩⟩)],(.aV [Ul,(.int .i64 6)])⟩
theorem quI:qhK.ok prog:=Pr.run (ij qiu) 200 (by decide+kernel)
def qiv:List Pr:=qhK::qit
theorem qiw:∀p,p∈qiv->p.ok prog:=iC quI qiu
def qhL:Pr:=⟨53,[(.str ⟨⟨[116]⟩⟩),(.str ⟨⟨[109]⟩⟩),PI,PK],Y1⟩
theorem quJ:qhL.ok prog:=Pr.run (ij qiw) 200 (by decide+kernel)
def qix:List Pr:=qhL::qiv
theorem qiy:∀p,p∈qix->p.ok prog:=iC quJ qiw
set_option maxRecDepth 20000
def qhM:Pr:=⟨57,[(.str ⟨⟨[116]⟩⟩)],(.bool true)⟩
theorem quK:qhM.ok prog:=Pr.run (ij qiy) 200 (by decide+kernel)
def qiz:List Pr:=qhM::qix
theorem qiA:∀p,p∈qiz->p.ok prog:=iC quK qiy
def qhO:Pr:=⟨57,[(.str ⟨⟨[109]⟩⟩)],(.bool true)⟩
theorem quM:qhO.ok prog:=Pr.run (ij qiA) 200 (by decide+kernel)
def qiD:List Pr:=qhO::qiz
theorem qiE:∀p,p∈qiD->p.ok prog:=iC quM qiA
def qhP:Pr:=⟨56,[Y1],z0⟩
theorem quN:qhP.ok prog:=Pr.run (ij qiE) 200 (by decide+kernel)
def qiF:List Pr:=qhP::qiD
theorem qiG:∀p,p∈qiF->p.ok prog:=iC quN qiE
def qhQ:Pr:=⟨24,[Y0,Y1],(.aV [(.bool true),z0])⟩
theorem quO:qhQ.ok prog:=Pr.run (ij qiG) 200 (by decide+kernel)
def qiH:List Pr:=qhQ::qiF
theorem qiI:∀p,p∈qiH->p.ok prog:=iC quO qiG
def qhR:Pr:=⟨57,[(.str ⟨⟨[112]⟩⟩)],(.bool true)⟩
theorem quP:qhR.ok prog:=Pr.run (ij qiI) 200 (by decide+kernel)
def qiJ:List Pr:=qhR::qiH
theorem qiK:∀p,p∈qiJ->p.ok prog:=iC quP qiI
def qhS:Pr:=⟨57,[(.str ⟨⟨[97]⟩⟩)],(.bool true)⟩
theorem quQ:qhS.ok prog:=Pr.run (ij qiK) 200 (by decide+kernel)
def qiL:List Pr:=qhS::qiJ
theorem qiM:∀p,p∈qiL->p.ok prog:=iC quQ qiK
set_option maxRecDepth 20000
def qhT:Pr:=⟨57,[(.str ⟨⟨[98]⟩⟩)],(.bool true)⟩
theorem quR:qhT.ok prog:=Pr.run (ij qiM) 200 (by decide+kernel)
def qiN:List Pr:=qhT::qiL
theorem qiO:∀p,p∈qiN->p.ok prog:=iC quR qiM
def qhU:Pr:=⟨130,[Y2],z0⟩
theorem quS:qhU.ok prog:=Pr.run (ij qiO) 200 (by decide+kernel)
def qiP:List Pr:=qhU::qiN
theorem qiQ:∀p,p∈qiP->p.ok prog:=iC quS qiO
def qhV:Pr:=⟨90,[Y3],z0⟩
theorem quT:qhV.ok prog:=Pr.run (ij qiQ) 200 (by decide+kernel)
def qiR:List Pr:=qhV::qiP
theorem qiS:∀p,p∈qiR->p.ok prog:=iC quT qiQ
def qhW:Pr:=⟨57,[(.str ⟨⟨[107]⟩⟩)],(.bool true)⟩
theorem quU:qhW.ok prog:=Pr.run (ij qiS) 200 (by decide+kernel)
def qiT:List Pr:=qhW::qiR
theorem qiU:∀p,p∈qiT->p.ok prog:=iC quU qiS
def qhX:Pr:=⟨90,[Y8],z0⟩
theorem quV:qhX.ok prog:=Pr.run (ij qiU) 200 (by decide+kernel)
def qiV:List Pr:=qhX::qiT
theorem qiW:∀p,p∈qiV->p.ok prog:=iC quV qiU
def qh0:Pr:=⟨27,[Y2,(.sl true [Y3,Y8])],(.aV [Y5,z0])⟩
theorem quW:qh0.ok prog:=Pr.run (ij qiW) 200 (by decide+kernel)
def qiZ:List Pr:=qh0::qiV
theorem qi0:∀p,p∈qiZ->p.ok prog:=iC quW qiW
set_option maxRecDepth 20000
def qh1:Pr:=⟨27,[Y2,(.sl true [Y8,Y8])],(.aV [Ul,(.int .i64 10)])⟩
theorem quX:qh1.ok prog:=Pr.run (ij qi0) 200 (by decide+kernel)
def qi1:List Pr:=qh1::qiZ
theorem qi2:∀p,p∈qi1->p.ok prog:=iC quX qi0
def qh2:Pr:=⟨23,[Y5,(.agg [sN,(.int .i64 7),(.str ⟨⟨[]⟩⟩),sN,sN,sN,(.sl true [Y20]),(.sl true [(.agg [sN,(.int .i64 2),(.str ⟨⟨[]⟩⟩),(.sl true [KY]),(.sl true [Y8]),sN,sN,sN]),(.agg [sN,(.int .i64 7),(.str ⟨⟨[]⟩⟩),sN,sN,sN,Y18,(.sl true [(.agg [sN,(.int .i64 2),(.str ⟨⟨[]⟩⟩),(.sl true [Y4]),(.sl true [KY]),sN,sN,sN]),(.agg [sN,(.int .i64 2),(.str ⟨⟨[]⟩⟩),(.sl true [Y3]),(.sl true [(.agg [(.int .i64 10),(.int .i64 3),z0,z0,z0,(.str ⟨⟨[]⟩⟩),(.sl true [Y3,Y4])])]),sN,sN,sN])])])])])],(.bool true)⟩
theorem quY:qh2.ok prog:=Pr.run (ij qi2) 200 (by decide+kernel)
def qi3:List Pr:=qh2::qi1
theorem qi4:∀p,p∈qi3->p.ok prog:=iC quY qi2
def qh3:Pr:=⟨53,[(.str ⟨⟨[120,49]⟩⟩),(.str ⟨⟨[108]⟩⟩),zc,Y9],Y7⟩
theorem quZ:qh3.ok prog:=Pr.run (ij qi4) 200 (by decide+kernel)
def qi5:List Pr:=qh3::qi3
theorem qi6:∀p,p∈qi5->p.ok prog:=iC quZ qi4
def qh4:Pr:=⟨23,[Y6,Y7],(.bool true)⟩
theorem qu0:qh4.ok prog:=Pr.run (ij qi6) 200 (by decide+kernel)
def qi7:List Pr:=qh4::qi5
theorem qi8:∀p,p∈qi7->p.ok prog:=iC qu0 qi6
def qh5:Pr:=⟨30,[(.sl false [(.str ⟨⟨[121]⟩⟩),(.str ⟨⟨[122]⟩⟩)]),(.sl true [(.str ⟨⟨[121]⟩⟩),(.str ⟨⟨[122]⟩⟩)])],(.bool true)⟩
theorem qu1:qh5.ok prog:=Pr.run (ij qi8) 200 (by decide+kernel)
def qi9:List Pr:=qh5::qi7
theorem qja:∀p,p∈qi9->p.ok prog:=iC qu1 qi8
def qh6:Pr:=⟨30,[(.sl false [(.str ⟨⟨[108]⟩⟩),(.str ⟨⟨[120]⟩⟩)]),(.sl true [(.str ⟨⟨[108]⟩⟩),(.str ⟨⟨[120]⟩⟩)])],(.bool true)⟩
theorem qu2:qh6.ok prog:=Pr.run (ij qja) 200 (by decide+kernel)
def qvd:List Pr:=qh6::qi9
theorem qve:∀p,p∈qvd->p.ok prog:=iC qu2 qja
set_option maxRecDepth 20000
def qva:Pr:=⟨18,[],.bool true⟩
theorem qvP:qva.ok prog:=Pr.run (ij qve) 200 (by decide+kernel)
def je.same{s:Bz}{ks taken:List Bz}{t:Bz}(hk:∀x,x∈ks↔x∈taken)(h:je s ks t):je s taken t:=by
 unfold je at *;simpa only[hk]using h
def GU{s:Bz}(h:aH s=true):s.size<=16:=by
 unfold aH at h;simp only[cT,dT]at h;exact h.1.1.1.2
def Zx(S:St):Fn prog 18 [] S (.bool true):=qvP S
end Go.Proofs.YtbifpocccfkhhaaGreatDoor
namespace Go.Proofs.YtbifpocccfkhhaaGreatDoor
open Go Go.ChangeShapes Go.WideShapes Go.ChangeAt Go.RowKit
def E0(W:World):En:=⟨λb o=>W.cell? ⟨b,o,none⟩,λ_ _=>none⟩
theorem RJ{P:Program}{W:World}{x:String×DataW Unit}{l:List (String×DataW Unit)}(h:laidMet P (x::l) W):laidMet P l W:=by
 obtain⟨ps,hl,hn,hf⟩:=h;obtain⟨n,d⟩:=x;obtain⟨g,t,cs,eg,p,q,h1,h2,h3,h4,h5,rfl⟩:=hl;refine⟨q,h5,?_,λb off hm=>hf b off (HN _ hm)⟩;exact(HO.1 hn).2.1
theorem qyM{P:Program}{W:World}{name:String}{k:IntKind}{zs:List Int}{g:Nat}(hg:P.globalNamed name=some g)(h:Lib.TabIs P W name k zs):
  ∃t fz,W.heap[g]?=some (.cells (zs.map λz=>Value.int k z).toArray t fz):=by
 unfold Lib.TabIs World.var? at h;rw[hg]at h;simp only[gG]at h;split at h
 .rename_i cs t fz hh;cases h;exact⟨t,fz,hh⟩
 .cases h
theorem gSp : Tryz.prog.globalNamed "strings.asciiSpace" = some 0 := by kernel_rfl
theorem VZ : Tryz.prog.globalNamed "internal/strconv.uint64pow10" = some 2 := by kernel_rfl
theorem qpy:(Tryz.prog.globals[0]?).map (·.type)=some 228:=by kernel_rfl
theorem qpx:(Tryz.prog.globals[2]?).map (·.type)=some 264:=by kernel_rfl
theorem qwM:∀o,o<256->Lib.asciiSpaceTab.getD o 0=(if o=9\/o=10\/o=11\/o=12\/o=13\/o=32 then 1 else 0):=by decide+kernel
theorem qwN:(Rows.laid_strings_asciiSpace:DataW Unit)=Lib.tabData .u8 Lib.asciiSpaceTab:=by kernel_rfl
theorem quA:(Rows.laid_internal_strconv_uint64pow10:DataW Unit)=Lib.tabData .u64 Lib.pow10Tab:=by kernel_rfl
theorem SR.start{W:World}(h:laidMetH Tryz.prog Rows.copyFreshRow.laid W):SR (E0 W) [] W:=by
 have h0 : laidMet Tryz.prog [("math/bits.deBruijn32tab", Rows.laid_math_bits_deBruijn32tab), ("math/bits.deBruijn64tab", Rows.laid_math_bits_deBruijn64tab), ("internal/strconv.uint64pow10", Rows.laid_internal_strconv_uint64pow10), ("unicode.White_Space", Rows.laid_unicode_White_Space), ("strings.asciiSpace", Rows.laid_strings_asciiSpace)] W := h
 have h3:=RJ (RJ h0);have h5:=RJ (RJ h3);rw[quA]at h3;rw[qwN]at h5
 have t1 : Lib.TabIs Tryz.prog W "strings.asciiSpace" .u8 Lib.asciiSpaceTab := Lib.tabIs_of_head gSp qpy Tryz.underlying228 (by kernel_rfl) (by kernel_rfl) (by kernel_rfl) h5
 have t2 : Lib.TabIs Tryz.prog W "internal/strconv.uint64pow10" .u64 Lib.pow10Tab := Lib.tabIs_of_head VZ qpx Tryz.underlying264 (by kernel_rfl) (by kernel_rfl) (by kernel_rfl) h3
 refine⟨⟨λg o k n hg=>?_,λg cs hg=>?_⟩,λb o c h=>h,λl o h=>by simp at h,λl st x h=>by simp[E0]at h,λb o ⟨l,st,x,_,h,_⟩=>by simp[E0]at h,λb ⟨l,st,x,_,h,_⟩=>by simp[E0]at h,λl l' st bc x x' _ _ h=>by simp[E0]at h⟩
 .unfold IC at hg;split at hg
  .rename_i hc;obtain⟨rfl,ho⟩:=hc;cases hg;have:=t1.cell gSp o (by rw[Lib.asciiSpaceTab_length];exact ho);rw[qwM o ho]at this;exact this
  .split at hg
   .rename_i hc;obtain⟨rfl,ho⟩:=hc;cases hg;have:=t2.cell VZ o (by rw[Lib.pow10Tab_length];exact ho);rw[Lib.pow10Tab_at o ho]at this;exact_mod_cast this
   .cases hg
 .unfold IB at hg;split at hg
  .rename_i hc;subst hc;cases hg;obtain⟨t2,f2,g2⟩:=qyM VZ t2;refine⟨t2,f2,?_⟩;rw[g2];simp[Lib.pow10Tab,nJ,Function.comp]
  .cases hg
theorem qhv{W:World}{b:Nat}:¬own (E0 W) [] b:=λ⟨l,st,x,_,h,_⟩=>by simp[E0]at h
theorem qss{n:Nat}{W W':World}{E':En}{S':St}(h:bT n (E0 W) [] W E' S' W')(may:MemPlace->Prop):W.keptBut W' may:=by
 have ho:=h.out;simp only[Prod.mk.injEq]at ho;refine⟨ho.2,ho.1,λi hi=>?_⟩;have:=h.frame i hi qhv;rw[this]
 cases hh:W.heap[i]? with
 |none=>trivial
 |some o=>cases o<;>simp
theorem qvO{n:Nat}{W W':World}{E':En}{S':St}(h:bT n (E0 W) [] W E' S' W'){p:MemPlace}(hp:p.block<W.heap.size):W.sameAt W' p:=by
 have hb:=h.frame p.block hp qhv
 cases p with
 |cell b o=>exact zd hb
 |map b=>exact hb
theorem qdK{H:Type}{enc:TypeId×Value->H}{P:Program}{w w':World}{sp:Nat->Bool}:∀{ts:List TypeId} {vs:List Value} {ds:List (DataW H)} {ps:List MemPlace},DataW.TrodAll enc P w 0 sp true ts vs ds ps->(∀p∈ps,w.sameAt w' p)->DataW.TrodAll enc P w' 0 sp true ts vs ds ps
 |[],[],[],_,h,_=>h
 |_::_,_::_,_::_,_,⟨p,q,⟨n,h1⟩,h2,e⟩,hs=>⟨p,q,⟨n,DataW.trod_carry n _ _ _ h1 λx hx=>hs x (by rw[e];exact E4 _ hx)⟩,qdK h2 (λx hx=>hs x (by rw[e];exact HN _ hx)),e⟩
theorem kids:Kids Tryz.prog (·<Tryz.prog.types.size):=kids_rows (by kernel_rfl) (by kernel_rfl)
theorem full:∀t e,t<Tryz.prog.types.size->Tryz.prog.underlying t=some (.slice e)->0<Tryz.prog.cellsOf e:=slices_full_of Tryz.prog (by kernel_rfl)
theorem qsJ{H:Type}{enc:TypeId×Value->H}{k:Nat}{f:Func}{s:ChangeSpec}{W:World}{args:Array Value}{ds gs:List (DataW H)}{before:List MemPlace}{vs:List V}
  (pE:Fn Tryz.prog k vs [] (.bool true)) (hs:SR (E0 W) [] W) (hv:uJ (E0 W) vs args) (Xv:f.params.toList.all (λt=>decide (t<Tryz.prog.types.size))=true) (A7:f.resultTypes=#[4])
  (qf7:s.vars=[]) (hW:DataW.Whole enc Tryz.prog f.params.toList s.vars false W args.toList ds gs before)
  (si:s.fn H (ds++gs)={ results:=[.lit (.bool true)],args:=ds++gs }):
  Calls Tryz.prog k args W λe W'=>∃v,e=.returned v/\s.post enc Tryz.prog f false true false false W args v W':=by
 have hc:=callsIn_wide.1 (pE.2 (E0 W) W args 0 hs hv);refine hc.mono ?_;rintro e W' ⟨u,r,E',S',rfl,⟨rfl,rfl⟩,hr,kJ,hx,_⟩;cases hr;have QE:=hW;obtain⟨p,q,hA,hV,hb,hz,hn⟩:=hW;rw[qf7]at hV;obtain⟨rfl,rfl⟩:=trodVars_none hV;rw[pR]at hb;subst hb;rw[pR]at si;refine⟨_,rfl,ds,[],before,[],before,[],QE,?_,?_,?_,qss hx _,λh=>by cases h⟩
 .rw[pR,si,A7];exact trodAll_cons_mk (shut_bool Tryz.underlying4 _) trodAll_mk0
 .rw[pR,si];have aB:∀p∈before,p.block<W.heap.size:=λp hp=>QE.lt p hp
  refine qdK (DataW.TrodAll.respare kids full (λt ht=>?_) hA λp hp=>by simpa using aB p hp) λp hp=>qvO hx (aB p hp)
  have:=fR.1 Xv t ht;simpa using this
 .rw[pR,si,qf7];rfl
end Go.Proofs.YtbifpocccfkhhaaGreatDoor
end
