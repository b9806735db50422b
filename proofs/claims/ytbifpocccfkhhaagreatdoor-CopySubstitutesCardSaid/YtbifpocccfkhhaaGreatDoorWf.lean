/- A part. -/
import Derived.Test.YtbifpocccfkhhaaGreatDoorWe
import Derived.Test.YtbifpocccfkhhaaGreatDoorCards
import Derived.Test.YtbifpocccfkhhaaGreatDoorTie
import Derived.WalkKit
import Derived.ProofKit
import Derived.OpenShut
import Derived.SliceStrings
import Derived.Deep.DeepHandedRow
import Derived.Deep.DeepWitnessRowRef
import Derived.Lib.LaidTab
import Derived.Lib.Space
import Derived.ReadAgain
set_option linter.all false
noncomputable section
namespace Go.Proofs.YtbifpocccfkhhaaGreatDoor
open Go Go.Proofs.Tryz
set_option maxRecDepth 20000
def WT:Pr:=⟨56,[Y0],z0⟩
theorem qiq:WT.ok prog:=Pr.run (eF X8) 200 (by decide+kernel)
def X9:List Pr:=WT::X7
theorem Ya:∀p,p∈X9->p.ok prog:=eO qiq X8
def WU:Pr:=⟨29,[Y0],(.aH [(.sl false [(.str ⟨⟨[121]⟩⟩),(.str ⟨⟨[122]⟩⟩)]),z0])⟩
theorem qir:WU.ok prog:=Pr.run (eF Ya) 200 (by decide+kernel)
def Yc:List Pr:=WU::X9
theorem Yd:∀p,p∈Yc->p.ok prog:=eO qir Ya
def WV:Pr:=⟨31,[Y0],(.aH [(.sl false [(.str ⟨⟨[108]⟩⟩),(.str ⟨⟨[120]⟩⟩)]),z0])⟩
theorem qis:WV.ok prog:=Pr.run (eF Yd) 200 (by decide+kernel)
def Ye:List Pr:=WV::Yc
theorem Yf:∀p,p∈Ye->p.ok prog:=eO qis Yd
def Wb:Pr:=⟨90,[ES],z0⟩
theorem qhU:Wb.ok prog:=Pr.run (eF Yf) 200 (by decide+kernel)
def WZ:List Pr:=Wb::Ye
theorem W0:∀p,p∈WZ->p.ok prog:=eO qhU Yf
def Wc:Pr:=⟨57,[(.str ⟨⟨[113]⟩⟩)],(.bool true)⟩
theorem qhV:Wc.ok prog:=Pr.run (eF W0) 200 (by decide+kernel)
def W5:List Pr:=Wc::WZ
theorem W6:∀p,p∈W5->p.ok prog:=eO qhV W0
def Wg:Pr:=⟨57,[(.str ⟨⟨[105]⟩⟩)],(.bool true)⟩
theorem qhW:Wg.ok prog:=Pr.run (eF W6) 200 (by decide+kernel)
def W7:List Pr:=Wg::W5
theorem W8:∀p,p∈W7->p.ok prog:=eO qhW W6
set_option maxRecDepth 20000
def Wh:Pr:=⟨90,[Y9],z0⟩
theorem qhX:Wh.ok prog:=Pr.run (eF W8) 200 (by decide+kernel)
def W9:List Pr:=Wh::W7
theorem Xa:∀p,p∈W9->p.ok prog:=eO qhX W8
def Wi:Pr:=⟨57,[(.str ⟨⟨[120,49]⟩⟩)],(.bool true)⟩
theorem qhY:Wi.ok prog:=Pr.run (eF Xa) 200 (by decide+kernel)
def Xb:List Pr:=Wi::W9
theorem Xc:∀p,p∈Xb->p.ok prog:=eO qhY Xa
def Wj:Pr:=⟨32,[Y0,(.sl true [(.str ⟨⟨[121]⟩⟩),(.str ⟨⟨[122]⟩⟩)]),(.sl true [ES,Y9])],(.aH [Y6,z0])⟩
theorem qhZ:Wj.ok prog:=Pr.run (eF Xc) 200 (by decide+kernel)
def Xd:List Pr:=Wj::Xb
theorem Xe:∀p,p∈Xd->p.ok prog:=eO qhZ Xc
def Wl:Pr:=⟨19,[Y0,(.str ⟨⟨[121]⟩⟩),(.str ⟨⟨[120]⟩⟩)],(.aH [Iz,(.int .i64 10)])⟩
theorem qh0:Wl.ok prog:=Pr.run (eF Xe) 200 (by decide+kernel)
def Xf:List Pr:=Wl::Xd
theorem Xg:∀p,p∈Xf->p.ok prog:=eO qh0 Xe
def Wm:Pr:=⟨19,[Y0,(.str ⟨⟨[121]⟩⟩),(.str ⟨⟨[122]⟩⟩)],(.aH [Iz,(.int .i64 6)])⟩
theorem qh1:Wm.ok prog:=Pr.run (eF Xg) 200 (by decide+kernel)
def Xh:List Pr:=Wm::Xf
theorem Xi:∀p,p∈Xh->p.ok prog:=eO qh1 Xg
def Wn:Pr:=⟨53,[(.str ⟨⟨[116]⟩⟩),(.str ⟨⟨[109]⟩⟩),ET,EU],Y1⟩
theorem qh2:Wn.ok prog:=Pr.run (eF Xi) 200 (by decide+kernel)
def Xj:List Pr:=Wn::Xh
theorem Xk:∀p,p∈Xj->p.ok prog:=eO qh2 Xi
set_option maxRecDepth 20000
def Wp:Pr:=⟨57,[(.str ⟨⟨[116]⟩⟩)],(.bool true)⟩
theorem qh3:Wp.ok prog:=Pr.run (eF Xk) 200 (by decide+kernel)
def Xl:List Pr:=Wp::Xj
theorem Xm:∀p,p∈Xl->p.ok prog:=eO qh3 Xk
def Ws:Pr:=⟨57,[(.str ⟨⟨[109]⟩⟩)],(.bool true)⟩
theorem qh5:Ws.ok prog:=Pr.run (eF Xm) 200 (by decide+kernel)
def Xp:List Pr:=Ws::Xl
theorem Xq:∀p,p∈Xp->p.ok prog:=eO qh5 Xm
def Wt:Pr:=⟨56,[Y1],z0⟩
theorem qh6:Wt.ok prog:=Pr.run (eF Xq) 200 (by decide+kernel)
def Xr:List Pr:=Wt::Xp
theorem Xt:∀p,p∈Xr->p.ok prog:=eO qh6 Xq
def Wu:Pr:=⟨24,[Y0,Y1],(.aH [(.bool true),z0])⟩
theorem qh7:Wu.ok prog:=Pr.run (eF Xt) 200 (by decide+kernel)
def Xu:List Pr:=Wu::Xr
theorem Xv:∀p,p∈Xu->p.ok prog:=eO qh7 Xt
def Wv:Pr:=⟨57,[(.str ⟨⟨[112]⟩⟩)],(.bool true)⟩
theorem qh8:Wv.ok prog:=Pr.run (eF Xv) 200 (by decide+kernel)
def Xw:List Pr:=Wv::Xu
theorem Xx:∀p,p∈Xw->p.ok prog:=eO qh8 Xv
def Wx:Pr:=⟨57,[(.str ⟨⟨[97]⟩⟩)],(.bool true)⟩
theorem qh9:Wx.ok prog:=Pr.run (eF Xx) 200 (by decide+kernel)
def Xy:List Pr:=Wx::Xw
theorem Xz:∀p,p∈Xy->p.ok prog:=eO qh9 Xx
set_option maxRecDepth 20000
def Wy:Pr:=⟨57,[(.str ⟨⟨[98]⟩⟩)],(.bool true)⟩
theorem qia:Wy.ok prog:=Pr.run (eF Xz) 200 (by decide+kernel)
def XA:List Pr:=Wy::Xy
theorem XB:∀p,p∈XA->p.ok prog:=eO qia Xz
def Wz:Pr:=⟨130,[Y2],z0⟩
theorem qib:Wz.ok prog:=Pr.run (eF XB) 200 (by decide+kernel)
def XC:List Pr:=Wz::XA
theorem XD:∀p,p∈XC->p.ok prog:=eO qib XB
def WA:Pr:=⟨90,[Y3],z0⟩
theorem qic:WA.ok prog:=Pr.run (eF XD) 200 (by decide+kernel)
def XE:List Pr:=WA::XC
theorem XF:∀p,p∈XE->p.ok prog:=eO qic XD
def WB:Pr:=⟨57,[(.str ⟨⟨[107]⟩⟩)],(.bool true)⟩
theorem qid:WB.ok prog:=Pr.run (eF XF) 200 (by decide+kernel)
def XG:List Pr:=WB::XE
theorem XH:∀p,p∈XG->p.ok prog:=eO qid XF
def WC:Pr:=⟨90,[Y8],z0⟩
theorem qie:WC.ok prog:=Pr.run (eF XH) 200 (by decide+kernel)
def XI:List Pr:=WC::XG
theorem XJ:∀p,p∈XI->p.ok prog:=eO qie XH
def WH:Pr:=⟨27,[Y2,(.sl true [Y3,Y8])],(.aH [Y5,z0])⟩
theorem qif:WH.ok prog:=Pr.run (eF XJ) 200 (by decide+kernel)
def XM:List Pr:=WH::XI
theorem XN:∀p,p∈XM->p.ok prog:=eO qif XJ
set_option maxRecDepth 20000
def WI:Pr:=⟨27,[Y2,(.sl true [Y8,Y8])],(.aH [Iz,(.int .i64 10)])⟩
theorem qig:WI.ok prog:=Pr.run (eF XN) 200 (by decide+kernel)
def XO:List Pr:=WI::XM
theorem XP:∀p,p∈XO->p.ok prog:=eO qig XN
def WJ:Pr:=⟨23,[Y5,(.agg [sN,(.int .i64 7),(.str ⟨⟨[]⟩⟩),sN,sN,sN,(.sl true [Q5]),(.sl true [(.agg [sN,(.int .i64 2),(.str ⟨⟨[]⟩⟩),(.sl true [AY]),(.sl true [Y8]),sN,sN,sN]),(.agg [sN,(.int .i64 7),(.str ⟨⟨[]⟩⟩),sN,sN,sN,Q3,(.sl true [(.agg [sN,(.int .i64 2),(.str ⟨⟨[]⟩⟩),(.sl true [Y4]),(.sl true [AY]),sN,sN,sN]),(.agg [sN,(.int .i64 2),(.str ⟨⟨[]⟩⟩),(.sl true [Y3]),(.sl true [(.agg [(.int .i64 10),(.int .i64 3),z0,z0,z0,(.str ⟨⟨[]⟩⟩),(.sl true [Y3,Y4])])]),sN,sN,sN])])])])])],(.bool true)⟩
theorem qih:WJ.ok prog:=Pr.run (eF XP) 200 (by decide+kernel)
def XQ:List Pr:=WJ::XO
theorem XR:∀p,p∈XQ->p.ok prog:=eO qih XP
def WL:Pr:=⟨53,[(.str ⟨⟨[120,49]⟩⟩),(.str ⟨⟨[108]⟩⟩),ES,Y9],Y7⟩
theorem qii:WL.ok prog:=Pr.run (eF XR) 200 (by decide+kernel)
def XS:List Pr:=WL::XQ
theorem XT:∀p,p∈XS->p.ok prog:=eO qii XR
def WM:Pr:=⟨23,[Y6,Y7],(.bool true)⟩
theorem qij:WM.ok prog:=Pr.run (eF XT) 200 (by decide+kernel)
def XU:List Pr:=WM::XS
theorem XV:∀p,p∈XU->p.ok prog:=eO qij XT
def WN:Pr:=⟨30,[(.sl false [(.str ⟨⟨[121]⟩⟩),(.str ⟨⟨[122]⟩⟩)]),(.sl true [(.str ⟨⟨[121]⟩⟩),(.str ⟨⟨[122]⟩⟩)])],(.bool true)⟩
theorem qik:WN.ok prog:=Pr.run (eF XV) 200 (by decide+kernel)
def XW:List Pr:=WN::XU
theorem XX:∀p,p∈XW->p.ok prog:=eO qik XV
def WO:Pr:=⟨30,[(.sl false [(.str ⟨⟨[108]⟩⟩),(.str ⟨⟨[120]⟩⟩)]),(.sl true [(.str ⟨⟨[108]⟩⟩),(.str ⟨⟨[120]⟩⟩)])],(.bool true)⟩
theorem qil:WO.ok prog:=Pr.run (eF XX) 200 (by decide+kernel)
def qiw:List Pr:=WO::XW
theorem qix:∀p,p∈qiw->p.ok prog:=eO qil XX
set_option maxRecDepth 20000
def qit:Pr:=⟨18,[],.bool true⟩
theorem qjd:qit.ok prog:=Pr.run (eF qix) 200 (by decide+kernel)
def gg.same{s:Bz}{ks taken:List Bz}{t:Bz}(hk:∀x,x∈ks↔x∈taken)(h:gg s ks t):gg s taken t:=by
 unfold gg at *;simpa only[hk]using h
def LG{s:Bz}(h:ar s=true):s.size<=16:=by
 unfold ar at h;simp only[bZ,cR]at h;exact h.1.1.1.2
def zT(S:St):Fn prog 18 [] S (.bool true):=qjd S
end Go.Proofs.YtbifpocccfkhhaaGreatDoor
namespace Go.Proofs.YtbifpocccfkhhaaGreatDoor
open Go Go.ChangeShapes Go.WideShapes Go.ChangeAt Go.RowKit
def E0(W:World):En:=⟨fun b o=>W.cell? ⟨b,o,none⟩,fun _ _=>none⟩
theorem GQ{P:Program}{W:World}{x:String×DataW Unit}{l:List (String×DataW Unit)}(h:laidMet P (x::l) W):laidMet P l W:=by
 obtain⟨ps,hl,hn,hf⟩:=h;obtain⟨n,d⟩:=x;obtain⟨g,t,cs,fuel,p,q,h1,h2,h3,h4,h5,rfl⟩:=hl;refine⟨q,h5,?_,fun b off hm=>hf b off (yi _ hm)⟩;exact(vQ.1 hn).2.1
theorem qmd{P:Program}{W:World}{name:String}{k:IntKind}{zs:List Int}{g:Nat}(hg:P.globalNamed name=some g)(h:Lib.TabIs P W name k zs):
  ∃t fz,W.heap[g]?=some (.cells (zs.map fun z=>Value.int k z).toArray t fz):=by
 unfold Lib.TabIs World.var? at h;rw[hg]at h;simp only[ez]at h;split at h
 .rename_i cs t fz hh;cases h;exact⟨t,fz,hh⟩
 .cases h
theorem TP : Tryz.prog.globalNamed "strings.asciiSpace" = some 0 := by kernel_rfl
theorem JQ : Tryz.prog.globalNamed "internal/strconv.uint64pow10" = some 2 := by kernel_rfl
theorem qet:(Tryz.prog.globals[0]?).map (·.type)=some 228:=by kernel_rfl
theorem qes:(Tryz.prog.globals[2]?).map (·.type)=some 264:=by kernel_rfl
theorem qkb:∀o,o<256->Lib.asciiSpaceTab.getD o 0=(if o=9\/o=10\/o=11\/o=12\/o=13\/o=32 then 1 else 0):=by decide+kernel
theorem qkc:(Rows.laid_strings_asciiSpace:DataW Unit)=Lib.tabData .u8 Lib.asciiSpaceTab:=by kernel_rfl
theorem qhT:(Rows.laid_internal_strconv_uint64pow10:DataW Unit)=Lib.tabData .u64 Lib.pow10Tab:=by kernel_rfl
theorem SR.start{W:World}(h:laidMetH Tryz.prog Rows.copyFreshRow.laid W):SR (E0 W) [] W:=by
 have h0 : laidMet Tryz.prog [("math/bits.deBruijn32tab", Rows.laid_math_bits_deBruijn32tab), ("math/bits.deBruijn64tab", Rows.laid_math_bits_deBruijn64tab), ("internal/strconv.uint64pow10", Rows.laid_internal_strconv_uint64pow10), ("unicode.White_Space", Rows.laid_unicode_White_Space), ("strings.asciiSpace", Rows.laid_strings_asciiSpace)] W := h
 have h3:=GQ (GQ h0);have h5:=GQ (GQ h3);rw[qhT]at h3;rw[qkc]at h5
 have t1 : Lib.TabIs Tryz.prog W "strings.asciiSpace" .u8 Lib.asciiSpaceTab := Lib.tabIs_of_head TP qet Tryz.underlying228 (by kernel_rfl) (by kernel_rfl) (by kernel_rfl) h5
 have t2 : Lib.TabIs Tryz.prog W "internal/strconv.uint64pow10" .u64 Lib.pow10Tab := Lib.tabIs_of_head JQ qes Tryz.underlying264 (by kernel_rfl) (by kernel_rfl) (by kernel_rfl) h3
 refine⟨⟨fun g o k n hg=>?_,fun g cs hg=>?_⟩,fun b o c h=>h,fun l o h=>by simp at h,fun l st x h=>by simp[E0]at h,fun b o ⟨l,st,x,_,h,_⟩=>by simp[E0]at h,fun b ⟨l,st,x,_,h,_⟩=>by simp[E0]at h,fun l l' st st' x x' _ _ h=>by simp[E0]at h⟩
 .unfold yU at hg;split at hg
  .rename_i hc;obtain⟨rfl,ho⟩:=hc;cases hg;have:=t1.cell TP o (by rw[Lib.asciiSpaceTab_length];exact ho);rw[qkb o ho]at this;exact this
  .split at hg
   .rename_i hc;obtain⟨rfl,ho⟩:=hc;cases hg;have:=t2.cell JQ o (by rw[Lib.pow10Tab_length];exact ho);rw[Lib.pow10Tab_at o ho]at this;exact_mod_cast this
   .cases hg
 .unfold yT at hg;split at hg
  .rename_i hc;subst hc;cases hg;obtain⟨t2,f2,g2⟩:=qmd JQ t2;refine⟨t2,f2,?_⟩;rw[g2];simp[Lib.pow10Tab,lu,Function.comp]
  .cases hg
theorem V3{W:World}{b:Nat}:¬own (E0 W) [] b:=fun⟨l,st,x,_,h,_⟩=>by simp[E0]at h
theorem qfV{n:Nat}{W W':World}{E':En}{S':St}(h:Ext n (E0 W) [] W E' S' W')(may:MemPlace->Prop):W.keptBut W' may:=by
 have ho:=h.out;simp only[Prod.mk.injEq]at ho;refine⟨ho.2,ho.1,fun i hi=>?_⟩;have:=h.frame i hi V3;rw[this]
 cases hh:W.heap[i]? with
 |none=>trivial
 |some o=>cases o<;>simp
theorem qjc{n:Nat}{W W':World}{E':En}{S':St}(h:Ext n (E0 W) [] W E' S' W'){p:MemPlace}(hp:p.block<W.heap.size):W.sameAt W' p:=by
 have hb:=h.frame p.block hp V3
 cases p with
 |cell b o=>exact qG hb
 |map b=>exact hb
theorem RP{H:Type}{enc:TypeId×Value->H}{P:Program}{w w':World}{sp:Nat->Bool}:∀{ts:List TypeId} {vs:List Value} {ds:List (DataW H)} {ps:List MemPlace},DataW.TrodAll enc P w 0 sp true ts vs ds ps->(∀p∈ps,w.sameAt w' p)->DataW.TrodAll enc P w' 0 sp true ts vs ds ps
 |[],[],[],_,h,_=>h
 |_::_,_::_,_::_,_,⟨p,q,⟨n,h1⟩,h2,e⟩,hs=>⟨p,q,⟨n,DataW.trod_carry n _ _ _ h1 fun x hx=>hs x (by rw[e];exact vO _ hx)⟩,RP h2 (fun x hx=>hs x (by rw[e];exact yi _ hx)),e⟩
theorem kids:Kids Tryz.prog (·<Tryz.prog.types.size):=kids_rows (by kernel_rfl) (by kernel_rfl)
theorem full:∀t e,t<Tryz.prog.types.size->Tryz.prog.underlying t=some (.slice e)->0<Tryz.prog.cellsOf e:=slices_full_of Tryz.prog (by kernel_rfl)
theorem qf9{H:Type}{enc:TypeId×Value->H}{k:Nat}{f:Func}{s:ChangeSpec}{W:World}{args:Array Value}{ds gs:List (DataW H)}{before:List MemPlace}{vs:List V}
  (hspec:Fn Tryz.prog k vs [] (.bool true)) (hs:SR (E0 W) [] W) (hv:pM (E0 W) vs args) (hty:f.params.toList.all (fun t=>decide (t<Tryz.prog.types.size))=true) (hres:f.resultTypes=#[4])
  (hvars:s.vars=[]) (hW:DataW.Whole enc Tryz.prog f.params.toList s.vars false W args.toList ds gs before)
  (hfn:s.fn H (ds++gs)={ results:=[.lit (.bool true)],args:=ds++gs }):
  Calls Tryz.prog k args W fun e W'=>∃v,e=.returned v/\s.post enc Tryz.prog f false true false false W args v W':=by
 have hc:=callsIn_wide.1 (hspec.2 (E0 W) W args 0 hs hv);refine hc.mono ?_;rintro e W' ⟨u,r,E',S',rfl,⟨rfl,rfl⟩,hr,hs',hx,_⟩;cases hr;have hW':=hW;obtain⟨p,q,hA,hV,hb,hz,hn⟩:=hW;rw[hvars]at hV;obtain⟨rfl,rfl⟩:=trodVars_none hV;rw[kR]at hb;subst hb;rw[kR]at hfn;refine⟨_,rfl,ds,[],before,[],before,[],hW',?_,?_,?_,qfV hx _,fun h=>by cases h⟩
 .rw[kR,hfn,hres];exact trodAll_cons_mk (shut_bool Tryz.underlying4 _) trodAll_mk0
 .rw[kR,hfn];have hlt:∀p∈before,p.block<W.heap.size:=fun p hp=>hW'.lt p hp
  refine RP (DataW.TrodAll.respare kids full (fun t ht=>?_) hA fun p hp=>by simpa using hlt p hp) fun p hp=>qjc hx (hlt p hp)
  have:=d6.1 hty t ht;simpa using this
 .rw[kR,hfn,hvars];rfl
end Go.Proofs.YtbifpocccfkhhaaGreatDoor
end
