/- Part of the proof. -/
import Derived.Test.YtbifpocccfkhhaaGreatDoorPl
import Derived.Shelf.SlIter.Nil
import Derived.Shelf.SortM.Plain
import Derived.Shelf.SortM.SortNone
import Derived.Ground.GgzProg
import Derived.Ground.SlgmProg
set_option linter.all false
noncomputable section
namespace Go.Proofs.YtbifpocccfkhhaaGreatDoor
open Go Go.ChangeShapes Go.WideShapes Go.ChangeAt Go.RowKit
def CR(W:World)(vs:List V)(cs:List Value):Prop:=vs.length=cs.length∧∀(j:Nat) (v:V) (c:Value),vs[j]?=some v→cs[j]?=some c→VR (E0 W) v c
def Fitw{H:Type}(t:TypeId)(d:DataW H):Prop:=∀n,n∈d.weights Tryz.prog t→n≤reachBytes
theorem reach_le{n:Nat}(h:n≤reachBytes):n≤B50:=by unfold reachBytes at h;unfold B50;omega
section
variable {H:Type} {enc:TypeId×Value→H} {W:World}
theorem weightsAll_mem{e:TypeId}{n:Nat}:∀{l:List (DataW H)} {d:DataW H},d∈l→n∈d.weights Tryz.prog e→n∈DataW.weightsAll Tryz.prog e l
 | x::l,d,hd,hn=>by
  rw[DataW.weightsAll];rcases qt4.1 hd with rfl|hd
  ·exact qu3 _ hn
  ·exact qvd _ (weightsAll_mem hd hn)
theorem weightsEach_mem{n:Nat}:∀{ts:List TypeId} {l:List (DataW H)} {i:Nat} {t:TypeId} {d:DataW H},ts[i]?=some t→l[i]?=some d→n∈d.weights Tryz.prog t→n∈DataW.weightsEach Tryz.prog ts l
 | t0::ts,d0::l,0,t,d,ht,hd,hn=>by
  simp at ht hd;subst ht;subst hd;rw[DataW.weightsEach];exact qu3 _ hn
 | t0::ts,d0::l,i+1,t,d,ht,hd,hn=>by
  rw[DataW.weightsEach];exact qvd _ (weightsEach_mem (i:=i) (by simpa using ht) (by simpa using hd) hn)
theorem Fitw.part{t:TypeId}{fs:Array Field}(ht:Tryz.prog.underlying t=some (.struct fs)){l:List (DataW H)}(h:Fitw t (.agg l)){i:Nat}{f:Field}{d:DataW H}(hf:fs[i]?=some f)(hd:l[i]?=some d):Fitw f.type d:=fun n hn=>h n (by
 rw[DataW.weights,ht];exact weightsEach_mem (i:=i) (t:=f.type) (by simp[hf]) hd hn)
theorem Fitw.elem{t e:TypeId}(ht:Tryz.prog.underlying t=some (.slice e)){l r:List (DataW H)}(h:Fitw t (.slice l r)){d:DataW H}(hd:d∈l):Fitw e d:=fun n hn=>h n (by
 rw[DataW.weights,ht];exact qu2 _ (qu3 _ (weightsAll_mem hd hn)))
theorem Fitw.len{t e:TypeId}(ht:Tryz.prog.underlying t=some (.slice e))(hb:0<Tryz.prog.bytesOf e){l r:List (DataW H)}(h:Fitw t (.slice l r)):l.length≤B50:=by
 have:=h ((l.length+r.length) * Tryz.prog.bytesOf e) (by rw[DataW.weights,ht];exact List.mem_cons_self ..);refine reach_le (qul ?_ this)
 calc l.length≤(l.length+r.length) * 1:=by omega
  _≤_:=Nat.mul_le_mul_left _ hb
theorem spot_none{a:Addr}{v:Value}(h:W.cell? a=some v):a.spot=none:=by
 unfold World.cell? at h;split at h
 ·split at h
  ·cases h
  ·rename_i hs;simpa using hs
 ·cases h
theorem add_off{b o k:Nat}:(Addr.add ⟨b,o,none⟩ k)=⟨b,o+k,none⟩:=by
 unfold Addr.add;split
 ·rename_i h;subst h;rfl
 ·rfl
theorem slice_in{α:Type}(f:α→V)(ok:α→Prop){sz:Nat}(hsz:∀a,(f a).cells.length=sz)(hz:0<sz){t e:TypeId}(ht:Tryz.prog.underlying t=some (.slice e))(hc:Tryz.prog.cellsOf e=sz)(hb:0<Tryz.prog.bytesOf e){fuel:Nat}
  (hel:∀n,n<fuel→∀cs (x:DataW H×List MemPlace),DataW.trod enc Tryz.prog W 0 (fun _=>true) true n e cs=some x→Fitw e x.1→∃a,ok a∧CR W (f a).cells cs)
  {cs:List Value} {x:DataW H×List MemPlace} (h:DataW.trod enc Tryz.prog W 0 (fun _=>true) true fuel t cs=some x) (hw:Fitw t x.1):
  ∃l:List α,(∀a,a∈l→ok a)∧l.length≤B50∧∃v,cs=[v]∧VR (E0 W) (.sl false (l.map f)) v:=by
 rcases DataW.trod_slice ht h with ⟨rfl,_⟩|⟨a,len,cap,elems,rest,n,rfl,rfl,rfl,_,hl,_,hlen,h1,h2,_⟩
 ·exact ⟨[],fun a ha=>(by cases ha),quL _,_,rfl,.slnil _⟩
 obtain ⟨h2a,h2b⟩:=h2 rfl;rw[hc] at h1 h2b;have hle:=Fitw.len ht hb hw;rw[qtM] at hle
 have each:∀i,i<len→∃b,ok b∧∃cs',W.cells? 0 (a.add (i * sz)) sz=some cs'∧CR W (f b).cells cs':=fun i hi=>by
  have hi':i<elems.length:=by omega
  have:=h1 i hi;rw[qtF hi',qut] at this;obtain ⟨cs',k1,k2⟩:=this;obtain ⟨b,k3,k4⟩:=hel n (by omega) cs' _ k2 (Fitw.elem ht hw (qug (qtR hi')));exact ⟨b,k3,cs',k1,k4⟩
 by_cases hcap:cap=0
 ·have:len=0:=by omega
  subst hcap;subst this;exact ⟨[],fun a ha=>(by cases ha),quL _,_,rfl,.slz _ _⟩
 have hspot:a.spot=none:=by
  have read:∀cs',W.cells? 0 (a.add (0 * sz)) sz=some cs'→a.spot=none:=fun cs' k=>by
   obtain ⟨_,q1,q2⟩:=World.cells?_some k;have:=q2 0 hz;have hcs:0<cs'.length:=by omega
   rw[qtF hcs] at this;have:=spot_none this;simpa[Addr.add] using this
  by_cases h0:0<len
  ·obtain ⟨_,_,cs',k,_⟩:=each 0 h0;exact read cs' k
  ·have hl0:len=0:=by omega
   have:=h2b 0 (by omega);obtain ⟨y0,hy0⟩:∃y,rest[0]?=some y:=⟨_,qtF (by omega)⟩;rw[hy0,qut] at this;obtain ⟨cs',k,_⟩:=this;rw[hl0] at k;exact read cs' (by simpa using k)
 obtain ⟨b,o,spot⟩:=a;simp only at hspot;subst hspot;obtain ⟨g,hg⟩:∃g:Fin len→α,∀i,ok (g i)∧∃cs',W.cells? 0 (Addr.add ⟨b,o,none⟩ (i.1 * sz)) sz=some cs'∧CR W (f (g i)).cells cs':=⟨fun i=>Classical.choose (each i.1 i.2),fun i=>Classical.choose_spec (each i.1 i.2)⟩;have hll:(List.ofFn g).length=len:=List.length_ofFn;have hl2:((List.ofFn g).map f).length=len:=by rw[qtM,hll]
 have cell:∀i (hi:i<len) j,j<sz→∃c,W.cell? ⟨b,o+i * sz+j,none⟩=some c∧∀v,(f (g ⟨i,hi⟩)).cells[j]?=some v→VR (E0 W) v c:=fun i hi j hj=>by
  obtain ⟨_,cs',k1,k2,k3⟩:=hg ⟨i,hi⟩;obtain ⟨_,q1,q2⟩:=World.cells?_some k1;have q:=q2 j hj;have hj':j<cs'.length:=by omega
  rw[qtF hj',add_off,add_off] at q;exact ⟨_,q,fun v hv=>k3 j v _ hv (qtF hj')⟩
 refine ⟨List.ofFn g,fun a ha=>?_,by omega,_,rfl,?_⟩
 ·obtain ⟨i,rfl⟩:=List.mem_ofFn.1 ha;exact (hg i).1
 ·have:=@VR.sl (E0 W) false ((List.ofFn g).map f) b o cap sz (by omega) (fun h=>by cases h) (fun v hv=>?_) (fun i j hi hj=>?_) (fun i v j c' c hv hc hI=>?_)
  ·rw[hl2] at this;exact this
  ·obtain ⟨y,_,rfl⟩:=qt6.1 hv;exact hsz y
  ·rw[hl2] at hi;obtain ⟨c,hc,_⟩:=cell i hi j hj;simp only[E0,hc];rfl
  ·rw[qtV,qtK] at hv;obtain ⟨y,hy,rfl⟩:=hv;rw[List.getElem?_ofFn] at hy;split at hy
   ·rename_i hi;cases hy;have hj:j<sz:=by have:=(qtD.1 hc).1;rw[hsz] at this;exact this
    obtain ⟨c2,hc2,hv2⟩:=cell i hi j hj;simp only[E0,hc2] at hI;cases hI;exact hv2 _ hc
   ·cases hy
theorem piece{cs l:List Value}{o k i:Nat}(h:(cs.drop o).take k=l)(hi:i<k):cs[o+i]?=l[i]?:=by
 rw[←h,quc hi,quq]
theorem CR_of{vs:List V}{cs:List Value}(hl:vs.length=cs.length)(h:∀(j:Nat) (v:V),vs[j]?=some v→∃c,cs[j]?=some c∧VR (E0 W) v c):CR W vs cs:=
 ⟨hl,fun j v c hv hc=>by
  obtain ⟨c',h1,h2⟩:=h j v hv;rw[h1] at hc;cases hc;exact h2⟩
theorem Ex.okL_of:∀{l:List Ex},(∀x,x∈l→x.ok)→Ex.okL l
 | [],_=>trivial
 | x::l,h=>⟨h x (by simp),Ex.okL_of fun y hy=>h y (by simp[hy])⟩
theorem De.okL_of:∀{l:List De},(∀x,x∈l→x.ok)→De.okL l
 | [],_=>by rw[De.okL];exact trivial
 | x::l,h=>by rw[De.okL];exact ⟨h x (by simp),De.okL_of fun y hy=>h y (by simp[hy])⟩
theorem Sm.okL_of:∀{l:List Sm},(∀x,x∈l→x.ok)→Sm.okL l
 | [],_=>by rw[Sm.okL];exact trivial
 | x::l,h=>by rw[Sm.okL];exact ⟨h x (by simp),Sm.okL_of fun y hy=>h y (by simp[hy])⟩
theorem kc3:Tryz.prog.cellsOf 3=1:=by kernel_rfl
theorem kc4t:Tryz.prog.cellsOf 4=1:=by kernel_rfl
theorem kc9:Tryz.prog.cellsOf 9=1:=by kernel_rfl
theorem kc22:Tryz.prog.cellsOf 22=1:=by kernel_rfl
theorem kc23:Tryz.prog.cellsOf 23=1:=by kernel_rfl
theorem kc24t:Tryz.prog.cellsOf 24=1:=by kernel_rfl
theorem kc25t:Tryz.prog.cellsOf 25=1:=by kernel_rfl
theorem kc26t:Tryz.prog.cellsOf 26=1:=by kernel_rfl
theorem kc40t:Tryz.prog.cellsOf 40=1:=by kernel_rfl
theorem kc52t:Tryz.prog.cellsOf 52=2:=by kernel_rfl
theorem kc54:Tryz.prog.cellsOf 54=7:=by kernel_rfl
theorem kc135t:Tryz.prog.cellsOf 135=2:=by kernel_rfl
theorem kc87t:Tryz.prog.cellsOf 87=4:=by kernel_rfl
theorem kc42t:Tryz.prog.cellsOf 42=7:=by kernel_rfl
theorem kc28t:Tryz.prog.cellsOf 28=8:=by kernel_rfl
theorem y9:0<Tryz.prog.bytesOf 9:=by decide+kernel
theorem y54:0<Tryz.prog.bytesOf 54:=by decide+kernel
theorem y135:0<Tryz.prog.bytesOf 135:=by decide+kernel
theorem y87:0<Tryz.prog.bytesOf 87:=by decide+kernel
theorem y42:0<Tryz.prog.bytesOf 42:=by decide+kernel
theorem y28:0<Tryz.prog.bytesOf 28:=by decide+kernel
theorem int_at{n o:Nat}{cs:List Value}{y:DataW H×List MemPlace}(h:DataW.trod enc Tryz.prog W 0 (fun _=>true) true n 3 ((cs.drop o).take (Tryz.prog.cellsOf 3))=some y):∃k,cs[o]?=some (.int .i64 k):=by
 obtain ⟨k,hk,_⟩:=DataW.trod_int Tryz.underlying3 h;rw[kc3] at hk;exact ⟨k,by have:=piece hk (i:=0) (by omega);simpa using this⟩
theorem bool_at{n o:Nat}{cs:List Value}{y:DataW H×List MemPlace}(h:DataW.trod enc Tryz.prog W 0 (fun _=>true) true n 4 ((cs.drop o).take (Tryz.prog.cellsOf 4))=some y):∃k,cs[o]?=some (.bool k):=by
 obtain ⟨k,hk,_⟩:=DataW.trod_bool Tryz.underlying4 h;rw[kc4t] at hk;exact ⟨k,by have:=piece hk (i:=0) (by omega);simpa using this⟩
theorem str_at{n o:Nat}{cs:List Value}{y:DataW H×List MemPlace}(h:DataW.trod enc Tryz.prog W 0 (fun _=>true) true n 9 ((cs.drop o).take (Tryz.prog.cellsOf 9))=some y)(hw:Fitw 9 y.1):∃s:ByteArray,cs[o]?=some (.string s)∧s.size≤B50:=by
 obtain ⟨k,hk,hy,_⟩:=DataW.trod_string Tryz.underlying9 h;rw[kc9] at hk;refine ⟨k,by have:=piece hk (i:=0) (by omega);simpa using this,?_⟩;have:=hw k.size (by rw[hy,DataW.weights];exact quM.2 (by rw[quP];rfl));exact reach_le this
theorem slice_at{α:Type}(f:α→V)(ok:α→Prop){sz:Nat}(hsz:∀a,(f a).cells.length=sz)(hz:0<sz){t e:TypeId}(ht:Tryz.prog.underlying t=some (.slice e))(hc:Tryz.prog.cellsOf e=sz)(hb:0<Tryz.prog.bytesOf e)(h1:Tryz.prog.cellsOf t=1){n o:Nat}
  (hel:∀m,m<n→∀cs (x:DataW H×List MemPlace),DataW.trod enc Tryz.prog W 0 (fun _=>true) true m e cs=some x→Fitw e x.1→∃a,ok a∧CR W (f a).cells cs)
  {cs:List Value} {y:DataW H×List MemPlace} (h:DataW.trod enc Tryz.prog W 0 (fun _=>true) true n t ((cs.drop o).take (Tryz.prog.cellsOf t))=some y) (hw:Fitw t y.1):
  ∃l:List α,(∀a,a∈l→ok a)∧l.length≤B50∧∃v,cs[o]?=some v∧VR (E0 W) (.sl false (l.map f)) v:=by
 obtain ⟨l,k1,k2,v,k3,k4⟩:=slice_in f ok hsz hz ht hc hb hel h hw;rw[h1] at k3;exact ⟨l,k1,k2,v,by have:=piece k3 (i:=0) (by omega);simpa using this,k4⟩
theorem strs_el{n:Nat}:∀m,m<n→∀cs (x:DataW H×List MemPlace),DataW.trod enc Tryz.prog W 0 (fun _=>true) true m 9 cs=some x→Fitw 9 x.1→∃s:ByteArray,s.size≤B50∧CR W (V.str s).cells cs:=by
 intro m _ cs x h hw;obtain ⟨k,rfl,hy,_⟩:=DataW.trod_string Tryz.underlying9 h;refine ⟨k,reach_le (hw k.size (by rw[hy,DataW.weights];exact quM.2 (by rw[quP];rfl))),rfl,fun j v c hv hc=>?_⟩
 match j,hv,hc with
 | 0,hv,hc=>simp at hv hc;subst hv;subst hc;exact .str k
theorem parts{t:TypeId}{fs:Array Field}(ht:Tryz.prog.underlying t=some (.struct fs)){fuel:Nat}{cs:List Value}{x:DataW H×List MemPlace}(h:DataW.trod enc Tryz.prog W 0 (fun _=>true) true fuel t cs=some x)(hw:Fitw t x.1):
  ∃n,n<fuel∧cs.length=Tryz.prog.cellsOf t∧∀(i:Nat) (f:Field),fs[i]?=some f→∃y:DataW H×List MemPlace,DataW.trod enc Tryz.prog W 0 (fun _=>true) true n f.type ((cs.drop f.offset).take (Tryz.prog.cellsOf f.type))=some y∧Fitw f.type y.1:=by
 obtain ⟨xs,n,rfl,rfl,h1,h2,h3⟩:=DataW.trod_struct ht h;refine ⟨n,by omega,h1,fun i f hf=>?_⟩
 have hi:i<xs.length:=by
  have:=(qtT.1 hf).1;omega
 have:=h3 i f hf;rw[qtF hi] at this;exact ⟨xs[i],this,Fitw.part ht hw hf (by simp[hi])⟩
theorem ex_in:∀(m fuel:Nat),fuel≤m→∀cs (x:DataW H×List MemPlace),DataW.trod enc Tryz.prog W 0 (fun _=>true) true fuel 54 cs=some x→Fitw 54 x.1→∃a:Ex,a.ok∧CR W a.v.cells cs
 | 0,fuel,hm,cs,x,h,hw=>by
  obtain ⟨n,hn,_⟩:=parts Tryz.underlying54 h hw;omega
 | m+1,fuel,hm,cs,x,h,hw=>by
  obtain ⟨n,hn,hl,hp⟩:=parts Tryz.underlying54 h hw;obtain ⟨y0,p0,q0⟩:=hp 0 _ rfl;obtain ⟨y1,p1,q1⟩:=hp 1 _ rfl;obtain ⟨y2,p2,q2⟩:=hp 2 _ rfl;obtain ⟨y3,p3,q3⟩:=hp 3 _ rfl;obtain ⟨y4,p4,q4⟩:=hp 4 _ rfl;obtain ⟨y5,p5,q5⟩:=hp 5 _ rfl;obtain ⟨k0,e0⟩:=int_at p0;obtain ⟨k1,e1⟩:=int_at p1;obtain ⟨k2,e2⟩:=int_at p2;obtain ⟨n3,hn3,hl3,hp3⟩:=parts Tryz.underlying52 p3 q3;obtain ⟨z0,r0,_⟩:=hp3 0 _ rfl;obtain ⟨z1,r1,_⟩:=hp3 1 _ rfl;obtain ⟨k3,e3⟩:=int_at r0;obtain ⟨k4,e4⟩:=int_at r1;obtain ⟨s,e5,hs⟩:=str_at p4 q4;obtain ⟨l,hlo,hll,v,e6,hv⟩:=slice_at Ex.v Ex.ok (sz:=7) (fun a=>by simp) (by omega) Tryz.underlying23 kc54 y54 kc23 (fun m' hm'=>ex_in m m' (by omega)) p5 q5;have e3:((cs.drop 3).take 2)[0]?=some (.int .i64 k3):=by rw[←kc52t];exact e3
  have e4:((cs.drop 3).take 2)[1]?=some (.int .i64 k4):=by rw[←kc52t];exact e4
  rw[quc (by omega),quq] at e3 e4;refine ⟨.mk k0 k1 k2 k3 k4 s l,⟨hs,hll,Ex.okL_of hlo⟩,CR_of ?_ ?_⟩
  ·rw[hl,kc54];simp
  ·intro j w hw';rw[Ex.v_cells] at hw'
   match j,hw' with
   | 0,hw'=>cases hw';exact ⟨_,e0,.int _ _⟩
   | 1,hw'=>cases hw';exact ⟨_,e1,.int _ _⟩
   | 2,hw'=>cases hw';exact ⟨_,e2,.int _ _⟩
   | 3,hw'=>cases hw';exact ⟨_,e3,.int _ _⟩
   | 4,hw'=>cases hw';exact ⟨_,e4,.int _ _⟩
   | 5,hw'=>cases hw';exact ⟨_,e5,.str _⟩
   | 6,hw'=>cases hw';exact ⟨_,e6,hv⟩
theorem el_in{fuel:Nat}{cs:List Value}{x:DataW H×List MemPlace}(h:DataW.trod enc Tryz.prog W 0 (fun _=>true) true fuel 135 cs=some x)(hw:Fitw 135 x.1):∃a:El,a.ok∧CR W a.v.cells cs:=by
 obtain ⟨n,hn,hl,hp⟩:=parts Tryz.underlying135 h hw;obtain ⟨y0,p0,q0⟩:=hp 0 _ rfl;obtain ⟨y1,p1,q1⟩:=hp 1 _ rfl;obtain ⟨k0,e0⟩:=int_at p0;obtain ⟨l,hlo,hll,v,e1,hv⟩:=slice_at Ex.v Ex.ok (sz:=7) (fun a=>by simp) (by omega) Tryz.underlying23 kc54 y54 kc23 (fun m' hm'=>ex_in m' m' (qtJ _)) p1 q1;refine ⟨⟨k0,l⟩,⟨hll,Ex.okL_of hlo⟩,CR_of ?_ ?_⟩
 ·rw[hl,kc135t];rfl
 ·intro j w hw';rw[El.v_cells] at hw'
  match j,hw' with
  | 0,hw'=>cases hw';exact ⟨_,e0,.int _ _⟩
  | 1,hw'=>cases hw';exact ⟨_,e1,hv⟩
theorem fo_in{fuel:Nat}{cs:List Value}{x:DataW H×List MemPlace}(h:DataW.trod enc Tryz.prog W 0 (fun _=>true) true fuel 87 cs=some x)(hw:Fitw 87 x.1):∃a:Fo,a.ok∧CR W a.v.cells cs:=by
 obtain ⟨n,hn,hl,hp⟩:=parts Tryz.underlying87 h hw;obtain ⟨y0,p0,q0⟩:=hp 0 _ rfl;obtain ⟨y1,p1,q1⟩:=hp 1 _ rfl;obtain ⟨y2,p2,q2⟩:=hp 2 _ rfl;obtain ⟨y3,p3,q3⟩:=hp 3 _ rfl;obtain ⟨s,e0,hs⟩:=str_at p0 q0;obtain ⟨k1,e1⟩:=bool_at p1;obtain ⟨k2,e2⟩:=int_at p2;obtain ⟨k3,e3⟩:=int_at p3;refine ⟨⟨s,k1,k2,k3⟩,hs,CR_of ?_ ?_⟩
 ·rw[hl,kc87t];rfl
 ·intro j w hw';rw[Fo.v_cells] at hw'
  match j,hw' with
  | 0,hw'=>cases hw';exact ⟨_,e0,.str _⟩
  | 1,hw'=>cases hw';exact ⟨_,e1,.bool _⟩
  | 2,hw'=>cases hw';exact ⟨_,e2,.int _ _⟩
  | 3,hw'=>cases hw';exact ⟨_,e3,.int _ _⟩
theorem exs_at{n o:Nat}{cs:List Value}{y:DataW H×List MemPlace}(h:DataW.trod enc Tryz.prog W 0 (fun _=>true) true n 23 ((cs.drop o).take (Tryz.prog.cellsOf 23))=some y)(hw:Fitw 23 y.1):
  ∃l:List Ex,(l.length≤B50∧Ex.okL l)∧∃v,cs[o]?=some v∧VR (E0 W) (.sl false (l.map Ex.v)) v:=by
 obtain ⟨l,hlo,hll,hv⟩:=slice_at Ex.v Ex.ok (sz:=7) (fun a=>by simp) (by omega) Tryz.underlying23 kc54 y54 kc23 (fun m' hm'=>ex_in m' m' (qtJ _)) h hw;exact ⟨l,⟨hll,Ex.okL_of hlo⟩,hv⟩
theorem strs_at{n o:Nat}{cs:List Value}{y:DataW H×List MemPlace}(h:DataW.trod enc Tryz.prog W 0 (fun _=>true) true n 22 ((cs.drop o).take (Tryz.prog.cellsOf 22))=some y)(hw:Fitw 22 y.1):
  ∃l:List ByteArray,okS l∧∃v,cs[o]?=some v∧VR (E0 W) (.sl false (l.map .str)) v:=by
 obtain ⟨l,hlo,hll,hv⟩:=slice_at V.str (fun s=>s.size≤B50) (sz:=1) (fun a=>rfl) (by omega) Tryz.underlying22 kc9 y9 kc22 strs_el h hw;exact ⟨l,⟨hll,hlo⟩,hv⟩
theorem tree_in:∀(m fuel:Nat),fuel≤m→(∀cs (x:DataW H×List MemPlace),DataW.trod enc Tryz.prog W 0 (fun _=>true) true fuel 42 cs=some x→Fitw 42 x.1→∃a:De,a.ok∧CR W a.v.cells cs)∧
  ∀cs (x:DataW H×List MemPlace),DataW.trod enc Tryz.prog W 0 (fun _=>true) true fuel 28 cs=some x→Fitw 28 x.1→∃a:Sm,a.ok∧CR W a.v.cells cs
 | 0,fuel,hm=>by
  refine ⟨fun cs x h hw=>?_,fun cs x h hw=>?_⟩
  ·obtain ⟨n,hn,_⟩:=parts Tryz.underlying42 h hw;omega
  ·obtain ⟨n,hn,_⟩:=parts Tryz.underlying28 h hw;omega
 | m+1,fuel,hm=>by
  refine ⟨fun cs x h hw=>?_,fun cs x h hw=>?_⟩
  ·obtain ⟨n,hn,hl,hp⟩:=parts Tryz.underlying42 h hw;obtain ⟨y0,p0,q0⟩:=hp 0 _ rfl;obtain ⟨y1,p1,q1⟩:=hp 1 _ rfl;obtain ⟨y2,p2,q2⟩:=hp 2 _ rfl;obtain ⟨y3,p3,q3⟩:=hp 3 _ rfl;obtain ⟨y4,p4,q4⟩:=hp 4 _ rfl;obtain ⟨y5,p5,q5⟩:=hp 5 _ rfl;obtain ⟨y6,p6,q6⟩:=hp 6 _ rfl;obtain ⟨k0,e0⟩:=int_at p0;obtain ⟨k1,e1⟩:=bool_at p1;obtain ⟨k2,e2⟩:=int_at p2;obtain ⟨nm,on,v3,e3,h3⟩:=strs_at p3 q3;obtain ⟨ex,oe,v4,e4,h4⟩:=exs_at p4 q4;obtain ⟨fo,of,lf,v5,e5,h5⟩:=slice_at Fo.v Fo.ok (sz:=4) (fun a=>rfl) (by omega) Tryz.underlying40 kc87t y87 kc40t (fun m' hm' cs x=>fo_in) p5 q5;obtain ⟨bo,ob,lb,v6,e6,h6⟩:=slice_at Sm.v Sm.ok (sz:=8) (fun a=>by simp) (by omega) Tryz.underlying26 kc28t y28 kc26t (fun m' hm'=>(tree_in m m' (by omega)).2) p6 q6;refine ⟨.mk k0 k1 k2 nm ex fo bo,(De.ok_iff _).2 ⟨on,oe,⟨lf,of⟩,⟨lb,Sm.okL_of ob⟩⟩,CR_of ?_ ?_⟩
   ·rw[hl,kc42t];simp
   ·intro j w hw';rw[De.v_cells] at hw'
    match j,hw' with
    | 0,hw'=>cases hw';exact ⟨_,e0,.int _ _⟩
    | 1,hw'=>cases hw';exact ⟨_,e1,.bool _⟩
    | 2,hw'=>cases hw';exact ⟨_,e2,.int _ _⟩
    | 3,hw'=>cases hw';exact ⟨_,e3,h3⟩
    | 4,hw'=>cases hw';exact ⟨_,e4,h4⟩
    | 5,hw'=>cases hw';exact ⟨_,e5,h5⟩
    | 6,hw'=>cases hw';exact ⟨_,e6,h6⟩
  ·obtain ⟨n,hn,hl,hp⟩:=parts Tryz.underlying28 h hw;obtain ⟨y0,p0,q0⟩:=hp 0 _ rfl;obtain ⟨y1,p1,q1⟩:=hp 1 _ rfl;obtain ⟨y2,p2,q2⟩:=hp 2 _ rfl;obtain ⟨y3,p3,q3⟩:=hp 3 _ rfl;obtain ⟨y4,p4,q4⟩:=hp 4 _ rfl;obtain ⟨y5,p5,q5⟩:=hp 5 _ rfl;obtain ⟨y6,p6,q6⟩:=hp 6 _ rfl;obtain ⟨y7,p7,q7⟩:=hp 7 _ rfl;obtain ⟨lb,ol,v0,e0,h0⟩:=strs_at p0 q0;obtain ⟨k1,e1⟩:=int_at p1;obtain ⟨s,e2,hs⟩:=str_at p2 q2;obtain ⟨tg,ot,v3,e3,h3⟩:=exs_at p3 q3;obtain ⟨ex,oe,v4,e4,h4⟩:=exs_at p4 q4;obtain ⟨el,oel,lel,v5,e5,h5⟩:=slice_at El.v El.ok (sz:=2) (fun a=>rfl) (by omega) Tryz.underlying24 kc135t y135 kc24t (fun m' hm' cs x=>el_in) p5 q5;obtain ⟨de,od,ld,v6,e6,h6⟩:=slice_at De.v De.ok (sz:=7) (fun a=>by simp) (by omega) Tryz.underlying25 kc42t y42 kc25t (fun m' hm'=>(tree_in m m' (by omega)).1) p6 q6;obtain ⟨bo,ob,lbo,v7,e7,h7⟩:=slice_at Sm.v Sm.ok (sz:=8) (fun a=>by simp) (by omega) Tryz.underlying26 kc28t y28 kc26t (fun m' hm'=>(tree_in m m' (by omega)).2) p7 q7;refine ⟨.mk lb k1 s tg ex el de bo,(Sm.ok_iff _).2 ⟨ol,hs,ot,oe,⟨lel,oel⟩,⟨ld,De.okL_of od⟩,⟨lbo,Sm.okL_of ob⟩⟩,CR_of ?_ ?_⟩
   ·rw[hl,kc28t];simp
   ·intro j w hw';rw[Sm.v_cells] at hw'
    match j,hw' with
    | 0,hw'=>cases hw';exact ⟨_,e0,h0⟩
    | 1,hw'=>cases hw';exact ⟨_,e1,.int _ _⟩
    | 2,hw'=>cases hw';exact ⟨_,e2,.str _⟩
    | 3,hw'=>cases hw';exact ⟨_,e3,h3⟩
    | 4,hw'=>cases hw';exact ⟨_,e4,h4⟩
    | 5,hw'=>cases hw';exact ⟨_,e5,h5⟩
    | 6,hw'=>cases hw';exact ⟨_,e6,h6⟩
    | 7,hw'=>cases hw';exact ⟨_,e7,h7⟩
set_option maxRecDepth 100000
theorem agg_of{vs:List V}{v:Value}{cs:Array Value}(hv:v=.agg cs)(h:CR W vs v.cells.toList):VR (E0 W) (.agg vs) v:=by
 subst hv;refine .agg (by have:=h.1;simpa[Value.cells] using this) fun i x u hx hu=>h.2 i x u hx (by simpa[Value.cells] using hu)
theorem stmt_in{base:Nat}{v:Value}{d:DataW H}{p:List MemPlace}(hval:Value.okWide Tryz.prog W .any base 28 v)(h:DataW.Trod enc Tryz.prog W 0 (fun _=>true) true 28 v d p)(hw:Fitw 28 d):∃s:Sm,s.ok∧VR (E0 W) s.v v:=by
 obtain ⟨fuel,h⟩:=h;obtain ⟨s,hs,hc⟩:=(tree_in fuel fuel (qtJ _)).2 _ _ h hw;unfold Value.okWide at hval;rw[Tryz.underlying28] at hval;obtain ⟨cs,hv,_⟩:=hval;rw[Sm.v_cells] at hc;exact ⟨s,hs,by rw[Sm.v_eq];exact agg_of hv hc⟩
theorem exp_in{base:Nat}{v:Value}{d:DataW H}{p:List MemPlace}(hval:Value.okWide Tryz.prog W .any base 54 v)(h:DataW.Trod enc Tryz.prog W 0 (fun _=>true) true 54 v d p)(hw:Fitw 54 d):∃s:Ex,s.ok∧VR (E0 W) s.v v:=by
 obtain ⟨fuel,h⟩:=h;obtain ⟨s,hs,hc⟩:=ex_in fuel fuel (qtJ _) _ _ h hw;unfold Value.okWide at hval;rw[Tryz.underlying54] at hval;obtain ⟨cs,hv,_⟩:=hval;rw[Ex.v_cells] at hc;exact ⟨s,hs,by rw[Ex.v_eq];exact agg_of hv hc⟩
theorem fitw_of{ts:List TypeId}{ds:List (DataW H)}(h:(DataW.weightsEach Tryz.prog ts ds).all (·≤reachBytes)=true){i:Nat}{t:TypeId}{d:DataW H}(ht:ts[i]?=some t)(hd:ds[i]?=some d):Fitw t d:=fun n hn=>by
 have:=qt2.1 h n (weightsEach_mem ht hd hn);simpa using this
end
end Go.Proofs.YtbifpocccfkhhaaGreatDoor
namespace Go.Proofs.YtbifpocccfkhhaaGreatDoor
open Go Go.ChangeShapes Go.WideShapes Go.ChangeAt Go.RowKit
set_option maxRecDepth 100000
section
variable {H:Type} {enc:TypeId×Value→H} {W:World}
theorem trodAll_cons{P:Program}{t:TypeId}{ts:List TypeId}{vs:List Value}{ds:List (DataW H)}{ps:List MemPlace}(h:DataW.TrodAll enc P W 0 (fun _=>true) true (t::ts) vs ds ps):
  ∃v vs' d ds' p q,vs=v::vs'∧ds=d::ds'∧DataW.Trod enc P W 0 (fun _=>true) true t v d p∧DataW.TrodAll enc P W 0 (fun _=>true) true ts vs' ds' q:=by
 cases vs with
 | nil=>exact h.elim
 | cons v vs=>
  cases ds with
  | nil=>exact h.elim
  | cons d ds=>
   obtain ⟨p,q,h1,h2,_⟩:=h;exact ⟨v,vs,d,ds,p,q,rfl,rfl,h1,h2⟩
theorem trodAll_nil{P:Program}{vs:List Value}{ds:List (DataW H)}{ps:List MemPlace}(h:DataW.TrodAll enc P W 0 (fun _=>true) true [] vs ds ps):vs=[]∧ds=[]:=by
 cases vs with
 | nil=>
  cases ds with
  | nil=>exact ⟨rfl,rfl⟩
  | cons d ds=>exact h.elim
 | cons v vs=>cases ds <;> exact h.elim
end
set_option maxRecDepth 20000
def c110:F':=⟨11,[.t 5],.k [.a 5 (.str ⟨⟨[]⟩⟩)] (.k [.l 6 2,.m 7 0,.m 8 1,.o 9 (.call (.t 6) [(.t 7),(.t 8)])] (.k [.m 10 0,.m 5 10] .ret))⟩
theorem ok110:okF Tryz.f110 c110:=okI (by kernel_rfl)
open Go.Proofs.Tryz
abbrev ptV(p:Nat):V:=.ptr p 0 0 1
def coU(h:List ByteArray×List ByteArray)(x:ByteArray)(sc:Scs):List ByteArray×List ByteArray:=match sc.at x with
 | some _=>h
 | none=>(h.1++[x],h.2)
def coP:Pw where
 H:=List ByteArray×List ByteArray
 f _ x:=x
 nm:=some fun x _ _=>x
 cl:=some fun x _=>x
 ent h _ x:=(h.1,h.2++[x])
 nmH h x sc _:=coU h x.text sc
 clH h x sc:=coU h x sc
structure Co(m c4 c5 c6:Nat)(h:List ByteArray×List ByteArray)(v:V)(ps:List Nat)(F D:Nat→Prop)(U:St):Prop where
 f4:U[c4]?=some (.arr [.map m] 1 1)
 fm:∃bs ck,Stam bs ck∧U[m]?=some (.map ((h.1.foldl insK []).map kv) bs ck)
 f5:U[c5]?=some (.arr [v] 1 1)
 f6:U[c6]?=some (.arr [.fn (.func 107) [] [.ptr c4 0 0 1]] 1 1)
 gr:(ps=[]∧v=.sl true [])∨∃a wr,v=.arr a 0 ps.length ps.length∧U[a]?=some (.arr (ps.map ptV) 1 wr)∧wr≤ps.length∧F a∧a≠c5
 pn:ps.length=h.2.length
 pl:∀i p x,ps[i]?=some p→h.2[i]?=some x→D p∧U[p]?=some (plc x i x)
 dF:∀l,F l→l=m∨l=c5∨∃n,v=.arr l 0 n n
 dD:∀l,D l→l=c4∨l=c6∨l∈ps
 hm:F m
 h5:F c5
 h4:D c4
 h6:D c6
def coC(m c4 c5 c6:Nat):Cb where
 toPw:=coP
 fe:=.fn (.func 108) [] [.ptr c5 0 0 1]
 fn:=.fn (.func 109) [] [.ptr c6 0 0 1]
 fc:=.fn (.func 110) [] [.ptr c6 0 0 1]
 I h F D U:=∃v ps,Co m c4 c5 c6 h v ps F D U
 cn h n:=h.2.length=n
theorem qlx{U:St}{i j:Nat}{a b:Ob}(h:U[i]?=some a)(g:U[j]?=some b)(n:a≠b):i≠j:=by
 rintro rfl;rw[h] at g;cases g;exact n rfl
section
variable {m c4 c5 c6:Nat} {h:List ByteArray×List ByteArray} {v:V} {ps:List Nat} {F D:Nat→Prop} {U:St}
theorem Co.place(k:Co m c4 c5 c6 h v ps F D U){p:Nat}(hp:p∈ps):∃x i,D p∧U[p]?=some (plc x i x):=by
 obtain ⟨i,hi⟩:=List.mem_iff_getElem?.1 hp;have h1:=(qtD.1 hi).1;rw[k.pn] at h1;exact ⟨_,i,k.pl i p _ hi (qtF h1)⟩
theorem Co.gF(k:Co m c4 c5 c6 h v ps F D U){l:Nat}(hl:F l):∃o,U[l]?=some o∧(∀i,o≠.loop i)∧¬ D l:=by
 have nD:∀o,U[l]?=some o→o≠.arr [.map m] 1 1→o≠.arr [.fn (.func 107) [] [.ptr c4 0 0 1]] 1 1→(∀x i,o≠plc x i x)→¬ D l:=fun o ho n1 n2 n3 hD=>by
  rcases k.dD l hD with rfl|rfl|hp
  ·rw[k.f4] at ho;cases ho;exact n1 rfl
  ·rw[k.f6] at ho;cases ho;exact n2 rfl
  ·obtain ⟨x,i,_,h2⟩:=k.place hp;rw[h2] at ho;cases ho;exact n3 x i rfl
 rcases k.dF l hl with rfl|rfl|⟨n,hv⟩
 ·obtain ⟨bs,ck,hst,hm⟩:=k.fm;exact ⟨_,hm,by simp,nD _ hm (by simp) (by simp) (by simp[plc])⟩
 ·refine ⟨_,k.f5,by simp,nD _ k.f5 ?_ ?_ (by simp[plc])⟩
  ·rcases k.gr with ⟨_,rfl⟩|⟨a,wr,rfl,_⟩ <;> simp
  ·rcases k.gr with ⟨_,rfl⟩|⟨a,wr,rfl,_⟩ <;> simp
 ·rcases k.gr with ⟨_,rfl⟩|⟨a,wr,rfl,ha,_,_⟩
  ·cases hv
  ·cases hv;refine ⟨_,ha,by simp,nD _ ha ?_ ?_ (by simp[plc])⟩
   ·intro hh;injection hh with hh;cases ps <;> simp at hh
   ·intro hh;injection hh with hh;cases ps <;> simp at hh
theorem Co.gD(k:Co m c4 c5 c6 h v ps F D U){l:Nat}(hl:D l):∃o,U[l]?=some o∧∀i,o≠.loop i:=by
 rcases k.dD l hl with rfl|rfl|hp
 ·exact ⟨_,k.f4,by simp⟩
 ·exact ⟨_,k.f6,by simp⟩
 ·obtain ⟨x,i,_,h2⟩:=k.place hp;exact ⟨_,h2,by simp[plc]⟩
theorem Co.fr{U':St}{M:Nat→Prop}(k:Co m c4 c5 c6 h v ps F D U)(hk:Kp M U U')(hM:∀l,M l→l<U.length→¬ F l∧¬ D l):Co m c4 c5 c6 h v ps F D U':=by
 have nF:∀{l o},U[l]?=some o→F l→U'[l]?=some o:=fun ho hf=>hk.at ho fun hm=>(hM _ hm (glt ho)).1 hf
 have nD:∀{l o},U[l]?=some o→D l→U'[l]?=some o:=fun ho hf=>hk.at ho fun hm=>(hM _ hm (glt ho)).2 hf
 obtain ⟨bs,ck,hst,hm⟩:=k.fm;exact ⟨nD k.f4 k.h4,⟨bs,ck,hst,nF hm k.hm⟩,nF k.f5 k.h5,nD k.f6 k.h6,k.gr.imp id fun ⟨a,wr,h1,h2,h3,h4,h5⟩=>⟨a,wr,h1,nF h2 h4,h3,h4,h5⟩,k.pn,fun i p x h1 h2=>⟨(k.pl i p x h1 h2).1,nD (k.pl i p x h1 h2).2 (k.pl i p x h1 h2).1⟩,k.dF,k.dD,k.hm,k.h5,k.h4,k.h6⟩
theorem Co.use(k:Co m c4 c5 c6 h v ps F D U)(x:ByteArray){bs:List Nat}{ck:Nat}(hst:Stam bs ck):Co m c4 c5 c6 (h.1++[x],h.2) v ps F D (U.set m (.map (((h.1++[x]).foldl insK []).map kv) bs ck)):=by
 obtain ⟨bs0,ck0,_,hm⟩:=k.fm
 have g:∀{l o},U[l]?=some o→(∀a b c,o≠Ob.map a b c)→(U.set m (.map (((h.1++[x]).foldl insK []).map kv) bs ck))[l]?=some o:=fun {l o} ho n=>by
  rw[qtH]
  ·exact ho
  ·exact qlx hm ho (Ne.symm (n _ _ _))
 exact ⟨g k.f4 (by simp),⟨bs,ck,hst,qtI (glt hm)⟩,g k.f5 (by simp),g k.f6 (by simp),k.gr.imp id fun ⟨a,wr,h1,h2,h3,h4,h5⟩=>⟨a,wr,h1,g h2 (by simp),h3,h4,h5⟩,k.pn,fun i p x h1 h2=>⟨(k.pl i p x h1 h2).1,g (k.pl i p x h1 h2).2 (by simp[plc])⟩,k.dF,k.dD,k.hm,k.h5,k.h4,k.h6⟩
end
theorem qqX{S:St}{sz bytes:Nat}{y:V}{b:Bool}(hy:fits sz [y]=true)(hr:bytes≤2 ^ 47):appS S sz bytes (.sl true []) (.sl b [y])=some (.arr S.length 0 1 1,S++[.arr [y] sz 1]):=by
 unfold appS;rw[qb7];have hc:true=true∧fits sz [y]=true∧(([]:List V).all fun v=>v.size==sz)=true∧(([]:List V).length+[y].length) * bytes≤2 ^ 47:=⟨rfl,hy,rfl,by simpa using hr⟩;show (if ([y]:List V).isEmpty=true then _ else _)=_;rw[if_neg (by simp),if_pos hc];simp
theorem qq8{S:St}{sz bytes l wr:Nat}{xs:List V}{y:V}{b:Bool}(h3:S[l]?=some (.arr xs sz wr))(hy:fits sz [y]=true)(hr:(xs.length+1) * bytes≤2 ^ 47):appS S sz bytes (.arr l 0 xs.length xs.length) (.sl b [y])=some (.arr l 0 (xs.length+1) (xs.length+1),S.set l (.arr (xs++[y]) sz wr)):=by
 have hc:0=0∧xs.length=xs.length∧xs.length=xs.length∧sz=sz∧fits sz [y]=true∧(xs.length+[y].length) * bytes≤2 ^ 47:=⟨rfl,rfl,rfl,rfl,hy,hr⟩;unfold appS;rw[qb7];show (match S[l]? with|_=>_)=_;rw[h3];show (if _ then _ else _)=_;rw[if_pos hc];rfl
theorem qrB{m c4 c5 c6:Nat}{h:List ByteArray×List ByteArray}{v:V}{ps:List Nat}{F D:Nat→Prop}{U:St}(k:Co m c4 c5 c6 h v ps F D U)(p:Nat)(x:ByteArray)(hp:U[p]?=some (plc x h.2.length x))(nF:¬ F p)(hn:h.2.length≤100000):
  Spec prog 108 [.ptr p 0 0 1,.ptr c5 0 0 1] U (fun _ U'=>∃v' F',Co m c4 c5 c6 (h.1,h.2++[x]) v' (ps++[p]) F' (fun l=>D l∨l=p) U'∧U'[p]?=some (plc x h.2.length x)∧Kp (fun l=>l=p∨F l) U U'∧grow U F F'):=by
 refine Spec.intro func108 ok108 (by simp[c108]) ?_;have hpn:=k.pn;obtain ⟨bs,ck,hst,hm⟩:=k.fm;have fin:∀(U1:St) (a wr:Nat),U1[a]?=some (.arr ((ps++[p]).map ptV) 1 wr)→wr≤ps.length+1→(F a∨U.length≤a)→a≠c5→a≠m→U.length≤U1.length→(∀l o,U[l]?=some o→l≠a→U1[l]?=some o)→
   ∃v' F',Co m c4 c5 c6 (h.1,h.2++[x]) v' (ps++[p]) F' (fun l=>D l∨l=p) (U1.set c5 (.arr [.arr a 0 (ps.length+1) (ps.length+1)] 1 1))∧(U1.set c5 (.arr [.arr a 0 (ps.length+1) (ps.length+1)] 1 1))[p]?=some (plc x h.2.length x)∧Kp (fun l=>l=p∨F l) U (U1.set c5 (.arr [.arr a 0 (ps.length+1) (ps.length+1)] 1 1))∧grow U F F':=by
  intro U1 a wr h2 h3 h4 h5 h5' h6' h6
  have q:∀{l o},U[l]?=some o→l≠c5→l≠a→(U1.set c5 (.arr [.arr a 0 (ps.length+1) (ps.length+1)] 1 1))[l]?=some o:=fun {l o} ho n1 n2=>by
   rw[qtH (Ne.symm n1)];exact h6 l o ho n2
  have nq:∀{l o},U[l]?=some o→¬ F l→(U1.set c5 (.arr [.arr a 0 (ps.length+1) (ps.length+1)] 1 1))[l]?=some o:=fun {l o} ho hF=>
   q ho (by rintro rfl;exact hF k.h5) (by rintro rfl;exact h4.elim hF fun hh=>by have:=glt ho;omega)
  have nDF:∀{l},D l→¬ F l:=fun hD hF=>by obtain ⟨_,_,_,h⟩:=k.gF hF;exact h hD
  refine ⟨.arr a 0 (ps.length+1) (ps.length+1),fun l=>l=m∨l=c5∨l=a,⟨nq k.f4 (nDF k.h4),⟨bs,ck,hst,q hm ?_ (Ne.symm h5')⟩,qtI ?_,nq k.f6 (nDF k.h6),.inr ⟨a,wr,by simp,?_,by simpa using h3,.inr (.inr rfl),h5⟩,by simp[hpn],fun i p' x' g1 g2=>?_,fun l hl=>?_,fun l hl=>?_,.inl rfl,.inr (.inl rfl),.inl k.h4,.inl k.h6⟩,nq hp nF,⟨by simpa using h6',fun l hl hn=>?_⟩,fun l hl=>?_⟩
  ·refine qlx hm k.f5 (by simp)
  ·have:=glt k.f5;omega
  ·rw[qtH (Ne.symm h5)];exact h2
  ·by_cases hi:i<ps.length
   ·rw[qtG hi] at g1;rw[qtG (by omega)] at g2;obtain ⟨e1,e2⟩:=k.pl i p' x' g1 g2;exact ⟨.inl e1,nq e2 (nDF e1)⟩
   ·have h1:=(qtD.1 g1).1;rw[qtS,List.length_singleton] at h1;have:i=ps.length:=by omega
    subst this;simp at g1;rw[hpn] at g2;simp at g2;subst g1 g2;have e:=nq hp nF;rw[←hpn] at e;exact ⟨.inr rfl,e⟩
  ·exact hl.imp id fun hl=>hl.imp id fun hl=>⟨ps.length+1,by rw[hl]⟩
  ·rcases hl with hl|rfl
   ·exact (k.dD l hl).imp id fun hl=>hl.imp id fun hl=>by simp[hl]
   ·exact .inr (.inr (by simp))
  ·have:∃o,U[l]?=some o:=⟨_,qtF hl⟩;obtain ⟨o,ho⟩:=this;rw[ho];exact nq ho fun hf=>hn (.inr hf)
  ·rcases hl with rfl|rfl|rfl
   ·exact .inl k.hm
   ·exact .inl k.h5
   ·exact h4
 have hf:=k.f5;have hft:fits 1 [V.ptr p 0 0 1]=true:=rfl;rcases k.gr with ⟨rfl,rfl⟩|⟨a,wr,rfl,ha,hw,hF,hne⟩
 ·have happ:=qqX (S:=U) (sz:=1) (bytes:=8) (y:=.ptr p 0 0 1) (b:=true) rfl (by omega);have hs:(U++[Ob.arr [.ptr p 0 0 1] 1 1])[c5]?=some (.arr [.sl true []] 1 1):=gp hf;simp[c108,ldS,hf,hft,evX,happ,stS,hs];refine qaE rfl ?_;exact (fin (U++[Ob.arr [ptV p] 1 1]) U.length 1 (by simp) (by simp) (.inr (qtJ _)) (by have:=glt hf;omega) (by have:=glt hm;omega) (by simp) fun l o ho _=>gp ho)
 ·have happ:=qq8 (S:=U) (sz:=1) (bytes:=8) (y:=.ptr p 0 0 1) (b:=true) ha rfl (by rw[qtM];omega);simp at happ;have hs:(U.set a (Ob.arr (ps.map ptV++[.ptr p 0 0 1]) 1 wr))[c5]?=some (.arr [.arr a 0 ps.length ps.length] 1 1):=by rw[qtH hne];exact hf
  simp[c108,ldS,hf,hft,evX,happ,stS,hs];refine qaE rfl ?_;exact (fin (U.set a (Ob.arr (ps.map ptV++[.ptr p 0 0 1]) 1 wr)) a wr (by rw[qtI (glt ha),qt0];rfl) (by omega) (.inl hF) hne (qlx ha hm (by simp)) (by simp) fun l o ho hl=>by rw[qtH (Ne.symm hl)];exact ho)
section
variable {m c4 c5 c6:Nat} {h:List ByteArray×List ByteArray} {v:V} {ps:List Nat} {F D:Nat→Prop} {U:St}
theorem Co.lt(k:Co m c4 c5 c6 h v ps F D U){l:Nat}(hl:F l∨D l):l<U.length:=by
 rcases hl with hl|hl
 ·obtain ⟨_,h,_⟩:=k.gF hl;exact glt h
 ·obtain ⟨_,h,_⟩:=k.gD hl;exact glt h
theorem Co.push(k:Co m c4 c5 c6 h v ps F D U)(os:List Ob):Co m c4 c5 c6 h v ps F D (U++os):=k.fr (M:=fun _=>False) ((Kp.refl _ _).push _) fun _ h=>h.elim
theorem Co.set(k:Co m c4 c5 c6 h v ps F D U){l:Nat}(o:Ob)(hF:¬ F l)(hD:¬ D l):Co m c4 c5 c6 h v ps F D (U.set l o):=k.fr (M:=fun x=>x=l) ((Kp.refl _ _).set _ (.inl rfl)) fun x hx _=>by rw[hx];exact ⟨hF,hD⟩
end
theorem qmp{m c4 c5 c6:Nat}{h:List ByteArray×List ByteArray}{v:V}{ps:List Nat}{F D:Nat→Prop}{U:St}(k:Co m c4 c5 c6 h v ps F D U){X:Nat→Prop}{w:V}{ts:List Sct}(hsc:ScR coP X U w ts)(x:ByteArray):
  Spec prog 107 [.str x,w,.ptr c4 0 0 1] U (fun _ U'=>Co m c4 c5 c6 (coU h x (Scx ts)) v ps F D U'∧Kp F U U'):=by
 refine Spec.intro func107 ok107 (by simp[c107]) ?_;simp[c107];refine qaj (qhJ hsc x) ?_;have hat:=qfX ts x;unfold coU;rw[hat];have h4:=k.f4;obtain ⟨bs,ck,hst,hm⟩:=k.fm
 cases hf:fnd ts x with
 | some q=>
  simp[fndV,hf,eqOk,eqV];exact qaE rfl ⟨k,Kp.refl _ _⟩
 | none=>
  simp[fndV,hf,eqOk,eqV,ldS,h4];have hft:fits 1 [V.str x]=true:=rfl;simp[hft];refine qal (qlO true [x] _ bs ck m U (by simp) hm) ?_;rintro r U' ⟨bs',ck',hst',rfl⟩;simp;have:=k.use x (hst' hst);rw[quS] at this;exact qaE rfl ⟨this,(Kp.refl _ _).set _ (.inl k.hm)⟩
theorem qpy{m c4 c5 c6:Nat}{h:List ByteArray×List ByteArray}{v:V}{ps:List Nat}{F D:Nat→Prop}{U:St}(k:Co m c4 c5 c6 h v ps F D U){X:Nat→Prop}{w:V}{ts:List Sct}(hsc:ScR coP X U w ts)(x:Ex)(tg:Bool):
  Spec prog 109 [x.v,w,.bool tg,.ptr c6 0 0 1] U (fun r U'=>r=x.v∧Co m c4 c5 c6 (coU h x.text (Scx ts)) v ps F D U'∧Kp F U U'):=by
 refine Spec.intro func109 ok109 (by simp[c109]) ?_;simp[c109,boxS];obtain ⟨U1,hU1⟩:∃U1:St,U1=U++[.arr [x.v] 7 1,.arr [.agg [.int .i64 0,.int .i64 0,.int .i64 0,.int .i64 0,.int .i64 0,.str ⟨⟨[]⟩⟩,.sl true []]] 7 1]:=⟨_,rfl⟩;rw[←hU1];have l1:U1.length=U.length+2:=by rw[hU1];simp
 have b0:U1[U.length]?=some (.arr [x.v] 7 1):=by rw[hU1];simp
 have b1:U1[U.length+1]?=some (.arr [.agg [.int .i64 0,.int .i64 0,.int .i64 0,.int .i64 0,.int .i64 0,.str ⟨⟨[]⟩⟩,.sl true []]] 7 1):=by rw[hU1,qtE (by omega)];simp
 have k1:Co m c4 c5 c6 h v ps F D U1:=by rw[hU1];exact k.push _
 have s1:ScR coP X U1 w ts:=by rw[hU1];exact hsc.push _
 have kp1:Kp F U U1:=by rw[hU1];exact (Kp.refl _ _).push _
 clear hU1;have h6:=k1.f6;have nF:∀j,¬ F (U.length+j):=fun j hf=>by have:=k.lt (.inl hf);omega
 have nD:∀j,¬ D (U.length+j):=fun j hf=>by have:=k.lt (.inr hf);omega
 simp[ldS,h6,b0];refine qal (qmp k1 s1 x.text) ?_;rintro r U2 ⟨k2,kp2⟩;have c0:=kp2.at b0 (nF 0);have c1:=kp2.at b1 (nF 1);simp[ldS,c0,stS,c1,qac];have hz:(U2.set (U.length+1) (.arr [x.v] 7 1))[U.length+1]?=some (.arr [x.v] 7 1):=qtI (glt c1);exact qai (vs:=[x.v]) (by simp[rvs,ldS,hz]) ⟨rfl,k2.set _ (nF 1) (nD 1),(kp1.trans kp2).set _ (.inr (by omega))⟩
theorem qrG{m c4 c5 c6:Nat}{h:List ByteArray×List ByteArray}{v:V}{ps:List Nat}{F D:Nat→Prop}{U:St}(k:Co m c4 c5 c6 h v ps F D U){X:Nat→Prop}{w:V}{ts:List Sct}(hsc:ScR coP X U w ts)(x:ByteArray):
  Spec prog 110 [.str x,w,.ptr c6 0 0 1] U (fun r U'=>r=.str x∧Co m c4 c5 c6 (coU h x (Scx ts)) v ps F D U'∧Kp F U U'):=by
 refine Spec.intro func110 ok110 (by simp[c110]) ?_;have h6:=k.f6;simp[c110,ldS,h6];refine qal (qmp k hsc x) ?_;rintro r U2 ⟨k2,kp2⟩;simp;exact qai rfl ⟨rfl,k2,kp2⟩
theorem Co.real{m c4 c5 c6:Nat}{h:List ByteArray×List ByteArray}{v:V}{ps:List Nat}{F D:Nat→Prop}{S:St}(k:Co m c4 c5 c6 h v ps F D S)(h':List ByteArray×List ByteArray):∃F' D' U v' ps',Co m c4 c5 c6 h' v' ps' F' D' U∧Kp F S U∧grow S F F'∧grow S D D':=by
 obtain ⟨bs,ck,hst,hm⟩:=k.fm;obtain ⟨n,hn⟩:∃n,n=h'.2.length:=⟨_,rfl⟩;obtain ⟨ps',hps⟩:∃ps':List Nat,ps'=(List.range n).map (S.length+·):=⟨_,rfl⟩;have lps:ps'.length=n:=by rw[hps];simp
 obtain ⟨os,hos⟩:∃os:List Ob,os=(h'.2.zipIdx.map fun e=>plc e.1 e.2 e.1)++[.arr (ps'.map ptV) 1 0]:=⟨_,rfl⟩;have los:os.length=n+1:=by rw[hos,hn];simp
 obtain ⟨U,hU⟩:∃U:St,U=((S++os).set m (.map ((h'.1.foldl insK []).map kv) [] 0)).set c5 (.arr [.arr (S.length+n) 0 n n] 1 1):=⟨_,rfl⟩;have lm:=glt hm;have l5:=glt k.f5;have nDF:∀{l},D l→¬ F l:=fun hD hF=>by obtain ⟨_,_,_,h⟩:=k.gF hF;exact h hD
 have q:∀{l o},S[l]?=some o→¬ F l→U[l]?=some o:=fun {l o} ho hf=>by
  rw[hU,qtH (by rintro rfl;exact hf k.h5),qtH (by rintro rfl;exact hf k.hm)];rw[qtG (glt ho)];exact ho
 have new:∀j o,os[j]?=some o→U[S.length+j]?=some o:=fun j o ho=>by
  rw[hU,qtH (by omega),qtH (by omega),qtE (by omega),qu1];exact ho
 refine ⟨fun l=>l=m∨l=c5∨l=S.length+n,fun l=>l=c4∨l=c6∨l∈ps',U,.arr (S.length+n) 0 n n,ps',⟨q k.f4 (nDF k.h4),⟨[],0,Stam.nil,?_⟩,?_,q k.f6 (nDF k.h6),.inr ⟨S.length+n,0,by rw[lps],new n _ ?_,quL _,.inr (.inr rfl),by omega⟩,by rw[lps,hn],fun i p x h1 h2=>⟨.inr (.inr (qtP h1)),?_⟩,fun l hl=>hl.imp id fun hl=>hl.imp id fun hl=>⟨n,by rw[hl]⟩,fun l hl=>hl,.inl rfl,.inr (.inl rfl),.inl rfl,.inr (.inl rfl)⟩,⟨?_,fun l hl hf=>?_⟩,fun l hl=>?_,fun l hl=>?_⟩
 ·rw[hU,qtH (qlx k.f5 hm (by simp)),qtI (by simp;omega)]
 ·rw[hU,qtI (by simp;omega)]
 ·rw[hos,qtE (by simp[hn])];simp[hn]
 ·rw[hps] at h1;simp at h1;obtain ⟨j,hj,rfl⟩:=h1;obtain ⟨h3,h4⟩:=qtD.1 hj;rw[List.getElem_range] at h4;rw[List.length_range] at h3;subst h4;refine new i _ ?_;rw[hos,qtG (by simp;omega)];simp[h2]
 ·rw[hU];simp
 ·obtain ⟨o,ho⟩:∃o,S[l]?=some o:=⟨_,qtF hl⟩;rw[ho];exact q ho hf
 ·rcases hl with rfl|rfl|rfl
  ·exact .inl k.hm
  ·exact .inl k.h5
  ·exact .inr (by omega)
 ·rcases hl with rfl|rfl|hl
  ·exact .inl k.h4
  ·exact .inl k.h6
  ·rw[hps] at hl;simp at hl;omega
theorem qsb(m c4 c5 c6:Nat):(coC m c4 c5 c6).Ok where
 lt:=fun ⟨v,ps,k⟩ l hl=>k.lt hl
 fr:=fun ⟨v,ps,k⟩ hk hM=>⟨v,ps,k.fr hk hM⟩
 lp:=fun ⟨v,ps,k⟩ l o ho=>⟨fun hf=>by obtain ⟨_,h1,h2,_⟩:=k.gF hf;rw[ho] at h1;cases h1;exact h2 _ rfl,fun hf=>by obtain ⟨_,h1,h2⟩:=k.gD hf;rw[ho] at h1;cases h1;exact h2 _ rfl⟩
 ce x hc:=by
  show (_++[x]).length=_+1;rw[qtS];exact congrArg (·+1) hc
 cm x sc tg hc:=by
  show (coU _ x.text sc).2.length=_;unfold coU;split <;> exact hc
 cc x sc hc:=by
  show (coU _ x sc).2.length=_;unfold coU;split <;> exact hc
 real:=fun {h F D S} ⟨v,ps,k⟩ h'=>by
  obtain ⟨F',D',U,v',ps',a,b,c,d⟩:=k.real h';exact ⟨F',D',U,⟨v',ps',a⟩,b,c,d⟩
 en:=.inr ⟨108,[.ptr c5 0 0 1],rfl,fun U p k x h F D hp hF hD hk hc ⟨v,ps,kk⟩=>by
  have hc:h.2.length=k:=hc;subst hc;refine Spec.mono (qrB kk p x hp hF hk) fun r U' ⟨v',F',a,b,c,d⟩=>?_
  exact ⟨F',fun l=>D l∨l=p,⟨v',ps++[p],a⟩,b,c,d,fun l hl=>hl.imp id .inl⟩⟩
 nm:=⟨109,[.ptr c6 0 0 1],rfl,fun U x w ts tg w' h F D hsc ⟨v,ps,k⟩=>Spec.mono (qpy k hsc x tg) fun r U' ⟨a,b,c⟩=>⟨a,F,D,⟨v,ps,b⟩,c,grow.refl _ _,grow.refl _ _⟩⟩
 cl:=⟨110,[.ptr c6 0 0 1],rfl,fun U x w ts w' h F D hsc ⟨v,ps,k⟩=>Spec.mono (qrG k hsc x) fun r U' ⟨a,b,c⟩=>⟨a,F,D,⟨v,ps,b⟩,c,grow.refl _ _,grow.refl _ _⟩⟩
def Coll(s:Sm)(S:St)(r:V)(U:St):Prop:=∃(m c4 c5 c6:Nat) (v:V) (ps:List Nat) (F D:Nat→Prop),r=.tup [.map m,v]∧Co m c4 c5 c6 (s.wholeH coP ([],[])) v ps F D U∧Kp (fun _=>False) S U∧(∀l,F l∨D l→S.length≤l)
theorem qfO(y:V):V.upd .nilmap 0 1 y=if y.size=1∧y.cells.all V.flat=true then some y else none:=rfl
theorem qoS(s:Sm)(hs:s.ok)(hsz:(Pa.st s).size≤4000)(hn:Sm.nb1 [s]≤100000)(S:St):Spec prog 58 [s.v] S (fun r U=>Coll s S r U):=by
 refine Spec.intro func58 ok58 (by simp[c58]) ?_;simp[c58,boxS,ldS,stS,qac,qam,qag,evX,qfO,qhA];obtain ⟨B,hB⟩:∃B,B=S.length:=⟨_,rfl⟩;obtain ⟨S1,hS1⟩:∃S1:St,S1=S++[.arr [s.v] 8 1,.map [] [] 0,.arr [.map (B+1)] 1 1,.arr [.sl true []] 1 1,.arr [.fn (.func 107) [] [.ptr (B+2) 0 0 1]] 1 1,.arr [.agg [.int .i64 0,.fn (.func 108) [] [.ptr (B+3) 0 0 1],.fn (.func 109) [] [.ptr (B+4) 0 0 1],.fn (.func 110) [] [.ptr (B+4) 0 0 1]]] 4 1]:=⟨_,rfl⟩;rw[←hB,←hS1];have l1:S1.length=B+6:=by rw[hS1,hB];simp
 have g:∀j o,[Ob.arr [s.v] 8 1,.map [] [] 0,.arr [.map (B+1)] 1 1,.arr [.sl true []] 1 1,.arr [.fn (.func 107) [] [.ptr (B+2) 0 0 1]] 1 1,.arr [.agg [.int .i64 0,.fn (.func 108) [] [.ptr (B+3) 0 0 1],.fn (.func 109) [] [.ptr (B+4) 0 0 1],.fn (.func 110) [] [.ptr (B+4) 0 0 1]]] 4 1][j]?=some o→S1[B+j]?=some o:=fun j o ho=>by
  rw[hS1,qtE (by omega),hB,qu1,←hB];exact ho
 have kS:Kp (fun _=>False) S S1:=by rw[hS1];exact (Kp.refl _ _).push _
 have k1:Co (B+1) (B+2) (B+3) (B+4) ([],[]) (.sl true []) [] (fun l=>l=B+1∨l=B+3) (fun l=>l=B+2∨l=B+4) S1:=
  ⟨g 2 _ rfl,⟨[],0,Stam.nil,g 1 _ rfl⟩,g 3 _ rfl,g 4 _ rfl,.inl ⟨rfl,rfl⟩,rfl,fun i p x h=>by simp at h,fun l hl=>hl.imp id .inl,fun l hl=>hl.imp id .inl,.inl rfl,.inr rfl,.inl rfl,.inr rfl⟩
 have hw:Wk (coC (B+1) (B+2) (B+3) (B+4)) (B+5) 0 ([],[]) (fun l=>l=B+1∨l=B+3) (fun l=>l=B+2∨l=B+4) S1:=⟨g 5 _ rfl,⟨_,_,k1⟩,by omega,by omega,rfl⟩;clear g hS1 k1;refine qal (qsE (coC (B+1) (B+2) (B+3) (B+4)) (qsb _ _ _ _) (B+5) s hs hsz ([],[]) _ _ S1 hw hn) ?_;rintro r U ⟨rfl,F2,D2,k2,s2⟩;obtain ⟨v,ps,kk⟩:=k2.st;have h4:=kk.f4;have h5:=kk.f5;have hvc:v.cells=[v]:=by rcases kk.gr with ⟨_,rfl⟩|⟨a,wr,rfl,_⟩ <;> rfl
 simp[ldS,h4,h5,hvc,dend,qbk,qbu];refine qai rfl ⟨_,_,_,_,_,_,_,_,rfl,kk,⟨qul kS.len s2.k.len,fun l hl hn=>?_⟩,fun l hl=>?_⟩
 ·rw[s2.k.get l (by omega) (by rintro (hh|hh|hh) <;> omega)];exact kS.get l hl hn
 ·rcases hl with hl|hl
  ·rcases s2.gF l hl with (h|h)|h <;> omega
  ·rcases s2.gD l hl with (h|h)|h <;> omega
mutual
def Ex.occ:Ex→List ByteArray
 | .mk k _ _ _ _ t a=>Ex.occl a++(if Ex.named k then [t] else [])
def Ex.occl:List Ex→List ByteArray
 | []=>[]
 | x::l=>Ex.occ x++Ex.occl l
end
def El.occl:List El→List ByteArray
 | []=>[]
 | x::l=>Ex.occl x.exps++El.occl l
mutual
def Sm.occ:Sm→List ByteArray
 | .mk _ k t g e h d b=>if k=7 then De.occl d++Sm.occl b else if k=8 then Sm.occl b else Ex.occl g++Ex.occl e++El.occl h++Sm.occl b++(if k=6 then [t] else [])
def De.occ:De→List ByteArray
 | .mk k _ _ _ e _ b=>if k=4 then Sm.occl b else Ex.occl e
def De.occl:List De→List ByteArray
 | []=>[]
 | x::l=>De.occ x++De.occl l
def Sm.occl:List Sm→List ByteArray
 | []=>[]
 | x::l=>Sm.occ x++Sm.occl l
end
section
variable {f:Nat→ByteArray} {nm:ByteArray→Bool} (hf:∀k,nm (f k)=false)
def fsto(h:coP.H):List ByteArray:=Prod.fst (α:=List ByteArray) (β:=List ByteArray) h
theorem qbm(s:Sco):∀h:coP.H,fsto (enters coP h s)=fsto h:=by
 induction s with
 | nil=>intro h;rfl
 | cons e s ih=>intro h;exact ih _
include hf
theorem qmX(h:coP.H)(sc:Scs)(t:ByteArray)(ht:nm t=true):fsto (coP.clH h t sc)=fsto h++[reto f sc t].filter nm:=by
 show Prod.fst (coU h t sc)=_;unfold coU reto fsto
 cases sc.at t with
 | none=>simp[ht]
 | some k=>simp[hf]
omit hf in
theorem qo6(sc:Scs)(tg:Bool)(h:coP.H)(k o n m e:Int)(t:ByteArray)(a:List Ex):coP.nmS sc tg h (.mk k o n m e t a)=if Ex.named k=true then coP.clH h t sc else h:=rfl
omit hf in
theorem qo3(sc:Scs)(k:Int)(h:coP.H)(t:ByteArray):coP.clS sc k h t=if k=6 then coP.clH h t sc else h:=rfl
def coZ:coP.H:=(([],[]):List ByteArray×List ByteArray)
mutual
theorem Ex.fr(sc:Scs)(tg:Bool):∀(x:Ex) (h:coP.H),(Pa.ex x).valid nm=true→fsto (Ex.hs coP sc tg h x)=fsto h++(Ex.occ (x.w f sc)).filter nm
 | .mk k o n m e t a,h,v=>by
  have ha:=Ex.frl sc false a h (Ex.valid_args v);rw[Ex.hs,Ex.w,Ex.occ,qur,←qtN,←ha];rw[qo6];by_cases hk:Ex.named k=true
  ·rw[if_pos hk,if_pos hk,if_pos hk];exact qmX hf _ sc t (Ex.valid_text v hk)
  ·rw[if_neg hk,if_neg hk,List.filter_nil,quG]
theorem Ex.frl(sc:Scs)(tg:Bool):∀(l:List Ex) (h:coP.H),(∀x,x∈l→(Pa.ex x).valid nm=true)→fsto (Ex.hsl coP sc tg h l)=fsto h++(Ex.occl (Ex.wl f sc l)).filter nm
 | [],h,_=>by simp[Ex.hsl,Ex.wl,Ex.occl]
 | x::l,h,v=>by
  rw[Ex.hsl,Ex.wl,Ex.occl,Ex.frl sc tg l _ fun y hy=>v y (by simp[hy])];have:=Ex.fr sc tg x h (v x (by simp));rw[qur,←qtN,←this]
end
theorem El.frl(sc:Scs):∀(l:List El) (h:coP.H),(∀x,x∈l→(Pa.el x).valid nm=true)→fsto (El.hsl coP sc h l)=fsto h++(El.occl (l.map (El.w f sc))).filter nm
 | [],h,_=>by simp[El.hsl,El.occl]
 | x::l,h,v=>by
  have h1:=Ex.frl hf sc false x.exps h (fun y hy=>(Pa.valid_iff.1 (v x (by simp))).2 _ (by simp only[Pa.kids];exact qug hy));have h2:=El.frl sc l (Ex.hsl coP sc false h x.exps) fun y hy=>v y (by simp[hy])
  show fsto (El.hsl coP sc (Ex.hsl coP sc false h x.exps) l)=_;rw[h2,h1,qtX,El.occl,qur,←qtN];unfold El.w;rw[←Ex.wl_map]
mutual
theorem Sm.fr:∀(s:Sm) (sc:Scs) (n:Nat) (h:coP.H),(Pa.st s).valid nm=true→fsto (Sm.hs coP sc n h s)=fsto h++(s.w f sc n).occ.filter nm
 | .mk l k t g e el d b,sc,n,h,v=>by
  obtain ⟨v7,v8,v9⟩:=Sm.valid_block v;have vd:=Sm.valid_decls v;have vb:=Sm.valid_body v;have vg:=Sm.valid_targets v;have ve:=Sm.valid_exps v;have vl:=Sm.valid_elems v;have vt:=Sm.valid_text v;simp only[Sm.decls,Sm.body,Sm.targets,Sm.exps,Sm.elems,Sm.kind,Sm.text] at vd vb vg ve vl vt;rw[Sm.hs,Sm.w];by_cases h7:k=7
  ·obtain ⟨rfl,rfl,rfl⟩:=v7 h7;rw[if_pos h7,if_pos h7,Sm.occ,if_pos h7,qur,←qtN];rw[Sm.frl b _ _ _ vb,De.frl d _ _ _ _ vd,qbm];rfl
  ·rw[if_neg h7,if_neg h7];by_cases h8:k=8
   ·obtain ⟨rfl,rfl,rfl,rfl⟩:=v8 h8;rw[if_pos h8,if_pos h8,Sm.occ,if_neg h7,if_pos h8];rw[Sm.frl b _ _ _ vb,qbm];rfl
   ·obtain rfl:=v9 h7 h8;rw[if_neg h8,if_neg h8,Sm.occ,if_neg h7,if_neg h8];have e1:=Ex.frl hf sc true g h vg;have e2:=Ex.frl hf sc false e (Ex.hsl coP sc true h g) ve;have e3:=El.frl hf sc el (Ex.hsl coP sc false (Ex.hsl coP sc true h g) e) vl;have e4:=Sm.fr1 b sc n (El.hsl coP sc (Ex.hsl coP sc false (Ex.hsl coP sc true h g) e) el) vb;rw[e3,e2,e1] at e4;simp only[qur];rw[qo3];by_cases h6:k=6
    ·rw[if_pos h6,if_pos h6,if_pos h6];have e5:=qmX hf (Sm.hs1 coP sc n (El.hsl coP sc (Ex.hsl coP sc false (Ex.hsl coP sc true h g) e) el) b) sc t (vt h6);refine Eq.trans e5 ?_;rw[e4];simp only[qtN]
    ·rw[if_neg h6,if_neg h6];refine Eq.trans e4 ?_;simp only[qtN,List.filter_nil,quG]
theorem De.fr:∀(s:De) (own sc:Scs) (n:Nat) (h:coP.H),(Pa.de s).valid nm=true→fsto (De.hs coP own sc n h s)=fsto h++(s.w f own sc n).occ.filter nm
 | .mk k o t ns e fo b,own,sc,n,h,v=>by
  obtain ⟨v4,v5⟩:=De.valid_proc v;have vb:=De.valid_body v;have ve:=De.valid_exps v;simp only[De.body,De.exps] at vb ve;rw[De.hs,De.w];by_cases h4:k=4
  ·obtain rfl:=v4 h4;rw[if_pos h4,if_pos h4,De.occ,if_pos h4,Sm.fr1 b _ _ _ vb,qbm];rfl
  ·obtain ⟨rfl,rfl⟩:=v5 h4;rw[if_neg h4,if_neg h4,De.occ,if_neg h4];exact Ex.frl hf _ _ e h ve
theorem De.frl:∀(l:List De) (own sc:Scs) (n:Nat) (h:coP.H),(∀x,x∈l→(Pa.de x).valid nm=true)→fsto (De.hsl coP own sc n h l)=fsto h++(De.occl (De.wl f own sc n l)).filter nm
 | [],_,_,_,h,_=>by simp[De.hsl,De.wl,De.occl]
 | x::l,own,sc,n,h,v=>by
  rw[De.hsl,De.wl,De.occl,De.frl l own sc _ _ fun y hy=>v y (by simp[hy]),De.fr x own sc n h (v x (by simp)),qur,qtN]
theorem Sm.frl:∀(l:List Sm) (sc:Scs) (n:Nat) (h:coP.H),(∀x,x∈l→(Pa.st x).valid nm=true)→fsto (Sm.hsl coP sc n h l)=fsto h++(Sm.occl (Sm.wl f sc n l)).filter nm
 | [],_,_,h,_=>by simp[Sm.hsl,Sm.wl,Sm.occl]
 | x::l,sc,n,h,v=>by
  rw[Sm.hsl,Sm.wl,Sm.occl,Sm.frl l sc _ _ fun y hy=>v y (by simp[hy]),Sm.fr x sc n h (v x (by simp)),qur,qtN]
theorem Sm.fr1:∀(l:List Sm) (sc:Scs) (n:Nat) (h:coP.H),(∀x,x∈l→(Pa.st x).valid nm=true)→fsto (Sm.hs1 coP sc n h l)=fsto h++(Sm.occl (Sm.w1 f sc n l)).filter nm
 | [],_,_,h,_=>by simp[Sm.hs1,Sm.w1,Sm.occl]
 | x::l,sc,n,h,v=>by
  rw[Sm.hs1,Sm.w1,Sm.occl,Sm.fr1 l sc _ _ fun y hy=>v y (by simp[hy]),Sm.fr x _ _ _ (v x (by simp)),qbm,qur,qtN]
end
theorem Sm.free_occ(s:Sm)(v:(Pa.st s).valid nm=true):fsto (s.wholeH coP coZ)=(s.whole f).occ.filter nm:=by
 have:=Sm.fr hf s [qad s.labels 0] (qad s.labels 0).length (enters coP coZ (qad s.labels 0)) v;refine this.trans ?_;show fsto (enters coP coZ (qad s.labels 0))++_=_;rw[qbm];rfl
end
end Go.Proofs.YtbifpocccfkhhaaGreatDoor
namespace Go.Proofs
open Go.Shelf
def Tryz.keys137_ren:Go.Shelf.Ren:=⟨fun|7=>137|10=>172|n=>n,fun|23=>89|26=>9|3=>4|28=>168|0=>0|27=>167|33=>35|4=>4|n=>n,fun|n=>n⟩
theorem Tryz.keys137:Go.Proofs.SlLaysZ.n7 Tryz.prog Tryz.keys137_ren:={
 mixed:=by kernel_rfl
 f7:=⟨Tryz.f137.name,by decide,Tryz.func137.trans (congrArg some (by kernel_rfl))⟩
 f10:=⟨Tryz.f172.name,by decide,Tryz.func172.trans (congrArg some (by kernel_rfl))⟩
 t0:=Tryz.underlying0
 a0:=Tryz.isAgg0
 z0:=Tryz.sizeOf0
 v0:=Tryz.zeroValue0
 t4:=Tryz.underlying4
 a4:=Tryz.isAgg4
 z4:=Tryz.sizeOf4
 v4:=Tryz.zeroValue4
 t23:=Tryz.underlying89
 a23:=Tryz.isAgg89
 z23:=Tryz.sizeOf89
 v23:=Tryz.zeroValue89
 t26:=Tryz.underlying9
 a26:=Tryz.isAgg9
 z26:=Tryz.sizeOf9
 v26:=Tryz.zeroValue9
 t27:=Tryz.underlying167
 a27:=Tryz.isAgg167
 z27:=Tryz.sizeOf167
 v27:=Tryz.zeroValue167
 t28:=Tryz.underlying168
 a28:=Tryz.isAgg168
 z28:=Tryz.sizeOf168
 v28:=Tryz.zeroValue168
 t33:=Tryz.underlying35
 a33:=Tryz.isAgg35
 z33:=Tryz.sizeOf35
 v33:=Tryz.zeroValue35 }
def Tryz.sorted136_ren:Go.Shelf.Ren:=⟨fun|6=>136|8=>170|9=>171|11=>197|13=>199|12=>198|23=>247|24=>248|14=>238|15=>239|16=>240|17=>241|18=>242|19=>243|20=>244|21=>245|22=>246|25=>263|26=>264|27=>265|28=>266|29=>267|30=>268|31=>276|n=>n,fun|26=>9|28=>168|24=>22|0=>0|3=>3|37=>213|48=>254|50=>239|4=>4|40=>246|39=>245|45=>251|5=>5|9=>9|51=>266|55=>270|57=>286|58=>219|33=>35|n=>n,fun|n=>n⟩
theorem Tryz.sorted136:Go.Proofs.SlLaysZ.n6 Tryz.prog Tryz.sorted136_ren:={
 mixed:=by kernel_rfl
 f6:=⟨Tryz.f136.name,by decide,Tryz.func136.trans (congrArg some (by kernel_rfl))⟩
 f8:=⟨Tryz.f170.name,by decide,Tryz.func170.trans (congrArg some (by kernel_rfl))⟩
 f11:=⟨Tryz.f197.name,by decide,Tryz.func197.trans (congrArg some (by kernel_rfl))⟩
 t0:=Tryz.underlying0
 a0:=Tryz.isAgg0
 z0:=Tryz.sizeOf0
 v0:=Tryz.zeroValue0
 t24:=Tryz.underlying22
 a24:=Tryz.isAgg22
 z24:=Tryz.sizeOf22
 v24:=Tryz.zeroValue22
 t26:=Tryz.underlying9
 a26:=Tryz.isAgg9
 z26:=Tryz.sizeOf9
 v26:=Tryz.zeroValue9
 t28:=Tryz.underlying168
 a28:=Tryz.isAgg168
 z28:=Tryz.sizeOf168
 v28:=Tryz.zeroValue168
 i26:=by kernel_rfl }
def Tryz.sort171_ren:Go.Shelf.Ren:=⟨fun|6=>171|8=>199|9=>198|19=>247|20=>248|21=>238|22=>239|23=>240|24=>241|25=>242|26=>243|27=>244|28=>245|29=>246|36=>263|31=>264|32=>265|37=>266|38=>267|39=>268|41=>276|n=>n,fun|27=>22|29=>9|3=>3|32=>213|26=>22|0=>0|44=>254|46=>239|4=>4|36=>246|35=>245|41=>251|5=>5|9=>9|53=>266|57=>270|63=>286|64=>219|n=>n,fun|n=>n⟩
theorem Tryz.sort171:Go.Proofs.SlLaysM.n6 Tryz.prog Tryz.sort171_ren:={
 mixed:=by kernel_rfl
 f6:=⟨Tryz.f171.name,by decide,Tryz.func171.trans (congrArg some (by kernel_rfl))⟩
 f8:=Tryz.func199.trans (congrArg some (by kernel_rfl))
 f9:=⟨Tryz.f198.name,by decide,Tryz.func198.trans (congrArg some (by kernel_rfl))⟩
 f19:=Tryz.func247.trans (congrArg some (by kernel_rfl))
 f20:=Tryz.func248.trans (congrArg some (by kernel_rfl))
 f21:=⟨Tryz.f238.name,by decide,Tryz.func238.trans (congrArg some (by kernel_rfl))⟩
 f22:=⟨Tryz.f239.name,by decide,Tryz.func239.trans (congrArg some (by kernel_rfl))⟩
 f23:=⟨Tryz.f240.name,by decide,Tryz.func240.trans (congrArg some (by kernel_rfl))⟩
 f24:=⟨Tryz.f241.name,by decide,Tryz.func241.trans (congrArg some (by kernel_rfl))⟩
 f25:=⟨Tryz.f242.name,by decide,Tryz.func242.trans (congrArg some (by kernel_rfl))⟩
 f26:=⟨Tryz.f243.name,by decide,Tryz.func243.trans (congrArg some (by kernel_rfl))⟩
 f27:=⟨Tryz.f244.name,by decide,Tryz.func244.trans (congrArg some (by kernel_rfl))⟩
 f28:=⟨Tryz.f245.name,by decide,Tryz.func245.trans (congrArg some (by kernel_rfl))⟩
 f29:=⟨Tryz.f246.name,by decide,Tryz.func246.trans (congrArg some (by kernel_rfl))⟩
 f31:=Tryz.func264.trans (congrArg some (by kernel_rfl))
 f32:=Tryz.func265.trans (congrArg some (by kernel_rfl))
 f36:=⟨Tryz.f263.name,by decide,Tryz.func263.trans (congrArg some (by kernel_rfl))⟩
 f37:=⟨Tryz.f266.name,by decide,Tryz.func266.trans (congrArg some (by kernel_rfl))⟩
 f38:=⟨Tryz.f267.name,by decide,Tryz.func267.trans (congrArg some (by kernel_rfl))⟩
 f39:=⟨Tryz.f268.name,by decide,Tryz.func268.trans (congrArg some (by kernel_rfl))⟩
 f41:=⟨Tryz.f276.name,by decide,Tryz.func276.trans (congrArg some (by kernel_rfl))⟩
 t0:=Tryz.underlying0
 a0:=Tryz.isAgg0
 z0:=Tryz.sizeOf0
 v0:=Tryz.zeroValue0
 t3:=Tryz.underlying3
 a3:=Tryz.isAgg3
 z3:=Tryz.sizeOf3
 v3:=Tryz.zeroValue3
 t4:=Tryz.underlying4
 a4:=Tryz.isAgg4
 z4:=Tryz.sizeOf4
 v4:=Tryz.zeroValue4
 t5:=Tryz.underlying5
 a5:=Tryz.isAgg5
 z5:=Tryz.sizeOf5
 v5:=Tryz.zeroValue5
 t9:=Tryz.underlying9
 a9:=Tryz.isAgg9
 z9:=Tryz.sizeOf9
 v9:=Tryz.zeroValue9
 t26:=Tryz.underlying22
 a26:=Tryz.isAgg22
 z26:=Tryz.sizeOf22
 v26:=Tryz.zeroValue22
 t27:=Tryz.underlying22
 a27:=Tryz.isAgg22
 z27:=Tryz.sizeOf22
 v27:=Tryz.zeroValue22
 t29:=Tryz.underlying9
 a29:=Tryz.isAgg9
 z29:=Tryz.sizeOf9
 v29:=Tryz.zeroValue9
 t32:=Tryz.underlying213
 a32:=Tryz.isAgg213
 z32:=Tryz.sizeOf213
 v32:=Tryz.zeroValue213
 t35:=Tryz.underlying245
 a35:=Tryz.isAgg245
 z35:=Tryz.sizeOf245
 v35:=Tryz.zeroValue245
 t36:=Tryz.underlying246
 a36:=Tryz.isAgg246
 z36:=Tryz.sizeOf246
 v36:=Tryz.zeroValue246
 t41:=Tryz.underlying251
 a41:=Tryz.isAgg251
 z41:=Tryz.sizeOf251
 v41:=Tryz.zeroValue251
 t44:=Tryz.underlying254
 a44:=Tryz.isAgg254
 z44:=Tryz.sizeOf254
 v44:=Tryz.zeroValue254
 t46:=Tryz.underlying239
 a46:=Tryz.isAgg239
 z46:=Tryz.sizeOf239
 v46:=Tryz.zeroValue239
 t53:=Tryz.underlying266
 a53:=Tryz.isAgg266
 z53:=Tryz.sizeOf266
 v53:=Tryz.zeroValue266
 t57:=Tryz.underlying270
 a57:=Tryz.isAgg270
 z57:=Tryz.sizeOf270
 v57:=Tryz.zeroValue270
 t63:=Tryz.underlying286
 a63:=Tryz.isAgg286
 z63:=Tryz.sizeOf286
 v63:=Tryz.zeroValue286
 t64:=Tryz.underlying219
 a64:=Tryz.isAgg219
 z64:=Tryz.sizeOf219
 v64:=Tryz.zeroValue219 }
end Go.Proofs
namespace Go.Proofs
open Go.RowKit Go.Maps Go.Sort Go.Shelf
theorem Tryz.sorts136(m:Nat):AnyZ.SortsIn Tryz.prog Tryz.sorted136_ren Fence.wide m:=
 ⟨fun blk off cap ss W hH hblk hsz=>callsIn_wide.2 (AnyM.slices_Sort_string Tryz.sort171 blk off cap ss W hH hblk hsz),
  fun p cap W=>callsIn_wide.2 (AnyM.slices_Sort_string_none Tryz.sort171 p cap W)⟩
theorem Tryz.maps_Keys_137(mb:Option Nat)(W:World):CallsIn Fence.wide 5 Tryz.prog 137 #[.map mb] W fun e w'=>e=.returned (.func (.func 172) #[] #[.pointer (some ⟨W.heap.size,0,none⟩)])∧w'=W.alloc (.cells #[.map mb] 89):=
 AnyZ.keys_in Tryz.keys137 Fence.wide 5 trivial rfl mb W
set_option maxHeartbeats 1000000 in
theorem Tryz.slices_Sorted_keys_136_137{H:Type}(b nn:Nat)(D0:DataW H)(R:Value→Option (DataW H×List MemPlace))(w:World)(hown:w.ownsMap Tryz.prog 9 R b nn D0)(hmax:Maps.size D0≤maxLen)(hbytes:Maps.size D0 * 16≤140737488355328):
  CallsIn Fence.wide 5 Tryz.prog 136 #[.func (.func 172) #[] #[.pointer (some ⟨w.heap.size,0,none⟩)]] (w.alloc (.cells #[.map (some b)] 89)) fun e w'=>∃(v:Value) (ss:List (List UInt8)),e=.returned v∧ss.Perm (strKeys D0)∧
   w'.ownsRow (w.alloc (.cells #[.map (some b)] 89)).heap.size 9 1 v ss.length ((ss.mergeSort (fun x y=>decide (x≤y))).map encStr)∧(v=.slice none 0 0↔ss=[])∧Below (w.alloc (.cells #[.map (some b)] 89)).heap.size (w.alloc (.cells #[.map (some b)] 89)) w':=by
 have hbl:=hown.lt;have hseq:SeqGives Fence.wide 2 Tryz.prog 172 #[.pointer (some ⟨w.heap.size,0,none⟩)] encStr (fun ss=>ss.Perm (strKeys D0)) (Maps.size D0) (w.alloc (.cells #[.map (some b)] 89)):=
  AnyZ.keys_gives (ρ:=Tryz.keys137_ren) { Tryz.keys137 with } Fence.wide _ trivial rfl (by omega) w.heap.size b nn D0 _ (by simp) (by simp) (by
   obtain ⟨es,clock,hb,Ft,hs,hD⟩:=hown;exact ⟨es,clock,(Below.heap_alloc _ _ b hbl).trans hb,Ft,hs,hD⟩)
 exact AnyZ.sorted_in Tryz.sorted136 Fence.wide 5 trivial trivial trivial trivial rfl (by omega) (Tryz.sorts136 _) (enters_of Tryz.func171 (by kernel_rfl) rfl) 172 #[.pointer (some ⟨w.heap.size,0,none⟩)] trivial (enters_of Tryz.func172 (by kernel_rfl) rfl) _ _ hmax hbytes _ hseq
set_option maxHeartbeats 1000000 in
theorem Tryz.sorted86{H:Type}(b nn:Nat)(D0:DataW H)(R:Value→Option (DataW H×List MemPlace))(w:World)(hown:w.ownsMap Tryz.prog 9 R b nn D0)(hmax:Maps.size D0≤maxLen)(hbytes:Maps.size D0 * 16≤140737488355328):
  Calls Tryz.prog 86 #[.map (some b)] w fun e w'=>∃(v:Value) (ss:List (List UInt8)),e=.returned v∧ss.Perm (strKeys D0)∧
   w'.ownsRow w.heap.size 9 1 v ss.length ((ss.mergeSort (fun x y=>decide (x≤y))).map encStr)∧(v=.slice none 0 0↔ss=[])∧Below w.heap.size w w':=by
 refine (callsIn_wide (n:=6)).1 ?_;have hfK:Fence.wide.fn 137:=trivial;have hfS:Fence.wide.fn 136:=trivial;refine callsIn_of_wp Tryz.func86 rfl trivial ?_ rfl;simp only[Tryz.ntmps86,List.size_toArray,List.length_cons,List.length_nil,Nat.reduceAdd,Nat.reduceSub,Array.replicate_succ,Array.replicate_zero,List.push_toArray,List.append_toArray,List.nil_append,List.cons_append];gi_wp2_with (first
  | (gi_at_call 137;refine (Tryz.maps_Keys_137 _ _).mono ?_;rintro e w' ⟨rfl,rfl⟩)
  | (gi_at_call 136;refine (Tryz.slices_Sorted_keys_136_137 b nn D0 R w hown hmax hbytes).mono ?_;rintro e w' ⟨v,ss,rfl,hS,hrow,hnil,hb⟩))
 go_ret;exact ⟨v,ss,rfl,hS,ownsRow_base_a hrow (by simp),hnil,((Below.refl _ w).alloc (Nat.le_refl _) _).trans (hb.mono (by simp))⟩
end Go.Proofs
namespace Go.Proofs.YtbifpocccfkhhaaGreatDoor
open Go Go.Proofs.Tryz
theorem SR.layAt{E:En}{S:St}{w w':World}(h:SR E S w)(hb:∀b,b<w.heap.size→w'.heap[b]?=w.heap[b]?)(hs:w.heap.size≤w'.heap.size)(ho:(w'.output,w'.os)=(w.output,w.os)){g:Nat}{cells:Array Value}{t:TypeId}(hg:w.heap.size≤g)(hc:w'.heap[g]?=some (.cells cells t (0,0))):
  SR (E.lay g cells) S w'∧Ext S.length E S w (E.lay g cells) S w':=by
 have hno:∀o,E.I g o=none:=fun o=>by
  cases hc:E.I g o with
  | none=>rfl
  | some c=>exact absurd (cell?_lt (h.I _ _ _ hc)) (by omega)
 have hle:E.le (E.lay g cells):=⟨fun b o c h1=>by
  by_cases h2:b=g
  ·subst h2;rw[hno] at h1;cases h1
  ·simp[En.lay,h2];exact h1,fun _ _ _ h=>h⟩
 refine ⟨⟨h.gl.old hle.1 (fun b _ _ _ hc _=>hb b (qdf hc)),?_,?_,h.dom,?_,?_,h.inj⟩,⟨hs,hle.1,fun _ _ _ _ hx=>hx,fun _ _ hx=>hx,fun b hb=>.inl hb,?_,fun b h1 _=>hb b h1,ho⟩⟩
 ·intro b o c h1;by_cases hb':b=g
  ·subst hb';simp only[En.lay,if_true] at h1;unfold World.cell?;rw[hc];simpa using h1
  ·simp only[En.lay,hb',if_false] at h1;have:=h.I b o c h1;rw[cell?_heap (hb _ (cell?_lt this))];exact this
 ·intro l o hl;by_cases hd:o=.dead
  ·subst hd;trivial
  exact (h.obs l o hl).mono hle (fun _ _ hx=>hx) (fun st' x hx=>hb _ (h.lt _ ⟨l,st',x,⟨o,hl,hd⟩,hx,rfl⟩))
 ·intro b o h1;have h2:=h.lt b h1;simp only[En.lay];rw[if_neg (by omega)];exact h.apart b o h1
 ·intro b h1;have:=h.lt b h1;omega
 ·intro b o c h1;by_cases hb':b=g
  ·exact .inr (.inr (by omega))
  ·simp only[En.lay,hb',if_false] at h1;exact .inl h1
def qdz(ks:List ByteArray):List ByteArray:=((ks.map fun k=>k.data.toList).mergeSort fun x y=>decide (x≤y)).map fun l=>⟨l.toArray⟩
theorem qbI(ks:List ByteArray):(qdz ks).length=ks.length:=by unfold qdz;simp
noncomputable abbrev srtR:Value→Option (DataW Unit×List MemPlace):=plainElem prog 4
theorem qlg(m:Nat)(ks:List ByteArray)(bs:List Nat)(ck:Nat)(S:St)(hm:S[m]?=some (.map (ks.map kv) bs ck))(hst:Stam bs ck)(nd:ks.Nodup)(hl:ks.length≤1000000)(hz:∀k,k∈ks→k.size≤maxLen):
  Spec prog 86 [.map m] S (fun r U=>r=.sl false ((qdz ks).map .str)∧U=S):=by
 refine Spec.of_calls func86 ok86 fun E w us hs hv=>?_
 obtain ⟨hlen,hv⟩:=hv
 obtain ⟨x,hu,hx⟩:∃x,us=#[.map (some x.b)]∧E.ρ m 0=some x:=by
  match us,hlen with
  | ⟨[u]⟩,_=>
   have:=hv 0 _ u rfl rfl
   cases this with
   | map h=>exact ⟨_,rfl,h⟩
 subst hu;obtain ⟨x',es,h1,h2,h3,h4,h5⟩:=hs.obs m _ hm;rw[hx] at h1;cases h1;have hes:es.size=ks.length:=by rw[←h3,qtM]
 have ent:∀(i:Nat) (e:MapEntry),es[i]?=some e→∃k,ks[i]?=some k∧e.key=.string k∧e.val=.bool true:=fun i e he=>by
  have hi:i<ks.length:=by rw[←hes];exact (qtT.1 he).1
  obtain ⟨g1,g2⟩:=h5 i (.str ks[i]) (.bool true) e (by simp[kv,hi]) he;refine ⟨ks[i],qtF hi,?_,?_⟩
  ·generalize e.key=kk at g1;cases g1;rfl
  ·generalize e.val=kk at g2;cases g2;rfl
 have hkeys:es.toList.map (·.key)=ks.map Value.string:=by
  apply quF;intro i;rw[qtV,qtV,quI]
  cases he:es[i]? with
  | none=>
   have:ks.length≤i:=by rw[←hes];exact Array.getElem?_eq_none_iff.1 he
   rw[List.getElem?_eq_none_iff.2 this];rfl
  | some e=>
   obtain ⟨k,hk,hk',_⟩:=ent i e he;rw[hk];simp[hk']
 have hrd:∀(i:Nat) (e:MapEntry),es[i]?=some e→∃k,ks[i]?=some k∧WideElems.rd prog 9 srtR e=some (.string k.data.toList,.lit (.bool true)):=fun i e he=>by
  obtain ⟨k,hk,h6,h7⟩:=ent i e he;refine ⟨k,hk,?_⟩;obtain ⟨key,val,born⟩:=e;simp only at h6 h7;subst h6 h7;exact WideElems.rd_mk (yv:=(.lit (.bool true),[])) (WideMaps.keyOf_string_mk Tryz.underlying9 (hz k (qtP hk))) (plainElem_bool Tryz.underlying4 true)
 have hrg:es.toList.map (WideElems.rg prog 9 srtR)=ks.map fun k=>(.string k.data.toList,.lit (.bool true)):=by
  apply quF;intro i;rw[qtV,qtV,quI]
  cases he:es[i]? with
  | none=>
   have:ks.length≤i:=by rw[←hes];exact Array.getElem?_eq_none_iff.1 he
   rw[List.getElem?_eq_none_iff.2 this];rfl
  | some e=>
   obtain ⟨k,hk,hk'⟩:=hrd i e he;rw[hk];simp[WideElems.rg_of hk']
 obtain ⟨D0,hD⟩:∃D0:DataW Unit,D0=.map ((es.toList.map (WideElems.rg prog 9 srtR)).foldr DataW.insert []):=⟨_,rfl⟩;have hml:(1000000:Nat)≤maxLen:=by decide
 have hown:w.ownsMap prog 9 srtR x.b es.size D0:=⟨es,ck,h2,⟨by omega,⟨fun e he=>?_,?_,?_⟩,fun e he=>?_⟩,qtJ _,hD⟩;rotate_left
 ·exact hst.1 _ (by rw[h4];exact qug he)
 ·rw[←h4];exact hst.2
 ·rw[hkeys];exact List.Pairwise.map _ (fun a b hab=>by intro hh;exact hab (by injection hh)) nd
 ·obtain ⟨i,hi⟩:=List.mem_iff_getElem?.1 he;rw[quI] at hi;obtain ⟨k,_,hk⟩:=hrd i e hi;exact ⟨_,hk⟩
 have hsz:Maps.size D0=ks.length:=by
  rw[hD,Maps.size_eq,(WideShapes.sorted_perm _).length_eq,hrg,qtM]
 have hsk:(strKeys D0).Perm (ks.map fun k=>k.data.toList):=by
  rw[hD];show (List.map _ _).Perm _;refine ((WideShapes.sorted_perm _).map _).trans ?_;rw[hrg,qvs];exact List.Perm.refl _
 refine Calls.mono (Tryz.sorted86 x.b es.size D0 srtR w hown (by omega) (by omega)) ?_;rintro e w' ⟨v,ss,rfl,hp,hrow,hnil,hb⟩;have hso:ss.mergeSort (fun x y=>decide (x≤y))=(ks.map fun k=>k.data.toList).mergeSort (fun x y=>decide (x≤y)):=mergeSort_of_perm (hp.trans hsk)
 have hmap:(qdz ks).map Value.string=(ss.mergeSort (fun x y=>decide (x≤y))).map encStr:=by
  rw[hso];unfold qdz;rw[qvs];rfl
 have hn:ss.length=ks.length:=by rw[hp.length_eq,hsk.length_eq,qtM]
 rw[←hmap] at hrow;obtain ⟨_,⟨rfl,h0⟩|⟨g,cap,cur,rfl,hg,hc,hcap,_,hcs,htake⟩⟩:=hrow
 ·obtain ⟨g1,g2⟩:=hs.grown hb.block hb.size (by rw[hb.output,hb.os]);have:qdz ks=[]:=qvj.1 (by rw[qbI];omega);exact ⟨_,_,E,S,rfl,⟨rfl,rfl⟩,by rw[this];exact .slnil _,g1,g2 _,qtJ _⟩
 ·obtain ⟨g1,g2⟩:=hs.layAt hb.block hb.size (by rw[hb.output,hb.os]) hg hc;refine ⟨_,_,E.lay g cur,S,rfl,⟨rfl,rfl⟩,?_,g1,g2,qtJ _⟩;have hlen':ss.length=((qdz ks).map V.str).length:=by rw[qtM,qbI,hn]
  have hget:∀(i:Nat) (y:ByteArray),(qdz ks)[i]?=some y→cur[i]?=some (.string y):=fun i y hy=>by
   have h6:=congrArg (·[i]?) htake;simp only[qtV,hy,qtY,qvr] at h6;split at h6
   ·rw[quI] at h6;exact h6
   ·cases h6
  rw[hlen'];refine .sl (sz:=1) (by rw[←hlen'];exact hcap) (by simp) (fun v hv=>?_) (fun i j hi hj=>?_) (fun i v j c' c h1 h2 h3=>?_)
  ·obtain ⟨k,_,rfl⟩:=qt6.1 hv;rfl
  ·have:j=0:=by omega
   subst this;rw[qtM] at hi;simp[En.lay,hget i _ (qtF hi)]
  ·rw[qtV] at h1;obtain ⟨y,hy,rfl⟩:=qtK.1 h1
   have hj:j=0:=by
    have:=(qtD.1 h2).1;simp[V.cells] at this;exact this
   subst hj;simp[V.cells] at h2;subst h2;simp[En.lay,hget i y hy] at h3;subst h3;exact .str y
theorem qlh(h:coP.H)(sc:Scs)(t:ByteArray):(fsto (coP.clH h t sc)).length≤(fsto h).length+1:=by
 show (Prod.fst (coU h t sc)).length≤_;unfold coU fsto;cases sc.at t <;> simp
mutual
theorem Ex.frn(sc:Scs)(tg:Bool):∀(x:Ex) (h:coP.H),(fsto (Ex.hs coP sc tg h x)).length≤(fsto h).length+(Pa.ex x).size
 | .mk k o n m e t a,h=>by
  have ha:=Ex.frnl sc false a h;have hz:=Pa.size_eq (.ex (.mk k o n m e t a));simp only[Pa.own,Pa.kids,Ex.args] at hz;have hc:=qlh (Ex.hsl coP sc false h a) sc t;rw[Ex.hs,qo6];split <;> omega
theorem Ex.frnl(sc:Scs)(tg:Bool):∀(l:List Ex) (h:coP.H),(fsto (Ex.hsl coP sc tg h l)).length≤(fsto h).length+qaB (l.map Pa.ex)
 | [],h=>by simp[Ex.hsl]
 | x::l,h=>by
  have h1:=Ex.frn sc tg x h;have h2:=Ex.frnl sc tg l (Ex.hs coP sc tg h x);rw[Ex.hsl,qtX,sizes_cons];omega
end
theorem El.frnl(sc:Scs):∀(l:List El) (h:coP.H),(fsto (El.hsl coP sc h l)).length≤(fsto h).length+qaB (l.map Pa.el)
 | [],h=>by simp[El.hsl]
 | x::l,h=>by
  have h1:=Ex.frnl sc false x.exps h;have h2:=El.frnl sc l (Ex.hsl coP sc false h x.exps);have hz:=Pa.size_eq (.el x);simp only[Pa.kids] at hz;show (fsto (El.hsl coP sc (Ex.hsl coP sc false h x.exps) l)).length≤_;rw[qtX,sizes_cons];omega
mutual
theorem Sm.frn:∀(s:Sm) (sc:Scs) (n:Nat) (h:coP.H),(fsto (Sm.hs coP sc n h s)).length≤(fsto h).length+(Pa.st s).size
 | .mk l k t g e el d b,sc,n,h=>by
  have hz:=Sm.size_parts' (.mk l k t g e el d b);simp only[Sm.labels,Sm.targets,Sm.exps,Sm.elems,Sm.decls,Sm.body] at hz;have e1:=Ex.frnl sc true g h;rw[Sm.hs];split
  ·have e2:=De.frnl d (qad (qah d b) n::sc) sc (n+(qad (qah d b) n).length) (enters coP (Ex.hsl coP sc true h g) (qad (qah d b) n));have e3:=Sm.frnl b (qad (qah d b) n::sc) (n+(qad (qah d b) n).length+De.nbl d) (De.hsl coP (qad (qah d b) n::sc) sc (n+(qad (qah d b) n).length) (enters coP (Ex.hsl coP sc true h g) (qad (qah d b) n)) d);rw[qbm] at e2;omega
  ·split
   ·have e3:=Sm.frnl b (qad (qak b) n::sc) (n+(qad (qak b) n).length) (enters coP (Ex.hsl coP sc true h g) (qad (qak b) n));rw[qbm] at e3;omega
   ·have e2:=Ex.frnl sc false e (Ex.hsl coP sc true h g);have e3:=El.frnl sc el (Ex.hsl coP sc false (Ex.hsl coP sc true h g) e);have e4:=Sm.frn1 b sc n (El.hsl coP sc (Ex.hsl coP sc false (Ex.hsl coP sc true h g) e) el);have hc:=qlh (Sm.hs1 coP sc n (El.hsl coP sc (Ex.hsl coP sc false (Ex.hsl coP sc true h g) e) el) b) sc t;rw[qo3];split <;> omega
theorem De.frn:∀(s:De) (own sc:Scs) (n:Nat) (h:coP.H),(fsto (De.hs coP own sc n h s)).length≤(fsto h).length+(Pa.de s).size
 | .mk k o t ns e fo b,own,sc,n,h=>by
  have hz:=De.size_parts' (.mk k o t ns e fo b);simp only[De.names,De.formals,De.exps,De.body] at hz;rw[De.hs];split
  ·have e1:=Ex.frnl own false e h;have e2:=Sm.frn1 b (qad (fo.map Fo.name) n::own) (n+(qad (fo.map Fo.name) n).length) (enters coP (Ex.hsl coP own false h e) (qad (fo.map Fo.name) n));rw[qbm] at e2;omega
  ·have e1:=Ex.frnl (if k=2 then sc else own) false e h;omega
theorem De.frnl:∀(l:List De) (own sc:Scs) (n:Nat) (h:coP.H),(fsto (De.hsl coP own sc n h l)).length≤(fsto h).length+qaB (l.map Pa.de)
 | [],_,_,_,h=>by simp[De.hsl]
 | x::l,own,sc,n,h=>by
  have h1:=De.frn x own sc n h;have h2:=De.frnl l own sc (n+De.nb x) (De.hs coP own sc n h x);rw[De.hsl,qtX,sizes_cons];omega
theorem Sm.frnl:∀(l:List Sm) (sc:Scs) (n:Nat) (h:coP.H),(fsto (Sm.hsl coP sc n h l)).length≤(fsto h).length+qaB (l.map Pa.st)
 | [],_,_,h=>by simp[Sm.hsl]
 | x::l,sc,n,h=>by
  have h1:=Sm.frn x sc n h;have h2:=Sm.frnl l sc (n+Sm.nb x) (Sm.hs coP sc n h x);rw[Sm.hsl,qtX,sizes_cons];omega
theorem Sm.frn1:∀(l:List Sm) (sc:Scs) (n:Nat) (h:coP.H),(fsto (Sm.hs1 coP sc n h l)).length≤(fsto h).length+qaB (l.map Pa.st)
 | [],_,_,h=>by simp[Sm.hs1]
 | x::l,sc,n,h=>by
  have h1:=Sm.frn x (qad x.labels n::sc) (n+(qad x.labels n).length) (enters coP h (qad x.labels n));have h2:=Sm.frn1 l sc (n+(qad x.labels n).length+Sm.nb x) (Sm.hs coP (qad x.labels n::sc) (n+(qad x.labels n).length) (enters coP h (qad x.labels n)) x);rw[qbm] at h1;rw[Sm.hs1,qtX,sizes_cons];omega
end
theorem Sm.frees_len(s:Sm):(fsto (s.wholeH coP coZ)).length≤(Pa.st s).size:=by
 have:=Sm.frn s [qad s.labels 0] (qad s.labels 0).length (enters coP coZ (qad s.labels 0));rw[qbm] at this;have h0:(fsto coZ).length=0:=rfl;show (fsto (Sm.hs coP [qad s.labels 0] (qad s.labels 0).length (enters coP coZ (qad s.labels 0)) s)).length≤_;omega
theorem qbS:∀{l ks:List ByteArray},ks.Nodup→(l.foldl insK ks).Nodup
 | [],ks,h=>h
 | s::l,ks,h=>by
  refine qbS (l:=l) ?_;unfold insK;split
  ·exact h
  ·rename_i hs;exact List.nodup_append.2 ⟨h,by simp,fun a ha b hb=>by simp at hb;subst hb;rintro rfl;exact hs (qcb.2 ha)⟩
theorem qdv:∀{l ks:List ByteArray},(l.foldl insK ks).length≤ks.length+l.length
 | [],ks=>by simp
 | s::l,ks=>by
  have:=qdv (l:=l) (ks:=insK ks s);have h2:(insK ks s).length≤ks.length+1:=by unfold insK;split <;> simp
  rw[qvn,quh];omega
def Sm.frees(s:Sm):List ByteArray:=qdz ((fsto (s.wholeH coP coZ)).foldl insK [])
theorem qtl(s:Sm)(hs:s.ok)(hsz:(Pa.st s).size≤4000)(hn:Sm.nb1 [s]≤100000)(S:St):
  Spec prog 29 [s.v] S (fun r U=>r=.tup [.sl (decide ((Pa.st s).err qab≠0)) ((if (Pa.st s).err qab=0 then s.frees else []).map .str),.int .i64 ((Pa.st s).err qab)]∧Kp (fun _=>False) S U):=by
 refine Spec.intro func29 ok29 (by simp[c29]) ?_;obtain ⟨S1,hS1⟩:∃S1:St,S1=S++[.arr [s.v] 8 1]:=⟨_,rfl⟩;have b0:S1[S.length]?=some (.arr [s.v] 8 1):=by rw[hS1];simp
 have kS:Kp (fun _=>False) S S1:=by rw[hS1];exact (Kp.refl _ _).push _
 simp[c29,boxS];rw[←hS1];simp[ldS,b0];refine qaj (qo0 s hs S1) ?_;by_cases he:(Pa.st s).err qab=0
 ·simp[he,ldS,b0];refine qal (qoS s hs hsz hn S1) ?_;rintro r U ⟨m,c4,c5,c6,v,ps,F,D,rfl,k,kU,_⟩;obtain ⟨bs,ck,hst,hm⟩:=k.fm;have hv:=(Pa.valid_iff.1 (qd3 he).2);simp;refine qal (qlg m _ bs ck U hm hst (qbS qvl) ?_ ?_) ?_
  ·have h1:=qdv (l:=fsto (s.wholeH coP coZ)) (ks:=[]);have h2:=s.frees_len;simp only[quw] at h1;exact qul h1 (by omega)
  ·intro x hx;rw[qcV] at hx;have hx:x∈fsto (s.wholeH coP coZ):=hx.elim (fun h=>by simp at h) id;rw[Sm.free_occ (f:=numF) (nm:=qab) (fun k=>qgx k) s (qd3 he).2] at hx;have:=qis (quU.1 hx).2;exact qul this (by decide)
  ·rintro r U2 ⟨rfl,rfl⟩;simp;exact qai rfl ⟨rfl,kS.trans kU⟩
 ·simp[he];exact qai rfl ⟨rfl,kS⟩
theorem Co.at{m c4 c5 c6:Nat}{h:List ByteArray×List ByteArray}{v:V}{ps:List Nat}{F D:Nat→Prop}{U:St}(k:Co m c4 c5 c6 h v ps F D U){i:Nat}(hi:i<h.2.length):
  ∃p l st,iaS U 1 v (i:Int)=some (.ptr l i 0 st)∧ldS U (.ptr l i 0 st) none=some (.ptr p 0 0 1)∧U[p]?=some (plc h.2[i] i h.2[i]):=by
 have hip:i<ps.length:=by rw[k.pn];exact hi
 obtain ⟨_,hp⟩:=k.pl i ps[i] h.2[i] (qtF hip) (qtF hi);rcases k.gr with ⟨h0,_⟩|⟨a,wr,rfl,ha,hw,_,_⟩
 ·rw[h0] at hip;simp at hip
 ·refine ⟨ps[i],a,ps.length,?_,?_,hp⟩
  ·simp only[iaS,ha];rw[if_pos ⟨hw,trivial,by omega,by omega⟩];simp
  ·simp only[ldS,ha];rw[if_pos ⟨hw,hip⟩];simp[hip]
theorem Co.lenS{m c4 c5 c6:Nat}{h:List ByteArray×List ByteArray}{v:V}{ps:List Nat}{F D:Nat→Prop}{U:St}(k:Co m c4 c5 c6 h v ps F D U):lenS v=some (.int .i64 h.2.length):=by
 have:=k.pn;rcases k.gr with ⟨rfl,rfl⟩|⟨a,wr,rfl,_⟩
 ·rw[←this];rfl
 ·rw[←this];rfl
theorem qtg{m c4 c5 c6:Nat}{h:List ByteArray×List ByteArray}{v:V}{ps:List Nat}{F D:Nat→Prop}{U:St}(k:Co m c4 c5 c6 h v ps F D U)(hn:h.2.length≤100000):
  Spec prog 75 [v] U (fun r U'=>r=.map U.length∧(∃bs ck,Stam bs ck∧U'[U.length]?=some (.map ((h.2.foldl insK []).map kv) bs ck))∧Kp (fun _=>False) U U'):=by
 refine Spec.intro func75 ok75 (by simp[c75]) ?_;have hlv:=k.lenS;have hmk:∀(e:Env) (S:St),evX e S .mkm=some (V.map S.length,S++[Ob.map [] [] 0]):=fun _ _=>rfl
 simp[c75,hmk,↓qbh,hlv];refine qax (fun e U'=>e.get 3=some (.map U.length)∧(∃bs ck,Stam bs ck∧U'[U.length]?=some (.map ((h.2.foldl insK []).map kv) bs ck))∧Kp (fun _=>False) U U') ?_ ?_
 ·refine qar (fun j e U'=>∃i:Nat,j=h.2.length - i∧i≤h.2.length∧(∃bs ck,Stam bs ck∧U'=U++[.map (((h.2.take i).foldl insK []).map kv) bs ck])∧
   e=[(9,.int .i64 i),(8,.int .i64 h.2.length),(7,v),(3,.map U.length)]) h.2.length _ ?_ ⟨0,by simp,by omega,⟨[],0,Stam.nil,rfl⟩,rfl⟩ ?_
  ·exact Env.so (by simp)
  rintro j e U' ⟨i,rfl,hi,⟨bs,ck,hst,rfl⟩,rfl⟩;by_cases hh:i<h.2.length
  ·have k':=k.push [.map (((h.2.take i).foldl insK []).map kv) bs ck];obtain ⟨p,l,st,h1,h2,h3⟩:=k'.at hh;have hm:(U++[Ob.map (((h.2.take i).foldl insK []).map kv) bs ck])[U.length]?=some (.map (((h.2.take i).foldl insK []).map kv) bs ck):=by simp
   unfold plc at h3
   have h4:ldS (U++[Ob.map (((h.2.take i).foldl insK []).map kv) bs ck]) (.ptr p 0 1 1) none=some (.str h.2[i]):=by
    simp only[ldS,h3];rfl
   have hft:fits 1 [V.str h.2[i]]=true:=rfl;simp[hh,h1,h2,qa8,h4,hft];refine qal (qlO true [h.2[i]] _ bs ck U.length _ (by simp) hm) ?_;rintro r U2 ⟨bs',ck',hst',rfl⟩;simp[qaL (n:=(i:Int)+1)];refine ⟨_,?_,_,?_,i+1,rfl,by omega,⟨bs',ck',hst' hst,?_⟩,rfl⟩
   ·omega
   ·exact Env.so (by simp)
   ·rw[qtQ,qtF hh,quf,quS];exact ⟨by rw[qvn,List.foldl_nil],rfl,rfl⟩
  ·have:i=h.2.length:=by omega
   subst this;rw[qt5];simp;exact ⟨hst,(Kp.refl _ _).push _⟩
 ·rintro e U' ⟨h3,h4,h5⟩;simp[h3];exact qai rfl ⟨rfl,h4,h5⟩
theorem qiq:∀(k:Nat) (l:List ByteArray),l.length≤k→∀x,x∈nms l→x∈l
 | _,[],_,x,h=>by simp[nms,qad,binds] at h
 | 0,_::_,h,_,_=>by simp at h
 | k+1,y::l',h,x,hx=>by
  obtain ⟨l,z,hl⟩:∃l z,y::l'=l++[z]:=⟨(y::l').dropLast,(y::l').getLast (by simp),(List.dropLast_concat_getLast _).symm⟩;rw[hl] at h hx ⊢;have hk:l.length≤k:=by simp at h;exact h
  rw[qjt] at hx;split at hx
  ·exact qu3 _ (qiq k l hk x hx)
  ·rcases qtW.1 hx with hx|hx
   ·exact qu3 _ (qiq k l hk x hx)
   ·exact qvd _ hx
theorem qfo{l:List ByteArray}{x:ByteArray}(h:x∈nms l):x∈l:=qiq _ l (qtJ _) x h
theorem qhc{b:List Sm}(h:Sm.okL b){x:ByteArray}(hx:x∈qak b):x.size≤B50:=by
 obtain ⟨s,hs,hx⟩:=List.mem_flatMap.1 hx;exact ((Sm.ok_iff s).1 (Sm.okL_mem h s hs)).labels.2 x hx
mutual
theorem Sm.bn_ok:∀(s:Sm),s.ok→∀x,x∈s.bn→x.size≤B50
 | .mk l k t g e f d b,v,x,hx=>by
  have V:=(Sm.ok_iff _).1 v;have vd:=V.decls.2;have vb:=V.body.2;simp only[Sm.decls,Sm.body] at vd vb;rw[Sm.bn] at hx;split at hx
  ·rcases qtW.1 hx with hx|hx
   ·rcases qtW.1 hx with hx|hx
    ·rcases qtW.1 (qfo hx) with hx|hx
     ·obtain ⟨y,hy,hx⟩:=List.mem_flatMap.1 hx;exact ((De.ok_iff y).1 (De.okL_mem vd y hy)).names.2 x hx
     ·exact qhc vb hx
    ·exact De.bnl_ok d vd x hx
   ·exact Sm.bnl_ok b vb x hx
  ·split at hx
   ·rcases qtW.1 hx with hx|hx
    ·exact qhc vb (qfo hx)
    ·exact Sm.bnl_ok b vb x hx
   ·exact Sm.bn1_ok b vb x hx
theorem De.bn_ok:∀(s:De),s.ok→∀x,x∈s.bn→x.size≤B50
 | .mk k o t ns e fo b,v,x,hx=>by
  have V:=(De.ok_iff _).1 v;have vf:=V.formals.2;have vb:=V.body.2;simp only[De.formals,De.body] at vf vb;rw[De.bn] at hx;split at hx
  ·rcases qtW.1 hx with hx|hx
   ·obtain ⟨y,hy,rfl⟩:=qt6.1 (qfo hx);exact vf y hy
   ·exact Sm.bn1_ok b vb x hx
  ·simp at hx
theorem De.bnl_ok:∀(l:List De),De.okL l→∀x,x∈De.bnl l→x.size≤B50
 | [],_,x,hx=>by simp[De.bnl] at hx
 | y::l,v,x,hx=>by
  rw[De.okL] at v;rw[De.bnl] at hx;rcases qtW.1 hx with hx|hx
  ·exact De.bn_ok y v.1 x hx
  ·exact De.bnl_ok l v.2 x hx
theorem Sm.bnl_ok:∀(l:List Sm),Sm.okL l→∀x,x∈Sm.bnl l→x.size≤B50
 | [],_,x,hx=>by simp[Sm.bnl] at hx
 | y::l,v,x,hx=>by
  rw[Sm.okL] at v;rw[Sm.bnl] at hx;rcases qtW.1 hx with hx|hx
  ·exact Sm.bn_ok y v.1 x hx
  ·exact Sm.bnl_ok l v.2 x hx
theorem Sm.bn1_ok:∀(l:List Sm),Sm.okL l→∀x,x∈Sm.bn1 l→x.size≤B50
 | [],_,x,hx=>by simp[Sm.bn1] at hx
 | y::l,v,x,hx=>by
  rw[Sm.okL] at v;rw[Sm.bn1] at hx;rcases qtW.1 hx with hx|hx
  ·rcases qtW.1 hx with hx|hx
   ·exact ((Sm.ok_iff y).1 v.1).labels.2 x (qfo hx)
   ·exact Sm.bn_ok y v.1 x hx
  ·exact Sm.bn1_ok l v.2 x hx
end
def Sm.bounds(s:Sm):List ByteArray:=nms s.labels++s.bn
theorem Sm.bounds_ok(s:Sm)(v:s.ok):∀x,x∈s.bounds→x.size≤B50:=fun x hx=>(qtW.1 hx).elim (fun h=>((Sm.ok_iff s).1 v).labels.2 x (qfo h)) (Sm.bn_ok s v x)
def ssto(h:coP.H):List ByteArray:=Prod.snd (α:=List ByteArray) (β:=List ByteArray) h
theorem qo8:HInv coP fun l h=>ssto h=l where
 e x h:=by subst h;rfl
 n {l h} x sc tg hq:=by
  show Prod.snd (coU h x.text sc)=l;unfold coU;split <;> exact hq
 c {l h} x sc hq:=by
  show Prod.snd (coU h x sc)=l;unfold coU;split <;> exact hq
theorem Sm.whole_bounds(s:Sm):ssto (s.wholeH coP coZ)=s.bounds:=by
 have h0:ssto coZ=[]:=rfl;have h1:=qo8.enters h0 _ s.labels (qtJ _);have h2:=qo8.sm [qad s.labels 0] s h1;rw[qt7,qbx] at h2;exact h2
theorem Sm.bounds_len(s:Sm):s.bounds.length=Sm.nb1 [s]:=by
 unfold Sm.bounds;simp only[qtS,qbx,Sm.bn_length,Sm.nb1,Nat.add_zero]
def Sm.binds(s:Sm):List ByteArray:=qdz (s.bounds.foldl insK [])
theorem qta(s:Sm)(hs:s.ok)(hsz:(Pa.st s).size≤4000)(hn:Sm.nb1 [s]≤100000)(S:St):
  Spec prog 31 [s.v] S (fun r U=>r=.tup [.sl (decide ((Pa.st s).err qab≠0)) ((if (Pa.st s).err qab=0 then s.binds else []).map .str),.int .i64 ((Pa.st s).err qab)]∧Kp (fun _=>False) S U):=by
 refine Spec.intro func31 ok31 (by simp[c31]) ?_;obtain ⟨S1,hS1⟩:∃S1:St,S1=S++[.arr [s.v] 8 1]:=⟨_,rfl⟩;have b0:S1[S.length]?=some (.arr [s.v] 8 1):=by rw[hS1];simp
 have kS:Kp (fun _=>False) S S1:=by rw[hS1];exact (Kp.refl _ _).push _
 simp[c31,boxS];rw[←hS1];simp[ldS,b0];refine qaj (qo0 s hs S1) ?_;by_cases he:(Pa.st s).err qab=0
 ·simp[he,ldS,b0];refine qal (qoS s hs hsz hn S1) ?_;rintro r U ⟨m,c4,c5,c6,v,ps,F,D,rfl,k,kU,_⟩;have hb:(s.wholeH coP ([],[]):List ByteArray×List ByteArray).2=s.bounds:=s.whole_bounds;simp;refine qal (qtg k (by rw[hb,s.bounds_len];exact hn)) ?_;rintro r U2 ⟨rfl,⟨bs,ck,hst,hm⟩,k2⟩;rw[hb] at hm;simp;refine qal (qlg U.length _ bs ck U2 hm hst (qbS qvl) ?_ ?_) ?_
  ·have h1:=qdv (l:=s.bounds) (ks:=[]);rw[s.bounds_len] at h1;simp only[quw] at h1;exact qul h1 (by omega)
  ·intro x hx;rw[qcV] at hx;exact qul (s.bounds_ok hs x (hx.elim (fun h=>by simp at h) id)) (by decide)
  ·rintro r U3 ⟨rfl,rfl⟩;simp;exact qai rfl ⟨rfl,(kS.trans kU).trans k2⟩
 ·simp[he];exact qai rfl ⟨rfl,kS⟩
theorem qgu(b b':Bool)(l m:List ByteArray)(hl:l.length≤1000000)(hm:m.length≤1000000)(S:St):Fn prog 30 [.sl b (l.map .str),.sl b' (m.map .str)] S (.bool (decide (l=m))):=by
 refine Spec.intro func30 ok30 (by simp[c30]) ?_;simp[c30];by_cases hlm:l.length=m.length
 case neg=>
  have hne:l≠m:=fun h=>hlm (by rw[h])
  simp[show ¬ ((l.length:Int)=m.length) by omega,hlm,hne];exact qai rfl ⟨rfl,rfl⟩
 simp[hlm];refine qax (fun e U=>U=S∧l=m) ?_ ?_
 ·refine qar (fun k e S'=>∃i:Nat,k=l.length - i∧i≤l.length∧S'=S∧(∀j,j<i→l[j]?=m[j]?)∧e=[(5,.int .i64 i),(0,.sl b (l.map .str)),(1,.sl b' (m.map .str))]) l.length _ ?_ ⟨0,by simp,by omega,rfl,fun j h=>by omega,rfl⟩ ?_
  ·exact Env.so (by simp)
  rintro k e S' ⟨i,rfl,hi,rfl,hj,rfl⟩;by_cases h:i<l.length
  ·have h':i<m.length:=by omega
   have hm':(i:Int)<m.length:=by omega
   by_cases he:l[i]=m[i]
   ·simp[h,h',hlm,dend,qbk,qbu,qc2,he];rw[qaL (n:=(i:Int)+1)];refine ⟨_,?_,_,?_,i+1,rfl,by omega,fun j hji=>?_,rfl⟩
    ·omega
    ·exact Env.so (by simp)
    ·by_cases hk:j<i
     ·exact hj j hk
     ·have:j=i:=by omega
      subst this;rw[qtF h,qtF h',he]
   ·have hne:l≠m:=fun hh=>he (by subst hh;rfl)
    simp[h,h',hlm,dend,qbk,qbu,qc2,he];exact qai rfl ⟨by simp[hne],rfl⟩
  ·simp[h];apply quF;intro j;by_cases hk:j<i
   ·exact hj j hk
   ·rw[quC (by omega),quC (by omega)]
 ·rintro e U ⟨rfl,h⟩;simp;exact qai rfl ⟨by simp[h],rfl⟩
def ltB(a b:ByteArray):Prop:=a.data.toList<b.data.toList
theorem qia(a:ByteArray):¬ ltB a a:=List.lt_irrefl _
theorem qhg{a b c:ByteArray}(h:ltB a b)(g:ltB b c):ltB a c:=List.lt_trans h g
theorem qr8{a b:ByteArray}(h:¬ ltB a b)(g:¬ ltB b a):a=b:=by
 have:=List.le_antisymm (List.not_lt.1 g) (List.not_lt.1 h);exact qvB (Array.ext' this)
theorem qju:∀{l m:List ByteArray},l.Pairwise ltB→m.Pairwise ltB→(∀x,x∈l↔x∈m)→l=m
 | [],[],_,_,_=>rfl
 | [],y::m,_,_,h=>absurd ((h y).2 (by simp)) (by simp)
 | x::l,[],_,_,h=>absurd ((h x).1 (by simp)) (by simp)
 | x::l,y::m,hl,hm,h=>by
  have hl':=qvy.1 hl;have hm':=qvy.1 hm
  have hxy:x=y:=by
   by_cases hxy:x=y
   ·exact hxy
   ·have h1:x∈m:=(qt4.1 ((h x).1 (by simp))).resolve_left hxy;have h2:y∈l:=(qt4.1 ((h y).2 (by simp))).resolve_left (Ne.symm hxy);exact absurd (qhg (hm'.1 x h1) (hl'.1 y h2)) (qia y)
  subst hxy;congr 1;refine qju hl'.2 hm'.2 fun z=>⟨fun hz=>?_,fun hz=>?_⟩
  ·rcases qt4.1 ((h z).1 (qu2 _ hz)) with rfl|hz'
   ·exact absurd (hl'.1 z hz) (qia z)
   ·exact hz'
  ·rcases qt4.1 ((h z).2 (qu2 _ hz)) with rfl|hz'
   ·exact absurd (hm'.1 z hz) (qia z)
   ·exact hz'
theorem ql8{ks:List ByteArray}{x:ByteArray}:x∈qdz ks↔x∈ks:=by
 unfold qdz;rw[qt6];constructor
 ·rintro ⟨y,hy,rfl⟩;rw[List.mem_mergeSort] at hy;obtain ⟨k,hk,rfl⟩:=qt6.1 hy;simpa using hk
 ·intro hx;exact ⟨x.data.toList,by rw[List.mem_mergeSort];exact qug hx,by simp⟩
theorem qkf{ks:List ByteArray}(nd:ks.Nodup):(qdz ks).Pairwise ltB:=by
 unfold qdz;rw[List.pairwise_map];have tr:∀a b c:List UInt8,decide (a≤b)=true→decide (b≤c)=true→decide (a≤c)=true:=fun a b c h1 h2=>by simp only[decide_eq_true_eq] at *;exact List.le_trans h1 h2
 have to:∀a b:List UInt8,(decide (a≤b) || decide (b≤a))=true:=fun a b=>by simp only[qvz,decide_eq_true_eq];exact List.le_total a b
 have h1:=List.pairwise_mergeSort tr to (ks.map fun k=>k.data.toList)
 have h2:((ks.map fun k=>k.data.toList).mergeSort fun x y=>decide (x≤y)).Nodup:=by
  refine ((List.mergeSort_perm _ _).nodup_iff).2 ?_;exact List.Pairwise.map _ (fun a b hab hh=>hab (qvB (Array.ext' hh))) nd
 refine (h1.and h2).imp ?_;rintro a b ⟨h3,h4⟩;show a<b;simp only[decide_eq_true_eq] at h3;by_cases hlt:a<b
 ·exact hlt
 ·exact absurd (List.le_antisymm h3 (List.not_lt.1 hlt)) h4
def insS:List ByteArray→ByteArray→List ByteArray
 | [],x=>[x]
 | y::l,x=>open Classical in if ltB y x then y::insS l x else if y=x then y::l else x::y::l
theorem qgW{x z:ByteArray}:∀{l:List ByteArray},z∈insS l x↔z∈l∨z=x
 | []=>by simp[insS]
 | y::l=>by
  unfold insS;split
  ·rw[qt4,qgW,qt4,or_assoc]
  ·split
   ·rename_i h;subst h;simp only[qt4];exact ⟨.inl,fun h=>h.elim id fun h=>.inl h⟩
   ·simp only[qt4];constructor
    ·rintro (h|h|h)
     ·exact .inr h
     ·exact .inl (.inl h)
     ·exact .inl (.inr h)
    ·rintro ((h|h)|h)
     ·exact .inr (.inl h)
     ·exact .inr (.inr h)
     ·exact .inl h
theorem qhG{x:ByteArray}:∀{l:List ByteArray},l.Pairwise ltB→(insS l x).Pairwise ltB
 | [],_=>by simp[insS]
 | y::l,h=>by
  have h':=qvy.1 h;unfold insS;split
  ·rename_i hyx;refine qvy.2 ⟨fun z hz=>?_,qhG h'.2⟩;rcases qgW.1 hz with hz|rfl
   ·exact h'.1 z hz
   ·exact hyx
  ·rename_i hyx;split
   ·exact h
   ·rename_i hne
    have hxy:ltB x y:=by
     by_cases hh:ltB x y
     ·exact hh
     ·exact absurd (qr8 hyx hh) hne
    refine qvy.2 ⟨fun z hz=>?_,h⟩;rcases qt4.1 hz with rfl|hz
    ·exact hxy
    ·exact qhg hxy (h'.1 z hz)
theorem qel{z:ByteArray}:∀{l out:List ByteArray},out.Pairwise ltB→(l.foldl insS out).Pairwise ltB∧(z∈l.foldl insS out↔z∈out∨z∈l)
 | [],out,h=>⟨h,by simp⟩
 | x::l,out,h=>by
  obtain ⟨h1,h2⟩:=qel (z:=z) (l:=l) (qhG (x:=x) h);refine ⟨h1,?_⟩;rw[qvn,h2,qgW,qt4,or_assoc]
theorem qdK{l ks:List ByteArray}(nd:ks.Nodup)(h:∀x,x∈l↔x∈ks):l.foldl insS []=qdz ks:=
 qju (qel (z:=⟨⟨[]⟩⟩) List.Pairwise.nil).1 (qkf nd) fun x=>by
  rw[(qel (z:=x) List.Pairwise.nil).2,ql8,h];simp
theorem Gr.appE{sz n0 bytes:Nat}{xs ys:List V}{v x:V}{S:St}(h:Gr sz n0 xs v S)(hx:elems S x=some ys)(hy:fits sz ys=true)(hr:(xs.length+ys.length) * bytes≤2 ^ 47)(hn:n0≤S.length):
  ∃v' S',appS S sz bytes v x=some (v',S')∧Gr sz n0 (xs++ys) v' S'∧S.length≤S'.length∧(∀l o,S[l]?=some o→(∀n,v≠.arr l 0 n n)→S'[l]?=some o)∧(∀l n,v'=.arr l 0 n n→(∃m,v=.arr l 0 m m)∨S.length≤l):=by
 rcases h with ⟨rfl,rfl⟩|⟨l,wr,h1,rfl,h3,h4⟩
 ·by_cases he:ys=[]
  ·subst he;refine ⟨.sl true [],S,?_,.inl ⟨rfl,rfl⟩,qtJ _,fun _ _ h _=>h,fun l n h=>by cases h⟩;unfold appS;rw[hx];rfl
  ·have hei:ys.isEmpty=false:=by cases ys with
    | nil=>exact absurd rfl he
    | cons=>rfl
   refine ⟨.arr S.length 0 ys.length ys.length,S++[.arr ys sz ys.length],?_,.inr ⟨S.length,ys.length,hn,by simp,by simp,by simp⟩,by simp,fun l o ho _=>gp ho,fun l n h=>.inr (by injection h;omega)⟩;unfold appS;rw[hx];have hc:true=true∧fits sz ys=true∧(([]:List V).all fun v=>v.size==sz)=true∧(([]:List V).length+ys.length) * bytes≤2 ^ 47:=⟨rfl,hy,rfl,hr⟩;show (if ys.isEmpty=true then _ else _)=_;rw[if_neg (by rw[hei];simp),if_pos hc];simp
 ·have hc:0=0∧xs.length=xs.length∧xs.length=xs.length∧sz=sz∧fits sz ys=true∧(xs.length+ys.length) * bytes≤2 ^ 47:=⟨rfl,rfl,rfl,rfl,hy,hr⟩;have hlt:l<S.length:=(qtD.1 h3).1;refine ⟨.arr l 0 (xs.length+ys.length) (xs.length+ys.length),S.set l (.arr (xs++ys) sz wr),?_,.inr ⟨l,wr,h1,by simp,by rw[qtI hlt],by simp;omega⟩,by simp,fun k o ho hk=>?_,fun k n h=>.inl ?_⟩
  ·unfold appS;rw[hx];show (match S[l]? with|_=>_)=_;rw[h3];show (if _ then _ else _)=_;rw[if_pos hc]
  ·rw[qtH]
   ·exact ho
   ·rintro rfl;exact hk _ rfl
  ·injection h with h;subst h;exact ⟨_,rfl⟩
theorem qlZ{x:ByteArray}:∀(l:List ByteArray) (k:Nat),k≤l.length→(∀j y,j<k→l[j]?=some y→ltB y x)→(∀y,l[k]?=some y→¬ ltB y x)→insS l x=if l[k]?=some x then l else l.take k++x::l.drop k
 | [],k,hk,_,_=>by
  have:k=0:=by simpa using hk
  subst this;simp[insS]
 | y::l,0,_,_,h2=>by
  have hy:=h2 y rfl;unfold insS;rw[if_neg hy];by_cases h:y=x
  ·subst h;simp
  ·simp[h]
 | y::l,k+1,hk,h1,h2=>by
  have hy:=h1 0 y (by omega) rfl;have ih:=qlZ l k (by simpa using hk) (fun j z hj hz=>h1 (j+1) z (by omega) (by simpa using hz)) (fun z hz=>h2 z (by simpa using hz));unfold insS;rw[if_pos hy,ih];simp only[quJ,List.take_succ_cons,List.drop_succ_cons,qtO];split <;> rfl
set_option maxRecDepth 20000
def c67:F':=⟨13,[.cell 4 (some 8)],.k [.o 3 (.box (.t 1)),.o 4 (.new zS)] (.k [.m 6 0,.j 7 8 3,.o 8 (.bsl 8 [(.t 7)]),.o 9 (.call (.f 117) [(.t 6),(.t 8),(.c (.sl true []))]),.m 5 9] (.k [.m 10 5,.o 11 (.ia 8 (.t 10) (.c (.int .i64 0))),.j 12 8 11,.s 8 4 12] .ret))⟩
theorem ok67:okF Tryz.f67 c67:=okI (by kernel_rfl)
def c92:F':=⟨49,[.cell 6 (some 7)],.k [.o 4 (.box (.t 1)),.o 6 (.new zX)] (.seq (.k [.f 11 0 4,.l 12 11,.u 13 .eql 12 6] (.cond (.t 13) (.k [.m 15 0,.m 16 2,.f 17 5 4,.l 18 17,.x 19 143 15 16 18,.m 14 19,.e 20 0 14,.e 21 1 14,.e 22 2 14,.o 8 (.new zX),.m 7 20,.s 7 8 21,.m 9 22] (.seq (.k [.m 23 9] (.cond (.t 23) (.k [.j 24 7 8,.s 7 6 24] .ret) .skip)) (.k [.m 25 7,.o 26 (.build zX [(0,0,1,(.c (.int .i64 6))),(4,5,1,(.t 25))]),.s 7 6 26] .ret))) .skip)) (.k [.j 27 7 4,.o 10 (.new zX),.s 7 10 27] (.seq (.k [.f 28 0 4,.l 29 28,.u 30 .eql 29 7,.m 31 30,.v 32 31 false (.fa 0 (.t 4)),.v 33 31 false (.ld none (.t 32)),.v 34 31 false (.bin .eql (.t 33) (.c (.int .i64 8))),.z 35 31 34] (.cond (.t 35) (.reg [.m 36 0,.m 37 2,.f 38 5 4,.l 39 38,.x 40 144 36 37 39,.f 41 5 10,.s 1 41 40]) .skip)) (.k [.m 42 0,.f 43 6 4,.l 44 43,.m 45 2,.x 46 145 42 44 45,.f 47 6 10,.s 1 47 46] (.k [.j 48 7 10,.s 7 6 48] .ret)))))⟩
theorem ok92:okF Tryz.f92 c92:=okI (by kernel_rfl)
def c117:F':=⟨15,[.t 6],.k [.a 6 (.sl true [])] (.k [.m 7 0,.m 8 1,.m 9 0,.m 10 2,.m 11 1,.c 12 163 11,.x 13 162 9 10 12,.x 14 161 7 8 13,.m 6 14] .ret)⟩
theorem ok117:okF Tryz.f117 c117:=okI (by kernel_rfl)
def c143:F':=⟨98,[.t 6,.cell 7 (some 7),.t 8],.k [.a 6 (.str ⟨⟨[]⟩⟩),.o 7 (.new zX),.a 8 (.bool false)] (.seq (.k [.m 11 1,.m 12 2,.w 13 175 11 12,.u 14 .geq 13 0] (.cond (.t 14) (.k [.m 15 0,.m 16 1,.m 17 2,.x 18 176 15 16 17,.o 19 (.build zX []),.m 6 18,.s 7 7 19,.a 8 (.bool false)] .ret) .skip)) (.k [.m 20 0,.m 21 0,.h 22 21,.f 23 1 22,.l 24 23,.m 25 2,.o 26 (.bsl 1 [(.t 25)]),.o 27 (.app 1 16 (.t 24) (.t 26)),.h 28 20,.f 29 1 28,.s 1 29 27] (.seq (.k [.a 9 (.int .i64 0)] (.block 0 (.loop (.seq (.k [.m 30 9,.m 31 0,.h 32 31,.f 33 3 32,.l 34 33,.o 35 (.len false (.t 34)),.b 36 .lss 30 35] (.cond (.t 36) .skip (.exit 0))) (.seq (.block 1 (.k [.m 39 0,.h 40 39,.f 41 3 40,.l 42 41,.m 43 9,.i 44 1 42 43,.l 45 44,.m 46 2,.b 47 .eql 45 46] (.cond (.t 47) (.seq (.k [.a 10 (.int .i64 0)] (.block 2 (.loop (.seq (.k [.m 48 10,.m 49 1,.o 50 (.len false (.t 49)),.b 51 .lss 48 50] (.cond (.t 51) .skip (.exit 2))) (.seq (.block 3 (.draw [.p (.m 54 0) [],.p (.m 55 0) [],.p (.h 56 55) [1],.p (.f 57 6 56) [2,1],.p (.l 58 57) [3,2,1],.p (.m 59 58) [4,3,2,1],.p (.v 60 59 false (.mv (.t 0))) [5,4,3,2,1],.p (.v 61 59 false (.nck (.t 60))) [6,5,4,3,2,1],.p (.v 62 59 false (.fa 4 (.t 61))) [7,6,5,4,3,2,1],.p (.v 63 59 false (.ld none (.t 62))) [8,7,6,5,4,3,2,1],.p (.v 64 59 false (.mv (.t 9))) [5,4,3,2,1],.p (.v 65 59 false (.ia 7 (.t 63) (.t 64))) [9,10,8,7,6,5,4,3,2,1],.p (.v 66 59 false (.fa 0 (.t 65))) [11,9,10,8,7,6,5,4,3,2,1],.p (.v 67 59 false (.ld none (.t 66))) [12,11,9,10,8,7,6,5,4,3,2,1],.p (.v 68 59 false (.bin .eql (.t 67) (.c (.int .i64 6)))) [13,12,11,9,10,8,7,6,5,4,3,2,1],.p (.v 69 59 false (.mv (.t 68))) [14,13,12,11,9,10,8,7,6,5,4,3,2,1],.p (.v 70 69 true (.mv (.t 1))) [15,14,13,12,11,9,10,8,7,6,5,4,3,2,1],.p (.v 71 69 true (.mv (.t 10))) [15,14,13,12,11,9,10,8,7,6,5,4,3,2,1],.p (.v 72 69 true (.ia 2 (.t 70) (.t 71))) [16,17,15,14,13,12,11,9,10,8,7,6,5,4,3,2,1],.p (.v 73 69 true (.fa 0 (.t 72))) [18,16,17,15,14,13,12,11,9,10,8,7,6,5,4,3,2,1],.p (.v 74 69 true (.ld none (.t 73))) [19,18,16,17,15,14,13,12,11,9,10,8,7,6,5,4,3,2,1],.p (.v 75 69 true (.mv (.t 0))) [15,14,13,12,11,9,10,8,7,6,5,4,3,2,1],.p (.v 76 69 true (.nck (.t 75))) [21,15,14,13,12,11,9,10,8,7,6,5,4,3,2,1],.p (.v 77 69 true (.fa 4 (.t 76))) [22,21,15,14,13,12,11,9,10,8,7,6,5,4,3,2,1],.p (.v 78 69 true (.ld none (.t 77))) [23,22,21,15,14,13,12,11,9,10,8,7,6,5,4,3,2,1],.p (.v 79 69 true (.mv (.t 9))) [15,14,13,12,11,9,10,8,7,6,5,4,3,2,1],.p (.v 80 69 true (.ia 7 (.t 78) (.t 79))) [24,25,23,22,21,15,14,13,12,11,9,10,8,7,6,5,4,3,2,1],.p (.v 81 69 true (.fa 5 (.t 80))) [26,24,25,23,22,21,15,14,13,12,11,9,10,8,7,6,5,4,3,2,1],.p (.v 82 69 true (.ld none (.t 81))) [27,26,24,25,23,22,21,15,14,13,12,11,9,10,8,7,6,5,4,3,2,1],.p (.v 83 69 true (.bin .eql (.t 74) (.t 82))) [20,28,19,18,16,17,27,26,24,25,23,22,21,15,14,13,12,11,9,10,8,7,6,5,4,3,2,1],.p (.v 84 59 false (.pick (.t 69) (.t 83) (.c (.bool false)))) [29,20,28,19,18,16,17,27,26,24,25,23,22,21,15,14,13,12,11,9,10,8,7,6,5,4,3,2,1],.p (.z 85 59 84) [30,29,20,28,19,18,16,17,27,26,24,25,23,22,21,15,14,13,12,11,9,10,8,7,6,5,4,3,2,1],.p (.h 86 54) [0,31,30,29,20,28,19,18,16,17,27,26,24,25,23,22,21,15,14,13,12,11,9,10,8,7,6,5,4,3,2,1],.p (.f 87 6 86) [32,0,31,30,29,20,28,19,18,16,17,27,26,24,25,23,22,21,15,14,13,12,11,9,10,8,7,6,5,4,3,2,1],.q (.s 1 87 85) true false [33,32,0,31,30,29,20,28,19,18,16,17,27,26,24,25,23,22,21,15,14,13,12,11,9,10,8,7,6,5,4,3,2,1] 0 0] [])) (.reg [.m 52 10,.u 53 .add 52 1,.m 10 53])))))) (.seq (.draw [.p (.m 88 2) [],.p (.m 89 0) [],.p (.h 90 89) [1],.p (.f 91 4 90) [2,1],.p (.l 92 91) [3,2,1],.p (.m 93 9) [],.p (.i 94 7 92 93) [4,5,3,2,1],.p (.j 95 7 94) [6,4,5,3,2,1],.p (.m 6 88) [0],.q (.s 7 7 95) true false [7,8,6,4,5,3,2,1,0] 0 0,.q (.a 8 (.bool true)) false false [9,7,8,6,4,5,3,2,1,0] 1 1] []) .ret)) .skip))) (.reg [.m 37 9,.u 38 .add 37 1,.m 9 38])))))) (.k [.m 96 2,.o 97 (.build zX []),.m 6 96,.s 7 7 97,.a 8 (.bool false)] .ret))))⟩
theorem ok143:okF Tryz.f143 c143:=okI (by kernel_rfl)
def c144:F':=⟨37,[.t 6],.k [.a 6 (.str ⟨⟨[]⟩⟩)] (.k [.m 11 0,.m 12 1,.m 13 2,.x 14 143 11 12 13,.m 10 14,.e 15 0 10,.e 16 1 10,.e 17 2 10,.o 8 (.new zX),.m 7 15,.s 7 8 16,.m 9 17] (.seq (.k [.m 18 9,.m 19 18,.v 20 19 true (.fa 0 (.t 8)),.v 21 19 true (.ld none (.t 20)),.v 22 19 true (.bin .eql (.t 21) (.c (.int .i64 6))),.y 23 19 22] (.cond (.t 23) (.k [.f 24 5 8,.l 25 24,.m 6 25] .ret) .skip)) (.k [.m 26 0,.m 27 0,.h 28 27,.f 29 5 28,.l 30 29,.m 31 30,.v 32 31 false (.mv (.t 9)),.z 33 31 32,.h 34 26,.f 35 5 34,.s 1 35 33] (.k [.m 36 7,.m 6 36] .ret))))⟩
theorem ok144:okF Tryz.f144 c144:=okI (by kernel_rfl)
def c145:F':=⟨26,[.t 6],.k [.a 6 (.sl true [])] (.k [.a 7 (.sl true [])] (.seq (.k [.a 8 (.int .i64 0)] (.block 0 (.loop (.seq (.k [.m 9 8,.m 10 1,.o 11 (.len false (.t 10)),.b 12 .lss 9 11] (.cond (.t 12) .skip (.exit 0))) (.seq (.block 1 (.reg [.m 15 7,.m 16 0,.m 17 1,.m 18 8,.i 19 7 17 18,.j 20 7 19,.m 21 2,.x 22 92 16 20 21,.o 23 (.bsl 7 [(.t 22)]),.o 24 (.app 7 80 (.t 15) (.t 23)),.m 7 24])) (.reg [.m 13 8,.u 14 .add 13 1,.m 8 14])))))) (.k [.m 25 7,.m 6 25] .ret)))⟩
theorem ok145:okF Tryz.f145 c145:=okI (by kernel_rfl)
def c161:F':=⟨26,[.t 6],.k [.a 6 (.sl true [])] (.k [.a 7 (.sl true [])] (.seq (.k [.a 8 (.int .i64 0)] (.block 0 (.loop (.seq (.k [.m 9 8,.m 10 1,.o 11 (.len false (.t 10)),.b 12 .lss 9 11] (.cond (.t 12) .skip (.exit 0))) (.seq (.block 1 (.reg [.m 15 7,.m 16 0,.m 17 1,.m 18 8,.i 19 8 17 18,.j 20 8 19,.m 21 2,.x 22 194 16 20 21,.o 23 (.bsl 8 [(.t 22)]),.o 24 (.app 8 168 (.t 15) (.t 23)),.m 7 24])) (.reg [.m 13 8,.u 14 .add 13 1,.m 8 14])))))) (.k [.m 25 7,.m 6 25] .ret)))⟩
theorem ok161:okF Tryz.f161 c161:=okI (by kernel_rfl)
def c162:F':=⟨60,[.t 6],.k [.a 6 (.sl true [])] (.k [.a 7 (.sl true [])] (.k [.o 10 (.bsl 2 []),.m 11 1,.o 12 (.app 2 24 (.t 10) (.t 11)),.m 8 12] (.seq (.k [.a 9 (.int .i64 0)] (.block 0 (.loop (.seq (.k [.m 13 9,.m 14 2,.o 15 (.len false (.t 14)),.b 16 .lss 13 15] (.cond (.t 16) .skip (.exit 0))) (.seq (.block 1 (.k [.m 19 7,.m 20 2,.m 21 9,.i 22 1 20 21,.l 23 22,.w 24 34 19 23,.o 25 (.un .not (.t 24))] (.cond (.t 25) (.k [.m 26 7,.m 27 2,.m 28 9,.i 29 1 27 28,.l 30 29,.o 31 (.bsl 1 [(.t 30)]),.o 32 (.app 1 16 (.t 26) (.t 31)),.m 7 32] (.seq (.draw [.p (.m 33 8) [],.p (.m 34 2) [],.p (.m 35 9) [],.p (.i 36 1 34 35) [1,2],.p (.l 37 36) [3,1,2],.p (.m 38 0) [],.p (.h 39 38) [5],.p (.f 40 0 39) [6,5],.p (.l 41 40) [7,6,5],.p (.o 42 (.len false (.t 41))) [8,7,6,5],⟨.o 43 (.build (.agg [(.str ⟨⟨[]⟩⟩),(.int .i64 0)]) [(0,0,1,(.t 37)),(1,1,1,(.t 42))]),false,none,false,[4,9,3,1,2,8,7,6,5],0,0⟩,.p (.o 44 (.bsl 2 [(.t 43)])) [10,4,9,3,1,2,8,7,6,5],.q (.o 45 (.app 2 24 (.t 33) (.t 44))) true false [0,11,10,4,9,3,1,2,8,7,6,5] 0 0,.q (.m 8 45) false false [12,0,11,10,4,9,3,1,2,8,7,6,5] 1 1] []) (.draw [.q (.m 46 0) false false [] 0 1,.p (.m 47 0) [],.p (.h 48 47) [1],.p (.f 49 0 48) [2,1],.p (.l 50 49) [3,2,1],.p (.m 51 2) [],.p (.m 52 9) [],.p (.i 53 1 51 52) [5,6],.p (.l 54 53) [7,5,6],.p (.o 55 (.bsl 1 [(.t 54)])) [8,7,5,6],.q (.o 56 (.app 1 16 (.t 50) (.t 55))) true false [4,9,3,2,1,8,7,5,6] 0 0,.q (.h 57 46) false false [0,10,4,9,3,2,1,8,7,5,6] 1 1,.q (.f 58 0 57) false false [11,0,10,4,9,3,2,1,8,7,5,6] 1 1,.q (.s 1 58 56) true false [12,11,0,10,4,9,3,2,1,8,7,5,6] 1 1] []))) .skip))) (.reg [.m 17 9,.u 18 .add 17 1,.m 9 18])))))) (.k [.m 59 8,.m 6 59] .ret))))⟩
theorem ok162:okF Tryz.f162 c162:=okI (by kernel_rfl)
def c163:F':=⟨19,[.t 2],.k [.a 2 (.sl true [])] (.k [.a 3 (.sl true [])] (.seq (.k [.a 4 (.int .i64 0)] (.block 0 (.loop (.seq (.k [.m 5 4,.m 6 0,.o 7 (.len false (.t 6)),.b 8 .lss 5 7] (.cond (.t 8) .skip (.exit 0))) (.seq (.block 1 (.reg [.m 11 3,.m 12 0,.m 13 4,.i 14 8 12 13,.f 15 0 14,.l 16 15,.o 17 (.app 1 16 (.t 11) (.t 16)),.m 3 17])) (.reg [.m 9 4,.u 10 .add 9 1,.m 4 10])))))) (.k [.m 18 3,.m 2 18] .ret)))⟩
theorem ok163:okF Tryz.f163 c163:=okI (by kernel_rfl)
def c175:F':=⟨25,[.t 4],.k [.a 4 (.int .i64 0)] (.seq (.k [.m 6 0,.o 7 (.len false (.t 6)),.u 8 .sub 7 1,.m 5 8] (.block 0 (.loop (.seq (.k [.m 9 5,.u 10 .geq 9 0] (.cond (.t 10) .skip (.exit 0))) (.seq (.block 1 (.k [.m 13 0,.m 14 5,.i 15 2 13 14,.f 16 0 15,.l 17 16,.m 18 1,.b 19 .eql 17 18] (.cond (.t 19) (.k [.m 20 0,.m 21 5,.i 22 2 20 21,.f 23 1 22,.l 24 23,.m 4 24] .ret) .skip))) (.reg [.m 11 5,.u 12 .sub 11 1,.m 5 12])))))) (.k [.a 4 (.int .i64 (-1))] .ret))⟩
theorem ok175:okF Tryz.f175 c175:=okI (by kernel_rfl)
def c176:F':=⟨30,[.t 6],.k [.a 6 (.str ⟨⟨[]⟩⟩)] (.k [.m 8 1,.m 9 2,.w 10 175 8 9,.m 7 10] (.seq (.k [.m 11 7,.u 12 .geq 11 0,.m 13 12,.v 14 13 true (.mv (.t 7)),.v 15 13 true (.mv (.t 0)),.v 16 13 true (.nck (.t 15)),.v 17 13 true (.fa 2 (.t 16)),.v 18 13 true (.ld none (.t 17)),.v 19 13 true (.len false (.t 18)),.v 20 13 true (.bin .lss (.t 14) (.t 19)),.y 21 13 20] (.cond (.t 21) (.k [.m 22 0,.h 23 22,.f 24 2 23,.l 25 24,.m 26 7,.i 27 1 25 26,.l 28 27,.m 6 28] .ret) .skip)) (.k [.m 29 2,.m 6 29] .ret)))⟩
theorem ok176:okF Tryz.f176 c176:=okI (by kernel_rfl)
def c194:F':=⟨157,[.cell 6 (some 8)],.k [.o 4 (.box (.t 1)),.o 6 (.new zS)] (.k [.j 14 8 4,.o 7 (.new zS),.s 8 7 14] (.k [.f 15 0 7,.n (.sto 1 (.t 15) (.c (.sl true [])))] (.seq (.k [.a 8 (.int .i64 0)] (.block 0 (.loop (.seq (.k [.m 16 8,.f 17 0 4,.l 18 17,.o 19 (.len false (.t 18)),.b 20 .lss 16 19] (.cond (.t 20) .skip (.exit 0))) (.seq (.block 1 (.draw [.q (.f 23 0 7) false false [] 0 1,.q (.l 24 23) false true [0] 0 1,.p (.m 25 0) [],.p (.m 26 2) [],.p (.f 27 0 4) [],.p (.l 28 27) [4],.p (.m 29 8) [],.p (.i 30 1 28 29) [5,6,4],.p (.l 31 30) [7,5,6,4],.q (.x 32 176 25 26 31) true false [2,3,8,7,5,6,4] 0 0,.q (.o 33 (.bsl 1 [(.t 32)])) false false [9,2,3,8,7,5,6,4] 1 1,.q (.o 34 (.app 1 16 (.t 24) (.t 33))) true false [1,10,0,9,2,3,8,7,5,6,4] 1 1,.q (.f 35 0 7) false false [11,1,10,0,9,2,3,8,7,5,6,4] 2 2,.q (.s 1 35 34) true false [12,11,1,10,0,9,2,3,8,7,5,6,4] 2 2] [])) (.reg [.m 21 8,.u 22 .add 21 1,.m 8 22])))))) (.seq (.k [.f 36 1 4,.l 37 36] (.block 2 (.k [.u 39 .eql 37 7,.m 38 39] (.cond (.t 38) (.k [.a 9 (.sl true [])] (.seq (.k [.a 10 (.int .i64 0)] (.block 3 (.loop (.seq (.k [.m 40 10,.f 41 6 4,.l 42 41,.o 43 (.len false (.t 42)),.b 44 .lss 40 43] (.cond (.t 44) .skip (.exit 3))) (.seq (.block 4 (.reg [.m 47 9,.f 48 6 4,.l 49 48,.m 50 10,.i 51 7 49 50,.f 52 3 51,.l 53 52,.o 54 (.app 1 16 (.t 47) (.t 53)),.m 9 54])) (.reg [.m 45 10,.u 46 .add 45 1,.m 10 46])))))) (.k [.m 55 0,.m 56 2,.m 57 9,.f 58 7 4,.l 59 58,.c 60 163 59,.o 61 (.app 1 16 (.t 57) (.t 60)),.x 62 162 55 56 61,.m 11 62] (.k [.f 63 6 7,.n (.sto 1 (.t 63) (.c (.sl true [])))] (.seq (.k [.a 12 (.int .i64 0)] (.block 5 (.loop (.seq (.k [.m 64 12,.f 65 6 4,.l 66 65,.o 67 (.len false (.t 66)),.b 68 .lss 64 67] (.cond (.t 68) .skip (.exit 5))) (.seq (.block 6 (.draw [.q (.f 71 6 7) false false [] 0 1,.q (.l 72 71) false true [0] 0 1,.p (.m 73 0) [],.p (.f 74 6 4) [],.p (.l 75 74) [3],.p (.m 76 12) [],.p (.i 77 7 75 76) [4,5,3],.p (.j 78 7 77) [6,4,5,3],.p (.m 79 2) [],.p (.m 80 11) [],.q (.o 81 (.call (.f 230) [(.t 73),(.t 78),(.t 79),(.t 80)])) true false [2,7,8,9,6,4,5,3] 0 0,.q (.o 82 (.bsl 7 [(.t 81)])) false false [10,2,7,8,9,6,4,5,3] 1 1,.q (.o 83 (.app 7 120 (.t 72) (.t 82))) true false [1,11,0,10,2,7,8,9,6,4,5,3] 1 1,.q (.f 84 6 7) false false [12,1,11,0,10,2,7,8,9,6,4,5,3] 2 2,.q (.s 1 84 83) true false [13,12,1,11,0,10,2,7,8,9,6,4,5,3] 2 2] [])) (.reg [.m 69 12,.u 70 .add 69 1,.m 12 70])))))) (.k [.m 85 0,.f 86 7 4,.l 87 86,.m 88 11,.x 89 161 85 87 88,.f 90 7 7,.s 1 90 89] (.k [.j 91 8 7,.s 8 6 91] .ret))))))) (.k [.u 93 .eql 37 8,.m 92 93] (.cond (.t 92) (.k [.m 94 0,.f 95 7 4,.l 96 95,.m 97 2,.x 98 117 94 96 97,.f 99 7 7,.s 1 99 98] (.k [.j 100 8 7,.s 8 6 100] .ret)) (.k [.u 102 .eql 37 6,.m 101 102] (.cond (.t 101) (.reg [.m 103 0,.m 104 2,.f 105 2 4,.l 106 105,.x 107 144 103 104 106,.f 108 2 7,.s 1 108 107]) .skip)))))))) (.k [.m 109 0,.f 110 3 4,.l 111 110,.m 112 2,.x 113 231 109 111 112,.f 114 3 7,.s 1 114 113] (.k [.f 115 5 7,.n (.sto 1 (.t 115) (.c (.sl true [])))] (.seq (.k [.a 13 (.int .i64 0)] (.block 7 (.loop (.seq (.k [.m 116 13,.f 117 5 4,.l 118 117,.o 119 (.len false (.t 118)),.b 120 .lss 116 119] (.cond (.t 120) .skip (.exit 7))) (.seq (.block 8 (.draw [.q (.f 123 5 7) false false [] 0 1,.q (.l 124 123) false true [0] 0 1,.q (.f 125 5 4) false false [] 0 1,.q (.l 126 125) false true [2] 0 1,.q (.m 127 13) false false [] 0 1,.q (.i 128 2 126 127) false true [3,4,2] 0 1,.q (.f 129 0 128) false false [5,3,4,2] 0 1,.q (.l 130 129) false true [6,5,3,4,2] 0 1,.p (.m 131 0) [],.p (.f 132 5 4) [],.p (.l 133 132) [9],.p (.m 134 13) [],.p (.i 135 2 133 134) [10,11,9],.p (.f 136 1 135) [12,10,11,9],.p (.l 137 136) [13,12,10,11,9],.p (.m 138 2) [],.q (.x 139 145 131 137 138) true false [8,14,15,13,12,10,11,9] 0 0,.q (.o 140 (.build zE [(0,0,1,(.t 130)),(1,1,1,(.t 139))])) false false [7,16,6,5,3,4,2,8,14,15,13,12,10,11,9] 1 1,.q (.o 141 (.bsl 2 [(.t 140)])) false false [17,7,16,6,5,3,4,2,8,14,15,13,12,10,11,9] 1 1,.q (.o 142 (.app 2 32 (.t 124) (.t 141))) true false [1,18,0,17,7,16,6,5,3,4,2,8,14,15,13,12,10,11,9] 1 1,.q (.f 143 5 7) false false [19,1,18,0,17,7,16,6,5,3,4,2,8,14,15,13,12,10,11,9] 2 2,.q (.s 1 143 142) true false [20,19,1,18,0,17,7,16,6,5,3,4,2,8,14,15,13,12,10,11,9] 2 2] [])) (.reg [.m 121 13,.u 122 .add 121 1,.m 13 122])))))) (.k [.m 144 0,.f 145 4 4,.l 146 145,.m 147 2,.x 148 145 144 146 147,.f 149 4 7,.s 1 149 148] (.k [.m 150 0,.f 151 7 4,.l 152 151,.m 153 2,.x 154 232 150 152 153,.f 155 7 7,.s 1 155 154] (.k [.j 156 8 7,.s 8 6 156] .ret))))))))))⟩
theorem ok194:okF Tryz.f194 c194:=okI (by kernel_rfl)
def c230:F':=⟨110,[.cell 8 (some 7)],.k [.o 5 (.box (.t 1)),.o 8 (.new zD)] (.k [.j 16 7 5,.o 9 (.new zD),.s 7 9 16] (.k [.f 17 3 9,.n (.sto 1 (.t 17) (.c (.sl true [])))] (.seq (.k [.a 10 (.int .i64 0)] (.block 0 (.loop (.seq (.k [.m 18 10,.f 19 3 5,.l 20 19,.o 21 (.len false (.t 20)),.b 22 .lss 18 21] (.cond (.t 22) .skip (.exit 0))) (.seq (.block 1 (.draw [.q (.f 25 3 9) false false [] 0 1,.q (.l 26 25) false true [0] 0 1,.p (.m 27 0) [],.p (.m 28 3) [],.p (.f 29 3 5) [],.p (.l 30 29) [4],.p (.m 31 10) [],.p (.i 32 1 30 31) [5,6,4],.p (.l 33 32) [7,5,6,4],.q (.x 34 176 27 28 33) true false [2,3,8,7,5,6,4] 0 0,.q (.o 35 (.bsl 1 [(.t 34)])) false false [9,2,3,8,7,5,6,4] 1 1,.q (.o 36 (.app 1 16 (.t 26) (.t 35))) true false [1,10,0,9,2,3,8,7,5,6,4] 1 1,.q (.f 37 3 9) false false [11,1,10,0,9,2,3,8,7,5,6,4] 2 2,.q (.s 1 37 36) true false [12,11,1,10,0,9,2,3,8,7,5,6,4] 2 2] [])) (.reg [.m 23 10,.u 24 .add 23 1,.m 10 24])))))) (.seq (.k [.f 38 0 5,.l 39 38,.u 40 .eql 39 2] (.cond (.t 40) (.k [.m 41 0,.f 42 4 5,.l 43 42,.m 44 2,.x 45 145 41 43 44,.f 46 4 9,.s 1 46 45] (.k [.j 47 7 9,.s 7 8 47] .ret)) .skip)) (.k [.m 48 0,.f 49 4 5,.l 50 49,.m 51 3,.x 52 145 48 50 51,.f 53 4 9,.s 1 53 52] (.seq (.k [.f 54 0 5,.l 55 54,.u 56 .neq 55 4] (.cond (.t 56) (.k [.j 57 7 9,.s 7 8 57] .ret) .skip)) (.k [.a 11 (.sl true [])] (.seq (.k [.a 12 (.int .i64 0)] (.block 2 (.loop (.seq (.k [.m 58 12,.f 59 5 5,.l 60 59,.o 61 (.len false (.t 60)),.b 62 .lss 58 61] (.cond (.t 62) .skip (.exit 2))) (.seq (.block 3 (.reg [.m 65 11,.f 66 5 5,.l 67 66,.m 68 12,.i 69 4 67 68,.f 70 0 69,.l 71 70,.o 72 (.bsl 1 [(.t 71)]),.o 73 (.app 1 16 (.t 65) (.t 72)),.m 11 73])) (.reg [.m 63 12,.u 64 .add 63 1,.m 12 64])))))) (.k [.m 74 0,.m 75 3,.m 76 11,.x 77 162 74 75 76,.m 13 77] (.k [.f 78 5 9,.n (.sto 1 (.t 78) (.c (.sl true [])))] (.seq (.k [.a 14 (.int .i64 0)] (.block 4 (.loop (.seq (.k [.m 79 14,.f 80 5 5,.l 81 80,.o 82 (.len false (.t 81)),.b 83 .lss 79 82] (.cond (.t 83) .skip (.exit 4))) (.seq (.block 5 (.k [.f 86 5 5,.l 87 86,.m 88 14,.i 89 4 87 88,.j 90 4 89,.o 15 (.new zF),.s 4 15 90] (.k [.m 91 0,.m 92 13,.f 93 0 15,.l 94 93,.x 95 176 91 92 94,.f 96 0 15,.s 1 96 95] (.reg [.f 97 5 9,.l 98 97,.j 99 4 15,.o 100 (.bsl 4 [(.t 99)]),.o 101 (.app 4 40 (.t 98) (.t 100)),.f 102 5 9,.s 1 102 101])))) (.reg [.m 84 14,.u 85 .add 84 1,.m 14 85])))))) (.k [.m 103 0,.f 104 6 5,.l 105 104,.m 106 13,.x 107 232 103 105 106,.f 108 6 9,.s 1 108 107] (.k [.j 109 7 9,.s 7 8 109] .ret)))))))))))))⟩
theorem ok230:okF Tryz.f230 c230:=okI (by kernel_rfl)
def c231:F':=⟨43,[.t 6],.k [.a 6 (.sl true [])] (.k [.m 9 0,.m 10 1,.m 11 2,.x 12 145 9 10 11,.m 7 12] (.seq (.k [.a 8 (.int .i64 0)] (.block 0 (.loop (.seq (.k [.m 13 8,.m 14 7,.o 15 (.len false (.t 14)),.b 16 .lss 13 15] (.cond (.t 16) .skip (.exit 0))) (.seq (.block 1 (.reg [.m 19 0,.m 20 0,.h 21 20,.f 22 5 21,.l 23 22,.m 24 23,.v 25 24 false (.mv (.t 7)),.v 26 24 false (.mv (.t 8)),.v 27 24 false (.ia 7 (.t 25) (.t 26)),.v 28 24 false (.fa 0 (.t 27)),.v 29 24 false (.ld none (.t 28)),.v 30 24 false (.bin .neq (.t 29) (.c (.int .i64 6))),.v 31 24 false (.mv (.t 30)),.v 32 31 true (.mv (.t 7)),.v 33 31 true (.mv (.t 8)),.v 34 31 true (.ia 7 (.t 32) (.t 33)),.v 35 31 true (.fa 0 (.t 34)),.v 36 31 true (.ld none (.t 35)),.v 37 31 true (.bin .neq (.t 36) (.c (.int .i64 7))),.v 38 24 false (.pick (.t 31) (.t 37) (.c (.bool false))),.z 39 24 38,.h 40 19,.f 41 5 40,.s 1 41 39])) (.reg [.m 17 8,.u 18 .add 17 1,.m 8 18])))))) (.k [.m 42 7,.m 6 42] .ret)))⟩
theorem ok231:okF Tryz.f231 c231:=okI (by kernel_rfl)
def c232:F':=⟨28,[.t 6],.k [.a 6 (.sl true [])] (.k [.a 7 (.sl true [])] (.seq (.k [.a 8 (.int .i64 0)] (.block 0 (.loop (.seq (.k [.m 10 8,.m 11 1,.o 12 (.len false (.t 11)),.b 13 .lss 10 12] (.cond (.t 13) .skip (.exit 0))) (.seq (.block 1 (.k [.m 16 0,.m 17 1,.m 18 8,.i 19 8 17 18,.j 20 8 19,.o 21 (.bsl 8 [(.t 20)]),.m 22 2,.x 23 117 16 21 22,.m 9 23] (.reg [.m 24 7,.m 25 9,.o 26 (.app 8 168 (.t 24) (.t 25)),.m 7 26]))) (.reg [.m 14 8,.u 15 .add 14 1,.m 8 15])))))) (.k [.m 27 7,.m 6 27] .ret)))⟩
theorem ok232:okF Tryz.f232 c232:=okI (by kernel_rfl)
def Rd(v:V)(l:List ByteArray)(S:St):Prop:=lenS v=some (.int .i64 l.length)∧∀(i:Nat) (h:i<l.length),∃p,iaS S 1 v i=some p∧ldS S p none=some (.str l[i])
theorem Rd.sl(b:Bool)(l:List ByteArray)(S:St):Rd (.sl b (l.map .str)) l S:=⟨by simp[lenS],fun i h=>⟨_,qc2 h b S,by simp[ldS]⟩⟩
theorem Rd.arr{lo wr:Nat}{l:List ByteArray}{S:St}(h:S[lo]?=some (.arr (l.map .str) 1 wr))(hw:wr≤l.length):Rd (.arr lo 0 l.length l.length) l S:=
 ⟨rfl,fun i hi=>⟨.ptr lo i 0 l.length,by simp[iaS,h,hw,hi],by simp[ldS,h,hw,hi]⟩⟩
theorem qqb(v:V)(l:List ByteArray)(s:ByteArray)(S:St)(hl:l.length≤1000000)(hr:Rd v l S):Fn prog 34 [v,.str s] S (.bool (isIn s l)):=by
 obtain ⟨hlen,hrd⟩:=hr;refine Spec.intro func34 ok34 (by simp[c34]) ?_;simp[c34];refine qar (fun n e S'=>∃i:Nat,n=l.length - i∧i≤l.length∧(∀j,(h:j<l.length)→j<i→l[j]≠s)∧S'=S∧
  e=[(5,.int .i64 i),(4,.bool false),(0,v),(1,.str s)]) l.length _ ?_ ⟨0,by simp,by omega,by omega,rfl,rfl⟩ ?_
 ·exact Env.so (by simp)
 rintro n e S' ⟨i,rfl,hi,hno,rfl,rfl⟩;by_cases h:i<l.length
 ·obtain ⟨p,hp1,hp2⟩:=hrd i h;by_cases he:l[i]=s
  ·rw[he] at hp2;simp[↓qbh,hlen,h,hp1,hp2];exact qai rfl ⟨by rw[qcb.2 (by rw[←he];exact qtR h)];rfl,rfl⟩
  ·simp[↓qbh,hlen,h,hp1,hp2,he,qaL (n:=(i:Int)+1)];refine ⟨_,?_,_,?_,i+1,rfl,by omega,fun j hj hji=>?_,rfl⟩
   ·omega
   ·exact Env.so (by simp)
   ·by_cases hj':j=i
    ·subst hj';exact he
    ·exact hno j hj (by omega)
 ·simp[↓qbh,hlen,h];refine qai rfl ⟨?_,rfl⟩;rw[qgr.2]
  ·rfl
  intro hs;obtain ⟨j,hj,rfl⟩:=quO hs;exact hno j hj (by omega) rfl
def bndV(e:ByteArray×Nat):V:=.agg [.str e.1,.int .i64 e.2]
theorem qlR(e:ByteArray×Nat):(bndV e).size=2:=rfl
theorem qq3{l:Sco}{i:Nat}(h:i<l.length)(b:Bool)(S:St):iaS S 2 (.sl b (l.map bndV)) i=some (.iptr (bndV l[i]) 0):=qid (f:=bndV) qlR h b S
def qfz(l:Sco)(x:ByteArray):Option Nat:=Sco.at l.reverse x
def plcV(l:Sco)(x:ByteArray):V:=.int .i64 (match qfz l x with|some k=>(k:Int)|none=>-1)
theorem qh0{l:Sco}{x:ByteArray}:Sco.at l x=none↔∀e,e∈l→e.1≠x:=by
 unfold Sco.at;simp[List.find?_eq_none]
theorem qml(l:Sco)(b:Bool)(x:ByteArray)(hl:l.length≤1000000)(S:St):Fn prog 175 [.sl b (l.map bndV),.str x] S (plcV l x):=by
 refine Spec.intro func175 ok175 (by simp[c175]) ?_;simp[c175,qaz (n:=(l.length:Int) - 1) (by omega) (by omega)];refine qax (fun e U=>qfz l x=none∧U=S) ?_ ?_
 ·refine qar (fun k e U=>k≤l.length∧(∀i,(h:i<l.length)→k≤i→l[i].1≠x)∧U=S∧
   e=[(5,.int .i64 ((k:Int) - 1)),(0,.sl b (l.map bndV)),(1,.str x)]) l.length _ ?_ ⟨qtJ _,by omega,rfl,rfl⟩ ?_
  ·exact Env.so (by simp)
  rintro k e U ⟨hk,hno,rfl,rfl⟩;by_cases h0:k=0
  ·subst h0;simp;unfold qfz;rw[qh0];intro e he;obtain ⟨i,hi,rfl⟩:=quO (List.mem_reverse.1 he);exact hno i hi (quL _)
  ·obtain ⟨m,rfl⟩:∃m,k=m+1:=⟨k - 1,by omega⟩;have hm:m<l.length:=by omega
   have e1:((m+1:Nat):Int) - 1=m:=by omega
   rw[e1];have hg:(0:Int)≤m:=by omega
   by_cases hx:l[m].1=x
   ·simp[hg,qq3 hm,bndV,ldS,hx,qfl];refine qai rfl ⟨?_,rfl⟩;unfold plcV
    have:qfz l x=some l[m].2:=by
     unfold qfz Sco.at;have hs:l=l.take m++(l[m]::l.drop (m+1)):=by rw[←qu9 hm,qun]
     conv=>lhs;rw[hs]
     rw[List.reverse_append,List.reverse_cons,qu8,qu8]
     have hn:(l.drop (m+1)).reverse.find? (fun p=>decide (p.1=x))=none:=by
      rw[List.find?_eq_none];intro e he;obtain ⟨i,hi,rfl⟩:=quO (List.mem_reverse.1 he);rw[List.getElem_drop];simp only[List.length_drop] at hi;have:=hno (m+1+i) (by omega) (by omega);simpa using this
     rw[hn];simp[hx]
    rw[this];rfl
   ·simp[hg,qq3 hm,bndV,ldS,hx,qaz (n:=(m:Int) - 1) (by omega) (by omega)];refine ⟨m,by omega,_,?_,by omega,fun i hi hmi=>?_,rfl⟩
    ·exact Env.so (by simp)
    ·by_cases hj':m=i
     ·subst hj';exact hx
     ·exact hno i hi (by omega)
 rintro e U ⟨hn,rfl⟩;simp;refine qai rfl ⟨?_,rfl⟩;unfold plcV;rw[hn];rfl
end Go.Proofs.YtbifpocccfkhhaaGreatDoor
end
