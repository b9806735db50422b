/- A part. -/
import Derived.Test.YtbifpocccfkhhaaGreatDoorQl
import Derived.Test.YtbifpocccfkhhaaGreatDoorQg
set_option linter.all false
noncomputable section
namespace Go.Proofs.YtbifpocccfkhhaaGreatDoor
open Go
theorem qox(c:UInt8)(l:List UInt8):((⟨⟨[c]⟩⟩:ByteArray)++⟨l.toArray⟩).data.toList=c::l:=by
 simp[ByteArray.data_append]
theorem qqS{c:UInt8}{l:List UInt8}(h:isL c.toNat=false):qab ((⟨⟨[c]⟩⟩:ByteArray)++⟨l.toArray⟩)=false:=by
 unfold qab;rw[qox];simp[qqK,h]
theorem qi9(k:Nat):qab (numF k)=false:=qqS (by decide)
theorem qdz{p:Pa}{nm:ByteArray→Bool}(h:p.err nm=0):p.fits∧p.valid nm=true:=by
 unfold Pa.err at h;split at h
 ·rename_i hf;split at h
  ·rename_i hv;exact ⟨hf,hv⟩
  ·omega
 ·omega
theorem qf1{s:Sm}(h:s.light=true):(Pa.st s).size<150:=by
 unfold Sm.light at h;rw[decide_eq_true_eq] at h;have:=Sm.left_size s 0 150 h;omega
theorem qsA{s:Sm}(h:s.light=true):Sm.nb1 [s]<150:=by
 have h1:=qf1 h;have h2:=Sm.nb1_size [s];simp at h2;omega
end Go.Proofs.YtbifpocccfkhhaaGreatDoor
namespace Go.Proofs.YtbifpocccfkhhaaGreatDoor
open Go Go.ChangeShapes Go.WideShapes Go.ChangeAt Go.RowKit
def CR(W:World)(vs:List V)(cs:List Value):Prop:=vs.length=cs.length∧∀(j:Nat) (v:V) (c:Value),vs[j]?=some v→cs[j]?=some c→VR (E0 W) v c
def Fitw{H:Type}(t:TypeId)(d:DataW H):Prop:=∀n,n∈d.weights Tryz.prog t→n≤reachBytes
theorem reach_le{n:Nat}(h:n≤reachBytes):n≤B50:=by unfold reachBytes at h;unfold B50;omega
section
variable {H:Type} {enc:TypeId×Value→H} {W:World}
theorem weightsAll_mem{e:TypeId}{n:Nat}:∀{l:List (DataW H)} {d:DataW H},d∈l→n∈d.weights Tryz.prog e→n∈DataW.weightsAll Tryz.prog e l
 | x::l,d,hd,hn=>by
  rw[DataW.weightsAll];rcases qum.1 hd with rfl|hd
  ·exact qvx _ hn
  ·exact qvt _ (weightsAll_mem hd hn)
theorem weightsEach_mem{n:Nat}:∀{ts:List TypeId} {l:List (DataW H)} {i:Nat} {t:TypeId} {d:DataW H},ts[i]?=some t→l[i]?=some d→n∈d.weights Tryz.prog t→n∈DataW.weightsEach Tryz.prog ts l
 | t0::ts,d0::l,0,t,d,ht,hd,hn=>by
  simp at ht hd;subst ht;subst hd;rw[DataW.weightsEach];exact qvx _ hn
 | t0::ts,d0::l,i+1,t,d,ht,hd,hn=>by
  rw[DataW.weightsEach];exact qvt _ (weightsEach_mem (i:=i) (by simpa using ht) (by simpa using hd) hn)
theorem Fitw.part{t:TypeId}{fs:Array Field}(ht:Tryz.prog.underlying t=some (.struct fs)){l:List (DataW H)}(h:Fitw t (.agg l)){i:Nat}{f:Field}{d:DataW H}(hf:fs[i]?=some f)(hd:l[i]?=some d):Fitw f.type d:=fun n hn=>h n (by
 rw[DataW.weights,ht];exact weightsEach_mem (i:=i) (t:=f.type) (by simp[hf]) hd hn)
theorem Fitw.elem{t e:TypeId}(ht:Tryz.prog.underlying t=some (.slice e)){l r:List (DataW H)}(h:Fitw t (.slice l r)){d:DataW H}(hd:d∈l):Fitw e d:=fun n hn=>h n (by
 rw[DataW.weights,ht];exact qvj _ (qvx _ (weightsAll_mem hd hn)))
theorem Fitw.len{t e:TypeId}(ht:Tryz.prog.underlying t=some (.slice e))(hb:0<Tryz.prog.bytesOf e){l r:List (DataW H)}(h:Fitw t (.slice l r)):l.length≤B50:=by
 have:=h ((l.length+r.length) * Tryz.prog.bytesOf e) (by rw[DataW.weights,ht];exact List.mem_cons_self ..);refine reach_le (quJ ?_ this)
 calc l.length≤(l.length+r.length) * 1:=by omega
  _≤_:=Nat.mul_le_mul_left _ hb
theorem spot_none{a:Addr}{v:Value}(h:W.cell? a=some v):a.spot=none:=by
 unfold World.cell? at h;split at h
 ·split at h
  ·cases h
  ·rename_i hs;simpa using hs
 ·cases h
theorem add_off{b o k:Nat}:(Addr.add ⟨b,o,none⟩ k)=⟨b,o+k,none⟩:=by
 unfold Addr.add;split
 ·rename_i h;subst h;rfl
 ·rfl
theorem slice_in{α:Type}(f:α→V)(ok:α→Prop){sz:Nat}(hsz:∀a,(f a).cells.length=sz)(hz:0<sz){t e:TypeId}(ht:Tryz.prog.underlying t=some (.slice e))(hc:Tryz.prog.cellsOf e=sz)(hb:0<Tryz.prog.bytesOf e){fuel:Nat}
  (hel:∀n,n<fuel→∀cs (x:DataW H×List MemPlace),DataW.trod enc Tryz.prog W 0 (fun _=>true) true n e cs=some x→Fitw e x.1→∃a,ok a∧CR W (f a).cells cs)
  {cs:List Value} {x:DataW H×List MemPlace} (h:DataW.trod enc Tryz.prog W 0 (fun _=>true) true fuel t cs=some x) (hw:Fitw t x.1):
  ∃l:List α,(∀a,a∈l→ok a)∧l.length≤B50∧∃v,cs=[v]∧VR (E0 W) (.sl false (l.map f)) v:=by
 rcases DataW.trod_slice ht h with ⟨rfl,_⟩|⟨a,len,cap,elems,rest,n,rfl,rfl,rfl,_,hl,_,hlen,h1,h2,_⟩
 ·exact ⟨[],fun a ha=>(by cases ha),quX _,_,rfl,.slnil _⟩
 obtain ⟨h2a,h2b⟩:=h2 rfl;rw[hc] at h1 h2b;have hle:=Fitw.len ht hb hw;rw[qt2] at hle
 have each:∀i,i<len→∃b,ok b∧∃cs',W.cells? 0 (a.add (i * sz)) sz=some cs'∧CR W (f b).cells cs':=fun i hi=>by
  have hi':i<elems.length:=by omega
  have:=h1 i hi;rw[qtX hi',quM] at this;obtain ⟨cs',k1,k2⟩:=this;obtain ⟨b,k3,k4⟩:=hel n (by omega) cs' _ k2 (Fitw.elem ht hw (quz (qt7 hi')));exact ⟨b,k3,cs',k1,k4⟩
 by_cases hcap:cap=0
 ·have:len=0:=by omega
  subst hcap;subst this;exact ⟨[],fun a ha=>(by cases ha),quX _,_,rfl,.slz _ _⟩
 have hspot:a.spot=none:=by
  have read:∀cs',W.cells? 0 (a.add (0 * sz)) sz=some cs'→a.spot=none:=fun cs' k=>by
   obtain ⟨_,q1,q2⟩:=World.cells?_some k;have:=q2 0 hz;have hcs:0<cs'.length:=by omega
   rw[qtX hcs] at this;have:=spot_none this;simpa[Addr.add] using this
  by_cases h0:0<len
  ·obtain ⟨_,_,cs',k,_⟩:=each 0 h0;exact read cs' k
  ·have hl0:len=0:=by omega
   have:=h2b 0 (by omega);obtain ⟨y0,hy0⟩:∃y,rest[0]?=some y:=⟨_,qtX (by omega)⟩;rw[hy0,quM] at this;obtain ⟨cs',k,_⟩:=this;rw[hl0] at k;exact read cs' (by simpa using k)
 obtain ⟨b,o,spot⟩:=a;simp only at hspot;subst hspot;obtain ⟨g,hg⟩:∃g:Fin len→α,∀i,ok (g i)∧∃cs',W.cells? 0 (Addr.add ⟨b,o,none⟩ (i.1 * sz)) sz=some cs'∧CR W (f (g i)).cells cs':=⟨fun i=>Classical.choose (each i.1 i.2),fun i=>Classical.choose_spec (each i.1 i.2)⟩;have hll:(List.ofFn g).length=len:=List.length_ofFn;have hl2:((List.ofFn g).map f).length=len:=by rw[qt2,hll]
 have cell:∀i (hi:i<len) j,j<sz→∃c,W.cell? ⟨b,o+i * sz+j,none⟩=some c∧∀v,(f (g ⟨i,hi⟩)).cells[j]?=some v→VR (E0 W) v c:=fun i hi j hj=>by
  obtain ⟨_,cs',k1,k2,k3⟩:=hg ⟨i,hi⟩;obtain ⟨_,q1,q2⟩:=World.cells?_some k1;have q:=q2 j hj;have hj':j<cs'.length:=by omega
  rw[qtX hj',add_off,add_off] at q;exact ⟨_,q,fun v hv=>k3 j v _ hv (qtX hj')⟩
 refine ⟨List.ofFn g,fun a ha=>?_,by omega,_,rfl,?_⟩
 ·obtain ⟨i,rfl⟩:=List.mem_ofFn.1 ha;exact (hg i).1
 ·have:=@VR.sl (E0 W) false ((List.ofFn g).map f) b o cap sz (by omega) (fun h=>by cases h) (fun v hv=>?_) (fun i j hi hj=>?_) (fun i v j c' c hv hc hI=>?_)
  ·rw[hl2] at this;exact this
  ·obtain ⟨y,_,rfl⟩:=qul.1 hv;exact hsz y
  ·rw[hl2] at hi;obtain ⟨c,hc,_⟩:=cell i hi j hj;simp only[E0,hc];rfl
  ·rw[quf,qt4] at hv;obtain ⟨y,hy,rfl⟩:=hv;rw[List.getElem?_ofFn] at hy;split at hy
   ·rename_i hi;cases hy;have hj:j<sz:=by have:=(qtV.1 hc).1;rw[hsz] at this;exact this
    obtain ⟨c2,hc2,hv2⟩:=cell i hi j hj;simp only[E0,hc2] at hI;cases hI;exact hv2 _ hc
   ·cases hy
theorem piece{cs l:List Value}{o k i:Nat}(h:(cs.drop o).take k=l)(hi:i<k):cs[o+i]?=l[i]?:=by
 rw[←h,quv hi,quH]
theorem CR_of{vs:List V}{cs:List Value}(hl:vs.length=cs.length)(h:∀(j:Nat) (v:V),vs[j]?=some v→∃c,cs[j]?=some c∧VR (E0 W) v c):CR W vs cs:=
 ⟨hl,fun j v c hv hc=>by
  obtain ⟨c',h1,h2⟩:=h j v hv;rw[h1] at hc;cases hc;exact h2⟩
theorem Ex.okL_of:∀{l:List Ex},(∀x,x∈l→x.ok)→Ex.okL l
 | [],_=>trivial
 | x::l,h=>⟨h x (by simp),Ex.okL_of fun y hy=>h y (by simp[hy])⟩
theorem De.okL_of:∀{l:List De},(∀x,x∈l→x.ok)→De.okL l
 | [],_=>by rw[De.okL];exact trivial
 | x::l,h=>by rw[De.okL];exact ⟨h x (by simp),De.okL_of fun y hy=>h y (by simp[hy])⟩
theorem Sm.okL_of:∀{l:List Sm},(∀x,x∈l→x.ok)→Sm.okL l
 | [],_=>by rw[Sm.okL];exact trivial
 | x::l,h=>by rw[Sm.okL];exact ⟨h x (by simp),Sm.okL_of fun y hy=>h y (by simp[hy])⟩
theorem kc3:Tryz.prog.cellsOf 3=1:=by kernel_rfl
theorem kc4t:Tryz.prog.cellsOf 4=1:=by kernel_rfl
theorem kc9:Tryz.prog.cellsOf 9=1:=by kernel_rfl
theorem kc22:Tryz.prog.cellsOf 22=1:=by kernel_rfl
theorem kc23:Tryz.prog.cellsOf 23=1:=by kernel_rfl
theorem kc24t:Tryz.prog.cellsOf 24=1:=by kernel_rfl
theorem kc25t:Tryz.prog.cellsOf 25=1:=by kernel_rfl
theorem kc26t:Tryz.prog.cellsOf 26=1:=by kernel_rfl
theorem kc40t:Tryz.prog.cellsOf 40=1:=by kernel_rfl
theorem kc52t:Tryz.prog.cellsOf 52=2:=by kernel_rfl
theorem kc54:Tryz.prog.cellsOf 54=7:=by kernel_rfl
theorem kc135t:Tryz.prog.cellsOf 135=2:=by kernel_rfl
theorem kc87t:Tryz.prog.cellsOf 87=4:=by kernel_rfl
theorem kc42t:Tryz.prog.cellsOf 42=7:=by kernel_rfl
theorem kc28t:Tryz.prog.cellsOf 28=8:=by kernel_rfl
theorem y9:0<Tryz.prog.bytesOf 9:=by decide+kernel
theorem y54:0<Tryz.prog.bytesOf 54:=by decide+kernel
theorem y135:0<Tryz.prog.bytesOf 135:=by decide+kernel
theorem y87:0<Tryz.prog.bytesOf 87:=by decide+kernel
theorem y42:0<Tryz.prog.bytesOf 42:=by decide+kernel
theorem y28:0<Tryz.prog.bytesOf 28:=by decide+kernel
theorem int_at{n o:Nat}{cs:List Value}{y:DataW H×List MemPlace}(h:DataW.trod enc Tryz.prog W 0 (fun _=>true) true n 3 ((cs.drop o).take (Tryz.prog.cellsOf 3))=some y):∃k,cs[o]?=some (.int .i64 k):=by
 obtain ⟨k,hk,_⟩:=DataW.trod_int Tryz.underlying3 h;rw[kc3] at hk;exact ⟨k,by have:=piece hk (i:=0) (by omega);simpa using this⟩
theorem bool_at{n o:Nat}{cs:List Value}{y:DataW H×List MemPlace}(h:DataW.trod enc Tryz.prog W 0 (fun _=>true) true n 4 ((cs.drop o).take (Tryz.prog.cellsOf 4))=some y):∃k,cs[o]?=some (.bool k):=by
 obtain ⟨k,hk,_⟩:=DataW.trod_bool Tryz.underlying4 h;rw[kc4t] at hk;exact ⟨k,by have:=piece hk (i:=0) (by omega);simpa using this⟩
theorem str_at{n o:Nat}{cs:List Value}{y:DataW H×List MemPlace}(h:DataW.trod enc Tryz.prog W 0 (fun _=>true) true n 9 ((cs.drop o).take (Tryz.prog.cellsOf 9))=some y)(hw:Fitw 9 y.1):∃s:ByteArray,cs[o]?=some (.string s)∧s.size≤B50:=by
 obtain ⟨k,hk,hy,_⟩:=DataW.trod_string Tryz.underlying9 h;rw[kc9] at hk;refine ⟨k,by have:=piece hk (i:=0) (by omega);simpa using this,?_⟩;have:=hw k.size (by rw[hy,DataW.weights];exact quY.2 (by rw[qu2];rfl));exact reach_le this
theorem slice_at{α:Type}(f:α→V)(ok:α→Prop){sz:Nat}(hsz:∀a,(f a).cells.length=sz)(hz:0<sz){t e:TypeId}(ht:Tryz.prog.underlying t=some (.slice e))(hc:Tryz.prog.cellsOf e=sz)(hb:0<Tryz.prog.bytesOf e)(h1:Tryz.prog.cellsOf t=1){n o:Nat}
  (hel:∀m,m<n→∀cs (x:DataW H×List MemPlace),DataW.trod enc Tryz.prog W 0 (fun _=>true) true m e cs=some x→Fitw e x.1→∃a,ok a∧CR W (f a).cells cs)
  {cs:List Value} {y:DataW H×List MemPlace} (h:DataW.trod enc Tryz.prog W 0 (fun _=>true) true n t ((cs.drop o).take (Tryz.prog.cellsOf t))=some y) (hw:Fitw t y.1):
  ∃l:List α,(∀a,a∈l→ok a)∧l.length≤B50∧∃v,cs[o]?=some v∧VR (E0 W) (.sl false (l.map f)) v:=by
 obtain ⟨l,k1,k2,v,k3,k4⟩:=slice_in f ok hsz hz ht hc hb hel h hw;rw[h1] at k3;exact ⟨l,k1,k2,v,by have:=piece k3 (i:=0) (by omega);simpa using this,k4⟩
theorem strs_el{n:Nat}:∀m,m<n→∀cs (x:DataW H×List MemPlace),DataW.trod enc Tryz.prog W 0 (fun _=>true) true m 9 cs=some x→Fitw 9 x.1→∃s:ByteArray,s.size≤B50∧CR W (V.str s).cells cs:=by
 intro m _ cs x h hw;obtain ⟨k,rfl,hy,_⟩:=DataW.trod_string Tryz.underlying9 h;refine ⟨k,reach_le (hw k.size (by rw[hy,DataW.weights];exact quY.2 (by rw[qu2];rfl))),rfl,fun j v c hv hc=>?_⟩
 match j,hv,hc with
 | 0,hv,hc=>simp at hv hc;subst hv;subst hc;exact .str k
theorem parts{t:TypeId}{fs:Array Field}(ht:Tryz.prog.underlying t=some (.struct fs)){fuel:Nat}{cs:List Value}{x:DataW H×List MemPlace}(h:DataW.trod enc Tryz.prog W 0 (fun _=>true) true fuel t cs=some x)(hw:Fitw t x.1):
  ∃n,n<fuel∧cs.length=Tryz.prog.cellsOf t∧∀(i:Nat) (f:Field),fs[i]?=some f→∃y:DataW H×List MemPlace,DataW.trod enc Tryz.prog W 0 (fun _=>true) true n f.type ((cs.drop f.offset).take (Tryz.prog.cellsOf f.type))=some y∧Fitw f.type y.1:=by
 obtain ⟨xs,n,rfl,rfl,h1,h2,h3⟩:=DataW.trod_struct ht h;refine ⟨n,by omega,h1,fun i f hf=>?_⟩
 have hi:i<xs.length:=by
  have:=(quc.1 hf).1;omega
 have:=h3 i f hf;rw[qtX hi] at this;exact ⟨xs[i],this,Fitw.part ht hw hf (by simp[hi])⟩
theorem ex_in:∀(m fuel:Nat),fuel≤m→∀cs (x:DataW H×List MemPlace),DataW.trod enc Tryz.prog W 0 (fun _=>true) true fuel 54 cs=some x→Fitw 54 x.1→∃a:Ex,a.ok∧CR W a.v.cells cs
 | 0,fuel,hm,cs,x,h,hw=>by
  obtain ⟨n,hn,_⟩:=parts Tryz.underlying54 h hw;omega
 | m+1,fuel,hm,cs,x,h,hw=>by
  obtain ⟨n,hn,hl,hp⟩:=parts Tryz.underlying54 h hw;obtain ⟨y0,p0,q0⟩:=hp 0 _ rfl;obtain ⟨y1,p1,q1⟩:=hp 1 _ rfl;obtain ⟨y2,p2,q2⟩:=hp 2 _ rfl;obtain ⟨y3,p3,q3⟩:=hp 3 _ rfl;obtain ⟨y4,p4,q4⟩:=hp 4 _ rfl;obtain ⟨y5,p5,q5⟩:=hp 5 _ rfl;obtain ⟨k0,e0⟩:=int_at p0;obtain ⟨k1,e1⟩:=int_at p1;obtain ⟨k2,e2⟩:=int_at p2;obtain ⟨n3,hn3,hl3,hp3⟩:=parts Tryz.underlying52 p3 q3;obtain ⟨z0,r0,_⟩:=hp3 0 _ rfl;obtain ⟨z1,r1,_⟩:=hp3 1 _ rfl;obtain ⟨k3,e3⟩:=int_at r0;obtain ⟨k4,e4⟩:=int_at r1;obtain ⟨s,e5,hs⟩:=str_at p4 q4;obtain ⟨l,hlo,hll,v,e6,hv⟩:=slice_at Ex.v Ex.ok (sz:=7) (fun a=>by simp) (by omega) Tryz.underlying23 kc54 y54 kc23 (fun m' hm'=>ex_in m m' (by omega)) p5 q5;have e3:((cs.drop 3).take 2)[0]?=some (.int .i64 k3):=by rw[←kc52t];exact e3
  have e4:((cs.drop 3).take 2)[1]?=some (.int .i64 k4):=by rw[←kc52t];exact e4
  rw[quv (by omega),quH] at e3 e4;refine ⟨.mk k0 k1 k2 k3 k4 s l,⟨hs,hll,Ex.okL_of hlo⟩,CR_of ?_ ?_⟩
  ·rw[hl,kc54];simp
  ·intro j w hw';rw[Ex.v_cells] at hw'
   match j,hw' with
   | 0,hw'=>cases hw';exact ⟨_,e0,.int _ _⟩
   | 1,hw'=>cases hw';exact ⟨_,e1,.int _ _⟩
   | 2,hw'=>cases hw';exact ⟨_,e2,.int _ _⟩
   | 3,hw'=>cases hw';exact ⟨_,e3,.int _ _⟩
   | 4,hw'=>cases hw';exact ⟨_,e4,.int _ _⟩
   | 5,hw'=>cases hw';exact ⟨_,e5,.str _⟩
   | 6,hw'=>cases hw';exact ⟨_,e6,hv⟩
theorem el_in{fuel:Nat}{cs:List Value}{x:DataW H×List MemPlace}(h:DataW.trod enc Tryz.prog W 0 (fun _=>true) true fuel 135 cs=some x)(hw:Fitw 135 x.1):∃a:El,a.ok∧CR W a.v.cells cs:=by
 obtain ⟨n,hn,hl,hp⟩:=parts Tryz.underlying135 h hw;obtain ⟨y0,p0,q0⟩:=hp 0 _ rfl;obtain ⟨y1,p1,q1⟩:=hp 1 _ rfl;obtain ⟨k0,e0⟩:=int_at p0;obtain ⟨l,hlo,hll,v,e1,hv⟩:=slice_at Ex.v Ex.ok (sz:=7) (fun a=>by simp) (by omega) Tryz.underlying23 kc54 y54 kc23 (fun m' hm'=>ex_in m' m' (qt1 _)) p1 q1;refine ⟨⟨k0,l⟩,⟨hll,Ex.okL_of hlo⟩,CR_of ?_ ?_⟩
 ·rw[hl,kc135t];rfl
 ·intro j w hw';rw[El.v_cells] at hw'
  match j,hw' with
  | 0,hw'=>cases hw';exact ⟨_,e0,.int _ _⟩
  | 1,hw'=>cases hw';exact ⟨_,e1,hv⟩
theorem fo_in{fuel:Nat}{cs:List Value}{x:DataW H×List MemPlace}(h:DataW.trod enc Tryz.prog W 0 (fun _=>true) true fuel 87 cs=some x)(hw:Fitw 87 x.1):∃a:Fo,a.ok∧CR W a.v.cells cs:=by
 obtain ⟨n,hn,hl,hp⟩:=parts Tryz.underlying87 h hw;obtain ⟨y0,p0,q0⟩:=hp 0 _ rfl;obtain ⟨y1,p1,q1⟩:=hp 1 _ rfl;obtain ⟨y2,p2,q2⟩:=hp 2 _ rfl;obtain ⟨y3,p3,q3⟩:=hp 3 _ rfl;obtain ⟨s,e0,hs⟩:=str_at p0 q0;obtain ⟨k1,e1⟩:=bool_at p1;obtain ⟨k2,e2⟩:=int_at p2;obtain ⟨k3,e3⟩:=int_at p3;refine ⟨⟨s,k1,k2,k3⟩,hs,CR_of ?_ ?_⟩
 ·rw[hl,kc87t];rfl
 ·intro j w hw';rw[Fo.v_cells] at hw'
  match j,hw' with
  | 0,hw'=>cases hw';exact ⟨_,e0,.str _⟩
  | 1,hw'=>cases hw';exact ⟨_,e1,.bool _⟩
  | 2,hw'=>cases hw';exact ⟨_,e2,.int _ _⟩
  | 3,hw'=>cases hw';exact ⟨_,e3,.int _ _⟩
theorem exs_at{n o:Nat}{cs:List Value}{y:DataW H×List MemPlace}(h:DataW.trod enc Tryz.prog W 0 (fun _=>true) true n 23 ((cs.drop o).take (Tryz.prog.cellsOf 23))=some y)(hw:Fitw 23 y.1):
  ∃l:List Ex,(l.length≤B50∧Ex.okL l)∧∃v,cs[o]?=some v∧VR (E0 W) (.sl false (l.map Ex.v)) v:=by
 obtain ⟨l,hlo,hll,hv⟩:=slice_at Ex.v Ex.ok (sz:=7) (fun a=>by simp) (by omega) Tryz.underlying23 kc54 y54 kc23 (fun m' hm'=>ex_in m' m' (qt1 _)) h hw;exact ⟨l,⟨hll,Ex.okL_of hlo⟩,hv⟩
theorem strs_at{n o:Nat}{cs:List Value}{y:DataW H×List MemPlace}(h:DataW.trod enc Tryz.prog W 0 (fun _=>true) true n 22 ((cs.drop o).take (Tryz.prog.cellsOf 22))=some y)(hw:Fitw 22 y.1):
  ∃l:List ByteArray,okS l∧∃v,cs[o]?=some v∧VR (E0 W) (.sl false (l.map .str)) v:=by
 obtain ⟨l,hlo,hll,hv⟩:=slice_at V.str (fun s=>s.size≤B50) (sz:=1) (fun a=>rfl) (by omega) Tryz.underlying22 kc9 y9 kc22 strs_el h hw;exact ⟨l,⟨hll,hlo⟩,hv⟩
theorem tree_in:∀(m fuel:Nat),fuel≤m→(∀cs (x:DataW H×List MemPlace),DataW.trod enc Tryz.prog W 0 (fun _=>true) true fuel 42 cs=some x→Fitw 42 x.1→∃a:De,a.ok∧CR W a.v.cells cs)∧
  ∀cs (x:DataW H×List MemPlace),DataW.trod enc Tryz.prog W 0 (fun _=>true) true fuel 28 cs=some x→Fitw 28 x.1→∃a:Sm,a.ok∧CR W a.v.cells cs
 | 0,fuel,hm=>by
  refine ⟨fun cs x h hw=>?_,fun cs x h hw=>?_⟩
  ·obtain ⟨n,hn,_⟩:=parts Tryz.underlying42 h hw;omega
  ·obtain ⟨n,hn,_⟩:=parts Tryz.underlying28 h hw;omega
 | m+1,fuel,hm=>by
  refine ⟨fun cs x h hw=>?_,fun cs x h hw=>?_⟩
  ·obtain ⟨n,hn,hl,hp⟩:=parts Tryz.underlying42 h hw;obtain ⟨y0,p0,q0⟩:=hp 0 _ rfl;obtain ⟨y1,p1,q1⟩:=hp 1 _ rfl;obtain ⟨y2,p2,q2⟩:=hp 2 _ rfl;obtain ⟨y3,p3,q3⟩:=hp 3 _ rfl;obtain ⟨y4,p4,q4⟩:=hp 4 _ rfl;obtain ⟨y5,p5,q5⟩:=hp 5 _ rfl;obtain ⟨y6,p6,q6⟩:=hp 6 _ rfl;obtain ⟨k0,e0⟩:=int_at p0;obtain ⟨k1,e1⟩:=bool_at p1;obtain ⟨k2,e2⟩:=int_at p2;obtain ⟨nm,on,v3,e3,h3⟩:=strs_at p3 q3;obtain ⟨ex,oe,v4,e4,h4⟩:=exs_at p4 q4;obtain ⟨fo,of,lf,v5,e5,h5⟩:=slice_at Fo.v Fo.ok (sz:=4) (fun a=>rfl) (by omega) Tryz.underlying40 kc87t y87 kc40t (fun m' hm' cs x=>fo_in) p5 q5;obtain ⟨bo,ob,lb,v6,e6,h6⟩:=slice_at Sm.v Sm.ok (sz:=8) (fun a=>by simp) (by omega) Tryz.underlying26 kc28t y28 kc26t (fun m' hm'=>(tree_in m m' (by omega)).2) p6 q6;refine ⟨.mk k0 k1 k2 nm ex fo bo,(De.ok_iff _).2 ⟨on,oe,⟨lf,of⟩,⟨lb,Sm.okL_of ob⟩⟩,CR_of ?_ ?_⟩
   ·rw[hl,kc42t];simp
   ·intro j w hw';rw[De.v_cells] at hw'
    match j,hw' with
    | 0,hw'=>cases hw';exact ⟨_,e0,.int _ _⟩
    | 1,hw'=>cases hw';exact ⟨_,e1,.bool _⟩
    | 2,hw'=>cases hw';exact ⟨_,e2,.int _ _⟩
    | 3,hw'=>cases hw';exact ⟨_,e3,h3⟩
    | 4,hw'=>cases hw';exact ⟨_,e4,h4⟩
    | 5,hw'=>cases hw';exact ⟨_,e5,h5⟩
    | 6,hw'=>cases hw';exact ⟨_,e6,h6⟩
  ·obtain ⟨n,hn,hl,hp⟩:=parts Tryz.underlying28 h hw;obtain ⟨y0,p0,q0⟩:=hp 0 _ rfl;obtain ⟨y1,p1,q1⟩:=hp 1 _ rfl;obtain ⟨y2,p2,q2⟩:=hp 2 _ rfl;obtain ⟨y3,p3,q3⟩:=hp 3 _ rfl;obtain ⟨y4,p4,q4⟩:=hp 4 _ rfl;obtain ⟨y5,p5,q5⟩:=hp 5 _ rfl;obtain ⟨y6,p6,q6⟩:=hp 6 _ rfl;obtain ⟨y7,p7,q7⟩:=hp 7 _ rfl;obtain ⟨lb,ol,v0,e0,h0⟩:=strs_at p0 q0;obtain ⟨k1,e1⟩:=int_at p1;obtain ⟨s,e2,hs⟩:=str_at p2 q2;obtain ⟨tg,ot,v3,e3,h3⟩:=exs_at p3 q3;obtain ⟨ex,oe,v4,e4,h4⟩:=exs_at p4 q4;obtain ⟨el,oel,lel,v5,e5,h5⟩:=slice_at El.v El.ok (sz:=2) (fun a=>rfl) (by omega) Tryz.underlying24 kc135t y135 kc24t (fun m' hm' cs x=>el_in) p5 q5;obtain ⟨de,od,ld,v6,e6,h6⟩:=slice_at De.v De.ok (sz:=7) (fun a=>by simp) (by omega) Tryz.underlying25 kc42t y42 kc25t (fun m' hm'=>(tree_in m m' (by omega)).1) p6 q6;obtain ⟨bo,ob,lbo,v7,e7,h7⟩:=slice_at Sm.v Sm.ok (sz:=8) (fun a=>by simp) (by omega) Tryz.underlying26 kc28t y28 kc26t (fun m' hm'=>(tree_in m m' (by omega)).2) p7 q7;refine ⟨.mk lb k1 s tg ex el de bo,(Sm.ok_iff _).2 ⟨ol,hs,ot,oe,⟨lel,oel⟩,⟨ld,De.okL_of od⟩,⟨lbo,Sm.okL_of ob⟩⟩,CR_of ?_ ?_⟩
   ·rw[hl,kc28t];simp
   ·intro j w hw';rw[Sm.v_cells] at hw'
    match j,hw' with
    | 0,hw'=>cases hw';exact ⟨_,e0,h0⟩
    | 1,hw'=>cases hw';exact ⟨_,e1,.int _ _⟩
    | 2,hw'=>cases hw';exact ⟨_,e2,.str _⟩
    | 3,hw'=>cases hw';exact ⟨_,e3,h3⟩
    | 4,hw'=>cases hw';exact ⟨_,e4,h4⟩
    | 5,hw'=>cases hw';exact ⟨_,e5,h5⟩
    | 6,hw'=>cases hw';exact ⟨_,e6,h6⟩
    | 7,hw'=>cases hw';exact ⟨_,e7,h7⟩
set_option maxRecDepth 100000
theorem agg_of{vs:List V}{v:Value}{cs:Array Value}(hv:v=.agg cs)(h:CR W vs v.cells.toList):VR (E0 W) (.agg vs) v:=by
 subst hv;refine .agg (by have:=h.1;simpa[Value.cells] using this) fun i x u hx hu=>h.2 i x u hx (by simpa[Value.cells] using hu)
theorem stmt_in{base:Nat}{v:Value}{d:DataW H}{p:List MemPlace}(hval:Value.okWide Tryz.prog W .any base 28 v)(h:DataW.Trod enc Tryz.prog W 0 (fun _=>true) true 28 v d p)(hw:Fitw 28 d):∃s:Sm,s.ok∧VR (E0 W) s.v v:=by
 obtain ⟨fuel,h⟩:=h;obtain ⟨s,hs,hc⟩:=(tree_in fuel fuel (qt1 _)).2 _ _ h hw;unfold Value.okWide at hval;rw[Tryz.underlying28] at hval;obtain ⟨cs,hv,_⟩:=hval;rw[Sm.v_cells] at hc;exact ⟨s,hs,by rw[Sm.v_eq];exact agg_of hv hc⟩
theorem fitw_of{ts:List TypeId}{ds:List (DataW H)}(h:(DataW.weightsEach Tryz.prog ts ds).all (·≤reachBytes)=true){i:Nat}{t:TypeId}{d:DataW H}(ht:ts[i]?=some t)(hd:ds[i]?=some d):Fitw t d:=fun n hn=>by
 have:=quj.1 h n (weightsEach_mem ht hd hn);simpa using this
end
end Go.Proofs.YtbifpocccfkhhaaGreatDoor
namespace Go.Proofs.YtbifpocccfkhhaaGreatDoor
open Go Go.ChangeShapes Go.WideShapes Go.ChangeAt Go.RowKit
set_option maxRecDepth 100000
section
variable {H:Type} {enc:TypeId×Value→H} {W:World}
theorem trodAll_cons{P:Program}{t:TypeId}{ts:List TypeId}{vs:List Value}{ds:List (DataW H)}{ps:List MemPlace}(h:DataW.TrodAll enc P W 0 (fun _=>true) true (t::ts) vs ds ps):
  ∃v vs' d ds' p q,vs=v::vs'∧ds=d::ds'∧DataW.Trod enc P W 0 (fun _=>true) true t v d p∧DataW.TrodAll enc P W 0 (fun _=>true) true ts vs' ds' q:=by
 cases vs with
 | nil=>exact h.elim
 | cons v vs=>
  cases ds with
  | nil=>exact h.elim
  | cons d ds=>
   obtain ⟨p,q,h1,h2,_⟩:=h;exact ⟨v,vs,d,ds,p,q,rfl,rfl,h1,h2⟩
theorem trodAll_nil{P:Program}{vs:List Value}{ds:List (DataW H)}{ps:List MemPlace}(h:DataW.TrodAll enc P W 0 (fun _=>true) true [] vs ds ps):vs=[]∧ds=[]:=by
 cases vs with
 | nil=>
  cases ds with
  | nil=>exact ⟨rfl,rfl⟩
  | cons d ds=>exact h.elim
 | cons v vs=>cases ds <;> exact h.elim
theorem text_in{base:Nat}{v:Value}{d:DataW H}{p:List MemPlace}(hval:Value.okWide Tryz.prog W .any base 9 v)(h:DataW.Trod enc Tryz.prog W 0 (fun _=>true) true 9 v d p)(hw:Fitw 9 d):∃s:ByteArray,s.size≤B50∧VR (E0 W) (.str s) v:=by
 obtain ⟨s,rfl,_⟩:=ChangeMaps.open_string Tryz.underlying9 hval h;obtain ⟨fuel,hf⟩:=h;obtain ⟨k,hk,hy,_⟩:=DataW.trod_string Tryz.underlying9 hf;simp[Value.cells] at hk;subst hk;have hy:d=.lit (.string s.data.toList):=(Prod.mk.inj hy).1;refine ⟨s,reach_le (hw s.size ?_),.str s⟩;rw[hy,DataW.weights];exact quY.2 (by rw[qu2];rfl)
end
structure Shp(p:Pw):Prop where
 le:∀g,p.nm=some g→∀x sc tg,(Pa.ex (g x sc tg)).le (.ex x)
 ok:∀g,p.nm=some g→∀(x:Ex) sc tg,x.ok→(g x sc tg).ok
 f:∀k x,x.size≤B50→(p.f k x).size≤B50
 cl:∀c,p.cl=some c→∀x sc,x.size≤B50→(c x sc).size≤B50
theorem Pa.le_trans{p q r:Pa}(h:p.le q)(g:q.le r):p.le r:=⟨quJ h.1 g.1,quJ h.2 g.2⟩
theorem qca(l:List Pa):lesL l l:=⟨qt1 _,qt1 _⟩
section
variable {p:Pw} (i:Shp p)
include i
mutual
theorem Ex.wr_le(sc:Scs)(tg:Bool):∀x:Ex,(Pa.ex (x.wr p sc tg)).le (.ex x)
 | .mk k o n m e t a=>by
  have h1:∀t',(Pa.ex (.mk k o n m e t' (Ex.wrl p sc false a))).le (.ex (.mk k o n m e t a)):=fun t'=>Pa.le_of' (qt1 _) (by simp only[Pa.kids,Ex.args];exact Ex.wrl_le sc false a)
  rw[Ex.wr];unfold Pw.nmE;split
  ·split
   ·exact h1 _
   ·rename_i g hg;exact Pa.le_trans (i.le g hg _ _ _) (h1 _)
  ·exact h1 _
theorem Ex.wrl_le(sc:Scs)(tg:Bool):∀l:List Ex,lesL ((Ex.wrl p sc tg l).map Pa.ex) (l.map Pa.ex)
 | []=>qd8 _
 | x::l=>qdj (Ex.wr_le sc tg x) (Ex.wrl_le sc tg l)
end
theorem El.wr_le(sc:Scs)(e:El):(Pa.el (e.wr p sc)).le (.el e):=Pa.le_of' (qt1 _) (Ex.wrl_le i sc false e.exps)
theorem Els.wr_le(sc:Scs):∀l:List El,lesL ((l.map (El.wr p sc)).map Pa.el) (l.map Pa.el)
 | []=>qd8 _
 | x::l=>qdj (El.wr_le i sc x) (Els.wr_le sc l)
mutual
theorem Sm.wr_le:∀(s:Sm) (sc:Scs) (n:Nat),(Pa.st (s.wr p sc n)).le (.st s)
 | .mk l k t g e h d b,sc,n=>by
  simp only[Sm.wr];split
  ·refine Pa.le_of' (by simp[Pa.own,Sm.labels]) ?_;simp only[Pa.kids,Sm.targets,Sm.exps,Sm.elems,Sm.decls,Sm.body];exact qbv (Ex.wrl_le i sc true g) (qbv (qca _) (qbv (qca _) (qbv (De.wrl_le d _ _ _) (Sm.wrl_le b _ _))))
  ·split
   ·refine Pa.le_of' (by simp[Pa.own,Sm.labels]) ?_;simp only[Pa.kids,Sm.targets,Sm.exps,Sm.elems,Sm.decls,Sm.body];exact qbv (Ex.wrl_le i sc true g) (qbv (qca _) (qbv (qca _) (qbv (qca _) (Sm.wrl_le b _ _))))
   ·refine Pa.le_of' (by simp[Pa.own,Sm.labels]) ?_;simp only[Pa.kids,Sm.targets,Sm.exps,Sm.elems,Sm.decls,Sm.body];exact qbv (Ex.wrl_le i sc true g) (qbv (Ex.wrl_le i sc false e) (qbv (Els.wr_le i sc h) (qbv (qca _) (Sm.wr1_le b _ _))))
theorem De.wr_le:∀(d:De) (own sc:Scs) (n:Nat),(Pa.de (d.wr p own sc n)).le (.de d)
 | .mk k o t nm e fo b,own,sc,n=>by
  simp only[De.wr];split
  ·refine Pa.le_of' (by simp[Pa.own,De.names,De.formals]) ?_;simp only[Pa.kids,De.exps,De.body];exact qbv (Ex.wrl_le i own false e) (Sm.wr1_le b _ _)
  ·refine Pa.le_of' (by simp[Pa.own,De.names,De.formals]) ?_;simp only[Pa.kids,De.exps,De.body];exact qbv (Ex.wrl_le i _ false e) (qca _)
theorem De.wrl_le:∀(l:List De) (own sc:Scs) (n:Nat),lesL ((De.wrl p own sc n l).map Pa.de) (l.map Pa.de)
 | [],_,_,_=>qd8 _
 | x::l,own,sc,n=>qdj (De.wr_le x own sc n) (De.wrl_le l _ _ _)
theorem Sm.wrl_le:∀(l:List Sm) (sc:Scs) (n:Nat),lesL ((Sm.wrl p sc n l).map Pa.st) (l.map Pa.st)
 | [],_,_=>qd8 _
 | x::l,sc,n=>qdj (Sm.wr_le x sc n) (Sm.wrl_le l _ _)
theorem Sm.wr1_le:∀(l:List Sm) (sc:Scs) (n:Nat),lesL ((Sm.wr1 p sc n l).map Pa.st) (l.map Pa.st)
 | [],_,_=>qd8 _
 | x::l,sc,n=>qdj (Sm.wr_le x _ _) (Sm.wr1_le l _ _)
end
theorem Sm.wholeR_fits(s:Sm)(h:(Pa.st s).fits):(Pa.st (s.wholeR p)).fits:=by
 have:=Sm.wr_le i s [qad s.labels 0] (qad s.labels 0).length;unfold Pa.fits Pa.le at *;unfold Sm.wholeR;omega
theorem qc8(sc:Scs){x:ByteArray}(hx:x.size≤B50):(retp p sc x).size≤B50:=by
 unfold retp
 cases sc.at x with
 | none=>exact hx
 | some k=>exact i.f k x hx
mutual
theorem Ex.wr_ok(sc:Scs)(tg:Bool):∀x:Ex,x.ok→(x.wr p sc tg).ok
 | .mk k o n m e t a,v=>by
  obtain ⟨h1,h2,h3⟩:=v;have h4:∀t':ByteArray,t'.size≤B50→(Ex.mk k o n m e t' (Ex.wrl p sc false a)).ok:=fun t' ht=>⟨ht,by rw[Ex.wrl_map,qt2];exact h2,Ex.wrl_ok sc false a h3⟩
  rw[Ex.wr];unfold Pw.nmE;split
  ·split
   ·exact h4 _ (qc8 i sc h1)
   ·rename_i g hg;exact i.ok g hg _ _ _ (h4 _ h1)
  ·exact h4 _ h1
theorem Ex.wrl_ok(sc:Scs)(tg:Bool):∀l:List Ex,Ex.okL l→Ex.okL (Ex.wrl p sc tg l)
 | [],_=>trivial
 | x::l,⟨h1,h2⟩=>⟨Ex.wr_ok sc tg x h1,Ex.wrl_ok sc tg l h2⟩
end
theorem El.wr_ok(sc:Scs)(e:El)(v:e.ok):(e.wr p sc).ok:=
 ⟨by unfold El.wr;rw[Ex.wrl_map,qt2];exact v.1,Ex.wrl_ok i sc false e.exps v.2⟩
omit i in
theorem Sm.wrl_len(sc:Scs):∀(m:List Sm) (n:Nat),(Sm.wrl p sc n m).length=m.length
 | [],_=>by rw[Sm.wrl]
 | x::m,n=>by simp only[Sm.wrl,quy,Sm.wrl_len sc m]
omit i in
theorem Sm.wr1_len(sc:Scs):∀(m:List Sm) (n:Nat),(Sm.wr1 p sc n m).length=m.length
 | [],_=>by rw[Sm.wr1]
 | x::m,n=>by simp only[Sm.wr1,quy,Sm.wr1_len sc m]
omit i in
theorem De.wrl_len(own sc:Scs):∀(m:List De) (n:Nat),(De.wrl p own sc n m).length=m.length
 | [],_=>by rw[De.wrl]
 | x::m,n=>by simp only[De.wrl,quy,De.wrl_len own sc m]
mutual
theorem Sm.wr_ok:∀(s:Sm) (sc:Scs) (n:Nat),s.ok→(s.wr p sc n).ok
 | .mk l k t gs e hh d b,sc,n,v=>by
  have V:=(Sm.ok_iff _).1 v;have hl:=qlN V.labels fun x hx=>qc8 i sc (V.labels.2 x hx)
  have hg:gs.length≤B50→(Ex.wrl p sc true gs).length≤B50:=fun h=>by rw[Ex.wrl_map,qt2];exact h
  rw[Sm.wr];split
  ·refine (Sm.ok_iff _).2 ⟨hl,V.text,⟨hg V.targets.1,Ex.wrl_ok i sc true gs V.targets.2⟩,V.exps,V.elems,⟨?_,De.wrl_ok d _ _ _ V.decls.2⟩,?_,Sm.wrl_ok b _ _ V.body.2⟩
   ·have:=V.decls.1;simp only[Sm.decls] at this ⊢;rw[De.wrl_len];exact this
   ·have:=V.body.1;simp only[Sm.body] at this ⊢;rw[Sm.wrl_len];exact this
  ·split
   ·refine (Sm.ok_iff _).2 ⟨hl,V.text,⟨hg V.targets.1,Ex.wrl_ok i sc true gs V.targets.2⟩,V.exps,V.elems,V.decls,?_,Sm.wrl_ok b _ _ V.body.2⟩;have:=V.body.1;simp only[Sm.body] at this ⊢;rw[Sm.wrl_len];exact this
   ·refine (Sm.ok_iff _).2 ⟨hl,?_,⟨hg V.targets.1,Ex.wrl_ok i sc true gs V.targets.2⟩,⟨?_,Ex.wrl_ok i sc false e V.exps.2⟩,⟨?_,?_⟩,V.decls,?_,Sm.wr1_ok b _ _ V.body.2⟩
    ·have:=V.text;simp only[Sm.text] at this ⊢;unfold Pw.clE;split
     ·split
      ·exact qc8 i sc this
      ·rename_i c hc;exact i.cl c hc _ _ this
     ·exact this
    ·have:=V.exps.1;simp only[Sm.exps] at this ⊢;rw[Ex.wrl_map,qt2];exact this
    ·have:=V.elems.1;simp only[Sm.elems] at this ⊢;rw[qt2];exact this
    ·intro x hx;simp only[Sm.elems] at hx;obtain ⟨y,hy,rfl⟩:=qul.1 hx;exact El.wr_ok i sc y (V.elems.2 y hy)
    ·have:=V.body.1;simp only[Sm.body] at this ⊢;rw[Sm.wr1_len];exact this
theorem De.wr_ok:∀(s:De) (own sc:Scs) (n:Nat),s.ok→(s.wr p own sc n).ok
 | .mk k o t ns e fo b,own,sc,n,v=>by
  have V:=(De.ok_iff _).1 v;have hl:=qlN V.names fun x hx=>qc8 i own (V.names.2 x hx)
  have he:∀sc,e.length≤B50→(Ex.wrl p sc false e).length≤B50:=fun sc h=>by rw[Ex.wrl_map,qt2];exact h
  rw[De.wr];split
  ·refine (De.ok_iff _).2 ⟨hl,⟨he own V.exps.1,Ex.wrl_ok i own false e V.exps.2⟩,⟨?_,?_⟩,?_,Sm.wr1_ok b _ _ V.body.2⟩
   ·have:=V.formals.1;simp only[De.formals] at this ⊢;rw[qt2];exact this
   ·intro x hx;simp only[De.formals] at hx;obtain ⟨y,hy,rfl⟩:=qul.1 hx;exact qc8 i _ (V.formals.2 y hy)
   ·have:=V.body.1;simp only[De.body] at this ⊢;rw[Sm.wr1_len];exact this
  ·exact (De.ok_iff _).2 ⟨hl,⟨he _ V.exps.1,Ex.wrl_ok i _ false e V.exps.2⟩,V.formals,V.body⟩
theorem De.wrl_ok:∀(l:List De) (own sc:Scs) (n:Nat),De.okL l→De.okL (De.wrl p own sc n l)
 | [],_,_,_,_=>by rw[De.wrl];exact trivial
 | x::l,own,sc,n,v=>by
  rw[De.okL] at v;rw[De.wrl,De.okL];exact ⟨De.wr_ok x own sc n v.1,De.wrl_ok l own sc _ v.2⟩
theorem Sm.wrl_ok:∀(l:List Sm) (sc:Scs) (n:Nat),Sm.okL l→Sm.okL (Sm.wrl p sc n l)
 | [],_,_,_=>by rw[Sm.wrl];exact trivial
 | x::l,sc,n,v=>by
  rw[Sm.okL] at v;rw[Sm.wrl,Sm.okL];exact ⟨Sm.wr_ok x sc n v.1,Sm.wrl_ok l sc _ v.2⟩
theorem Sm.wr1_ok:∀(l:List Sm) (sc:Scs) (n:Nat),Sm.okL l→Sm.okL (Sm.wr1 p sc n l)
 | [],_,_,_=>by rw[Sm.wr1];exact trivial
 | x::l,sc,n,v=>by
  rw[Sm.okL] at v;rw[Sm.wr1,Sm.okL];exact ⟨Sm.wr_ok x _ _ v.1,Sm.wr1_ok l sc _ v.2⟩
end
theorem Sm.wholeR_ok(s:Sm)(v:s.ok):(s.wholeR p).ok:=Sm.wr_ok i s _ _ v
end
abbrev Oc:=ByteArray×Scs
mutual
def Ex.ev(sc:Scs):Ex→List Oc
 | .mk k _ _ _ _ t a=>Ex.evl sc a++(if Ex.named k then [(t,sc)] else [])
def Ex.evl(sc:Scs):List Ex→List Oc
 | []=>[]
 | x::l=>Ex.ev sc x++Ex.evl sc l
end
def El.evl(sc:Scs):List El→List Oc
 | []=>[]
 | x::l=>Ex.evl sc x.exps++El.evl sc l
mutual
def Sm.ev(sc:Scs)(n:Nat):Sm→List Oc
 | .mk _ k t g e h d b=>
  if k=7 then De.evl (qad (qag d b) n::sc) sc (n+(qad (qag d b) n).length) d++Sm.evl (qad (qag d b) n::sc) (n+(qad (qag d b) n).length+De.nbl d) b
  else if k=8 then Sm.evl (qad (qak b) n::sc) (n+(qad (qak b) n).length) b
  else Ex.evl sc g++Ex.evl sc e++El.evl sc h++Sm.ev1 sc n b++(if k=6 then [(t,sc)] else [])
def De.ev(own sc:Scs)(n:Nat):De→List Oc
 | .mk k _ _ _ e fo b=>
  if k=4 then Sm.ev1 (qad (fo.map Fo.name) n::own) (n+(qad (fo.map Fo.name) n).length) b
  else Ex.evl (if k=2 then sc else own) e
def De.evl(own sc:Scs)(n:Nat):List De→List Oc
 | []=>[]
 | x::l=>De.ev own sc n x++De.evl own sc (n+De.nb x) l
def Sm.evl(sc:Scs)(n:Nat):List Sm→List Oc
 | []=>[]
 | x::l=>Sm.ev sc n x++Sm.evl sc (n+Sm.nb x) l
def Sm.ev1(sc:Scs)(n:Nat):List Sm→List Oc
 | []=>[]
 | x::l=>Sm.ev (qad x.labels n::sc) (n+(qad x.labels n).length) x++Sm.ev1 sc (n+(qad x.labels n).length+Sm.nb x) l
end
structure Obs(p:Pw)(α:Type)(ob:p.H→α)(w:α→Oc→α):Prop where
 nm:p.nm≠none
 cl:p.cl≠none
 n:∀h x sc tg,ob (p.nmH h x sc tg)=w (ob h) (x.text,sc)
 c:∀h x sc,ob (p.clH h x sc)=w (ob h) (x,sc)
 e:∀h k x,ob (p.ent h k x)=ob h
section
variable {p:Pw} {α:Type} {ob:p.H→α} {w:α→Oc→α} (i:Obs p α ob w) {nm:ByteArray→Bool}
include i
theorem Obs.enters(s:Sco):∀h:p.H,ob (Go.Proofs.YtbifpocccfkhhaaGreatDoor.enters p h s)=ob h:=by
 induction s with
 | nil=>intro h;rfl
 | cons e s ih=>intro h;exact (ih _).trans (i.e _ _ _)
theorem Obs.nmS(sc:Scs)(tg:Bool)(h:p.H)(x:Ex):ob (p.nmS sc tg h x)=if Ex.named x.kind then w (ob h) (x.text,sc) else ob h:=by
 unfold Pw.nmS;split
 ·cases hn:p.nm with
  | none=>exact absurd hn i.nm
  | some g=>exact i.n _ _ _ _
 ·rfl
theorem Obs.clS(sc:Scs)(k:Int)(h:p.H)(t:ByteArray):ob (p.clS sc k h t)=if k=6 then w (ob h) (t,sc) else ob h:=by
 unfold Pw.clS;split
 ·cases hn:p.cl with
  | none=>exact absurd hn i.cl
  | some g=>exact i.c _ _ _
 ·rfl
mutual
theorem Obs.ex(sc:Scs)(tg:Bool):∀(x:Ex) (h:p.H),ob (Ex.hs p sc tg h x)=(Ex.ev sc x).foldl w (ob h)
 | .mk k o n m e t a,h=>by
  have h1:ob (p.nmS sc tg (Ex.hsl p sc false h a) (.mk k o n m e t (Ex.wrl p sc false a)))=if Ex.named k=true then w (ob (Ex.hsl p sc false h a)) (t,sc) else ob (Ex.hsl p sc false h a):=i.nmS sc tg _ _
  rw[Ex.hs,h1,Obs.exl sc false a h,Ex.ev,quL];by_cases hk:Ex.named k=true
  ·rw[if_pos hk,if_pos hk];rfl
  ·rw[if_neg hk,if_neg hk];rfl
theorem Obs.exl(sc:Scs)(tg:Bool):∀(l:List Ex) (h:p.H),ob (Ex.hsl p sc tg h l)=(Ex.evl sc l).foldl w (ob h)
 | [],h=>by rw[Ex.hsl,Ex.evl];rfl
 | x::l,h=>by rw[Ex.hsl,Ex.evl,quL,Obs.exl sc tg l,Obs.ex sc tg x]
end
theorem Obs.ell(sc:Scs):∀(l:List El) (h:p.H),ob (El.hsl p sc h l)=(El.evl sc l).foldl w (ob h)
 | [],h=>rfl
 | x::l,h=>by
  show ob (El.hsl p sc (Ex.hsl p sc false h x.exps) l)=_;rw[Obs.ell sc l,i.exl,El.evl,quL]
mutual
theorem Obs.sm:∀(s:Sm) (sc:Scs) (n:Nat) (h:p.H),(Pa.st s).valid nm=true→ob (Sm.hs p sc n h s)=(Sm.ev sc n s).foldl w (ob h)
 | .mk l k t g e el d b,sc,n,h,v=>by
  obtain ⟨v7,v8,v9⟩:=Sm.valid_block v;have vd:=Sm.valid_decls v;have vb:=Sm.valid_body v;simp only[Sm.decls,Sm.body] at vd vb;rw[Sm.hs,Sm.ev];by_cases h7:k=7
  ·obtain ⟨rfl,rfl,rfl⟩:=v7 h7;rw[if_pos h7,if_pos h7,quL,Obs.sml b _ _ _ vb,Obs.del d _ _ _ _ vd,i.enters,i.exl,Ex.evl];rfl
  ·rw[if_neg h7,if_neg h7];by_cases h8:k=8
   ·obtain ⟨rfl,rfl,rfl,rfl⟩:=v8 h8;rw[if_pos h8,if_pos h8,Obs.sml b _ _ _ vb,i.enters,i.exl,Ex.evl];rfl
   ·rw[if_neg h8,if_neg h8,i.clS,Obs.sm1 b _ _ _ vb,i.ell,i.exl,i.exl];simp only[quL];split <;> rfl
theorem Obs.de:∀(s:De) (own sc:Scs) (n:Nat) (h:p.H),(Pa.de s).valid nm=true→ob (De.hs p own sc n h s)=(De.ev own sc n s).foldl w (ob h)
 | .mk k o t ns e fo b,own,sc,n,h,v=>by
  obtain ⟨v4,v5⟩:=De.valid_proc v;have vb:=De.valid_body v;simp only[De.body] at vb;rw[De.hs,De.ev];by_cases h4:k=4
  ·obtain rfl:=v4 h4;rw[if_pos h4,if_pos h4,Obs.sm1 b _ _ _ vb,i.enters,i.exl,Ex.evl];rfl
  ·rw[if_neg h4,if_neg h4,i.exl]
theorem Obs.del:∀(l:List De) (own sc:Scs) (n:Nat) (h:p.H),(∀x,x∈l→(Pa.de x).valid nm=true)→ob (De.hsl p own sc n h l)=(De.evl own sc n l).foldl w (ob h)
 | [],_,_,_,h,_=>by rw[De.hsl,De.evl];rfl
 | x::l,own,sc,n,h,v=>by
  rw[De.hsl,De.evl,quL,Obs.del l own sc _ _ fun y hy=>v y (by simp[hy]),Obs.de x own sc n h (v x (by simp))]
theorem Obs.sml:∀(l:List Sm) (sc:Scs) (n:Nat) (h:p.H),(∀x,x∈l→(Pa.st x).valid nm=true)→ob (Sm.hsl p sc n h l)=(Sm.evl sc n l).foldl w (ob h)
 | [],_,_,h,_=>by rw[Sm.hsl,Sm.evl];rfl
 | x::l,sc,n,h,v=>by
  rw[Sm.hsl,Sm.evl,quL,Obs.sml l sc _ _ fun y hy=>v y (by simp[hy]),Obs.sm x sc n h (v x (by simp))]
theorem Obs.sm1:∀(l:List Sm) (sc:Scs) (n:Nat) (h:p.H),(∀x,x∈l→(Pa.st x).valid nm=true)→ob (Sm.hs1 p sc n h l)=(Sm.ev1 sc n l).foldl w (ob h)
 | [],_,_,h,_=>by rw[Sm.hs1,Sm.ev1];rfl
 | x::l,sc,n,h,v=>by
  rw[Sm.hs1,Sm.ev1,quL,Obs.sm1 l sc _ _ fun y hy=>v y (by simp[hy]),Obs.sm x _ _ _ (v x (by simp)),i.enters]
end
end
structure Robs(r:Rp)(ob:Rst→Prop)(q:Oc→Prop):Prop where
 u:∀sc x st,ob (ruse r sc x st)↔ob st∨q (x,sc)
 b:∀st c,ob { st with bad:=c }↔ob st
section
variable {r:Rp} {ob:Rst→Prop} {q:Oc→Prop} (i:Robs r ob q) {nm:ByteArray→Bool}
def anyO(q:Oc→Prop)(l:List Oc):Prop:=∃e,e∈l∧q e
theorem qbn{q:Oc→Prop}{l m:List Oc}:anyO q (l++m)↔anyO q l∨anyO q m:=by
 unfold anyO;constructor
 ·rintro ⟨e,he,h⟩;exact (qup.1 he).imp (fun g=>⟨e,g,h⟩) fun g=>⟨e,g,h⟩
 ·rintro (⟨e,he,h⟩|⟨e,he,h⟩)
  ·exact ⟨e,qvx _ he,h⟩
  ·exact ⟨e,qvt _ he,h⟩
theorem qck{q:Oc→Prop}:¬ anyO q []:=fun ⟨_,h,_⟩=>by cases h
theorem qe0{q:Oc→Prop}{e:Oc}:anyO q [e]↔q e:=⟨fun ⟨_,h,g⟩=>by simp at h;subst h;exact g,fun h=>⟨e,by simp,h⟩⟩
include i
theorem Robs.t(sc:Scs)(x:ByteArray)(st:Rst):ob (qbl r sc x st)↔ob st∨q (x,sc):=(i.b _ _).trans (i.u _ _ _)
mutual
theorem Robs.ex(sc:Scs):∀(x:Ex) (st:Rst),(Pa.ex x).valid nm=true→(ob (Ex.rs r sc st x)↔ob st∨anyO q (Ex.ev sc x))
 | .mk k o n m e t a,st,v=>by
  have va:=Ex.valid_args v;simp only[Ex.args] at va;have h1:=(Pa.valid_iff.1 v).1;rw[Ex.rs,Ex.ev,qbn];by_cases h6:k=6
  ·subst h6;have hn:Ex.named 6=true:=rfl;simp[Pa.vOwn,Ex.vOwn] at h1;obtain ⟨⟨⟨⟨_,rfl⟩,rfl⟩,rfl⟩,rfl,rfl⟩:=h1;rw[if_pos rfl,i.u,hn,if_pos rfl,qe0,Ex.evl];simp[qck]
  ·rw[if_neg h6,Robs.exl sc a _ va];by_cases h78:k=7∨k=8
   ·have hn:Ex.named k=true:=by unfold Ex.named;rcases h78 with rfl|rfl <;> rfl
    rw[if_pos h78,hn,if_pos rfl,i.t,qe0];constructor
    ·rintro ((h|h)|h) <;> simp[h]
    ·rintro (h|h|h) <;> simp[h]
   ·have hn:Ex.named k=false:=by unfold Ex.named;simp;omega
    rw[if_neg h78,hn];simp[qck]
theorem Robs.exl(sc:Scs):∀(l:List Ex) (st:Rst),(∀x,x∈l→(Pa.ex x).valid nm=true)→(ob (Ex.rsl r sc st l)↔ob st∨anyO q (Ex.evl sc l))
 | [],st,_=>by rw[Ex.rsl,Ex.evl];simp[qck]
 | x::l,st,v=>by
  rw[Ex.rsl,Ex.evl,Robs.exl sc l _ fun y hy=>v y (by simp[hy]),Robs.ex sc x st (v x (by simp)),qbn,or_assoc]
end
theorem Robs.ell(sc:Scs):∀(l:List El) (st:Rst),(∀x,x∈l→(Pa.el x).valid nm=true)→(ob (El.rsl r sc st l)↔ob st∨anyO q (El.evl sc l))
 | [],st,_=>by rw[El.evl];simp[qck,El.rsl]
 | x::l,st,v=>by
  have h1:=i.exl sc x.exps st (fun y hy=>(Pa.valid_iff.1 (v x (by simp))).2 _ (by simp only[Pa.kids];exact quz hy));have h2:=Robs.ell sc l (Ex.rsl r sc st x.exps) fun y hy=>v y (by simp[hy])
  show ob (El.rsl r sc (Ex.rsl r sc st x.exps) l)↔_;rw[h2,h1,El.evl,qbn,or_assoc]
mutual
theorem Robs.sm:∀(s:Sm) (sc:Scs) (n:Nat) (st:Rst),(Pa.st s).valid nm=true→(ob (Sm.rs r sc n st s)↔ob st∨anyO q (Sm.ev sc n s))
 | .mk l k t g e el d b,sc,n,st,v=>by
  have vd:=Sm.valid_decls v;have vb:=Sm.valid_body v;have vg:=Sm.valid_targets v;have ve:=Sm.valid_exps v;have vl:=Sm.valid_elems v;simp only[Sm.decls,Sm.body,Sm.targets,Sm.exps,Sm.elems] at vd vb vg ve vl;rw[Sm.rs,Sm.ev];by_cases h7:k=7
  ·rw[if_pos h7,if_pos h7,qbn,Robs.sml b _ _ _ vb,Robs.del d _ _ _ _ vd,or_assoc]
  ·rw[if_neg h7,if_neg h7];by_cases h8:k=8
   ·rw[if_pos h8,if_pos h8,Robs.sml b _ _ _ vb]
   ·have h2:∀st',ob (tgS r sc st' g)↔ob (Ex.rsl r sc st' g):=fun _=>i.b _ _
    rw[if_neg h8,if_neg h8,Robs.sm1 b _ _ _ vb,i.exl sc e _ ve,i.ell sc el _ vl,h2,i.exl sc g _ vg];simp only[qbn];by_cases h6:k=6
    ·rw[if_pos h6,if_pos h6,i.t,qe0];constructor
     ·rintro (((((h|h)|h)|h)|h)|h) <;> simp[h]
     ·rintro (h|(((h|h)|h)|h)|h) <;> simp[h]
    ·rw[if_neg h6,if_neg h6];constructor
     ·rintro ((((h|h)|h)|h)|h) <;> simp[h]
     ·rintro (h|(((h|h)|h)|h)|h)
      ·simp[h]
      ·simp[h]
      ·simp[h]
      ·simp[h]
      ·simp[h]
      ·exact absurd h qck
theorem Robs.de:∀(s:De) (own sc:Scs) (n:Nat) (st:Rst),(Pa.de s).valid nm=true→(ob (De.rs r own sc n st s)↔ob st∨anyO q (De.ev own sc n s))
 | .mk k o t ns e fo b,own,sc,n,st,v=>by
  obtain ⟨v4,v5⟩:=De.valid_proc v;have vb:=De.valid_body v;have ve:=De.valid_exps v;simp only[De.body,De.exps] at vb ve;rw[De.rs,De.ev];by_cases h4:k=4
  ·obtain rfl:=v4 h4;rw[if_pos h4,if_pos h4,Robs.sm1 b _ _ _ vb];rfl
  ·rw[if_neg h4,if_neg h4];exact i.exl _ e st ve
theorem Robs.del:∀(l:List De) (own sc:Scs) (n:Nat) (st:Rst),(∀x,x∈l→(Pa.de x).valid nm=true)→(ob (De.rsl r own sc n st l)↔ob st∨anyO q (De.evl own sc n l))
 | [],_,_,_,st,_=>by rw[De.rsl,De.evl];simp[qck]
 | x::l,own,sc,n,st,v=>by
  rw[De.rsl,De.evl,qbn,Robs.del l own sc _ _ fun y hy=>v y (by simp[hy]),Robs.de x own sc n st (v x (by simp)),or_assoc]
theorem Robs.sml:∀(l:List Sm) (sc:Scs) (n:Nat) (st:Rst),(∀x,x∈l→(Pa.st x).valid nm=true)→(ob (Sm.rsl r sc n st l)↔ob st∨anyO q (Sm.evl sc n l))
 | [],_,_,st,_=>by rw[Sm.rsl,Sm.evl];simp[qck]
 | x::l,sc,n,st,v=>by
  rw[Sm.rsl,Sm.evl,qbn,Robs.sml l sc _ _ fun y hy=>v y (by simp[hy]),Robs.sm x sc n st (v x (by simp)),or_assoc]
theorem Robs.sm1:∀(l:List Sm) (sc:Scs) (n:Nat) (st:Rst),(∀x,x∈l→(Pa.st x).valid nm=true)→(ob (Sm.rs1 r sc n st l)↔ob st∨anyO q (Sm.ev1 sc n l))
 | [],_,_,st,_=>by rw[Sm.rs1,Sm.ev1];simp[qck]
 | x::l,sc,n,st,v=>by
  rw[Sm.rs1,Sm.ev1,qbn,Robs.sm1 l sc _ _ fun y hy=>v y (by simp[hy]),Robs.sm x _ _ st (v x (by simp)),or_assoc]
end
end
section
variable (a b:ByteArray)
def rnT(sc:Scs)(x:ByteArray):ByteArray:=if x=a∧sc.at x=none then b else x
def rnH(sc:Scs)(x:ByteArray)(h:Bool):Bool:=if x=a∧sc.at x=none then h || (sc.at b).isSome else h
def rnP:Pw where
 H:=Bool
 f _ x:=x
 nm:=some fun x sc _=>.mk x.kind x.op x.n x.man x.exp (rnT a b sc x.text) x.args
 cl:=some fun x sc=>rnT a b sc x
 ent h _ _:=h
 nmH h x sc _:=rnH a b sc x.text h
 clH h x sc:=rnH a b sc x h
def rnR:Rp:=⟨[],[a],[.mk 6 0 0 0 0 b []]⟩
theorem qls(sc:Scs)(x:ByteArray):retp (rnP a b) sc x=x:=by unfold retp;cases sc.at x <;> rfl
theorem qgy(sc:Scs)(x:ByteArray):rren (rnR a b) sc x=x:=by unfold rren;cases sc.at x <;> simp[rnR]
theorem qo1(sc:Scs)(x:ByteArray):rmt (rnR a b) sc x=if x=a∧sc.at x=none then some (.mk 6 0 0 0 0 b []) else none:=by
 unfold rmt mt rnR
 cases hs:sc.at x with
 | some k=>simp
 | none=>
  simp only[mtL];by_cases h:a=x
  ·subst h;simp
  ·have:¬ x=a:=fun hh=>h hh.symm
   simp[h,this]
theorem qjc(sc:Scs)(x:ByteArray):qb4 (rnR a b) sc x=rnT a b sc x:=by
 unfold qb4 rnT;rw[qo1];by_cases h:x=a∧sc.at x=none
 ·rw[if_pos h,if_pos h];rfl
 ·rw[if_neg h,if_neg h];exact qgy a b sc x
theorem qpb(sc:Scs)(l:List ByteArray):l.map (retp (rnP a b) sc)=l.map (rren (rnR a b) sc):=qvn fun x _=>(qls a b sc x).trans (qgy a b sc x).symm
variable {nm:ByteArray→Bool}
mutual
theorem Ex.rn(sc:Scs)(tg:Bool):∀x:Ex,(Pa.ex x).valid nm=true→Ex.wr (rnP a b) sc tg x=Ex.rw (rnR a b) sc x
 | .mk k o n m e t l,v=>by
  have va:=Ex.valid_args v;simp only[Ex.args] at va;have h1:=(Pa.valid_iff.1 v).1;rw[Ex.wr,Ex.rw,Ex.rnl sc false l va];by_cases h6:k=6
  ·subst h6;simp[Pa.vOwn,Ex.vOwn] at h1;obtain ⟨⟨⟨⟨_,rfl⟩,rfl⟩,rfl⟩,rfl,rfl⟩:=h1;rw[if_pos rfl,qo1];show Ex.mk 6 0 0 0 0 (rnT a b sc t) (Ex.rwl (rnR a b) sc [])=_;unfold rnT;by_cases h:t=a∧sc.at t=none
   ·rw[if_pos h,if_pos h];rfl
   ·rw[if_neg h,if_neg h,qgy];rfl
  ·rw[if_neg h6];by_cases h78:k=7∨k=8
   ·have hn:Ex.named k=true:=by unfold Ex.named;rcases h78 with rfl|rfl <;> rfl
    rw[if_pos h78,qjc];show (if Ex.named k=true then _ else _)=_;rw[if_pos hn];rfl
   ·have hn:Ex.named k=false:=by unfold Ex.named;simp;omega
    rw[if_neg h78];show (if Ex.named k=true then _ else _)=_;rw[hn];rfl
theorem Ex.rnl(sc:Scs)(tg:Bool):∀l:List Ex,(∀x,x∈l→(Pa.ex x).valid nm=true)→Ex.wrl (rnP a b) sc tg l=Ex.rwl (rnR a b) sc l
 | [],_=>rfl
 | x::l,v=>by rw[Ex.wrl,Ex.rwl,Ex.rn sc tg x (v x (by simp)),Ex.rnl sc tg l fun y hy=>v y (by simp[hy])]
end
theorem El.rn(sc:Scs)(e:El)(v:(Pa.el e).valid nm=true):e.wr (rnP a b) sc=e.rw (rnR a b) sc:=by
 unfold El.wr El.rw;rw[Ex.rnl a b sc false e.exps fun x hx=>(Pa.valid_iff.1 v).2 _ (by simp only[Pa.kids,qul];exact ⟨x,hx,rfl⟩)]
theorem Fo.rn(sc:Scs)(x:Fo):x.wr (rnP a b) sc=x.rw (rnR a b) sc:=by
 unfold Fo.wr Fo.rw;rw[qls,qgy]
mutual
theorem Sm.rn:∀(s:Sm) (sc:Scs) (n:Nat),(Pa.st s).valid nm=true→s.wr (rnP a b) sc n=s.rw (rnR a b) sc n
 | .mk l k t gs e hh d c,sc,n,v=>by
  obtain ⟨v7,v8,v9⟩:=Sm.valid_block v;have vd:=Sm.valid_decls v;have vb:=Sm.valid_body v;have vg:=Sm.valid_targets v;have ve:=Sm.valid_exps v;have vh:=Sm.valid_elems v;simp only[Sm.decls,Sm.body,Sm.targets,Sm.exps,Sm.elems] at vd vb vg ve vh;rw[Sm.wr,Sm.rw,qpb];by_cases h7:k=7
  ·obtain ⟨rfl,rfl,rfl⟩:=v7 h7;rw[if_pos h7,if_pos h7,De.rnl d _ _ _ vd,Sm.rnl c _ _ vb];rfl
  ·rw[if_neg h7,if_neg h7];by_cases h8:k=8
   ·obtain ⟨rfl,rfl,rfl,rfl⟩:=v8 h8;rw[if_pos h8,if_pos h8,Sm.rnl c _ _ vb];rfl
   ·obtain rfl:=v9 h7 h8
    have ht:(rnP a b).clE sc k t=if k=6 then qb4 (rnR a b) sc t else t:=by
     rw[qjc];unfold Pw.clE;rfl
    rw[if_neg h8,if_neg h8,Ex.rnl a b sc true gs vg,Ex.rnl a b sc false e ve,Sm.rn1 c _ _ vb,qvn fun x hx=>El.rn a b sc x (vh x hx),ht]
theorem De.rn:∀(s:De) (own sc:Scs) (n:Nat),(Pa.de s).valid nm=true→s.wr (rnP a b) own sc n=s.rw (rnR a b) own sc n
 | .mk k o t ns e fo c,own,sc,n,v=>by
  have vb:=De.valid_body v;have ve:=De.valid_exps v;simp only[De.body,De.exps] at vb ve;rw[De.wr,De.rw,qpb];by_cases h4:k=4
  ·rw[if_pos h4,if_pos h4,Ex.rnl a b own false e ve,Sm.rn1 c _ _ vb,qvn fun x _=>Fo.rn a b _ x]
  ·rw[if_neg h4,if_neg h4,Ex.rnl a b _ false e ve]
theorem De.rnl:∀(l:List De) (own sc:Scs) (n:Nat),(∀x,x∈l→(Pa.de x).valid nm=true)→De.wrl (rnP a b) own sc n l=De.rwl (rnR a b) own sc n l
 | [],_,_,_,_=>rfl
 | x::l,own,sc,n,v=>by rw[De.wrl,De.rwl,De.rn x own sc n (v x (by simp)),De.rnl l own sc _ fun y hy=>v y (by simp[hy])]
theorem Sm.rnl:∀(l:List Sm) (sc:Scs) (n:Nat),(∀x,x∈l→(Pa.st x).valid nm=true)→Sm.wrl (rnP a b) sc n l=Sm.rwl (rnR a b) sc n l
 | [],_,_,_=>rfl
 | x::l,sc,n,v=>by rw[Sm.wrl,Sm.rwl,Sm.rn x sc n (v x (by simp)),Sm.rnl l sc _ fun y hy=>v y (by simp[hy])]
theorem Sm.rn1:∀(l:List Sm) (sc:Scs) (n:Nat),(∀x,x∈l→(Pa.st x).valid nm=true)→Sm.wr1 (rnP a b) sc n l=Sm.rw1 (rnR a b) sc n l
 | [],_,_,_=>rfl
 | x::l,sc,n,v=>by rw[Sm.wr1,Sm.rw1,Sm.rn x _ _ (v x (by simp)),Sm.rn1 l sc _ fun y hy=>v y (by simp[hy])]
end
theorem Sm.whole_rn(s:Sm)(v:(Pa.st s).valid nm=true):s.wholeR (rnP a b)=s.wholeQ (rnR a b):=Sm.rn a b s _ _ v
def rnQ(e:Oc):Bool:=decide (e.1=a∧e.2.at e.1=none) && (e.2.at b).isSome
def rnb(h:(rnP a b).H):Bool:=h
theorem qpi(sc:Scs)(x:ByteArray)(h:Bool):rnH a b sc x h=(h || rnQ a b (x,sc)):=by
 unfold rnH rnQ;by_cases hh:x=a∧sc.at x=none
 ·obtain ⟨rfl,h2⟩:=hh;rw[if_pos ⟨rfl,h2⟩];simp[h2]
 ·rw[if_neg hh];simp[hh]
theorem qpd:Obs (rnP a b) Bool (rnb a b) (fun h e=>h || rnQ a b e) where
 nm h:=by cases h
 cl h:=by cases h
 n h x sc tg:=qpi a b sc x.text h
 c h x sc:=qpi a b sc x h
 e h k x:=rfl
theorem qm1:∀(sc:Scs) (x:ByteArray),(sc.at x).isSome=(Scs.flat sc).any fun p=>decide (p.1=x)
 | [],x=>rfl
 | s::r,x=>by
  have ih:=qm1 r x;unfold Scs.at Scs.flat;rw[qvT,←ih]
  have h1:(Sco.at s x).isSome=s.any fun p=>decide (p.1=x):=by
   unfold Sco.at;rw[Option.isSome_map,quA,List.find?_isSome];simp
  rw[←h1];cases Sco.at s x <;> simp
theorem qpz:Robs (rnR a b) (fun st=>st.caught=true) (fun e=>rnQ a b e=true) where
 u sc x st:=by
  have hm:mt (rnR a b) x=if x=a then some (.mk 6 0 0 0 0 b []) else none:=by
   unfold mt rnR;simp only[mtL];by_cases h:a=x
   ·subst h;simp
   ·have:¬ x=a:=fun hh=>h hh.symm
    simp[h,this]
  unfold ruse rnQ
  cases hs:sc.at x with
  | some k=>simp[hs]
  | none=>
   simp only[hm,hs];by_cases h:x=a
   ·rw[if_pos h];show (st.caught || (decide ((6:Int)=6) && (Scs.flat sc).any fun p=>decide (p.1=b)))=true↔st.caught=true∨(decide (x=a∧True) && (sc.at b).isSome)=true;rw[←qm1];simp[h]
   ·rw[if_neg h];simp[h]
 b st c:=Iff.rfl
theorem qiL{q:Oc→Bool}:∀(l:List Oc) (h:Bool),l.foldl (fun h e=>h || q e) h=true↔h=true∨anyO (fun e=>q e=true) l
 | [],h=>by simp[qck]
 | e::l,h=>by
  rw[qvD,qiL l];have:anyO (fun e=>q e=true) (e::l)↔q e=true∨anyO (fun e=>q e=true) l:=(qbn (l:=[e])).trans (or_congr_left qe0);rw[this,qvK,or_assoc]
theorem Sm.caught_rn(s:Sm)(v:(Pa.st s).valid nm=true)(sc:Scs)(n:Nat)(h:(rnP a b).H)(st:Rst)(h0:rnb a b h=st.caught):rnb a b (Sm.hs (rnP a b) sc n h s)=(s.rs (rnR a b) sc n st).caught:=by
 have h1:=(qpd a b).sm s sc n h v;have h2:=(qpz a b).sm s sc n st v;rw[quA,h1,qiL,h2,h0]
end
set_option maxRecDepth 20000
def c110:F':=⟨11,[.t 5],.k [.a 5 (.str ⟨⟨[]⟩⟩)] (.k [.l 6 2,.m 7 0,.m 8 1,.o 9 (.call (.t 6) [(.t 7),(.t 8)])] (.k [.m 10 0,.m 5 10] .ret))⟩
theorem ok110:okF Tryz.f110 c110:=okI
open Go.Proofs.Tryz
abbrev ptV(p:Nat):V:=.ptr p 0 0 1
def coU(h:List ByteArray×List ByteArray)(x:ByteArray)(sc:Scs):List ByteArray×List ByteArray:=match sc.at x with
 | some _=>h
 | none=>(h.1++[x],h.2)
def coP:Pw where
 H:=List ByteArray×List ByteArray
 f _ x:=x
 nm:=some fun x _ _=>x
 cl:=some fun x _=>x
 ent h _ x:=(h.1,h.2++[x])
 nmH h x sc _:=coU h x.text sc
 clH h x sc:=coU h x sc
structure Co(m c4 c5 c6:Nat)(h:List ByteArray×List ByteArray)(v:V)(ps:List Nat)(F D:Nat→Prop)(U:St):Prop where
 f4:U[c4]?=some (.arr [.map m] 1 1)
 fm:∃bs ck,Stam bs ck∧U[m]?=some (.map ((h.1.foldl insK []).map kv) bs ck)
 f5:U[c5]?=some (.arr [v] 1 1)
 f6:U[c6]?=some (.arr [.fn (.func 107) [] [.ptr c4 0 0 1]] 1 1)
 gr:(ps=[]∧v=.sl true [])∨∃a wr,v=.arr a 0 ps.length ps.length∧U[a]?=some (.arr (ps.map ptV) 1 wr)∧wr≤ps.length∧F a∧a≠c5
 pn:ps.length=h.2.length
 pl:∀i p x,ps[i]?=some p→h.2[i]?=some x→D p∧U[p]?=some (plc x i x)
 dF:∀l,F l→l=m∨l=c5∨∃n,v=.arr l 0 n n
 dD:∀l,D l→l=c4∨l=c6∨l∈ps
 hm:F m
 h5:F c5
 h4:D c4
 h6:D c6
def coC(m c4 c5 c6:Nat):Cb where
 toPw:=coP
 fe:=.fn (.func 108) [] [.ptr c5 0 0 1]
 fn:=.fn (.func 109) [] [.ptr c6 0 0 1]
 fc:=.fn (.func 110) [] [.ptr c6 0 0 1]
 I h F D U:=∃v ps,Co m c4 c5 c6 h v ps F D U
 cn h n:=h.2.length=n
 lim:=100001
theorem qig{U:St}{i j:Nat}{a b:Ob}(h:U[i]?=some a)(g:U[j]?=some b)(n:a≠b):i≠j:=by
 rintro rfl;rw[h] at g;cases g;exact n rfl
section
variable {m c4 c5 c6:Nat} {h:List ByteArray×List ByteArray} {v:V} {ps:List Nat} {F D:Nat→Prop} {U:St}
theorem Co.place(k:Co m c4 c5 c6 h v ps F D U){p:Nat}(hp:p∈ps):∃x i,D p∧U[p]?=some (plc x i x):=by
 obtain ⟨i,hi⟩:=List.mem_iff_getElem?.1 hp;have h1:=(qtV.1 hi).1;rw[k.pn] at h1;exact ⟨_,i,k.pl i p _ hi (qtX h1)⟩
theorem Co.gF(k:Co m c4 c5 c6 h v ps F D U){l:Nat}(hl:F l):∃o,U[l]?=some o∧(∀i,o≠.loop i)∧¬ D l:=by
 have nD:∀o,U[l]?=some o→o≠.arr [.map m] 1 1→o≠.arr [.fn (.func 107) [] [.ptr c4 0 0 1]] 1 1→(∀x i,o≠plc x i x)→¬ D l:=fun o ho n1 n2 n3 hD=>by
  rcases k.dD l hD with rfl|rfl|hp
  ·rw[k.f4] at ho;cases ho;exact n1 rfl
  ·rw[k.f6] at ho;cases ho;exact n2 rfl
  ·obtain ⟨x,i,_,h2⟩:=k.place hp;rw[h2] at ho;cases ho;exact n3 x i rfl
 rcases k.dF l hl with rfl|rfl|⟨n,hv⟩
 ·obtain ⟨bs,ck,hst,hm⟩:=k.fm;exact ⟨_,hm,by simp,nD _ hm (by simp) (by simp) (by simp[plc])⟩
 ·refine ⟨_,k.f5,by simp,nD _ k.f5 ?_ ?_ (by simp[plc])⟩
  ·rcases k.gr with ⟨_,rfl⟩|⟨a,wr,rfl,_⟩ <;> simp
  ·rcases k.gr with ⟨_,rfl⟩|⟨a,wr,rfl,_⟩ <;> simp
 ·rcases k.gr with ⟨_,rfl⟩|⟨a,wr,rfl,ha,_,_⟩
  ·cases hv
  ·cases hv;refine ⟨_,ha,by simp,nD _ ha ?_ ?_ (by simp[plc])⟩
   ·intro hh;injection hh with hh;cases ps <;> simp at hh
   ·intro hh;injection hh with hh;cases ps <;> simp at hh
theorem Co.gD(k:Co m c4 c5 c6 h v ps F D U){l:Nat}(hl:D l):∃o,U[l]?=some o∧∀i,o≠.loop i:=by
 rcases k.dD l hl with rfl|rfl|hp
 ·exact ⟨_,k.f4,by simp⟩
 ·exact ⟨_,k.f6,by simp⟩
 ·obtain ⟨x,i,_,h2⟩:=k.place hp;exact ⟨_,h2,by simp[plc]⟩
theorem Co.fr{U':St}{M:Nat→Prop}(k:Co m c4 c5 c6 h v ps F D U)(hk:Kp M U U')(hM:∀l,M l→l<U.length→¬ F l∧¬ D l):Co m c4 c5 c6 h v ps F D U':=by
 have nF:∀{l o},U[l]?=some o→F l→U'[l]?=some o:=fun ho hf=>hk.at ho fun hm=>(hM _ hm (glt ho)).1 hf
 have nD:∀{l o},U[l]?=some o→D l→U'[l]?=some o:=fun ho hf=>hk.at ho fun hm=>(hM _ hm (glt ho)).2 hf
 obtain ⟨bs,ck,hst,hm⟩:=k.fm;exact ⟨nD k.f4 k.h4,⟨bs,ck,hst,nF hm k.hm⟩,nF k.f5 k.h5,nD k.f6 k.h6,k.gr.imp id fun ⟨a,wr,h1,h2,h3,h4,h5⟩=>⟨a,wr,h1,nF h2 h4,h3,h4,h5⟩,k.pn,fun i p x h1 h2=>⟨(k.pl i p x h1 h2).1,nD (k.pl i p x h1 h2).2 (k.pl i p x h1 h2).1⟩,k.dF,k.dD,k.hm,k.h5,k.h4,k.h6⟩
theorem Co.use(k:Co m c4 c5 c6 h v ps F D U)(x:ByteArray){bs:List Nat}{ck:Nat}(hst:Stam bs ck):Co m c4 c5 c6 (h.1++[x],h.2) v ps F D (U.set m (.map (((h.1++[x]).foldl insK []).map kv) bs ck)):=by
 obtain ⟨bs0,ck0,_,hm⟩:=k.fm
 have g:∀{l o},U[l]?=some o→(∀a b c,o≠Ob.map a b c)→(U.set m (.map (((h.1++[x]).foldl insK []).map kv) bs ck))[l]?=some o:=fun {l o} ho n=>by
  rw[qtY]
  ·exact ho
  ·exact qig hm ho (Ne.symm (n _ _ _))
 exact ⟨g k.f4 (by simp),⟨bs,ck,hst,qtZ (glt hm)⟩,g k.f5 (by simp),g k.f6 (by simp),k.gr.imp id fun ⟨a,wr,h1,h2,h3,h4,h5⟩=>⟨a,wr,h1,g h2 (by simp),h3,h4,h5⟩,k.pn,fun i p x h1 h2=>⟨(k.pl i p x h1 h2).1,g (k.pl i p x h1 h2).2 (by simp[plc])⟩,k.dF,k.dD,k.hm,k.h5,k.h4,k.h6⟩
end
theorem qra{S:St}{sz bytes:Nat}{y:V}{b:Bool}(hy:fits sz [y]=true)(hr:bytes≤2 ^ 47):appS S sz bytes (.sl true []) (.sl b [y])=some (.arr S.length 0 1 1,S++[.arr [y] sz 1]):=by
 unfold appS;rw[qcd];have hc:true=true∧fits sz [y]=true∧(([]:List V).all fun v=>v.size==sz)=true∧(([]:List V).length+[y].length) * bytes≤2 ^ 47:=⟨rfl,hy,rfl,by simpa using hr⟩;show (if ([y]:List V).isEmpty=true then _ else _)=_;rw[if_neg (by simp),if_pos hc];simp
theorem qrk{S:St}{sz bytes l wr:Nat}{xs:List V}{y:V}{b:Bool}(h3:S[l]?=some (.arr xs sz wr))(hy:fits sz [y]=true)(hr:(xs.length+1) * bytes≤2 ^ 47):appS S sz bytes (.arr l 0 xs.length xs.length) (.sl b [y])=some (.arr l 0 (xs.length+1) (xs.length+1),S.set l (.arr (xs++[y]) sz wr)):=by
 have hc:0=0∧xs.length=xs.length∧xs.length=xs.length∧sz=sz∧fits sz [y]=true∧(xs.length+[y].length) * bytes≤2 ^ 47:=⟨rfl,rfl,rfl,rfl,hy,hr⟩;unfold appS;rw[qcd];show (match S[l]? with|_=>_)=_;rw[h3];show (if _ then _ else _)=_;rw[if_pos hc];rfl
theorem qrN{m c4 c5 c6:Nat}{h:List ByteArray×List ByteArray}{v:V}{ps:List Nat}{F D:Nat→Prop}{U:St}(k:Co m c4 c5 c6 h v ps F D U)(p:Nat)(x:ByteArray)(hp:U[p]?=some (plc x h.2.length x))(nF:¬ F p)(hn:h.2.length≤100000):
  Spec prog 108 [.ptr p 0 0 1,.ptr c5 0 0 1] U (fun _ U'=>∃v' F',Co m c4 c5 c6 (h.1,h.2++[x]) v' (ps++[p]) F' (fun l=>D l∨l=p) U'∧U'[p]?=some (plc x h.2.length x)∧Kp (fun l=>l=p∨F l) U U'∧grow U F F'):=by
 refine Spec.ib func108 ok108 ?_;have hpn:=k.pn;obtain ⟨bs,ck,hst,hm⟩:=k.fm;have fin:∀(U1:St) (a wr:Nat),U1[a]?=some (.arr ((ps++[p]).map ptV) 1 wr)→wr≤ps.length+1→(F a∨U.length≤a)→a≠c5→a≠m→U.length≤U1.length→(∀l o,U[l]?=some o→l≠a→U1[l]?=some o)→
   ∃v' F',Co m c4 c5 c6 (h.1,h.2++[x]) v' (ps++[p]) F' (fun l=>D l∨l=p) (U1.set c5 (.arr [.arr a 0 (ps.length+1) (ps.length+1)] 1 1))∧(U1.set c5 (.arr [.arr a 0 (ps.length+1) (ps.length+1)] 1 1))[p]?=some (plc x h.2.length x)∧Kp (fun l=>l=p∨F l) U (U1.set c5 (.arr [.arr a 0 (ps.length+1) (ps.length+1)] 1 1))∧grow U F F':=by
  intro U1 a wr h2 h3 h4 h5 h5' h6' h6
  have q:∀{l o},U[l]?=some o→l≠c5→l≠a→(U1.set c5 (.arr [.arr a 0 (ps.length+1) (ps.length+1)] 1 1))[l]?=some o:=fun {l o} ho n1 n2=>by
   rw[qtY (Ne.symm n1)];exact h6 l o ho n2
  have nq:∀{l o},U[l]?=some o→¬ F l→(U1.set c5 (.arr [.arr a 0 (ps.length+1) (ps.length+1)] 1 1))[l]?=some o:=fun {l o} ho hF=>
   q ho (by rintro rfl;exact hF k.h5) (by rintro rfl;exact h4.elim hF fun hh=>by have:=glt ho;omega)
  have nDF:∀{l},D l→¬ F l:=fun hD hF=>by obtain ⟨_,_,_,h⟩:=k.gF hF;exact h hD
  refine ⟨.arr a 0 (ps.length+1) (ps.length+1),fun l=>l=m∨l=c5∨l=a,⟨nq k.f4 (nDF k.h4),⟨bs,ck,hst,q hm ?_ (Ne.symm h5')⟩,qtZ ?_,nq k.f6 (nDF k.h6),.inr ⟨a,wr,by simp,?_,by simpa using h3,.inr (.inr rfl),h5⟩,by simp[hpn],fun i p' x' g1 g2=>?_,fun l hl=>?_,fun l hl=>?_,.inl rfl,.inr (.inl rfl),.inl k.h4,.inl k.h6⟩,nq hp nF,⟨by simpa using h6',fun l hl hn=>?_⟩,fun l hl=>?_⟩
  ·refine qig hm k.f5 (by simp)
  ·have:=glt k.f5;omega
  ·rw[qtY (Ne.symm h5)];exact h2
  ·by_cases hi:i<ps.length
   ·rw[qt0 hi] at g1;rw[qt0 (by omega)] at g2;obtain ⟨e1,e2⟩:=k.pl i p' x' g1 g2;exact ⟨.inl e1,nq e2 (nDF e1)⟩
   ·have h1:=(qtV.1 g1).1;rw[qub,List.length_singleton] at h1;have:i=ps.length:=by omega
    subst this;simp at g1;rw[hpn] at g2;simp at g2;subst g1 g2;have e:=nq hp nF;rw[←hpn] at e;exact ⟨.inr rfl,e⟩
  ·exact hl.imp id fun hl=>hl.imp id fun hl=>⟨ps.length+1,by rw[hl]⟩
  ·rcases hl with hl|rfl
   ·exact (k.dD l hl).imp id fun hl=>hl.imp id fun hl=>by simp[hl]
   ·exact .inr (.inr (by simp))
  ·have:∃o,U[l]?=some o:=⟨_,qtX hl⟩;obtain ⟨o,ho⟩:=this;rw[ho];exact nq ho fun hf=>hn (.inr hf)
  ·rcases hl with rfl|rfl|rfl
   ·exact .inl k.hm
   ·exact .inl k.h5
   ·exact h4
 have hf:=k.f5;have hft:fits 1 [V.ptr p 0 0 1]=true:=rfl;rcases k.gr with ⟨rfl,rfl⟩|⟨a,wr,rfl,ha,hw,hF,hne⟩
 ·have happ:=qra (S:=U) (sz:=1) (bytes:=8) (y:=.ptr p 0 0 1) (b:=true) rfl (by omega);have hs:(U++[Ob.arr [.ptr p 0 0 1] 1 1])[c5]?=some (.arr [.sl true []] 1 1):=gp hf;simp[c108,ldS,hf,hft,evX,happ,stS,hs];refine qaE rfl ?_;exact (fin (U++[Ob.arr [ptV p] 1 1]) U.length 1 (by simp) (by simp) (.inr (qt1 _)) (by have:=glt hf;omega) (by have:=glt hm;omega) (by simp) fun l o ho _=>gp ho)
 ·have happ:=qrk (S:=U) (sz:=1) (bytes:=8) (y:=.ptr p 0 0 1) (b:=true) ha rfl (by rw[qt2];omega);simp at happ;have hs:(U.set a (Ob.arr (ps.map ptV++[.ptr p 0 0 1]) 1 wr))[c5]?=some (.arr [.arr a 0 ps.length ps.length] 1 1):=by rw[qtY hne];exact hf
  simp[c108,ldS,hf,hft,evX,happ,stS,hs];refine qaE rfl ?_;exact (fin (U.set a (Ob.arr (ps.map ptV++[.ptr p 0 0 1]) 1 wr)) a wr (by rw[qtZ (glt ha),quh];rfl) (by omega) (.inl hF) hne (qig ha hm (by simp)) (by simp) fun l o ho hl=>by rw[qtY (Ne.symm hl)];exact ho)
section
variable {m c4 c5 c6:Nat} {h:List ByteArray×List ByteArray} {v:V} {ps:List Nat} {F D:Nat→Prop} {U:St}
theorem Co.lt(k:Co m c4 c5 c6 h v ps F D U){l:Nat}(hl:F l∨D l):l<U.length:=by
 rcases hl with hl|hl
 ·obtain ⟨_,h,_⟩:=k.gF hl;exact glt h
 ·obtain ⟨_,h,_⟩:=k.gD hl;exact glt h
theorem Co.push(k:Co m c4 c5 c6 h v ps F D U)(os:List Ob):Co m c4 c5 c6 h v ps F D (U++os):=k.fr (M:=fun _=>False) ((Kp.refl _ _).push _) fun _ h=>h.elim
theorem Co.set(k:Co m c4 c5 c6 h v ps F D U){l:Nat}(o:Ob)(hF:¬ F l)(hD:¬ D l):Co m c4 c5 c6 h v ps F D (U.set l o):=k.fr (M:=fun x=>x=l) ((Kp.refl _ _).set _ (.inl rfl)) fun x hx _=>by rw[hx];exact ⟨hF,hD⟩
end
theorem qmz{m c4 c5 c6:Nat}{h:List ByteArray×List ByteArray}{v:V}{ps:List Nat}{F D:Nat→Prop}{U:St}(k:Co m c4 c5 c6 h v ps F D U){X:Nat→Prop}{w:V}{ts:List Sct}(hsc:ScR coP X U w ts)(x:ByteArray):
  Spec prog 107 [.str x,w,.ptr c4 0 0 1] U (fun _ U'=>Co m c4 c5 c6 (coU h x (Scx ts)) v ps F D U'∧Kp F U U'):=by
 refine Spec.ib func107 ok107 ?_;simp[c107];refine qai (qfK hsc x) ?_;have hat:=qeM ts x;unfold coU;rw[hat];have h4:=k.f4;obtain ⟨bs,ck,hst,hm⟩:=k.fm
 cases hf:fnd ts x with
 | some q=>
  simp[fndV,hf,eqOk,eqV];exact qaE rfl ⟨k,Kp.refl _ _⟩
 | none=>
  simp[fndV,hf,eqOk,eqV,ldS,h4];have hft:fits 1 [V.str x]=true:=rfl;simp[hft];refine qan (qsN true [x] _ bs ck m U (by simp) hm) ?_;rintro r U' ⟨bs',ck',hst',rfl⟩;simp;have:=k.use x (hst' hst);rw[quL] at this;exact qaE rfl ⟨this,(Kp.refl _ _).set _ (.inl k.hm)⟩
theorem qp9{m c4 c5 c6:Nat}{h:List ByteArray×List ByteArray}{v:V}{ps:List Nat}{F D:Nat→Prop}{U:St}(k:Co m c4 c5 c6 h v ps F D U){X:Nat→Prop}{w:V}{ts:List Sct}(hsc:ScR coP X U w ts)(x:Ex)(tg:Bool):
  Spec prog 109 [x.v,w,.bool tg,.ptr c6 0 0 1] U (fun r U'=>r=x.v∧Co m c4 c5 c6 (coU h x.text (Scx ts)) v ps F D U'∧Kp F U U'):=by
 refine Spec.ib func109 ok109 ?_;simp[c109,boxS];obtain ⟨U1,hU1⟩:∃U1:St,U1=U++[.arr [x.v] 7 1,.arr [.agg [.int .i64 0,.int .i64 0,.int .i64 0,.int .i64 0,.int .i64 0,.str ⟨⟨[]⟩⟩,.sl true []]] 7 1]:=⟨_,rfl⟩;rw[←hU1];have l1:U1.length=U.length+2:=by rw[hU1];simp
 have b0:U1[U.length]?=some (.arr [x.v] 7 1):=by rw[hU1];simp
 have b1:U1[U.length+1]?=some (.arr [.agg [.int .i64 0,.int .i64 0,.int .i64 0,.int .i64 0,.int .i64 0,.str ⟨⟨[]⟩⟩,.sl true []]] 7 1):=by rw[hU1,qtW (by omega)];simp
 have k1:Co m c4 c5 c6 h v ps F D U1:=by rw[hU1];exact k.push _
 have s1:ScR coP X U1 w ts:=by rw[hU1];exact hsc.push _
 have kp1:Kp F U U1:=by rw[hU1];exact (Kp.refl _ _).push _
 clear hU1;have h6:=k1.f6;have nF:∀j,¬ F (U.length+j):=fun j hf=>by have:=k.lt (.inl hf);omega
 have nD:∀j,¬ D (U.length+j):=fun j hf=>by have:=k.lt (.inr hf);omega
 simp[ldS,h6,b0];refine qan (qmz k1 s1 x.text) ?_;rintro r U2 ⟨k2,kp2⟩;have c0:=kp2.at b0 (nF 0);have c1:=kp2.at b1 (nF 1);simp[ldS,c0,stS,c1,qac];have hz:(U2.set (U.length+1) (.arr [x.v] 7 1))[U.length+1]?=some (.arr [x.v] 7 1):=qtZ (glt c1);exact qaj (vs:=[x.v]) (by simp[rvs,ldS,hz]) ⟨rfl,k2.set _ (nF 1) (nD 1),(kp1.trans kp2).set _ (.inr (by omega))⟩
theorem qrS{m c4 c5 c6:Nat}{h:List ByteArray×List ByteArray}{v:V}{ps:List Nat}{F D:Nat→Prop}{U:St}(k:Co m c4 c5 c6 h v ps F D U){X:Nat→Prop}{w:V}{ts:List Sct}(hsc:ScR coP X U w ts)(x:ByteArray):
  Spec prog 110 [.str x,w,.ptr c6 0 0 1] U (fun r U'=>r=.str x∧Co m c4 c5 c6 (coU h x (Scx ts)) v ps F D U'∧Kp F U U'):=by
 refine Spec.ib func110 ok110 ?_;have h6:=k.f6;simp[c110,ldS,h6];refine qan (qmz k hsc x) ?_;rintro r U2 ⟨k2,kp2⟩;simp;exact qaj rfl ⟨rfl,k2,kp2⟩
theorem Co.real{m c4 c5 c6:Nat}{h:List ByteArray×List ByteArray}{v:V}{ps:List Nat}{F D:Nat→Prop}{S:St}(k:Co m c4 c5 c6 h v ps F D S)(h':List ByteArray×List ByteArray):∃F' D' U v' ps',Co m c4 c5 c6 h' v' ps' F' D' U∧Kp F S U∧grow S F F'∧grow S D D':=by
 obtain ⟨bs,ck,hst,hm⟩:=k.fm;obtain ⟨n,hn⟩:∃n,n=h'.2.length:=⟨_,rfl⟩;obtain ⟨ps',hps⟩:∃ps':List Nat,ps'=(List.range n).map (S.length+·):=⟨_,rfl⟩;have lps:ps'.length=n:=by rw[hps];simp
 obtain ⟨os,hos⟩:∃os:List Ob,os=(h'.2.zipIdx.map fun e=>plc e.1 e.2 e.1)++[.arr (ps'.map ptV) 1 0]:=⟨_,rfl⟩;have los:os.length=n+1:=by rw[hos,hn];simp
 obtain ⟨U,hU⟩:∃U:St,U=((S++os).set m (.map ((h'.1.foldl insK []).map kv) [] 0)).set c5 (.arr [.arr (S.length+n) 0 n n] 1 1):=⟨_,rfl⟩;have lm:=glt hm;have l5:=glt k.f5;have nDF:∀{l},D l→¬ F l:=fun hD hF=>by obtain ⟨_,_,_,h⟩:=k.gF hF;exact h hD
 have q:∀{l o},S[l]?=some o→¬ F l→U[l]?=some o:=fun {l o} ho hf=>by
  rw[hU,qtY (by rintro rfl;exact hf k.h5),qtY (by rintro rfl;exact hf k.hm)];rw[qt0 (glt ho)];exact ho
 have new:∀j o,os[j]?=some o→U[S.length+j]?=some o:=fun j o ho=>by
  rw[hU,qtY (by omega),qtY (by omega),qtW (by omega),qvi];exact ho
 refine ⟨fun l=>l=m∨l=c5∨l=S.length+n,fun l=>l=c4∨l=c6∨l∈ps',U,.arr (S.length+n) 0 n n,ps',⟨q k.f4 (nDF k.h4),⟨[],0,Stam.nil,?_⟩,?_,q k.f6 (nDF k.h6),.inr ⟨S.length+n,0,by rw[lps],new n _ ?_,quX _,.inr (.inr rfl),by omega⟩,by rw[lps,hn],fun i p x h1 h2=>⟨.inr (.inr (qt6 h1)),?_⟩,fun l hl=>hl.imp id fun hl=>hl.imp id fun hl=>⟨n,by rw[hl]⟩,fun l hl=>hl,.inl rfl,.inr (.inl rfl),.inl rfl,.inr (.inl rfl)⟩,⟨?_,fun l hl hf=>?_⟩,fun l hl=>?_,fun l hl=>?_⟩
 ·rw[hU,qtY (qig k.f5 hm (by simp)),qtZ (by simp;omega)]
 ·rw[hU,qtZ (by simp;omega)]
 ·rw[hos,qtW (by simp[hn])];simp[hn]
 ·rw[hps] at h1;simp at h1;obtain ⟨j,hj,rfl⟩:=h1;obtain ⟨h3,h4⟩:=qtV.1 hj;rw[List.getElem_range] at h4;rw[List.length_range] at h3;subst h4;refine new i _ ?_;rw[hos,qt0 (by simp;omega)];simp[h2]
 ·rw[hU];simp
 ·obtain ⟨o,ho⟩:∃o,S[l]?=some o:=⟨_,qtX hl⟩;rw[ho];exact q ho hf
 ·rcases hl with rfl|rfl|rfl
  ·exact .inl k.hm
  ·exact .inl k.h5
  ·exact .inr (by omega)
 ·rcases hl with rfl|rfl|hl
  ·exact .inl k.h4
  ·exact .inl k.h6
  ·rw[hps] at hl;simp at hl;omega
theorem qsr(m c4 c5 c6:Nat):(coC m c4 c5 c6).Ok where
 lim:=qt1 _
 lt:=fun ⟨v,ps,k⟩ l hl=>k.lt hl
 fr:=fun ⟨v,ps,k⟩ hk hM=>⟨v,ps,k.fr hk hM⟩
 lp:=fun ⟨v,ps,k⟩ l o ho=>⟨fun hf=>by obtain ⟨_,h1,h2,_⟩:=k.gF hf;rw[ho] at h1;cases h1;exact h2 _ rfl,fun hf=>by obtain ⟨_,h1,h2⟩:=k.gD hf;rw[ho] at h1;cases h1;exact h2 _ rfl⟩
 ce x hc:=by
  show (_++[x]).length=_+1;rw[qub];exact congrArg (·+1) hc
 cm x sc tg hc:=by
  show (coU _ x.text sc).2.length=_;unfold coU;split <;> exact hc
 cc x sc hc:=by
  show (coU _ x sc).2.length=_;unfold coU;split <;> exact hc
 real:=fun {h F D S} ⟨v,ps,k⟩ h'=>by
  obtain ⟨F',D',U,v',ps',a,b,c,d⟩:=k.real h';exact ⟨F',D',U,⟨v',ps',a⟩,b,c,d⟩
 en:=.inr ⟨108,[.ptr c5 0 0 1],rfl,fun U p k x h F D hp hF hD hk hc ⟨v,ps,kk⟩=>by
  have hc:h.2.length=k:=hc;subst hc;refine Spec.mono (qrN kk p x hp hF (Nat.le_of_lt_succ hk)) fun r U' ⟨v',F',a,b,c,d⟩=>?_
  exact ⟨F',fun l=>D l∨l=p,⟨v',ps++[p],a⟩,b,c,d,fun l hl=>hl.imp id .inl⟩⟩
 nm:=⟨109,[.ptr c6 0 0 1],rfl,fun U x w ts tg w' h F D hsc ⟨v,ps,k⟩=>Spec.mono (qp9 k hsc x tg) fun r U' ⟨a,b,c⟩=>⟨a,F,D,⟨v,ps,b⟩,c,grow.refl _ _,grow.refl _ _⟩⟩
 cl:=⟨110,[.ptr c6 0 0 1],rfl,fun U x w ts w' h F D hsc ⟨v,ps,k⟩=>Spec.mono (qrS k hsc x) fun r U' ⟨a,b,c⟩=>⟨a,F,D,⟨v,ps,b⟩,c,grow.refl _ _,grow.refl _ _⟩⟩
structure Rs(a b:ByteArray)(cf ct cg cc:Nat)(h:Bool)(F D:Nat→Prop)(U:St):Prop where
 f:U[cf]?=some (.arr [.str a] 1 1)
 t:U[ct]?=some (.arr [.str b] 1 1)
 g:U[cg]?=some (.arr [.bool h] 1 1)
 c:U[cc]?=some (.arr [.fn (.func 59) [] [.ptr cf 0 0 1,.ptr cg 0 0 1,.ptr ct 0 0 1]] 1 1)
 hF:∀l,F l↔l=cg
 hD:∀l,D l↔l=cf∨l=ct∨l=cc
section
variable {a b:ByteArray} {cf ct cg cc:Nat} {h:Bool} {F D:Nat→Prop} {U:St}
theorem Rs.fr{U':St}{M:Nat→Prop}(k:Rs a b cf ct cg cc h F D U)(hk:Kp M U U')(hM:∀l,M l→l<U.length→¬ F l∧¬ D l):Rs a b cf ct cg cc h F D U':=
 ⟨hk.at k.f fun hh=>(hM _ hh (glt k.f)).2 ((k.hD _).2 (.inl rfl)),hk.at k.t fun hh=>(hM _ hh (glt k.t)).2 ((k.hD _).2 (.inr (.inl rfl))),hk.at k.g fun hh=>(hM _ hh (glt k.g)).1 ((k.hF _).2 rfl),hk.at k.c fun hh=>(hM _ hh (glt k.c)).2 ((k.hD _).2 (.inr (.inr rfl))),k.hF,k.hD⟩
theorem Rs.put(k:Rs a b cf ct cg cc h F D U)(h':Bool):Rs a b cf ct cg cc h' F D (U.set cg (.arr [.bool h'] 1 1)):=
 ⟨by rw[qtY (qig k.g k.f (by simp))];exact k.f,by rw[qtY (qig k.g k.t (by simp))];exact k.t,qtZ (glt k.g),by rw[qtY (qig k.g k.c (by simp))];exact k.c,k.hF,k.hD⟩
theorem Rs.lt(k:Rs a b cf ct cg cc h F D U){l:Nat}(hl:F l∨D l):l<U.length:=by
 rcases hl with hl|hl
 ·rw[(k.hF l).1 hl];exact glt k.g
 ·rcases (k.hD l).1 hl with rfl|rfl|rfl
  ·exact glt k.f
  ·exact glt k.t
  ·exact glt k.c
theorem qo7(k:Rs a b cf ct cg cc h F D U){X:Nat→Prop}{w:V}{ts:List Sct}(hsc:ScR (rnP a b) X U w ts)(x:ByteArray):
  Spec prog 59 [.str x,w,.ptr cf 0 0 1,.ptr cg 0 0 1,.ptr ct 0 0 1] U (fun r U'=>r=.str (rnT a b (Scx ts) x)∧Rs a b cf ct cg cc (rnH a b (Scx ts) x h) F D U'∧Kp F U U'):=by
 refine Spec.ib func59 ok59 ?_;have hf:=k.f;have ht:=k.t;have hg:=k.g;have hT:rnT a b (Scx ts) x=if x=a∧(Scx ts).at x=none then b else x:=rfl
 have hH:rnH a b (Scx ts) x h=if x=a∧(Scx ts).at x=none then h || ((Scx ts).at b).isSome else h:=rfl
 simp[c59,ldS,hf];by_cases hx:x=a
 case neg=>
  rw[if_neg (fun hh=>hx hh.1)] at hT hH;rw[hT,hH];simp[hx];exact qaj rfl ⟨rfl,k,Kp.refl _ _⟩
 subst hx;simp;refine qai (qfK hsc x) ?_;rw[qeM] at hT hH
 cases hfd:fnd ts x with
 | some q=>
  rw[hfd,if_neg (by simp)] at hT hH;rw[hT,hH];simp[fndV,hfd,eqOk,eqV];exact qaj rfl ⟨rfl,k,Kp.refl _ _⟩
 | none=>
  rw[hfd,if_pos ⟨rfl,rfl⟩] at hT hH;rw[hT,hH,qeM];have fin:∀(b':Bool) (e:Env),e.get 7=some (.str b)→endp [.t 7] U.length (fun r U'=>r=.str b∧Rs x b cf ct cg cc b' F D U'∧Kp F U U') .ret e (U.set cg (.arr [.bool b'] 1 1)):=
   fun b' e he=>qaj (vs:=[.str b]) (by simp[rvs,he]) ⟨rfl,k.put b',(Kp.refl _ _).set _ (.inl ((k.hF cg).2 rfl))⟩
  have ht':∀b':Bool,(U.set cg (.arr [.bool b'] 1 1))[ct]?=some (.arr [.str b] 1 1):=fun b'=>(k.put b').t
  cases h with
  | true=>
   simp[fndV,hfd,eqOk,eqV,ldS,hg,stS,qbG,ht'];refine fin true _ ?_;simp
  | false=>
   simp[fndV,hfd,eqOk,eqV,ldS,hg,ht];refine qai (qfK hsc b) ?_
   cases hfb:fnd ts b with
   | some q=>
    simp[fndV,hfb,eqOk,eqV,ldS,hg,stS,qbG,ht'];refine fin true _ ?_;simp
   | none=>
    simp[fndV,hfb,eqOk,eqV,ldS,hg,stS,qbG,ht'];refine fin false _ ?_;simp
theorem qsO(k:Rs a b cf ct cg cc h F D U){X:Nat→Prop}{w:V}{ts:List Sct}(hsc:ScR (rnP a b) X U w ts)(x:Ex)(tg:Bool):
  Spec prog 61 [x.v,w,.bool tg,.ptr cc 0 0 1] U (fun r U'=>r=(Ex.mk x.kind x.op x.n x.man x.exp (rnT a b (Scx ts) x.text) x.args).v∧Rs a b cf ct cg cc (rnH a b (Scx ts) x.text h) F D U'∧Kp F U U'):=by
 refine Spec.ib func61 ok61 ?_;simp[c61,boxS];obtain ⟨U1,hU1⟩:∃U1:St,U1=U++[.arr [x.v] 7 1,.arr [.agg [.int .i64 0,.int .i64 0,.int .i64 0,.int .i64 0,.int .i64 0,.str ⟨⟨[]⟩⟩,.sl true []]] 7 1]:=⟨_,rfl⟩;rw[←hU1];have l1:U1.length=U.length+2:=by rw[hU1];simp
 have b0:U1[U.length]?=some (.arr [x.v] 7 1):=by rw[hU1];simp
 have b1:U1[U.length+1]?=some (.arr [.agg [.int .i64 0,.int .i64 0,.int .i64 0,.int .i64 0,.int .i64 0,.str ⟨⟨[]⟩⟩,.sl true []]] 7 1):=by rw[hU1,qtW (by omega)];simp
 have kp1:Kp F U U1:=by rw[hU1];exact (Kp.refl _ _).push _
 have k1:Rs a b cf ct cg cc h F D U1:=by rw[hU1];exact k.fr (M:=fun _=>False) ((Kp.refl _ _).push _) fun _ h=>h.elim
 have s1:ScR (rnP a b) X U1 w ts:=by rw[hU1];exact hsc.push _
 clear hU1;have nF:∀j,¬ F (U.length+j):=fun j hf=>by have:=k.lt (.inl hf);omega
 have nD:∀j,¬ D (U.length+j):=fun j hf=>by have:=k.lt (.inr hf);omega
 have h6:=k1.c;simp[ldS,h6,b0];refine qan (qo7 k1 s1 x.text) ?_;rintro r U2 ⟨rfl,k2,kp2⟩;have c0:=kp2.at b0 (nF 0);have c1:=kp2.at b1 (nF 1);obtain ⟨y,hy⟩:∃y,y=rnT a b (Scx ts) x.text:=⟨_,rfl⟩;rw[←hy];obtain ⟨z,hz⟩:∃z:Ex,z=.mk x.kind x.op x.n x.man x.exp y x.args:=⟨_,rfl⟩;have hzv:Ob.arr [V.agg [.int .i64 x.kind,.int .i64 x.op,.int .i64 x.n,.int .i64 x.man,.int .i64 x.exp,.str y,.sl false (x.args.map Ex.v)]] 7 1=.arr [z.v] 7 1:=by rw[hz,Ex.v_eq];rfl
 rw[←hz];simp[stS,c0,qf7,qac];rw[hzv];have d0:(U2.set U.length (.arr [z.v] 7 1))[U.length]?=some (.arr [z.v] 7 1):=qtZ (glt c0);have d1:(U2.set U.length (.arr [z.v] 7 1))[U.length+1]?=some (.arr [.agg [.int .i64 0,.int .i64 0,.int .i64 0,.int .i64 0,.int .i64 0,.str ⟨⟨[]⟩⟩,.sl true []]] 7 1):=by rw[qtY (by omega)];exact c1
 obtain ⟨U3,hU3⟩:∃U3,U3=U2.set U.length (.arr [z.v] 7 1):=⟨_,rfl⟩;rw[←hU3] at d0 d1 ⊢;simp[ldS,d0,stS,d1,qac];have hw:(U3.set (U.length+1) (.arr [z.v] 7 1))[U.length+1]?=some (.arr [z.v] 7 1):=qtZ (glt d1);refine qaj (vs:=[z.v]) (by simp[rvs,ldS,hw]) ⟨rfl,?_,?_⟩
 ·refine Rs.fr (M:=fun l=>l=U.length∨l=U.length+1) k2 ?_ fun l hl _=>?_
  ·rw[hU3];exact ((Kp.refl _ _).set _ (.inl (.inl rfl))).set _ (.inl (.inr rfl))
  ·rcases hl with rfl|rfl
   ·exact ⟨nF 0,nD 0⟩
   ·exact ⟨nF 1,nD 1⟩
 ·rw[hU3];exact ((kp1.trans kp2).set _ (.inr (qt1 _))).set _ (.inr (by omega))
end
def rnC(a b:ByteArray)(cf ct cg cc:Nat):Cb where
 toPw:=rnP a b
 fe:=.nilfn
 fn:=.fn (.func 61) [] [.ptr cc 0 0 1]
 fc:=.fn (.func 59) [] [.ptr cf 0 0 1,.ptr cg 0 0 1,.ptr ct 0 0 1]
 I h F D U:=Rs a b cf ct cg cc h F D U
 cn _ _:=True
 lim:=100001
theorem qsw(a b:ByteArray)(cf ct cg cc:Nat):(rnC a b cf ct cg cc).Ok where
 lim:=qt1 _
 lt:=fun k l hl=>Rs.lt k hl
 fr:=fun k hk hM=>Rs.fr k hk hM
 lp:=fun {h F D S} k l o ho=>by
  have k:Rs a b cf ct cg cc h F D S:=k;refine ⟨fun hf=>?_,fun hf=>?_⟩
  ·rw[(k.hF l).1 hf,k.g] at ho;cases ho
  ·rcases (k.hD l).1 hf with rfl|rfl|rfl
   ·rw[k.f] at ho;cases ho
   ·rw[k.t] at ho;cases ho
   ·rw[k.c] at ho;cases ho
 ce _ _:=trivial
 cm _ _ _ _:=trivial
 cc _ _ _:=trivial
 real:=fun {h F D S} k h'=>by
  have k:Rs a b cf ct cg cc h F D S:=k;exact ⟨F,D,_,k.put h',(Kp.refl _ _).set _ (.inl ((k.hF cg).2 rfl)),grow.refl _ _,grow.refl _ _⟩
 en:=.inl ⟨rfl,fun _ _=>rfl,fun _ _ _=>rfl⟩
 nm:=⟨61,[.ptr cc 0 0 1],rfl,fun U x w ts tg w' h F D hsc k=>Spec.mono (qsO k hsc x tg) fun r U' ⟨a,b,c⟩=>⟨a,F,D,b,c,grow.refl _ _,grow.refl _ _⟩⟩
 cl:=⟨59,[.ptr cf 0 0 1,.ptr cg 0 0 1,.ptr ct 0 0 1],rfl,fun U x w ts w' h F D hsc k=>Spec.mono (qo7 k hsc x) fun r U' ⟨a,b,c⟩=>⟨a,F,D,b,c,grow.refl _ _,grow.refl _ _⟩⟩
def Coll(s:Sm)(S:St)(r:V)(U:St):Prop:=∃(m c4 c5 c6:Nat) (v:V) (ps:List Nat) (F D:Nat→Prop),r=.tup [.map m,v]∧Co m c4 c5 c6 (s.wholeH coP ([],[])) v ps F D U∧Kp (fun _=>False) S U∧(∀l,F l∨D l→S.length≤l)
theorem qjV(y:V):V.upd .nilmap 0 1 y=if y.size=1∧y.cells.all V.flat=true then some y else none:=rfl
theorem qsq(s:Sm)(hs:s.ok)(hsz:(Pa.st s).size≤4000)(hn:Sm.nb1 [s]≤100000)(S:St):Spec prog 58 [s.v] S (fun r U=>Coll s S r U):=by
 refine Spec.ib func58 ok58 ?_;simp[c58,boxS,ldS,stS,qac,qal,qaf,evX,qjV,qhJ];obtain ⟨B,hB⟩:∃B,B=S.length:=⟨_,rfl⟩;obtain ⟨S1,hS1⟩:∃S1:St,S1=S++[.arr [s.v] 8 1,.map [] [] 0,.arr [.map (B+1)] 1 1,.arr [.sl true []] 1 1,.arr [.fn (.func 107) [] [.ptr (B+2) 0 0 1]] 1 1,.arr [.agg [.int .i64 0,.fn (.func 108) [] [.ptr (B+3) 0 0 1],.fn (.func 109) [] [.ptr (B+4) 0 0 1],.fn (.func 110) [] [.ptr (B+4) 0 0 1]]] 4 1]:=⟨_,rfl⟩;rw[←hB,←hS1];have l1:S1.length=B+6:=by rw[hS1,hB];simp
 have g:∀j o,[Ob.arr [s.v] 8 1,.map [] [] 0,.arr [.map (B+1)] 1 1,.arr [.sl true []] 1 1,.arr [.fn (.func 107) [] [.ptr (B+2) 0 0 1]] 1 1,.arr [.agg [.int .i64 0,.fn (.func 108) [] [.ptr (B+3) 0 0 1],.fn (.func 109) [] [.ptr (B+4) 0 0 1],.fn (.func 110) [] [.ptr (B+4) 0 0 1]]] 4 1][j]?=some o→S1[B+j]?=some o:=fun j o ho=>by
  rw[hS1,qtW (by omega),hB,qvi,←hB];exact ho
 have kS:Kp (fun _=>False) S S1:=by rw[hS1];exact (Kp.refl _ _).push _
 have k1:Co (B+1) (B+2) (B+3) (B+4) ([],[]) (.sl true []) [] (fun l=>l=B+1∨l=B+3) (fun l=>l=B+2∨l=B+4) S1:=
  ⟨g 2 _ rfl,⟨[],0,Stam.nil,g 1 _ rfl⟩,g 3 _ rfl,g 4 _ rfl,.inl ⟨rfl,rfl⟩,rfl,fun i p x h=>by simp at h,fun l hl=>hl.imp id .inl,fun l hl=>hl.imp id .inl,.inl rfl,.inr rfl,.inl rfl,.inr rfl⟩
 have hw:Wk (coC (B+1) (B+2) (B+3) (B+4)) (B+5) 0 ([],[]) (fun l=>l=B+1∨l=B+3) (fun l=>l=B+2∨l=B+4) S1:=⟨g 5 _ rfl,⟨_,_,k1⟩,by omega,by omega,rfl⟩;clear g hS1 k1;refine qan (qpa (coC (B+1) (B+2) (B+3) (B+4)) (qsr _ _ _ _) (B+5) s hs hsz ([],[]) _ _ S1 hw (Nat.le_succ_of_le hn)) ?_;rintro r U ⟨rfl,F2,D2,k2,s2⟩;obtain ⟨v,ps,kk⟩:=k2.st;have h4:=kk.f4;have h5:=kk.f5;have hvc:v.cells=[v]:=by rcases kk.gr with ⟨_,rfl⟩|⟨a,wr,rfl,_⟩ <;> rfl
 simp[ldS,h4,h5,hvc,dend,qbj,qbw];refine qaj rfl ⟨_,_,_,_,_,_,_,_,rfl,kk,⟨quJ kS.len s2.k.len,fun l hl hn=>?_⟩,fun l hl=>?_⟩
 ·rw[s2.k.get l (by omega) (by rintro (hh|hh|hh) <;> omega)];exact kS.get l hl hn
 ·rcases hl with hl|hl
  ·rcases s2.gF l hl with (h|h)|h <;> omega
  ·rcases s2.gD l hl with (h|h)|h <;> omega
mutual
def Ex.occ:Ex→List ByteArray
 | .mk k _ _ _ _ t a=>Ex.occl a++(if Ex.named k then [t] else [])
def Ex.occl:List Ex→List ByteArray
 | []=>[]
 | x::l=>Ex.occ x++Ex.occl l
end
def El.occl:List El→List ByteArray
 | []=>[]
 | x::l=>Ex.occl x.exps++El.occl l
mutual
def Sm.occ:Sm→List ByteArray
 | .mk _ k t g e h d b=>if k=7 then De.occl d++Sm.occl b else if k=8 then Sm.occl b else Ex.occl g++Ex.occl e++El.occl h++Sm.occl b++(if k=6 then [t] else [])
def De.occ:De→List ByteArray
 | .mk k _ _ _ e _ b=>if k=4 then Sm.occl b else Ex.occl e
def De.occl:List De→List ByteArray
 | []=>[]
 | x::l=>De.occ x++De.occl l
def Sm.occl:List Sm→List ByteArray
 | []=>[]
 | x::l=>Sm.occ x++Sm.occl l
end
section
variable {f:Nat→ByteArray} {nm:ByteArray→Bool} (hf:∀k,nm (f k)=false)
def fsto(h:coP.H):List ByteArray:=Prod.fst (α:=List ByteArray) (β:=List ByteArray) h
theorem qbp(s:Sco):∀h:coP.H,fsto (enters coP h s)=fsto h:=by
 induction s with
 | nil=>intro h;rfl
 | cons e s ih=>intro h;exact ih _
include hf
theorem qm5(h:coP.H)(sc:Scs)(t:ByteArray)(ht:nm t=true):fsto (coP.clH h t sc)=fsto h++[reto f sc t].filter nm:=by
 show Prod.fst (coU h t sc)=_;unfold coU reto fsto
 cases sc.at t with
 | none=>simp[ht]
 | some k=>simp[hf]
omit hf in
theorem qph(sc:Scs)(tg:Bool)(h:coP.H)(k o n m e:Int)(t:ByteArray)(a:List Ex):coP.nmS sc tg h (.mk k o n m e t a)=if Ex.named k=true then coP.clH h t sc else h:=rfl
omit hf in
theorem qpe(sc:Scs)(k:Int)(h:coP.H)(t:ByteArray):coP.clS sc k h t=if k=6 then coP.clH h t sc else h:=rfl
def coZ:coP.H:=(([],[]):List ByteArray×List ByteArray)
mutual
theorem Ex.fr(sc:Scs)(tg:Bool):∀(x:Ex) (h:coP.H),(Pa.ex x).valid nm=true→fsto (Ex.hs coP sc tg h x)=fsto h++(Ex.occ (x.w f sc)).filter nm
 | .mk k o n m e t a,h,v=>by
  have ha:=Ex.frl sc false a h (Ex.valid_args v);rw[Ex.hs,Ex.w,Ex.occ,quI,←qt5,←ha];rw[qph];by_cases hk:Ex.named k=true
  ·rw[if_pos hk,if_pos hk,if_pos hk];exact qm5 hf _ sc t (Ex.valid_text v hk)
  ·rw[if_neg hk,if_neg hk,List.filter_nil,qu4]
theorem Ex.frl(sc:Scs)(tg:Bool):∀(l:List Ex) (h:coP.H),(∀x,x∈l→(Pa.ex x).valid nm=true)→fsto (Ex.hsl coP sc tg h l)=fsto h++(Ex.occl (Ex.wl f sc l)).filter nm
 | [],h,_=>by simp[Ex.hsl,Ex.wl,Ex.occl]
 | x::l,h,v=>by
  rw[Ex.hsl,Ex.wl,Ex.occl,Ex.frl sc tg l _ fun y hy=>v y (by simp[hy])];have:=Ex.fr sc tg x h (v x (by simp));rw[quI,←qt5,←this]
end
theorem El.frl(sc:Scs):∀(l:List El) (h:coP.H),(∀x,x∈l→(Pa.el x).valid nm=true)→fsto (El.hsl coP sc h l)=fsto h++(El.occl (l.map (El.w f sc))).filter nm
 | [],h,_=>by simp[El.hsl,El.occl]
 | x::l,h,v=>by
  have h1:=Ex.frl hf sc false x.exps h (fun y hy=>(Pa.valid_iff.1 (v x (by simp))).2 _ (by simp only[Pa.kids];exact quz hy));have h2:=El.frl sc l (Ex.hsl coP sc false h x.exps) fun y hy=>v y (by simp[hy])
  show fsto (El.hsl coP sc (Ex.hsl coP sc false h x.exps) l)=_;rw[h2,h1,qud,El.occl,quI,←qt5];unfold El.w;rw[←Ex.wl_map]
mutual
theorem Sm.fr:∀(s:Sm) (sc:Scs) (n:Nat) (h:coP.H),(Pa.st s).valid nm=true→fsto (Sm.hs coP sc n h s)=fsto h++(s.w f sc n).occ.filter nm
 | .mk l k t g e el d b,sc,n,h,v=>by
  obtain ⟨v7,v8,v9⟩:=Sm.valid_block v;have vd:=Sm.valid_decls v;have vb:=Sm.valid_body v;have vg:=Sm.valid_targets v;have ve:=Sm.valid_exps v;have vl:=Sm.valid_elems v;have vt:=Sm.valid_text v;simp only[Sm.decls,Sm.body,Sm.targets,Sm.exps,Sm.elems,Sm.kind,Sm.text] at vd vb vg ve vl vt;rw[Sm.hs,Sm.w];by_cases h7:k=7
  ·obtain ⟨rfl,rfl,rfl⟩:=v7 h7;rw[if_pos h7,if_pos h7,Sm.occ,if_pos h7,quI,←qt5];rw[Sm.frl b _ _ _ vb,De.frl d _ _ _ _ vd,qbp];rfl
  ·rw[if_neg h7,if_neg h7];by_cases h8:k=8
   ·obtain ⟨rfl,rfl,rfl,rfl⟩:=v8 h8;rw[if_pos h8,if_pos h8,Sm.occ,if_neg h7,if_pos h8];rw[Sm.frl b _ _ _ vb,qbp];rfl
   ·obtain rfl:=v9 h7 h8;rw[if_neg h8,if_neg h8,Sm.occ,if_neg h7,if_neg h8];have e1:=Ex.frl hf sc true g h vg;have e2:=Ex.frl hf sc false e (Ex.hsl coP sc true h g) ve;have e3:=El.frl hf sc el (Ex.hsl coP sc false (Ex.hsl coP sc true h g) e) vl;have e4:=Sm.fr1 b sc n (El.hsl coP sc (Ex.hsl coP sc false (Ex.hsl coP sc true h g) e) el) vb;rw[e3,e2,e1] at e4;simp only[quI];rw[qpe];by_cases h6:k=6
    ·rw[if_pos h6,if_pos h6,if_pos h6];have e5:=qm5 hf (Sm.hs1 coP sc n (El.hsl coP sc (Ex.hsl coP sc false (Ex.hsl coP sc true h g) e) el) b) sc t (vt h6);refine Eq.trans e5 ?_;rw[e4];simp only[qt5]
    ·rw[if_neg h6,if_neg h6];refine Eq.trans e4 ?_;simp only[qt5,List.filter_nil,qu4]
theorem De.fr:∀(s:De) (own sc:Scs) (n:Nat) (h:coP.H),(Pa.de s).valid nm=true→fsto (De.hs coP own sc n h s)=fsto h++(s.w f own sc n).occ.filter nm
 | .mk k o t ns e fo b,own,sc,n,h,v=>by
  obtain ⟨v4,v5⟩:=De.valid_proc v;have vb:=De.valid_body v;have ve:=De.valid_exps v;simp only[De.body,De.exps] at vb ve;rw[De.hs,De.w];by_cases h4:k=4
  ·obtain rfl:=v4 h4;rw[if_pos h4,if_pos h4,De.occ,if_pos h4,Sm.fr1 b _ _ _ vb,qbp];rfl
  ·obtain ⟨rfl,rfl⟩:=v5 h4;rw[if_neg h4,if_neg h4,De.occ,if_neg h4];exact Ex.frl hf _ _ e h ve
theorem De.frl:∀(l:List De) (own sc:Scs) (n:Nat) (h:coP.H),(∀x,x∈l→(Pa.de x).valid nm=true)→fsto (De.hsl coP own sc n h l)=fsto h++(De.occl (De.wl f own sc n l)).filter nm
 | [],_,_,_,h,_=>by simp[De.hsl,De.wl,De.occl]
 | x::l,own,sc,n,h,v=>by
  rw[De.hsl,De.wl,De.occl,De.frl l own sc _ _ fun y hy=>v y (by simp[hy]),De.fr x own sc n h (v x (by simp)),quI,qt5]
theorem Sm.frl:∀(l:List Sm) (sc:Scs) (n:Nat) (h:coP.H),(∀x,x∈l→(Pa.st x).valid nm=true)→fsto (Sm.hsl coP sc n h l)=fsto h++(Sm.occl (Sm.wl f sc n l)).filter nm
 | [],_,_,h,_=>by simp[Sm.hsl,Sm.wl,Sm.occl]
 | x::l,sc,n,h,v=>by
  rw[Sm.hsl,Sm.wl,Sm.occl,Sm.frl l sc _ _ fun y hy=>v y (by simp[hy]),Sm.fr x sc n h (v x (by simp)),quI,qt5]
theorem Sm.fr1:∀(l:List Sm) (sc:Scs) (n:Nat) (h:coP.H),(∀x,x∈l→(Pa.st x).valid nm=true)→fsto (Sm.hs1 coP sc n h l)=fsto h++(Sm.occl (Sm.w1 f sc n l)).filter nm
 | [],_,_,h,_=>by simp[Sm.hs1,Sm.w1,Sm.occl]
 | x::l,sc,n,h,v=>by
  rw[Sm.hs1,Sm.w1,Sm.occl,Sm.fr1 l sc _ _ fun y hy=>v y (by simp[hy]),Sm.fr x _ _ _ (v x (by simp)),qbp,quI,qt5]
end
theorem Sm.free_occ(s:Sm)(v:(Pa.st s).valid nm=true):fsto (s.wholeH coP coZ)=(s.whole f).occ.filter nm:=by
 have:=Sm.fr hf s [qad s.labels 0] (qad s.labels 0).length (enters coP coZ (qad s.labels 0)) v;refine this.trans ?_;show fsto (enters coP coZ (qad s.labels 0))++_=_;rw[qbp];rfl
end
end Go.Proofs.YtbifpocccfkhhaaGreatDoor


namespace Go.Proofs.YtbifpocccfkhhaaGreatDoor
open Go
def qhS(ks:List ByteArray):List ByteArray:=((ks.map fun k=>k.data.toList).mergeSort fun x y=>decide (x≤y)).map fun l=>⟨l.toArray⟩
theorem qhd(ks:List ByteArray):(qhS ks).length=ks.length:=by unfold qhS;simp
theorem qlv(h:coP.H)(sc:Scs)(t:ByteArray):(fsto (coP.clH h t sc)).length≤(fsto h).length+1:=by
 show (Prod.fst (coU h t sc)).length≤_;unfold coU fsto;cases sc.at t <;> simp
mutual
theorem Ex.frn(sc:Scs)(tg:Bool):∀(x:Ex) (h:coP.H),(fsto (Ex.hs coP sc tg h x)).length≤(fsto h).length+(Pa.ex x).size
 | .mk k o n m e t a,h=>by
  have ha:=Ex.frnl sc false a h;have hz:=Pa.size_eq (.ex (.mk k o n m e t a));simp only[Pa.own,Pa.kids,Ex.args] at hz;have hc:=qlv (Ex.hsl coP sc false h a) sc t;rw[Ex.hs,qph];split <;> omega
theorem Ex.frnl(sc:Scs)(tg:Bool):∀(l:List Ex) (h:coP.H),(fsto (Ex.hsl coP sc tg h l)).length≤(fsto h).length+qaB (l.map Pa.ex)
 | [],h=>by simp[Ex.hsl]
 | x::l,h=>by
  have h1:=Ex.frn sc tg x h;have h2:=Ex.frnl sc tg l (Ex.hs coP sc tg h x);rw[Ex.hsl,qud,sizes_cons];omega
end
theorem El.frnl(sc:Scs):∀(l:List El) (h:coP.H),(fsto (El.hsl coP sc h l)).length≤(fsto h).length+qaB (l.map Pa.el)
 | [],h=>by simp[El.hsl]
 | x::l,h=>by
  have h1:=Ex.frnl sc false x.exps h;have h2:=El.frnl sc l (Ex.hsl coP sc false h x.exps);have hz:=Pa.size_eq (.el x);simp only[Pa.kids] at hz;show (fsto (El.hsl coP sc (Ex.hsl coP sc false h x.exps) l)).length≤_;rw[qud,sizes_cons];omega
mutual
theorem Sm.frn:∀(s:Sm) (sc:Scs) (n:Nat) (h:coP.H),(fsto (Sm.hs coP sc n h s)).length≤(fsto h).length+(Pa.st s).size
 | .mk l k t g e el d b,sc,n,h=>by
  have hz:=Sm.size_parts' (.mk l k t g e el d b);simp only[Sm.labels,Sm.targets,Sm.exps,Sm.elems,Sm.decls,Sm.body] at hz;have e1:=Ex.frnl sc true g h;rw[Sm.hs];split
  ·have e2:=De.frnl d (qad (qag d b) n::sc) sc (n+(qad (qag d b) n).length) (enters coP (Ex.hsl coP sc true h g) (qad (qag d b) n));have e3:=Sm.frnl b (qad (qag d b) n::sc) (n+(qad (qag d b) n).length+De.nbl d) (De.hsl coP (qad (qag d b) n::sc) sc (n+(qad (qag d b) n).length) (enters coP (Ex.hsl coP sc true h g) (qad (qag d b) n)) d);rw[qbp] at e2;omega
  ·split
   ·have e3:=Sm.frnl b (qad (qak b) n::sc) (n+(qad (qak b) n).length) (enters coP (Ex.hsl coP sc true h g) (qad (qak b) n));rw[qbp] at e3;omega
   ·have e2:=Ex.frnl sc false e (Ex.hsl coP sc true h g);have e3:=El.frnl sc el (Ex.hsl coP sc false (Ex.hsl coP sc true h g) e);have e4:=Sm.frn1 b sc n (El.hsl coP sc (Ex.hsl coP sc false (Ex.hsl coP sc true h g) e) el);have hc:=qlv (Sm.hs1 coP sc n (El.hsl coP sc (Ex.hsl coP sc false (Ex.hsl coP sc true h g) e) el) b) sc t;rw[qpe];split <;> omega
theorem De.frn:∀(s:De) (own sc:Scs) (n:Nat) (h:coP.H),(fsto (De.hs coP own sc n h s)).length≤(fsto h).length+(Pa.de s).size
 | .mk k o t ns e fo b,own,sc,n,h=>by
  have hz:=De.size_parts' (.mk k o t ns e fo b);simp only[De.names,De.formals,De.exps,De.body] at hz;rw[De.hs];split
  ·have e1:=Ex.frnl own false e h;have e2:=Sm.frn1 b (qad (fo.map Fo.name) n::own) (n+(qad (fo.map Fo.name) n).length) (enters coP (Ex.hsl coP own false h e) (qad (fo.map Fo.name) n));rw[qbp] at e2;omega
  ·have e1:=Ex.frnl (if k=2 then sc else own) false e h;omega
theorem De.frnl:∀(l:List De) (own sc:Scs) (n:Nat) (h:coP.H),(fsto (De.hsl coP own sc n h l)).length≤(fsto h).length+qaB (l.map Pa.de)
 | [],_,_,_,h=>by simp[De.hsl]
 | x::l,own,sc,n,h=>by
  have h1:=De.frn x own sc n h;have h2:=De.frnl l own sc (n+De.nb x) (De.hs coP own sc n h x);rw[De.hsl,qud,sizes_cons];omega
theorem Sm.frnl:∀(l:List Sm) (sc:Scs) (n:Nat) (h:coP.H),(fsto (Sm.hsl coP sc n h l)).length≤(fsto h).length+qaB (l.map Pa.st)
 | [],_,_,h=>by simp[Sm.hsl]
 | x::l,sc,n,h=>by
  have h1:=Sm.frn x sc n h;have h2:=Sm.frnl l sc (n+Sm.nb x) (Sm.hs coP sc n h x);rw[Sm.hsl,qud,sizes_cons];omega
theorem Sm.frn1:∀(l:List Sm) (sc:Scs) (n:Nat) (h:coP.H),(fsto (Sm.hs1 coP sc n h l)).length≤(fsto h).length+qaB (l.map Pa.st)
 | [],_,_,h=>by simp[Sm.hs1]
 | x::l,sc,n,h=>by
  have h1:=Sm.frn x (qad x.labels n::sc) (n+(qad x.labels n).length) (enters coP h (qad x.labels n));have h2:=Sm.frn1 l sc (n+(qad x.labels n).length+Sm.nb x) (Sm.hs coP (qad x.labels n::sc) (n+(qad x.labels n).length) (enters coP h (qad x.labels n)) x);rw[qbp] at h1;rw[Sm.hs1,qud,sizes_cons];omega
end
theorem Sm.frees_len(s:Sm):(fsto (s.wholeH coP coZ)).length≤(Pa.st s).size:=by
 have:=Sm.frn s [qad s.labels 0] (qad s.labels 0).length (enters coP coZ (qad s.labels 0));rw[qbp] at this;have h0:(fsto coZ).length=0:=rfl;show (fsto (Sm.hs coP [qad s.labels 0] (qad s.labels 0).length (enters coP coZ (qad s.labels 0)) s)).length≤_;omega
theorem qgc:∀{l ks:List ByteArray},ks.Nodup→(l.foldl insK ks).Nodup
 | [],ks,h=>h
 | s::l,ks,h=>by
  refine qgc (l:=l) ?_;unfold insK;split
  ·exact h
  ·rename_i hs;exact List.nodup_append.2 ⟨h,by simp,fun a ha b hb=>by simp at hb;subst hb;rintro rfl;exact hs (qbA.2 ha)⟩
theorem qjK:∀{l ks:List ByteArray},(l.foldl insK ks).length≤ks.length+l.length
 | [],ks=>by simp
 | s::l,ks=>by
  have:=qjK (l:=l) (ks:=insK ks s);have h2:(insK ks s).length≤ks.length+1:=by unfold insK;split <;> simp
  rw[qvD,quy];omega
def Sm.frees(s:Sm):List ByteArray:=qhS ((fsto (s.wholeH coP coZ)).foldl insK [])
end Go.Proofs.YtbifpocccfkhhaaGreatDoor



namespace Go.Proofs.YtbifpocccfkhhaaGreatDoor
open Go
def ltB(a b:ByteArray):Prop:=a.data.toList<b.data.toList
theorem qik(a:ByteArray):¬ ltB a a:=List.lt_irrefl _
theorem qhp{a b c:ByteArray}(h:ltB a b)(g:ltB b c):ltB a c:=List.lt_trans h g
theorem qso{a b:ByteArray}(h:¬ ltB a b)(g:¬ ltB b a):a=b:=by
 have:=List.le_antisymm (List.not_lt.1 g) (List.not_lt.1 h);exact qvU (Array.ext' this)
theorem qjF:∀{l m:List ByteArray},l.Pairwise ltB→m.Pairwise ltB→(∀x,x∈l↔x∈m)→l=m
 | [],[],_,_,_=>rfl
 | [],y::m,_,_,h=>absurd ((h y).2 (by simp)) (by simp)
 | x::l,[],_,_,h=>absurd ((h x).1 (by simp)) (by simp)
 | x::l,y::m,hl,hm,h=>by
  have hl':=qvQ.1 hl;have hm':=qvQ.1 hm
  have hxy:x=y:=by
   by_cases hxy:x=y
   ·exact hxy
   ·have h1:x∈m:=(qum.1 ((h x).1 (by simp))).resolve_left hxy;have h2:y∈l:=(qum.1 ((h y).2 (by simp))).resolve_left (Ne.symm hxy);exact absurd (qhp (hm'.1 x h1) (hl'.1 y h2)) (qik y)
  subst hxy;congr 1;refine qjF hl'.2 hm'.2 fun z=>⟨fun hz=>?_,fun hz=>?_⟩
  ·rcases qum.1 ((h z).1 (qvj _ hz)) with rfl|hz'
   ·exact absurd (hl'.1 z hz) (qik z)
   ·exact hz'
  ·rcases qum.1 ((h z).2 (qvj _ hz)) with rfl|hz'
   ·exact absurd (hm'.1 z hz) (qik z)
   ·exact hz'
theorem qhB{ks:List ByteArray}{x:ByteArray}:x∈qhS ks↔x∈ks:=by
 unfold qhS;rw[qul];constructor
 ·rintro ⟨y,hy,rfl⟩;rw[List.mem_mergeSort] at hy;obtain ⟨k,hk,rfl⟩:=qul.1 hy;simpa using hk
 ·intro hx;exact ⟨x.data.toList,by rw[List.mem_mergeSort];exact quz hx,by simp⟩
theorem qku{ks:List ByteArray}(nd:ks.Nodup):(qhS ks).Pairwise ltB:=by
 unfold qhS;rw[List.pairwise_map];have tr:∀a b c:List UInt8,decide (a≤b)=true→decide (b≤c)=true→decide (a≤c)=true:=fun a b c h1 h2=>by simp only[decide_eq_true_eq] at *;exact List.le_trans h1 h2
 have to:∀a b:List UInt8,(decide (a≤b) || decide (b≤a))=true:=fun a b=>by simp only[qvK,decide_eq_true_eq];exact List.le_total a b
 have h1:=List.pairwise_mergeSort tr to (ks.map fun k=>k.data.toList)
 have h2:((ks.map fun k=>k.data.toList).mergeSort fun x y=>decide (x≤y)).Nodup:=by
  refine ((List.mergeSort_perm _ _).nodup_iff).2 ?_;exact List.Pairwise.map _ (fun a b hab hh=>hab (qvU (Array.ext' hh))) nd
 refine (h1.and h2).imp ?_;rintro a b ⟨h3,h4⟩;show a<b;simp only[decide_eq_true_eq] at h3;by_cases hlt:a<b
 ·exact hlt
 ·exact absurd (List.le_antisymm h3 (List.not_lt.1 hlt)) h4
def insS:List ByteArray→ByteArray→List ByteArray
 | [],x=>[x]
 | y::l,x=>open Classical in if ltB y x then y::insS l x else if y=x then y::l else x::y::l
theorem qg5{x z:ByteArray}:∀{l:List ByteArray},z∈insS l x↔z∈l∨z=x
 | []=>by simp[insS]
 | y::l=>by
  unfold insS;split
  ·rw[qum,qg5,qum,or_assoc]
  ·split
   ·rename_i h;subst h;simp only[qum];exact ⟨.inl,fun h=>h.elim id fun h=>.inl h⟩
   ·simp only[qum];constructor
    ·rintro (h|h|h)
     ·exact .inr h
     ·exact .inl (.inl h)
     ·exact .inl (.inr h)
    ·rintro ((h|h)|h)
     ·exact .inr (.inl h)
     ·exact .inr (.inr h)
     ·exact .inl h
theorem qhP{x:ByteArray}:∀{l:List ByteArray},l.Pairwise ltB→(insS l x).Pairwise ltB
 | [],_=>by simp[insS]
 | y::l,h=>by
  have h':=qvQ.1 h;unfold insS;split
  ·rename_i hyx;refine qvQ.2 ⟨fun z hz=>?_,qhP h'.2⟩;rcases qg5.1 hz with hz|rfl
   ·exact h'.1 z hz
   ·exact hyx
  ·rename_i hyx;split
   ·exact h
   ·rename_i hne
    have hxy:ltB x y:=by
     by_cases hh:ltB x y
     ·exact hh
     ·exact absurd (qso hyx hh) hne
    refine qvQ.2 ⟨fun z hz=>?_,h⟩;rcases qum.1 hz with rfl|hz
    ·exact hxy
    ·exact qhp hxy (h'.1 z hz)
theorem qeq{z:ByteArray}:∀{l out:List ByteArray},out.Pairwise ltB→(l.foldl insS out).Pairwise ltB∧(z∈l.foldl insS out↔z∈out∨z∈l)
 | [],out,h=>⟨h,by simp⟩
 | x::l,out,h=>by
  obtain ⟨h1,h2⟩:=qeq (z:=z) (l:=l) (qhP (x:=x) h);refine ⟨h1,?_⟩;rw[qvD,h2,qg5,qum,or_assoc]
theorem qil{l ks:List ByteArray}(nd:ks.Nodup)(h:∀x,x∈l↔x∈ks):l.foldl insS []=qhS ks:=
 qjF (qeq (z:=⟨⟨[]⟩⟩) List.Pairwise.nil).1 (qku nd) fun x=>by
  rw[(qeq (z:=x) List.Pairwise.nil).2,qhB,h];simp
theorem Gr.appE{sz n0 bytes:Nat}{xs ys:List V}{v x:V}{S:St}(h:Gr sz n0 xs v S)(hx:elems S x=some ys)(hy:fits sz ys=true)(hr:(xs.length+ys.length) * bytes≤2 ^ 47)(hn:n0≤S.length):
  ∃v' S',appS S sz bytes v x=some (v',S')∧Gr sz n0 (xs++ys) v' S'∧S.length≤S'.length∧(∀l o,S[l]?=some o→(∀n,v≠.arr l 0 n n)→S'[l]?=some o)∧(∀l n,v'=.arr l 0 n n→(∃m,v=.arr l 0 m m)∨S.length≤l):=by
 rcases h with ⟨rfl,rfl⟩|⟨l,wr,h1,rfl,h3,h4⟩
 ·by_cases he:ys=[]
  ·subst he;refine ⟨.sl true [],S,?_,.inl ⟨rfl,rfl⟩,qt1 _,fun _ _ h _=>h,fun l n h=>by cases h⟩;unfold appS;rw[hx];rfl
  ·have hei:ys.isEmpty=false:=by cases ys with
    | nil=>exact absurd rfl he
    | cons=>rfl
   refine ⟨.arr S.length 0 ys.length ys.length,S++[.arr ys sz ys.length],?_,.inr ⟨S.length,ys.length,hn,by simp,by simp,by simp⟩,by simp,fun l o ho _=>gp ho,fun l n h=>.inr (by injection h;omega)⟩;unfold appS;rw[hx];have hc:true=true∧fits sz ys=true∧(([]:List V).all fun v=>v.size==sz)=true∧(([]:List V).length+ys.length) * bytes≤2 ^ 47:=⟨rfl,hy,rfl,hr⟩;show (if ys.isEmpty=true then _ else _)=_;rw[if_neg (by rw[hei];simp),if_pos hc];simp
 ·have hc:0=0∧xs.length=xs.length∧xs.length=xs.length∧sz=sz∧fits sz ys=true∧(xs.length+ys.length) * bytes≤2 ^ 47:=⟨rfl,rfl,rfl,rfl,hy,hr⟩;have hlt:l<S.length:=(qtV.1 h3).1;refine ⟨.arr l 0 (xs.length+ys.length) (xs.length+ys.length),S.set l (.arr (xs++ys) sz wr),?_,.inr ⟨l,wr,h1,by simp,by rw[qtZ hlt],by simp;omega⟩,by simp,fun k o ho hk=>?_,fun k n h=>.inl ?_⟩
  ·unfold appS;rw[hx];show (match S[l]? with|_=>_)=_;rw[h3];show (if _ then _ else _)=_;rw[if_pos hc]
  ·rw[qtY]
   ·exact ho
   ·rintro rfl;exact hk _ rfl
  ·injection h with h;subst h;exact ⟨_,rfl⟩
theorem qma{x:ByteArray}:∀(l:List ByteArray) (k:Nat),k≤l.length→(∀j y,j<k→l[j]?=some y→ltB y x)→(∀y,l[k]?=some y→¬ ltB y x)→insS l x=if l[k]?=some x then l else l.take k++x::l.drop k
 | [],k,hk,_,_=>by
  have:k=0:=by simpa using hk
  subst this;simp[insS]
 | y::l,0,_,_,h2=>by
  have hy:=h2 y rfl;unfold insS;rw[if_neg hy];by_cases h:y=x
  ·subst h;simp
  ·simp[h]
 | y::l,k+1,hk,h1,h2=>by
  have hy:=h1 0 y (by omega) rfl;have ih:=qma l k (by simpa using hk) (fun j z hj hz=>h1 (j+1) z (by omega) (by simpa using hz)) (fun z hz=>h2 z (by simpa using hz));unfold insS;rw[if_pos hy,ih];simp only[qu0,List.take_succ_cons,List.drop_succ_cons,qt8];split <;> rfl
end Go.Proofs.YtbifpocccfkhhaaGreatDoor
end
