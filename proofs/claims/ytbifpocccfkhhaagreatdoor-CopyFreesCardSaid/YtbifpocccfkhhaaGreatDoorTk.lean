/- A part. -/
import Derived.Test.YtbifpocccfkhhaaGreatDoorTj
import Derived.Test.YtbifpocccfkhhaaGreatDoorTg
set_option linter.all false
noncomputable section
namespace Go.Proofs.YtbifpocccfkhhaaGreatDoor
open Go
section
variable {p:Pw} {f:Nat→Bz} (hn:p.nm=none) (hc:p.cl=none) (hf:∀k x,p.f k x=f k)
include hf
theorem Yl(sc:Scs)(x:Bz):ZO p sc x=zK f sc x:=by
 unfold ZO zK;cases sc.at x <;> simp[hf]
theorem Yh(sc:Scs)(l:List Bz):l.map (ZO p sc)=l.map (zK f sc):=qqf fun x _=>Yl hf sc x
include hn
mutual
theorem Ex.wr_w(sc:Scs)(tg:Bool):∀x:Ex,x.wr p sc tg=x.w f sc
 | .mk k o n m e t a=>by
  rw[Ex.wr,Ex.w,Ex.wrl_w sc false a];unfold Pw.nmE;rw[hn];simp only[Ex.kind,Ex.op,Ex.n,Ex.man,Ex.exp,Ex.text,Ex.args,Yl hf];split <;> rfl
theorem Ex.wrl_w(sc:Scs)(tg:Bool):∀l:List Ex,Ex.wrl p sc tg l=Ex.wl f sc l
 | []=>rfl
 | x::l=>by rw[Ex.wrl,Ex.wl,Ex.wr_w sc tg x,Ex.wrl_w sc tg l]
end
theorem El.wr_w(sc:Scs)(e:El):e.wr p sc=e.w f sc:=by
 unfold El.wr El.w;rw[Ex.wrl_w hn hf,Ex.wl_map]
theorem Fo.wr_w(sc:Scs)(x:Fo):x.wr p sc=x.w f sc:=by
 unfold Fo.wr Fo.w;rw[Yl hf]
end
theorem Sm.valid_block{nm:Bz→Bool}{l:List Bz}{k:Int}{t:Bz}{g e:List Ex}{h:List El}{d:List De}{b:List Sm}(v:(Pa.st (.mk l k t g e h d b)).valid nm=true):
  (k=7→g=[]∧e=[]∧h=[])∧(k=8→g=[]∧e=[]∧h=[]∧d=[])∧(k≠7→k≠8→d=[]):=by
 have h1:=(Pa.valid_iff.1 v).1;simp only[Pa.vOwn,Sm.vOwn,qpy] at h1;have h1:=h1.2;refine ⟨?_,?_,?_⟩
 ·rintro rfl;simp at h1;simp[h1]
 ·rintro rfl;simp at h1;simp[h1]
 ·intro h7 h8
  repeat' split at h1
  all_goals first
   | (simp at h1;done)
   | (simp at h1;simp[h1];done)
   | omega
theorem De.valid_proc{nm:Bz→Bool}{k:Int}{o:Bool}{t:Int}{n:List Bz}{e:List Ex}{f:List Fo}{b:List Sm}(v:(Pa.de (.mk k o t n e f b)).valid nm=true):
  (k=4→e=[])∧(k≠4→f=[]∧b=[]):=by
 have h1:=(Pa.valid_iff.1 v).1;simp only[Pa.vOwn,De.vOwn,qpy] at h1;have h1:=h1.2;refine ⟨?_,?_⟩
 ·rintro rfl;simp at h1;simp[h1]
 ·intro h4
  repeat' split at h1
  all_goals first
   | (simp at h1;done)
   | (simp at h1;simp[h1];done)
   | omega
section
variable {p:Pw} {f:Nat→Bz} (hn:p.nm=none) (hc:p.cl=none) (hf:∀k x,p.f k x=f k) {nm:Bz→Bool}
include hn hc hf
mutual
theorem Sm.wr_w:∀(s:Sm) (sc:Scs) (n:Nat),(Pa.st s).valid nm=true→s.wr p sc n=s.w f sc n
 | .mk l k t g e h d b,sc,n,v=>by
  obtain ⟨v7,v8,v9⟩:=Sm.valid_block v;have vd:=Sm.valid_decls v;have vb:=Sm.valid_body v;simp only[Sm.decls,Sm.body] at vd vb;rw[Sm.wr,Sm.w];by_cases h7:k=7
  ·obtain ⟨rfl,rfl,rfl⟩:=v7 h7;rw[if_pos h7,if_pos h7,Yh hf,De.wrl_w d _ _ _ vd,Sm.wrl_w b _ _ vb];rfl
  ·rw[if_neg h7,if_neg h7];by_cases h8:k=8
   ·obtain ⟨rfl,rfl,rfl,rfl⟩:=v8 h8;rw[if_pos h8,if_pos h8,Yh hf,Sm.wrl_w b _ _ vb];rfl
   ·obtain rfl:=v9 h7 h8;have hcl:p.clE sc k t=if k=6 then zK f sc t else t:=by unfold Pw.clE;rw[hc];simp only[Yl hf]
    rw[if_neg h8,if_neg h8,Yh hf,Ex.wrl_w hn hf,Ex.wrl_w hn hf,Sm.wr1_w b _ _ vb,hcl,qqf fun x _=>El.wr_w hn hf sc x]
theorem De.wr_w:∀(s:De) (own sc:Scs) (n:Nat),(Pa.de s).valid nm=true→s.wr p own sc n=s.w f own sc n
 | .mk k o t ns e fo b,own,sc,n,v=>by
  obtain ⟨v4,v5⟩:=De.valid_proc v;have vb:=De.valid_body v;simp only[De.body] at vb;rw[De.wr,De.w];by_cases h4:k=4
  ·obtain rfl:=v4 h4;rw[if_pos h4,if_pos h4,Yh hf,Sm.wr1_w b _ _ vb,qqf fun x _=>Fo.wr_w hn hf _ x];rfl
  ·obtain ⟨rfl,rfl⟩:=v5 h4;rw[if_neg h4,if_neg h4,Yh hf,Ex.wrl_w hn hf]
theorem De.wrl_w:∀(l:List De) (own sc:Scs) (n:Nat),(∀x,x∈l→(Pa.de x).valid nm=true)→De.wrl p own sc n l=De.wl f own sc n l
 | [],_,_,_,_=>rfl
 | x::l,own,sc,n,v=>by rw[De.wrl,De.wl,De.wr_w x own sc n (v x (by simp)),De.wrl_w l own sc _ fun y hy=>v y (by simp[hy])]
theorem Sm.wrl_w:∀(l:List Sm) (sc:Scs) (n:Nat),(∀x,x∈l→(Pa.st x).valid nm=true)→Sm.wrl p sc n l=Sm.wl f sc n l
 | [],_,_,_=>rfl
 | x::l,sc,n,v=>by rw[Sm.wrl,Sm.wl,Sm.wr_w x sc n (v x (by simp)),Sm.wrl_w l sc _ fun y hy=>v y (by simp[hy])]
theorem Sm.wr1_w:∀(l:List Sm) (sc:Scs) (n:Nat),(∀x,x∈l→(Pa.st x).valid nm=true)→Sm.wr1 p sc n l=Sm.w1 f sc n l
 | [],_,_,_=>rfl
 | x::l,sc,n,v=>by rw[Sm.wr1,Sm.w1,Sm.wr_w x _ _ (v x (by simp)),Sm.wr1_w l sc _ fun y hy=>v y (by simp[hy])]
end
theorem Sm.wholeR_w(s:Sm)(v:(Pa.st s).valid nm=true):s.wholeR p=s.whole f:=Sm.wr_w hn hc hf s _ _ v
end
def Pbd(N:Nat)(sc:Scs):Prop:=∀x k,sc.at x=some k→k<N
theorem kE(base:Nat):∀(l:List Bz) (s:Sco) (n:Nat),(∀e,e∈s→e.2<base+s.length)→n=base+s.length→∀e,e∈binds l s n→e.2<base+(binds l s n).length
 | [],s,n,h,_=>h
 | x::l,s,n,h,hn=>by
  simp only[binds];split
  ·exact kE base l s n h hn
  ·refine kE base l _ _ (fun e he=>?_) (by simp;omega);rcases qpr.1 he with he|he
   ·have:=h e he;simp;omega
   ·simp at he;subst he;simp;omega
theorem Pbd.bind{N:Nat}{sc:Scs}(h:Pbd N sc)(l:List Bz)(n:Nat)(hn:n+(qd l n).length≤N):Pbd N (qd l n::sc):=by
 intro x k hk;unfold Scs.at at hk
 cases ha:Sco.at (qd l n) x with
 | none=>rw[ha] at hk;exact h x k hk
 | some j=>
  rw[ha] at hk;cases hk;unfold Sco.at at ha;rw[qpq] at ha;obtain ⟨e,he,rfl⟩:=ha;have:=kE n l [] n (by simp) (by simp) e (qq9 he);unfold qd at hn;omega
structure RwOk(r:Rp)(g:Nat→Bz)(N:Nat):Prop where
 fresh:∀k,k<N→r.fresh[k]?=some (g k)
 fro:r.fro=[]
theorem z7(l:List Bz)(n:Nat):(qd l n).length=(qd l 0).length:=qx l n 0
section
variable {r:Rp} {g:Nat→Bz} {N:Nat} (ok:RwOk r g N) {nm:Bz→Bool}
include ok
theorem qcB(sc:Scs)(x:Bz):rmt r sc x=none:=by
 unfold rmt mt;rw[ok.fro];cases sc.at x <;> simp[mtL]
theorem ZZ{sc:Scs}(h:Pbd N sc)(x:Bz):qfy r sc x=zK g sc x:=by
 unfold qfy zK
 cases ha:sc.at x with
 | none=>rfl
 | some k=>simp[ok.fresh k (h x k ha)]
theorem ja{sc:Scs}(h:Pbd N sc)(x:Bz):qch r sc x=zK g sc x:=by
 unfold qch;rw[qcB ok];exact ZZ ok h x
theorem Z4{sc:Scs}(h:Pbd N sc)(l:List Bz):l.map (qfy r sc)=l.map (zK g sc):=qqf fun x _=>ZZ ok h x
mutual
theorem Ex.rw_w{sc:Scs}(h:Pbd N sc):∀x:Ex,(Pa.ex x).valid nm=true→x.rw r sc=x.w g sc
 | .mk k o n m e t a,v=>by
  have va:=Ex.valid_args v;simp only[Ex.args] at va;have h1:=(Pa.valid_iff.1 v).1;rw[Ex.rw,Ex.w,Ex.rwl_w h a va];by_cases h6:k=6
  ·subst h6;simp[Pa.vOwn,Ex.vOwn] at h1;obtain ⟨⟨⟨⟨_,rfl⟩,rfl⟩,rfl⟩,rfl,rfl⟩:=h1;rw[if_pos rfl,qcB ok,ZZ ok h];rfl
  ·rw[if_neg h6];by_cases h78:k=7∨k=8
   ·have:Ex.named k=true:=by unfold Ex.named;rcases h78 with rfl|rfl <;> rfl
    rw[if_pos h78,this,ja ok h];rfl
   ·have:Ex.named k=false:=by unfold Ex.named;simp;omega
    rw[if_neg h78,this];rfl
theorem Ex.rwl_w{sc:Scs}(h:Pbd N sc):∀l:List Ex,(∀x,x∈l→(Pa.ex x).valid nm=true)→Ex.rwl r sc l=Ex.wl g sc l
 | [],_=>rfl
 | x::l,v=>by rw[Ex.rwl,Ex.wl,Ex.rw_w h x (v x (by simp)),Ex.rwl_w h l fun y hy=>v y (by simp[hy])]
end
theorem El.rw_w{sc:Scs}(h:Pbd N sc)(e:El)(v:(Pa.el e).valid nm=true):e.rw r sc=e.w g sc:=by
 unfold El.rw El.w;rw[Ex.rwl_w ok h e.exps fun x hx=>(Pa.valid_iff.1 v).2 _ (by simp only[Pa.kids,qpE];exact ⟨x,hx,rfl⟩),Ex.wl_map]
theorem Fo.rw_w{sc:Scs}(h:Pbd N sc)(x:Fo):x.rw r sc=x.w g sc:=by
 unfold Fo.rw Fo.w;rw[ZZ ok h]
mutual
theorem Sm.rw_w:∀(s:Sm) (sc:Scs) (n:Nat),Pbd N sc→n+s.nb≤N→(Pa.st s).valid nm=true→s.rw r sc n=s.w g sc n
 | .mk l k t gs e hh d b,sc,n,h,hN,v=>by
  obtain ⟨v7,v8,v9⟩:=Sm.valid_block v;have vd:=Sm.valid_decls v;have vb:=Sm.valid_body v;have vg:=Sm.valid_targets v;have ve:=Sm.valid_exps v;have vh:=Sm.valid_elems v;simp only[Sm.decls,Sm.body,Sm.targets,Sm.exps,Sm.elems] at vd vb vg ve vh;rw[Sm.nb] at hN;rw[Sm.rw,Sm.w];by_cases h7:k=7
  ·rw[if_pos h7] at hN;obtain ⟨rfl,rfl,rfl⟩:=v7 h7;have hb:=z7 (qe d b) n;have h':=h.bind (qe d b) n (by omega);rw[if_pos h7,if_pos h7,Z4 ok h,De.rwl_w d _ _ _ h' h (by omega) vd,Sm.rwl_w b _ _ h' (by omega) vb]
  ·rw[if_neg h7] at hN;rw[if_neg h7,if_neg h7];by_cases h8:k=8
   ·rw[if_pos h8] at hN;obtain ⟨rfl,rfl,rfl,rfl⟩:=v8 h8;have hb:=z7 (qk b) n;rw[if_pos h8,if_pos h8,Z4 ok h,Sm.rwl_w b _ _ (h.bind (qk b) n (by omega)) (by omega) vb]
   ·rw[if_neg h8] at hN;obtain rfl:=v9 h7 h8;rw[if_neg h8,if_neg h8,Z4 ok h,Ex.rwl_w ok h gs vg,Ex.rwl_w ok h e ve,Sm.rw1_w b _ _ h (by omega) vb,qqf fun x hx=>El.rw_w ok h x (vh x hx),ja ok h]
theorem De.rw_w:∀(s:De) (own sc:Scs) (n:Nat),Pbd N own→Pbd N sc→n+s.nb≤N→(Pa.de s).valid nm=true→s.rw r own sc n=s.w g own sc n
 | .mk k o t ns e fo b,own,sc,n,h,h2,hN,v=>by
  obtain ⟨v4,v5⟩:=De.valid_proc v;have vb:=De.valid_body v;have ve:=De.valid_exps v;simp only[De.body,De.exps] at vb ve;rw[De.nb] at hN;rw[De.rw,De.w];by_cases h4:k=4
  ·rw[if_pos h4] at hN;obtain rfl:=v4 h4;have hb:=z7 (fo.map Fo.name) n;have h':=h.bind (fo.map Fo.name) n (by omega);rw[if_pos h4,if_pos h4,Z4 ok h,Sm.rw1_w b _ _ h' (by omega) vb,qqf fun x _=>Fo.rw_w ok h' x];rfl
  ·obtain ⟨rfl,rfl⟩:=v5 h4;have h':Pbd N (if k=2 then sc else own):=by split <;> assumption
   rw[if_neg h4,if_neg h4,Z4 ok h,Ex.rwl_w ok h' e ve]
theorem De.rwl_w:∀(l:List De) (own sc:Scs) (n:Nat),Pbd N own→Pbd N sc→n+De.nbl l≤N→(∀x,x∈l→(Pa.de x).valid nm=true)→De.rwl r own sc n l=De.wl g own sc n l
 | [],_,_,_,_,_,_,_=>rfl
 | x::l,own,sc,n,h,h2,hN,v=>by
  rw[De.nbl] at hN;rw[De.rwl,De.wl,De.rw_w x own sc n h h2 (by omega) (v x (by simp)),De.rwl_w l own sc _ h h2 (by omega) fun y hy=>v y (by simp[hy])]
theorem Sm.rwl_w:∀(l:List Sm) (sc:Scs) (n:Nat),Pbd N sc→n+Sm.nbl l≤N→(∀x,x∈l→(Pa.st x).valid nm=true)→Sm.rwl r sc n l=Sm.wl g sc n l
 | [],_,_,_,_,_=>rfl
 | x::l,sc,n,h,hN,v=>by
  rw[Sm.nbl] at hN;rw[Sm.rwl,Sm.wl,Sm.rw_w x sc n h (by omega) (v x (by simp)),Sm.rwl_w l sc _ h (by omega) fun y hy=>v y (by simp[hy])]
theorem Sm.rw1_w:∀(l:List Sm) (sc:Scs) (n:Nat),Pbd N sc→n+Sm.nb1 l≤N→(∀x,x∈l→(Pa.st x).valid nm=true)→Sm.rw1 r sc n l=Sm.w1 g sc n l
 | [],_,_,_,_,_=>rfl
 | x::l,sc,n,h,hN,v=>by
  rw[Sm.nb1] at hN;have hb:=z7 x.labels n;rw[Sm.rw1,Sm.w1,Sm.rw_w x _ _ (h.bind x.labels n (by omega)) (by omega) (v x (by simp)),Sm.rw1_w l sc _ h (by omega) fun y hy=>v y (by simp[hy])]
end
end
theorem j8{l:List Bz}(h:okS l){f:Bz→Bz}(hf:∀x,x∈l→(f x).size≤B50):okS (l.map f):=by
 refine ⟨by rw[qps];exact h.1,fun s hs=>?_⟩;obtain ⟨x,hx,rfl⟩:=qpE.1 hs;exact hf x hx
theorem Sm.wl_len(f:Nat→Bz)(sc:Scs):∀(m:List Sm) (n:Nat),(Sm.wl f sc n m).length=m.length
 | [],_=>by rw[Sm.wl]
 | x::m,n=>by simp only[Sm.wl,qpF,Sm.wl_len f sc m]
theorem Sm.w1_len(f:Nat→Bz)(sc:Scs):∀(m:List Sm) (n:Nat),(Sm.w1 f sc n m).length=m.length
 | [],_=>by rw[Sm.w1]
 | x::m,n=>by simp only[Sm.w1,qpF,Sm.w1_len f sc m]
theorem De.wl_len(f:Nat→Bz)(own sc:Scs):∀(m:List De) (n:Nat),(De.wl f own sc n m).length=m.length
 | [],_=>by rw[De.wl]
 | x::m,n=>by simp only[De.wl,qpF,De.wl_len f own sc m]
section
variable {f:Nat→Bz} {N:Nat} (hf:∀k,k<N→(f k).size≤B50)
include hf
theorem Zc{sc:Scs}(h:Pbd N sc){x:Bz}(hx:x.size≤B50):(zK f sc x).size≤B50:=by
 unfold zK
 cases ha:sc.at x with
 | none=>exact hx
 | some k=>exact hf k (h x k ha)
mutual
theorem Ex.w_ok{sc:Scs}(h:Pbd N sc):∀x:Ex,x.ok→(x.w f sc).ok
 | .mk k o n m e t a,v=>by
  obtain ⟨h1,h2,h3⟩:=v;rw[Ex.w];refine ⟨?_,by rw[Ex.wl_map,qps];exact h2,Ex.wl_ok h a h3⟩;split
  ·exact Zc hf h h1
  ·exact h1
theorem Ex.wl_ok{sc:Scs}(h:Pbd N sc):∀l:List Ex,Ex.okL l→Ex.okL (Ex.wl f sc l)
 | [],_=>trivial
 | x::l,⟨h1,h2⟩=>⟨Ex.w_ok h x h1,Ex.wl_ok h l h2⟩
end
theorem El.w_ok{sc:Scs}(h:Pbd N sc)(e:El)(v:e.ok):(e.w f sc).ok:=by
 have:=Ex.wl_ok hf h e.exps v.2;rw[Ex.wl_map] at this;exact ⟨by unfold El.w;rw[qps];exact v.1,this⟩
mutual
theorem Sm.w_ok:∀(s:Sm) (sc:Scs) (n:Nat),Pbd N sc→n+s.nb≤N→s.ok→(s.w f sc n).ok
 | .mk l k t gs e hh d b,sc,n,h,hN,v=>by
  have V:=(Sm.ok_iff _).1 v;have hl:=j8 V.labels fun x hx=>Zc hf h (V.labels.2 x hx)
  rw[Sm.nb] at hN;rw[Sm.w];by_cases h7:k=7
  ·rw[if_pos h7] at hN;have hb:=z7 (qe d b) n;have h':=h.bind (qe d b) n (by omega);rw[if_pos h7];refine (Sm.ok_iff _).2 ⟨hl,V.text,⟨qp0 _,trivial⟩,⟨qp0 _,trivial⟩,⟨qp0 _,fun x hx=>by cases hx⟩,⟨?_,De.wl_ok d _ _ _ h' h (by omega) V.decls.2⟩,?_,Sm.wl_ok b _ _ h' (by omega) V.body.2⟩
   ·have:=V.decls.1;simp only[Sm.decls] at this ⊢;rw[De.wl_len];exact this
   ·have:=V.body.1;simp only[Sm.body] at this ⊢;rw[Sm.wl_len];exact this
  ·rw[if_neg h7] at hN;rw[if_neg h7];by_cases h8:k=8
   ·rw[if_pos h8] at hN;have hb:=z7 (qk b) n;rw[if_pos h8];refine (Sm.ok_iff _).2 ⟨hl,V.text,⟨qp0 _,trivial⟩,⟨qp0 _,trivial⟩,⟨qp0 _,fun x hx=>by cases hx⟩,⟨qp0 _,trivial⟩,?_,Sm.wl_ok b _ _ (h.bind _ _ (by omega)) (by omega) V.body.2⟩;have:=V.body.1;simp only[Sm.body] at this ⊢;rw[Sm.wl_len];exact this
   ·rw[if_neg h8] at hN;rw[if_neg h8];refine (Sm.ok_iff _).2 ⟨hl,?_,⟨?_,Ex.wl_ok hf h gs V.targets.2⟩,⟨?_,Ex.wl_ok hf h e V.exps.2⟩,⟨?_,?_⟩,⟨qp0 _,trivial⟩,?_,Sm.w1_ok b _ _ h (by omega) V.body.2⟩
    ·have:=V.text;simp only[Sm.text] at this ⊢;split
     ·exact Zc hf h this
     ·exact this
    ·have:=V.targets.1;simp only[Sm.targets] at this ⊢;rw[Ex.wl_map,qps];exact this
    ·have:=V.exps.1;simp only[Sm.exps] at this ⊢;rw[Ex.wl_map,qps];exact this
    ·have:=V.elems.1;simp only[Sm.elems] at this ⊢;rw[qps];exact this
    ·intro x hx;simp only[Sm.elems] at hx;obtain ⟨y,hy,rfl⟩:=qpE.1 hx;exact El.w_ok hf h y (V.elems.2 y hy)
    ·have:=V.body.1;simp only[Sm.body] at this ⊢;rw[Sm.w1_len];exact this
theorem De.w_ok:∀(s:De) (own sc:Scs) (n:Nat),Pbd N own→Pbd N sc→n+s.nb≤N→s.ok→(s.w f own sc n).ok
 | .mk k o t ns e fo b,own,sc,n,h,h2,hN,v=>by
  have V:=(De.ok_iff _).1 v;have hl:=j8 V.names fun x hx=>Zc hf h (V.names.2 x hx)
  rw[De.nb] at hN;rw[De.w];by_cases h4:k=4
  ·rw[if_pos h4] at hN;have hb:=z7 (fo.map Fo.name) n;have h':=h.bind (fo.map Fo.name) n (by omega);rw[if_pos h4];refine (De.ok_iff _).2 ⟨hl,⟨qp0 _,trivial⟩,⟨?_,?_⟩,?_,Sm.w1_ok b _ _ h' (by omega) V.body.2⟩
   ·have:=V.formals.1;simp only[De.formals] at this ⊢;rw[qps];exact this
   ·intro x hx;simp only[De.formals] at hx;obtain ⟨y,hy,rfl⟩:=qpE.1 hx;exact Zc hf h' (V.formals.2 y hy)
   ·have:=V.body.1;simp only[De.body] at this ⊢;rw[Sm.w1_len];exact this
  ·have h':Pbd N (if k=2 then sc else own):=by split <;> assumption
   rw[if_neg h4];refine (De.ok_iff _).2 ⟨hl,⟨?_,Ex.wl_ok hf h' e V.exps.2⟩,⟨qp0 _,fun x hx=>by cases hx⟩,qp0 _,trivial⟩;have:=V.exps.1;simp only[De.exps] at this ⊢;rw[Ex.wl_map,qps];exact this
theorem De.wl_ok:∀(l:List De) (own sc:Scs) (n:Nat),Pbd N own→Pbd N sc→n+De.nbl l≤N→De.okL l→De.okL (De.wl f own sc n l)
 | [],_,_,_,_,_,_,_=>by rw[De.wl];exact trivial
 | x::l,own,sc,n,h,h2,hN,v=>by
  rw[De.nbl] at hN;rw[De.okL] at v;rw[De.wl,De.okL];exact ⟨De.w_ok x own sc n h h2 (by omega) v.1,De.wl_ok l own sc _ h h2 (by omega) v.2⟩
theorem Sm.wl_ok:∀(l:List Sm) (sc:Scs) (n:Nat),Pbd N sc→n+Sm.nbl l≤N→Sm.okL l→Sm.okL (Sm.wl f sc n l)
 | [],_,_,_,_,_=>by rw[Sm.wl];exact trivial
 | x::l,sc,n,h,hN,v=>by
  rw[Sm.nbl] at hN;rw[Sm.okL] at v;rw[Sm.wl,Sm.okL];exact ⟨Sm.w_ok x sc n h (by omega) v.1,Sm.wl_ok l sc _ h (by omega) v.2⟩
theorem Sm.w1_ok:∀(l:List Sm) (sc:Scs) (n:Nat),Pbd N sc→n+Sm.nb1 l≤N→Sm.okL l→Sm.okL (Sm.w1 f sc n l)
 | [],_,_,_,_,_=>by rw[Sm.w1];exact trivial
 | x::l,sc,n,h,hN,v=>by
  rw[Sm.nb1] at hN;rw[Sm.okL] at v;have hb:=z7 x.labels n;rw[Sm.w1,Sm.okL];exact ⟨Sm.w_ok x _ _ (h.bind x.labels n (by omega)) (by omega) v.1,Sm.w1_ok l sc _ h (by omega) v.2⟩
end
theorem Sm.whole_ok(s:Sm)(hN:Sm.nb1 [s]≤N)(v:s.ok):(s.whole f).ok:=by
 simp only[Sm.nb1,qri] at hN;have hb:Pbd N [qd s.labels 0]:=Pbd.bind (sc:=[]) (fun x k h=>by cases h) s.labels 0 (by omega);exact Sm.w_ok hf s _ _ hb (by omega) v
end
theorem qf9{l:List Ex}{deep n:Int}(h:n≤0):Ex.leftL l deep n≤0:=by
 unfold Ex.leftL;split
 ·omega
 ·rw[Ex.leftG_neg l deep n h];exact h
mutual
theorem Ex.left_size:∀(x:Ex) (deep n:Int),0<x.left deep n→x.left deep n=n - (Pa.ex x).size
 | .mk k o n' m e t a,deep,n,h=>by
  have hsz:(Pa.ex (.mk k o n' m e t a)).size=1+qJ (a.map Pa.ex):=by rw[Pa.size_eq];rfl
  rw[Ex.left] at h ⊢;split at h
  ·omega
  ·rename_i hd;rw[if_neg hd,Ex.leftG_size a _ _ h];omega
theorem Ex.leftG_size:∀(l:List Ex) (deep n:Int),0<Ex.leftG l deep n→Ex.leftG l deep n=n - qJ (l.map Pa.ex)
 | [],_,n,h=>by simp[Ex.leftG]
 | x::l,deep,n,h=>by
  rw[Ex.leftG] at h ⊢;split at h
  ·rename_i h0;rw[if_pos h0];by_cases hx:0<x.left deep n
   ·rw[Ex.leftG_size l _ _ h,Ex.left_size x deep n hx,qpv,sizes_cons];omega
   ·rw[Ex.leftG_neg l _ _ (by omega)] at h;omega
  ·omega
end
theorem Ex.leftL_size(l:List Ex)(deep n:Int)(h:0<Ex.leftL l deep n):Ex.leftL l deep n=n - qJ (l.map Pa.ex):=by
 unfold Ex.leftL at h ⊢;split at h
 ·omega
 ·rename_i hd;rw[if_neg hd,Ex.leftG_size l _ _ h]
theorem El.leftG_size:∀(l:List El) (deep n:Int),0<El.leftG l deep n→El.leftG l deep n=n - qJ (l.map Pa.el)
 | [],_,n,h=>by simp[El.leftG]
 | x::l,deep,n,h=>by
  have hsz:(Pa.el x).size=1+qJ (x.exps.map Pa.ex):=by rw[Pa.size_eq];rfl
  rw[El.leftG] at h ⊢;split at h
  ·rename_i h0;rw[if_pos h0];by_cases hx:0<Ex.leftL x.exps (deep+1) (n - 1)
   ·rw[El.leftG_size l _ _ h,Ex.leftL_size _ _ _ hx,qpv,sizes_cons];omega
   ·have:El.leftG l deep (Ex.leftL x.exps (deep+1) (n - 1))=Ex.leftL x.exps (deep+1) (n - 1):=by cases l <;> simp[El.leftG,hx]
    rw[this] at h;omega
  ·omega
theorem El.leftG_neg'{l:List El}{deep n:Int}(h:¬ 0<n):El.leftG l deep n=n:=by cases l <;> simp[El.leftG,h]
theorem De.leftG_neg'{l:List De}{deep n:Int}(h:¬ 0<n):De.leftG l deep n=n:=by cases l <;> simp[De.leftG,h]
theorem Sm.leftG_neg'{l:List Sm}{deep n:Int}(h:¬ 0<n):Sm.leftG l deep n=n:=by cases l <;> simp[Sm.leftG,h]
theorem Sm.size_parts'(s:Sm):(Pa.st s).size=1+s.labels.length+qJ (s.targets.map Pa.ex)+qJ (s.exps.map Pa.ex)+qJ (s.elems.map Pa.el)+qJ (s.decls.map Pa.de)+qJ (s.body.map Pa.st):=by
 rw[Pa.size_eq];simp only[Pa.own,Pa.kids,zg];omega
theorem De.size_parts'(d:De):(Pa.de d).size=1+d.names.length+d.formals.length+qJ (d.exps.map Pa.ex)+qJ (d.body.map Pa.st):=by
 rw[Pa.size_eq];simp only[Pa.own,Pa.kids,zg];omega
mutual
theorem Sm.left_size:∀(s:Sm) (deep n:Int),0<s.left deep n→s.left deep n=n - (Pa.st s).size
 | .mk l k t g e f d b,deep,n,h=>by
  have hsz:=Sm.size_parts' (.mk l k t g e f d b);simp only[Sm.labels,Sm.targets,Sm.exps,Sm.elems,Sm.decls,Sm.body] at hsz;rw[Sm.left] at h ⊢;split at h
  ·omega
  ·rename_i hd;rw[if_neg hd];have h5:=Sm.leftG_size b _ _ h
   have h4:0<De.leftG d deep (El.leftG f deep (Ex.leftL g (deep+1) (Ex.leftL e (deep+1) (n - 1 - l.length)))):=by
    by_cases hh:0<De.leftG d deep (El.leftG f deep (Ex.leftL g (deep+1) (Ex.leftL e (deep+1) (n - 1 - l.length))))
    ·exact hh
    ·rw[Sm.leftG_neg' hh] at h;exact h
   have h4':=De.leftG_size d _ _ h4
   have h3:0<El.leftG f deep (Ex.leftL g (deep+1) (Ex.leftL e (deep+1) (n - 1 - l.length))):=by
    by_cases hh:0<El.leftG f deep (Ex.leftL g (deep+1) (Ex.leftL e (deep+1) (n - 1 - l.length)))
    ·exact hh
    ·rw[De.leftG_neg' hh] at h4;exact h4
   have h3':=El.leftG_size f _ _ h3
   have h2:0<Ex.leftL g (deep+1) (Ex.leftL e (deep+1) (n - 1 - l.length)):=by
    by_cases hh:0<Ex.leftL g (deep+1) (Ex.leftL e (deep+1) (n - 1 - l.length))
    ·exact hh
    ·rw[El.leftG_neg' hh] at h3;exact h3
   have h2':=Ex.leftL_size g _ _ h2
   have h1:0<Ex.leftL e (deep+1) (n - 1 - l.length):=by
    by_cases hh:0<Ex.leftL e (deep+1) (n - 1 - l.length)
    ·exact hh
    ·have:=qf9 (l:=g) (deep:=deep+1) (n:=Ex.leftL e (deep+1) (n - 1 - l.length)) (by omega);omega
   have h1':=Ex.leftL_size e _ _ h1;omega
theorem De.left_size:∀(s:De) (deep n:Int),0<s.left deep n→s.left deep n=n - (Pa.de s).size
 | .mk k o t nm e f b,deep,n,h=>by
  have hsz:=De.size_parts' (.mk k o t nm e f b);simp only[De.names,De.formals,De.exps,De.body] at hsz;rw[De.left] at h ⊢;have h5:=Sm.leftG_size b _ _ h
  have h1:0<Ex.leftL e (deep+1) (n - 1 - nm.length - f.length):=by
   by_cases hh:0<Ex.leftL e (deep+1) (n - 1 - nm.length - f.length)
   ·exact hh
   ·rw[Sm.leftG_neg' hh] at h;exact h
  have h1':=Ex.leftL_size e _ _ h1;omega
theorem De.leftG_size:∀(l:List De) (deep n:Int),0<De.leftG l deep n→De.leftG l deep n=n - qJ (l.map Pa.de)
 | [],_,n,h=>by simp[De.leftG]
 | x::l,deep,n,h=>by
  rw[De.leftG] at h ⊢;split at h
  ·rename_i h0;rw[if_pos h0];by_cases hx:0<x.left deep n
   ·rw[De.leftG_size l _ _ h,De.left_size x deep n hx,qpv,sizes_cons];omega
   ·rw[De.leftG_neg' hx] at h;omega
  ·omega
theorem Sm.leftG_size:∀(l:List Sm) (deep n:Int),0<Sm.leftG l deep n→Sm.leftG l deep n=n - qJ (l.map Pa.st)
 | [],_,n,h=>by simp[Sm.leftG]
 | x::l,deep,n,h=>by
  rw[Sm.leftG] at h ⊢;split at h
  ·rename_i h0;rw[if_pos h0];by_cases hx:0<x.left deep n
   ·rw[Sm.leftG_size l _ _ h,Sm.left_size x deep n hx,qpv,sizes_cons];omega
   ·rw[Sm.leftG_neg' hx] at h;omega
  ·omega
end
theorem YB:∀(l:List Bz) (s:Sco) (n:Nat),(binds l s n).length≤s.length+l.length
 | [],s,n=>by simp[binds]
 | x::l,s,n=>by
  simp only[binds];split
  ·have:=YB l s n;simp;omega
  ·have:=YB l (s++[(x,n)]) (n+1);simp at this ⊢;omega
theorem Jw(l:List Bz)(n:Nat):(qd l n).length≤l.length:=by have:=YB l [] n;simpa[qd] using this
theorem jY(x:Sm)(l:List Sm):(qk (x::l)).length=x.labels.length+(qk l).length:=by simp[qk]
theorem qaK(x:De)(l:List De):((x::l).flatMap De.names).length=x.names.length+(l.flatMap De.names).length:=by simp
mutual
theorem Sm.nb_size:∀s:Sm,s.labels.length+s.nb≤(Pa.st s).size
 | .mk l k t g e f d b=>by
  have hsz:=Sm.size_parts' (.mk l k t g e f d b);have hd:=De.nbl_size d;have hb:=Sm.nbl_size b;have h1:=Sm.nb1_size b;simp only[Sm.labels,Sm.targets,Sm.exps,Sm.elems,Sm.decls,Sm.body] at hsz ⊢;rw[Sm.nb];split
  ·have:=Jw (qe d b) 0;unfold qe at this ⊢;rw[qpw] at this;omega
  ·split
   ·have:=Jw (qk b) 0;omega
   ·omega
theorem De.nb_size:∀s:De,s.names.length+s.nb≤(Pa.de s).size
 | .mk k o t nm e f b=>by
  have hsz:=De.size_parts' (.mk k o t nm e f b);have h1:=Sm.nb1_size b;simp only[De.names,De.formals,De.exps,De.body] at hsz ⊢;rw[De.nb];split
  ·have:=Jw (f.map Fo.name) 0;rw[qps] at this;omega
  ·omega
theorem De.nbl_size:∀l:List De,(l.flatMap De.names).length+De.nbl l≤qJ (l.map Pa.de)
 | []=>by simp[De.nbl]
 | x::l=>by
  have h1:=De.nb_size x;have h2:=De.nbl_size l;rw[qaK,De.nbl,qpv,sizes_cons];omega
theorem Sm.nbl_size:∀l:List Sm,(qk l).length+Sm.nbl l≤qJ (l.map Pa.st)
 | []=>by simp[Sm.nbl,qk]
 | x::l=>by
  have h1:=Sm.nb_size x;have h2:=Sm.nbl_size l;rw[jY,Sm.nbl,qpv,sizes_cons];omega
theorem Sm.nb1_size:∀l:List Sm,Sm.nb1 l≤qJ (l.map Pa.st)
 | []=>by simp[Sm.nb1]
 | x::l=>by
  have h1:=Sm.nb_size x;have h2:=Sm.nb1_size l;have h3:=Jw x.labels 0;rw[Sm.nb1,qpv,sizes_cons];omega
end
theorem qh5(c:UInt8)(l:List UInt8):((⟨⟨[c]⟩⟩:Bz)++⟨l.toArray⟩).data.toList=c::l:=by
 simp[ByteArray.data_append]
theorem qlr{c:UInt8}{l:List UInt8}(h:isL c.toNat=false):qb ((⟨⟨[c]⟩⟩:Bz)++⟨l.toArray⟩)=false:=by
 unfold qb;rw[qh5];simp[qkq,h]
theorem Qk(k:Nat):qb (yT k)=false:=qlr (by decide)
theorem qe1(k:Nat)(hk:k<1000):(yT k).size≤B50:=by
 have:=YV k k (qpo _);unfold yT B50;have h1:(⟨⟨[35]⟩⟩:Bz).size=1:=rfl;have h2:(⟨(dig k).toArray⟩:Bz).size=(dig k).length:=by simp[ByteArray.size]
 rw[ByteArray.size_append];omega
theorem ye{p:Pa}{nm:Bz→Bool}(h:p.err nm=0):p.fits∧p.valid nm=true:=by
 unfold Pa.err at h;split at h
 ·rename_i hf;split at h
  ·rename_i hv;exact ⟨hf,hv⟩
  ·omega
 ·omega
theorem jN{s:Sm}(h:s.light=true):(Pa.st s).size<150:=by
 unfold Sm.light at h;rw[decide_eq_true_eq] at h;have:=Sm.left_size s 0 150 h;omega
theorem qmI{s:Sm}(h:s.light=true):Sm.nb1 [s]<150:=by
 have h1:=jN h;have h2:=Sm.nb1_size [s];simp at h2;omega
theorem Q8{s:Sm}(v:(Pa.st s).valid qb=true):s.wholeR (nuP yT)=s.whole yT:=Sm.wholeR_w rfl rfl (fun _ _=>rfl) s v
end Go.Proofs.YtbifpocccfkhhaaGreatDoor
namespace Go.Proofs.YtbifpocccfkhhaaGreatDoor
open Go Go.ChangeShapes Go.WideShapes Go.ChangeAt Go.RowKit
def CR(W:World)(vs:List V)(cs:List Value):Prop:=vs.length=cs.length∧∀(j:Nat) (v:V) (c:Value),vs[j]?=some v→cs[j]?=some c→VR (E0 W) v c
def Fitw{H:Type}(t:TypeId)(d:DataW H):Prop:=∀n,n∈d.weights Tryz.prog t→n≤reachBytes
theorem reach_le{n:Nat}(h:n≤reachBytes):n≤B50:=by unfold reachBytes at h;unfold B50;omega
section
variable {H:Type} {enc:TypeId×Value→H} {W:World}
theorem weightsAll_mem{e:TypeId}{n:Nat}:∀{l:List (DataW H)} {d:DataW H},d∈l→n∈d.weights Tryz.prog e→n∈DataW.weightsAll Tryz.prog e l
 | x::l,d,hd,hn=>by
  rw[DataW.weightsAll];rcases qpJ.1 hd with rfl|hd
  ·exact qpx _ hn
  ·exact qpA _ (weightsAll_mem hd hn)
theorem weightsEach_mem{n:Nat}:∀{ts:List TypeId} {l:List (DataW H)} {i:Nat} {t:TypeId} {d:DataW H},ts[i]?=some t→l[i]?=some d→n∈d.weights Tryz.prog t→n∈DataW.weightsEach Tryz.prog ts l
 | t0::ts,d0::l,0,t,d,ht,hd,hn=>by
  simp at ht hd;subst ht;subst hd;rw[DataW.weightsEach];exact qpx _ hn
 | t0::ts,d0::l,i+1,t,d,ht,hd,hn=>by
  rw[DataW.weightsEach];exact qpA _ (weightsEach_mem (i:=i) (by simpa using ht) (by simpa using hd) hn)
theorem Fitw.part{t:TypeId}{fs:Array Field}(ht:Tryz.prog.underlying t=some (.struct fs)){l:List (DataW H)}(h:Fitw t (.agg l)){i:Nat}{f:Field}{d:DataW H}(hf:fs[i]?=some f)(hd:l[i]?=some d):Fitw f.type d:=fun n hn=>h n (by
 rw[DataW.weights,ht];exact weightsEach_mem (i:=i) (t:=f.type) (by simp[hf]) hd hn)
theorem Fitw.elem{t e:TypeId}(ht:Tryz.prog.underlying t=some (.slice e)){l r:List (DataW H)}(h:Fitw t (.slice l r)){d:DataW H}(hd:d∈l):Fitw e d:=fun n hn=>h n (by
 rw[DataW.weights,ht];exact qqc _ (qpx _ (weightsAll_mem hd hn)))
theorem Fitw.len{t e:TypeId}(ht:Tryz.prog.underlying t=some (.slice e))(hb:0<Tryz.prog.bytesOf e){l r:List (DataW H)}(h:Fitw t (.slice l r)):l.length≤B50:=by
 have:=h ((l.length+r.length) * Tryz.prog.bytesOf e) (by rw[DataW.weights,ht];exact qq7 ..);refine reach_le (qpV ?_ this)
 calc l.length≤(l.length+r.length) * 1:=by omega
  _≤_:=Nat.mul_le_mul_left _ hb
theorem spot_none{a:Addr}{v:Value}(h:W.cell? a=some v):a.spot=none:=by
 unfold World.cell? at h;split at h
 ·split at h
  ·cases h
  ·rename_i hs;simpa using hs
 ·cases h
theorem add_off{b o k:Nat}:(Addr.add ⟨b,o,none⟩ k)=⟨b,o+k,none⟩:=by
 unfold Addr.add;split
 ·rename_i h;subst h;rfl
 ·rfl
theorem slice_in{α:Type}(f:α→V)(ok:α→Prop){sz:Nat}(hsz:∀a,(f a).cells.length=sz)(hz:0<sz){t e:TypeId}(ht:Tryz.prog.underlying t=some (.slice e))(hc:Tryz.prog.cellsOf e=sz)(hb:0<Tryz.prog.bytesOf e){fuel:Nat}
  (hel:∀n,n<fuel→∀cs (x:DataW H×List MemPlace),DataW.trod enc Tryz.prog W 0 (fun _=>true) true n e cs=some x→Fitw e x.1→∃a,ok a∧CR W (f a).cells cs)
  {cs:List Value} {x:DataW H×List MemPlace} (h:DataW.trod enc Tryz.prog W 0 (fun _=>true) true fuel t cs=some x) (hw:Fitw t x.1):
  ∃l:List α,(∀a,a∈l→ok a)∧l.length≤B50∧∃v,cs=[v]∧VR (E0 W) (.sl false (l.map f)) v:=by
 rcases DataW.trod_slice ht h with ⟨rfl,_⟩|⟨a,len,cap,elems,rest,n,rfl,rfl,rfl,_,hl,_,hlen,h1,h2,_⟩
 ·exact ⟨[],fun a ha=>(by cases ha),qp0 _,_,rfl,.slnil _⟩
 obtain ⟨h2a,h2b⟩:=h2 rfl;rw[hc] at h1 h2b;have hle:=Fitw.len ht hb hw;rw[qps] at hle
 have each:∀i,i<len→∃b,ok b∧∃cs',W.cells? 0 (a.add (i * sz)) sz=some cs'∧CR W (f b).cells cs':=fun i hi=>by
  have hi':i<elems.length:=by omega
  have:=h1 i hi;rw[qpn hi',qp4] at this;obtain ⟨cs',k1,k2⟩:=this;obtain ⟨b,k3,k4⟩:=hel n (by omega) cs' _ k2 (Fitw.elem ht hw (qp2 (qpz hi')));exact ⟨b,k3,cs',k1,k4⟩
 by_cases hcap:cap=0
 ·have:len=0:=by omega
  subst hcap;subst this;exact ⟨[],fun a ha=>(by cases ha),qp0 _,_,rfl,.slz _ _⟩
 have hspot:a.spot=none:=by
  have read:∀cs',W.cells? 0 (a.add (0 * sz)) sz=some cs'→a.spot=none:=fun cs' k=>by
   obtain ⟨_,q1,q2⟩:=World.cells?_some k;have:=q2 0 hz;have hcs:0<cs'.length:=by omega
   rw[qpn hcs] at this;have:=spot_none this;simpa[Addr.add] using this
  by_cases h0:0<len
  ·obtain ⟨_,_,cs',k,_⟩:=each 0 h0;exact read cs' k
  ·have hl0:len=0:=by omega
   have:=h2b 0 (by omega);obtain ⟨y0,hy0⟩:∃y,rest[0]?=some y:=⟨_,qpn (by omega)⟩;rw[hy0,qp4] at this;obtain ⟨cs',k,_⟩:=this;rw[hl0] at k;exact read cs' (by simpa using k)
 obtain ⟨b,o,spot⟩:=a;simp only at hspot;subst hspot;obtain ⟨g,hg⟩:∃g:Fin len→α,∀i,ok (g i)∧∃cs',W.cells? 0 (Addr.add ⟨b,o,none⟩ (i.1 * sz)) sz=some cs'∧CR W (f (g i)).cells cs':=⟨fun i=>Classical.choose (each i.1 i.2),fun i=>Classical.choose_spec (each i.1 i.2)⟩;have hll:(List.ofFn g).length=len:=List.length_ofFn;have hl2:((List.ofFn g).map f).length=len:=by rw[qps,hll]
 have cell:∀i (hi:i<len) j,j<sz→∃c,W.cell? ⟨b,o+i * sz+j,none⟩=some c∧∀v,(f (g ⟨i,hi⟩)).cells[j]?=some v→VR (E0 W) v c:=fun i hi j hj=>by
  obtain ⟨_,cs',k1,k2,k3⟩:=hg ⟨i,hi⟩;obtain ⟨_,q1,q2⟩:=World.cells?_some k1;have q:=q2 j hj;have hj':j<cs'.length:=by omega
  rw[qpn hj',add_off,add_off] at q;exact ⟨_,q,fun v hv=>k3 j v _ hv (qpn hj')⟩
 refine ⟨List.ofFn g,fun a ha=>?_,by omega,_,rfl,?_⟩
 ·obtain ⟨i,rfl⟩:=List.mem_ofFn.1 ha;exact (hg i).1
 ·have:=@VR.sl (E0 W) false ((List.ofFn g).map f) b o cap sz (by omega) (fun h=>by cases h) (fun v hv=>?_) (fun i j hi hj=>?_) (fun i v j c' c hv hc hI=>?_)
  ·rw[hl2] at this;exact this
  ·obtain ⟨y,_,rfl⟩:=qpE.1 hv;exact hsz y
  ·rw[hl2] at hi;obtain ⟨c,hc,_⟩:=cell i hi j hj;simp only[E0,hc];rfl
  ·rw[qpt,qpq] at hv;obtain ⟨y,hy,rfl⟩:=hv;rw[List.getElem?_ofFn] at hy;split at hy
   ·rename_i hi;cases hy;have hj:j<sz:=by have:=(qpi.1 hc).1;rw[hsz] at this;exact this
    obtain ⟨c2,hc2,hv2⟩:=cell i hi j hj;simp only[E0,hc2] at hI;cases hI;exact hv2 _ hc
   ·cases hy
theorem piece{cs l:List Value}{o k i:Nat}(h:(cs.drop o).take k=l)(hi:i<k):cs[o+i]?=l[i]?:=by
 rw[←h,qpQ hi,qpU]
theorem CR_of{vs:List V}{cs:List Value}(hl:vs.length=cs.length)(h:∀(j:Nat) (v:V),vs[j]?=some v→∃c,cs[j]?=some c∧VR (E0 W) v c):CR W vs cs:=
 ⟨hl,fun j v c hv hc=>by
  obtain ⟨c',h1,h2⟩:=h j v hv;rw[h1] at hc;cases hc;exact h2⟩
theorem Ex.okL_of:∀{l:List Ex},(∀x,x∈l→x.ok)→Ex.okL l
 | [],_=>trivial
 | x::l,h=>⟨h x (by simp),Ex.okL_of fun y hy=>h y (by simp[hy])⟩
theorem De.okL_of:∀{l:List De},(∀x,x∈l→x.ok)→De.okL l
 | [],_=>by rw[De.okL];exact trivial
 | x::l,h=>by rw[De.okL];exact ⟨h x (by simp),De.okL_of fun y hy=>h y (by simp[hy])⟩
theorem Sm.okL_of:∀{l:List Sm},(∀x,x∈l→x.ok)→Sm.okL l
 | [],_=>by rw[Sm.okL];exact trivial
 | x::l,h=>by rw[Sm.okL];exact ⟨h x (by simp),Sm.okL_of fun y hy=>h y (by simp[hy])⟩
theorem kc3:Tryz.prog.cellsOf 3=1:=by kernel_rfl
theorem kc4t:Tryz.prog.cellsOf 4=1:=by kernel_rfl
theorem kc9:Tryz.prog.cellsOf 9=1:=by kernel_rfl
theorem kc22:Tryz.prog.cellsOf 22=1:=by kernel_rfl
theorem kc23:Tryz.prog.cellsOf 23=1:=by kernel_rfl
theorem kc24t:Tryz.prog.cellsOf 24=1:=by kernel_rfl
theorem kc25t:Tryz.prog.cellsOf 25=1:=by kernel_rfl
theorem kc26t:Tryz.prog.cellsOf 26=1:=by kernel_rfl
theorem kc40t:Tryz.prog.cellsOf 40=1:=by kernel_rfl
theorem kc52t:Tryz.prog.cellsOf 52=2:=by kernel_rfl
theorem kc54:Tryz.prog.cellsOf 54=7:=by kernel_rfl
theorem kc135t:Tryz.prog.cellsOf 135=2:=by kernel_rfl
theorem kc87t:Tryz.prog.cellsOf 87=4:=by kernel_rfl
theorem kc42t:Tryz.prog.cellsOf 42=7:=by kernel_rfl
theorem kc28t:Tryz.prog.cellsOf 28=8:=by kernel_rfl
theorem y9:0<Tryz.prog.bytesOf 9:=by decide+kernel
theorem y54:0<Tryz.prog.bytesOf 54:=by decide+kernel
theorem y135:0<Tryz.prog.bytesOf 135:=by decide+kernel
theorem y87:0<Tryz.prog.bytesOf 87:=by decide+kernel
theorem y42:0<Tryz.prog.bytesOf 42:=by decide+kernel
theorem y28:0<Tryz.prog.bytesOf 28:=by decide+kernel
theorem int_at{n o:Nat}{cs:List Value}{y:DataW H×List MemPlace}(h:DataW.trod enc Tryz.prog W 0 (fun _=>true) true n 3 ((cs.drop o).take (Tryz.prog.cellsOf 3))=some y):∃k,cs[o]?=some (.int .i64 k):=by
 obtain ⟨k,hk,_⟩:=DataW.trod_int Tryz.underlying3 h;rw[kc3] at hk;exact ⟨k,by have:=piece hk (i:=0) (by omega);simpa using this⟩
theorem bool_at{n o:Nat}{cs:List Value}{y:DataW H×List MemPlace}(h:DataW.trod enc Tryz.prog W 0 (fun _=>true) true n 4 ((cs.drop o).take (Tryz.prog.cellsOf 4))=some y):∃k,cs[o]?=some (.bool k):=by
 obtain ⟨k,hk,_⟩:=DataW.trod_bool Tryz.underlying4 h;rw[kc4t] at hk;exact ⟨k,by have:=piece hk (i:=0) (by omega);simpa using this⟩
theorem str_at{n o:Nat}{cs:List Value}{y:DataW H×List MemPlace}(h:DataW.trod enc Tryz.prog W 0 (fun _=>true) true n 9 ((cs.drop o).take (Tryz.prog.cellsOf 9))=some y)(hw:Fitw 9 y.1):∃s:ByteArray,cs[o]?=some (.string s)∧s.size≤B50:=by
 obtain ⟨k,hk,hy,_⟩:=DataW.trod_string Tryz.underlying9 h;rw[kc9] at hk;refine ⟨k,by have:=piece hk (i:=0) (by omega);simpa using this,?_⟩;have:=hw k.size (by rw[hy,DataW.weights];exact qql.2 (by rw[qqr];rfl));exact reach_le this
theorem slice_at{α:Type}(f:α→V)(ok:α→Prop){sz:Nat}(hsz:∀a,(f a).cells.length=sz)(hz:0<sz){t e:TypeId}(ht:Tryz.prog.underlying t=some (.slice e))(hc:Tryz.prog.cellsOf e=sz)(hb:0<Tryz.prog.bytesOf e)(h1:Tryz.prog.cellsOf t=1){n o:Nat}
  (hel:∀m,m<n→∀cs (x:DataW H×List MemPlace),DataW.trod enc Tryz.prog W 0 (fun _=>true) true m e cs=some x→Fitw e x.1→∃a,ok a∧CR W (f a).cells cs)
  {cs:List Value} {y:DataW H×List MemPlace} (h:DataW.trod enc Tryz.prog W 0 (fun _=>true) true n t ((cs.drop o).take (Tryz.prog.cellsOf t))=some y) (hw:Fitw t y.1):
  ∃l:List α,(∀a,a∈l→ok a)∧l.length≤B50∧∃v,cs[o]?=some v∧VR (E0 W) (.sl false (l.map f)) v:=by
 obtain ⟨l,k1,k2,v,k3,k4⟩:=slice_in f ok hsz hz ht hc hb hel h hw;rw[h1] at k3;exact ⟨l,k1,k2,v,by have:=piece k3 (i:=0) (by omega);simpa using this,k4⟩
theorem strs_el{n:Nat}:∀m,m<n→∀cs (x:DataW H×List MemPlace),DataW.trod enc Tryz.prog W 0 (fun _=>true) true m 9 cs=some x→Fitw 9 x.1→∃s:ByteArray,s.size≤B50∧CR W (V.str s).cells cs:=by
 intro m _ cs x h hw;obtain ⟨k,rfl,hy,_⟩:=DataW.trod_string Tryz.underlying9 h;refine ⟨k,reach_le (hw k.size (by rw[hy,DataW.weights];exact qql.2 (by rw[qqr];rfl))),rfl,fun j v c hv hc=>?_⟩
 match j,hv,hc with
 | 0,hv,hc=>simp at hv hc;subst hv;subst hc;exact .str k
theorem parts{t:TypeId}{fs:Array Field}(ht:Tryz.prog.underlying t=some (.struct fs)){fuel:Nat}{cs:List Value}{x:DataW H×List MemPlace}(h:DataW.trod enc Tryz.prog W 0 (fun _=>true) true fuel t cs=some x)(hw:Fitw t x.1):
  ∃n,n<fuel∧cs.length=Tryz.prog.cellsOf t∧∀(i:Nat) (f:Field),fs[i]?=some f→∃y:DataW H×List MemPlace,DataW.trod enc Tryz.prog W 0 (fun _=>true) true n f.type ((cs.drop f.offset).take (Tryz.prog.cellsOf f.type))=some y∧Fitw f.type y.1:=by
 obtain ⟨xs,n,rfl,rfl,h1,h2,h3⟩:=DataW.trod_struct ht h;refine ⟨n,by omega,h1,fun i f hf=>?_⟩
 have hi:i<xs.length:=by
  have:=(qpu.1 hf).1;omega
 have:=h3 i f hf;rw[qpn hi] at this;exact ⟨xs[i],this,Fitw.part ht hw hf (by simp[hi])⟩
theorem ex_in:∀(m fuel:Nat),fuel≤m→∀cs (x:DataW H×List MemPlace),DataW.trod enc Tryz.prog W 0 (fun _=>true) true fuel 54 cs=some x→Fitw 54 x.1→∃a:Ex,a.ok∧CR W a.v.cells cs
 | 0,fuel,hm,cs,x,h,hw=>by
  obtain ⟨n,hn,_⟩:=parts Tryz.underlying54 h hw;omega
 | m+1,fuel,hm,cs,x,h,hw=>by
  obtain ⟨n,hn,hl,hp⟩:=parts Tryz.underlying54 h hw;obtain ⟨y0,p0,q0⟩:=hp 0 _ rfl;obtain ⟨y1,p1,q1⟩:=hp 1 _ rfl;obtain ⟨y2,p2,q2⟩:=hp 2 _ rfl;obtain ⟨y3,p3,q3⟩:=hp 3 _ rfl;obtain ⟨y4,p4,q4⟩:=hp 4 _ rfl;obtain ⟨y5,p5,q5⟩:=hp 5 _ rfl;obtain ⟨k0,e0⟩:=int_at p0;obtain ⟨k1,e1⟩:=int_at p1;obtain ⟨k2,e2⟩:=int_at p2;obtain ⟨n3,hn3,hl3,hp3⟩:=parts Tryz.underlying52 p3 q3;obtain ⟨z0,r0,_⟩:=hp3 0 _ rfl;obtain ⟨z1,r1,_⟩:=hp3 1 _ rfl;obtain ⟨k3,e3⟩:=int_at r0;obtain ⟨k4,e4⟩:=int_at r1;obtain ⟨s,e5,hs⟩:=str_at p4 q4;obtain ⟨l,hlo,hll,v,e6,hv⟩:=slice_at Ex.v Ex.ok (sz:=7) (fun a=>by simp) (by omega) Tryz.underlying23 kc54 y54 kc23 (fun m' hm'=>ex_in m m' (by omega)) p5 q5;have e3:((cs.drop 3).take 2)[0]?=some (.int .i64 k3):=by rw[←kc52t];exact e3
  have e4:((cs.drop 3).take 2)[1]?=some (.int .i64 k4):=by rw[←kc52t];exact e4
  rw[qpQ (by omega),qpU] at e3 e4;refine ⟨.mk k0 k1 k2 k3 k4 s l,⟨hs,hll,Ex.okL_of hlo⟩,CR_of ?_ ?_⟩
  ·rw[hl,kc54];simp
  ·intro j w hw';rw[Ex.v_cells] at hw'
   match j,hw' with
   | 0,hw'=>cases hw';exact ⟨_,e0,.int _ _⟩
   | 1,hw'=>cases hw';exact ⟨_,e1,.int _ _⟩
   | 2,hw'=>cases hw';exact ⟨_,e2,.int _ _⟩
   | 3,hw'=>cases hw';exact ⟨_,e3,.int _ _⟩
   | 4,hw'=>cases hw';exact ⟨_,e4,.int _ _⟩
   | 5,hw'=>cases hw';exact ⟨_,e5,.str _⟩
   | 6,hw'=>cases hw';exact ⟨_,e6,hv⟩
theorem el_in{fuel:Nat}{cs:List Value}{x:DataW H×List MemPlace}(h:DataW.trod enc Tryz.prog W 0 (fun _=>true) true fuel 135 cs=some x)(hw:Fitw 135 x.1):∃a:El,a.ok∧CR W a.v.cells cs:=by
 obtain ⟨n,hn,hl,hp⟩:=parts Tryz.underlying135 h hw;obtain ⟨y0,p0,q0⟩:=hp 0 _ rfl;obtain ⟨y1,p1,q1⟩:=hp 1 _ rfl;obtain ⟨k0,e0⟩:=int_at p0;obtain ⟨l,hlo,hll,v,e1,hv⟩:=slice_at Ex.v Ex.ok (sz:=7) (fun a=>by simp) (by omega) Tryz.underlying23 kc54 y54 kc23 (fun m' hm'=>ex_in m' m' (qpo _)) p1 q1;refine ⟨⟨k0,l⟩,⟨hll,Ex.okL_of hlo⟩,CR_of ?_ ?_⟩
 ·rw[hl,kc135t];rfl
 ·intro j w hw';rw[El.v_cells] at hw'
  match j,hw' with
  | 0,hw'=>cases hw';exact ⟨_,e0,.int _ _⟩
  | 1,hw'=>cases hw';exact ⟨_,e1,hv⟩
theorem fo_in{fuel:Nat}{cs:List Value}{x:DataW H×List MemPlace}(h:DataW.trod enc Tryz.prog W 0 (fun _=>true) true fuel 87 cs=some x)(hw:Fitw 87 x.1):∃a:Fo,a.ok∧CR W a.v.cells cs:=by
 obtain ⟨n,hn,hl,hp⟩:=parts Tryz.underlying87 h hw;obtain ⟨y0,p0,q0⟩:=hp 0 _ rfl;obtain ⟨y1,p1,q1⟩:=hp 1 _ rfl;obtain ⟨y2,p2,q2⟩:=hp 2 _ rfl;obtain ⟨y3,p3,q3⟩:=hp 3 _ rfl;obtain ⟨s,e0,hs⟩:=str_at p0 q0;obtain ⟨k1,e1⟩:=bool_at p1;obtain ⟨k2,e2⟩:=int_at p2;obtain ⟨k3,e3⟩:=int_at p3;refine ⟨⟨s,k1,k2,k3⟩,hs,CR_of ?_ ?_⟩
 ·rw[hl,kc87t];rfl
 ·intro j w hw';rw[Fo.v_cells] at hw'
  match j,hw' with
  | 0,hw'=>cases hw';exact ⟨_,e0,.str _⟩
  | 1,hw'=>cases hw';exact ⟨_,e1,.bool _⟩
  | 2,hw'=>cases hw';exact ⟨_,e2,.int _ _⟩
  | 3,hw'=>cases hw';exact ⟨_,e3,.int _ _⟩
theorem exs_at{n o:Nat}{cs:List Value}{y:DataW H×List MemPlace}(h:DataW.trod enc Tryz.prog W 0 (fun _=>true) true n 23 ((cs.drop o).take (Tryz.prog.cellsOf 23))=some y)(hw:Fitw 23 y.1):
  ∃l:List Ex,(l.length≤B50∧Ex.okL l)∧∃v,cs[o]?=some v∧VR (E0 W) (.sl false (l.map Ex.v)) v:=by
 obtain ⟨l,hlo,hll,hv⟩:=slice_at Ex.v Ex.ok (sz:=7) (fun a=>by simp) (by omega) Tryz.underlying23 kc54 y54 kc23 (fun m' hm'=>ex_in m' m' (qpo _)) h hw;exact ⟨l,⟨hll,Ex.okL_of hlo⟩,hv⟩
theorem strs_at{n o:Nat}{cs:List Value}{y:DataW H×List MemPlace}(h:DataW.trod enc Tryz.prog W 0 (fun _=>true) true n 22 ((cs.drop o).take (Tryz.prog.cellsOf 22))=some y)(hw:Fitw 22 y.1):
  ∃l:List ByteArray,okS l∧∃v,cs[o]?=some v∧VR (E0 W) (.sl false (l.map .str)) v:=by
 obtain ⟨l,hlo,hll,hv⟩:=slice_at V.str (fun s=>s.size≤B50) (sz:=1) (fun a=>rfl) (by omega) Tryz.underlying22 kc9 y9 kc22 strs_el h hw;exact ⟨l,⟨hll,hlo⟩,hv⟩
theorem tree_in:∀(m fuel:Nat),fuel≤m→(∀cs (x:DataW H×List MemPlace),DataW.trod enc Tryz.prog W 0 (fun _=>true) true fuel 42 cs=some x→Fitw 42 x.1→∃a:De,a.ok∧CR W a.v.cells cs)∧
  ∀cs (x:DataW H×List MemPlace),DataW.trod enc Tryz.prog W 0 (fun _=>true) true fuel 28 cs=some x→Fitw 28 x.1→∃a:Sm,a.ok∧CR W a.v.cells cs
 | 0,fuel,hm=>by
  refine ⟨fun cs x h hw=>?_,fun cs x h hw=>?_⟩
  ·obtain ⟨n,hn,_⟩:=parts Tryz.underlying42 h hw;omega
  ·obtain ⟨n,hn,_⟩:=parts Tryz.underlying28 h hw;omega
 | m+1,fuel,hm=>by
  refine ⟨fun cs x h hw=>?_,fun cs x h hw=>?_⟩
  ·obtain ⟨n,hn,hl,hp⟩:=parts Tryz.underlying42 h hw;obtain ⟨y0,p0,q0⟩:=hp 0 _ rfl;obtain ⟨y1,p1,q1⟩:=hp 1 _ rfl;obtain ⟨y2,p2,q2⟩:=hp 2 _ rfl;obtain ⟨y3,p3,q3⟩:=hp 3 _ rfl;obtain ⟨y4,p4,q4⟩:=hp 4 _ rfl;obtain ⟨y5,p5,q5⟩:=hp 5 _ rfl;obtain ⟨y6,p6,q6⟩:=hp 6 _ rfl;obtain ⟨k0,e0⟩:=int_at p0;obtain ⟨k1,e1⟩:=bool_at p1;obtain ⟨k2,e2⟩:=int_at p2;obtain ⟨nm,on,v3,e3,h3⟩:=strs_at p3 q3;obtain ⟨ex,oe,v4,e4,h4⟩:=exs_at p4 q4;obtain ⟨fo,of,lf,v5,e5,h5⟩:=slice_at Fo.v Fo.ok (sz:=4) (fun a=>rfl) (by omega) Tryz.underlying40 kc87t y87 kc40t (fun m' hm' cs x=>fo_in) p5 q5;obtain ⟨bo,ob,lb,v6,e6,h6⟩:=slice_at Sm.v Sm.ok (sz:=8) (fun a=>by simp) (by omega) Tryz.underlying26 kc28t y28 kc26t (fun m' hm'=>(tree_in m m' (by omega)).2) p6 q6;refine ⟨.mk k0 k1 k2 nm ex fo bo,(De.ok_iff _).2 ⟨on,oe,⟨lf,of⟩,⟨lb,Sm.okL_of ob⟩⟩,CR_of ?_ ?_⟩
   ·rw[hl,kc42t];simp
   ·intro j w hw';rw[De.v_cells] at hw'
    match j,hw' with
    | 0,hw'=>cases hw';exact ⟨_,e0,.int _ _⟩
    | 1,hw'=>cases hw';exact ⟨_,e1,.bool _⟩
    | 2,hw'=>cases hw';exact ⟨_,e2,.int _ _⟩
    | 3,hw'=>cases hw';exact ⟨_,e3,h3⟩
    | 4,hw'=>cases hw';exact ⟨_,e4,h4⟩
    | 5,hw'=>cases hw';exact ⟨_,e5,h5⟩
    | 6,hw'=>cases hw';exact ⟨_,e6,h6⟩
  ·obtain ⟨n,hn,hl,hp⟩:=parts Tryz.underlying28 h hw;obtain ⟨y0,p0,q0⟩:=hp 0 _ rfl;obtain ⟨y1,p1,q1⟩:=hp 1 _ rfl;obtain ⟨y2,p2,q2⟩:=hp 2 _ rfl;obtain ⟨y3,p3,q3⟩:=hp 3 _ rfl;obtain ⟨y4,p4,q4⟩:=hp 4 _ rfl;obtain ⟨y5,p5,q5⟩:=hp 5 _ rfl;obtain ⟨y6,p6,q6⟩:=hp 6 _ rfl;obtain ⟨y7,p7,q7⟩:=hp 7 _ rfl;obtain ⟨lb,ol,v0,e0,h0⟩:=strs_at p0 q0;obtain ⟨k1,e1⟩:=int_at p1;obtain ⟨s,e2,hs⟩:=str_at p2 q2;obtain ⟨tg,ot,v3,e3,h3⟩:=exs_at p3 q3;obtain ⟨ex,oe,v4,e4,h4⟩:=exs_at p4 q4;obtain ⟨el,oel,lel,v5,e5,h5⟩:=slice_at El.v El.ok (sz:=2) (fun a=>rfl) (by omega) Tryz.underlying24 kc135t y135 kc24t (fun m' hm' cs x=>el_in) p5 q5;obtain ⟨de,od,ld,v6,e6,h6⟩:=slice_at De.v De.ok (sz:=7) (fun a=>by simp) (by omega) Tryz.underlying25 kc42t y42 kc25t (fun m' hm'=>(tree_in m m' (by omega)).1) p6 q6;obtain ⟨bo,ob,lbo,v7,e7,h7⟩:=slice_at Sm.v Sm.ok (sz:=8) (fun a=>by simp) (by omega) Tryz.underlying26 kc28t y28 kc26t (fun m' hm'=>(tree_in m m' (by omega)).2) p7 q7;refine ⟨.mk lb k1 s tg ex el de bo,(Sm.ok_iff _).2 ⟨ol,hs,ot,oe,⟨lel,oel⟩,⟨ld,De.okL_of od⟩,⟨lbo,Sm.okL_of ob⟩⟩,CR_of ?_ ?_⟩
   ·rw[hl,kc28t];simp
   ·intro j w hw';rw[Sm.v_cells] at hw'
    match j,hw' with
    | 0,hw'=>cases hw';exact ⟨_,e0,h0⟩
    | 1,hw'=>cases hw';exact ⟨_,e1,.int _ _⟩
    | 2,hw'=>cases hw';exact ⟨_,e2,.str _⟩
    | 3,hw'=>cases hw';exact ⟨_,e3,h3⟩
    | 4,hw'=>cases hw';exact ⟨_,e4,h4⟩
    | 5,hw'=>cases hw';exact ⟨_,e5,h5⟩
    | 6,hw'=>cases hw';exact ⟨_,e6,h6⟩
    | 7,hw'=>cases hw';exact ⟨_,e7,h7⟩
set_option maxRecDepth 100000
theorem agg_of{vs:List V}{v:Value}{cs:Array Value}(hv:v=.agg cs)(h:CR W vs v.cells.toList):VR (E0 W) (.agg vs) v:=by
 subst hv;refine .agg (by have:=h.1;simpa[Value.cells] using this) fun i x u hx hu=>h.2 i x u hx (by simpa[Value.cells] using hu)
theorem stmt_in{base:Nat}{v:Value}{d:DataW H}{p:List MemPlace}(hval:Value.okWide Tryz.prog W .any base 28 v)(h:DataW.Trod enc Tryz.prog W 0 (fun _=>true) true 28 v d p)(hw:Fitw 28 d):∃s:Sm,s.ok∧VR (E0 W) s.v v:=by
 obtain ⟨fuel,h⟩:=h;obtain ⟨s,hs,hc⟩:=(tree_in fuel fuel (qpo _)).2 _ _ h hw;unfold Value.okWide at hval;rw[Tryz.underlying28] at hval;obtain ⟨cs,hv,_⟩:=hval;rw[Sm.v_cells] at hc;exact ⟨s,hs,by rw[Sm.v_eq];exact agg_of hv hc⟩
theorem exp_in{base:Nat}{v:Value}{d:DataW H}{p:List MemPlace}(hval:Value.okWide Tryz.prog W .any base 54 v)(h:DataW.Trod enc Tryz.prog W 0 (fun _=>true) true 54 v d p)(hw:Fitw 54 d):∃s:Ex,s.ok∧VR (E0 W) s.v v:=by
 obtain ⟨fuel,h⟩:=h;obtain ⟨s,hs,hc⟩:=ex_in fuel fuel (qpo _) _ _ h hw;unfold Value.okWide at hval;rw[Tryz.underlying54] at hval;obtain ⟨cs,hv,_⟩:=hval;rw[Ex.v_cells] at hc;exact ⟨s,hs,by rw[Ex.v_eq];exact agg_of hv hc⟩
theorem fitw_of{ts:List TypeId}{ds:List (DataW H)}(h:(DataW.weightsEach Tryz.prog ts ds).all (·≤reachBytes)=true){i:Nat}{t:TypeId}{d:DataW H}(ht:ts[i]?=some t)(hd:ds[i]?=some d):Fitw t d:=fun n hn=>by
 have:=qpG.1 h n (weightsEach_mem ht hd hn);simpa using this
end
end Go.Proofs.YtbifpocccfkhhaaGreatDoor
namespace Go.Proofs.YtbifpocccfkhhaaGreatDoor
open Go Go.ChangeShapes Go.WideShapes Go.ChangeAt Go.RowKit
set_option maxRecDepth 100000
section
variable {H:Type} {enc:TypeId×Value→H} {W:World}
theorem trodAll_cons{P:Program}{t:TypeId}{ts:List TypeId}{vs:List Value}{ds:List (DataW H)}{ps:List MemPlace}(h:DataW.TrodAll enc P W 0 (fun _=>true) true (t::ts) vs ds ps):
  ∃v vs' d ds' p q,vs=v::vs'∧ds=d::ds'∧DataW.Trod enc P W 0 (fun _=>true) true t v d p∧DataW.TrodAll enc P W 0 (fun _=>true) true ts vs' ds' q:=by
 cases vs with
 | nil=>exact h.elim
 | cons v vs=>
  cases ds with
  | nil=>exact h.elim
  | cons d ds=>
   obtain ⟨p,q,h1,h2,_⟩:=h;exact ⟨v,vs,d,ds,p,q,rfl,rfl,h1,h2⟩
theorem trodAll_nil{P:Program}{vs:List Value}{ds:List (DataW H)}{ps:List MemPlace}(h:DataW.TrodAll enc P W 0 (fun _=>true) true [] vs ds ps):vs=[]∧ds=[]:=by
 cases vs with
 | nil=>
  cases ds with
  | nil=>exact ⟨rfl,rfl⟩
  | cons d ds=>exact h.elim
 | cons v vs=>cases ds <;> exact h.elim
theorem text_in{base:Nat}{v:Value}{d:DataW H}{p:List MemPlace}(hval:Value.okWide Tryz.prog W .any base 9 v)(h:DataW.Trod enc Tryz.prog W 0 (fun _=>true) true 9 v d p)(hw:Fitw 9 d):∃s:ByteArray,s.size≤B50∧VR (E0 W) (.str s) v:=by
 obtain ⟨s,rfl,_⟩:=ChangeMaps.open_string Tryz.underlying9 hval h;obtain ⟨fuel,hf⟩:=h;obtain ⟨k,hk,hy,_⟩:=DataW.trod_string Tryz.underlying9 hf;simp[Value.cells] at hk;subst hk;have hy:d=.lit (.string s.data.toList):=(Prod.mk.inj hy).1;refine ⟨s,reach_le (hw s.size ?_),.str s⟩;rw[hy,DataW.weights];exact qql.2 (by rw[qqr];rfl)
end
open Go.Proofs.Tryz
set_option maxRecDepth 20000
noncomputable def c148:F':=⟨32,[.t 6],.k [.a 6 (.str ⟨⟨[]⟩⟩)] (.k [.l 10 2,.m 11 0,.o 12 (.ex (.lkp .str zX true (.t 10) (.t 11))),.m 9 12,.e 13 0 9,.e 14 1 9,.o 7 (.new zX),.s 7 7 13,.m 8 14] (.seq (.k [.m 15 8,.o 16 (.un .not (.t 15)),.m 17 16,.V 18 17 false 1,.V 19 17 false 0,.v 20 17 false (.call (.f 60) [(.t 18),(.t 19)]),.v 21 17 false (.eq .ptr true (.t 20) (.c .nilp)),.z 22 17 21] (.d 22 (.k [.m 23 0,.m 6 23] .ret) .skip)) (.k [.l 24 3,.m 25 24,.v 26 25 false (.fa 0 (.t 7)),.M 27 25 false 26,.v 28 25 false (.bin .neq (.t 27) (.c (.int .i64 6))),.z 29 25 28,.s 1 3 29] (.k [.f 30 5 7,.l 31 30,.m 6 31] .ret))))⟩
theorem ok148:okF f148 c148:=okI
def idP:Pw where
 H:=Unit
 f _ x:=x
 nm:=none
 cl:=none
 ent h _ _:=h
 nmH h _ _ _:=h
 clH h _ _:=h
def idC:Cb where
 toPw:=idP
 fe:=.nilfn
 fn:=.nilfn
 fc:=.nilfn
 I _ F D _:=∀l,¬ F l∧¬ D l
 cn _ _:=True
 lim:=100001
theorem qmm:idC.Ok where
 lim:=qpo _
 lt:=fun {h F D S} k l hl=>by
  have k:∀l,¬ F l∧¬ D l:=k;exact (hl.elim (k l).1 (k l).2).elim
 fr:=fun {h F D S U M} k hk hM=>k
 lp:=fun {h F D S} k l o ho=>(show ∀l,¬ F l∧¬ D l from k) l
 ce _ _:=trivial
 cm _ _ _ _:=trivial
 cc _ _ _:=trivial
 real:=fun {h F D S} k h'=>⟨F,D,S,k,Kp.refl _ _,grow.refl _ _,grow.refl _ _⟩
 en:=.inl ⟨rfl,fun _ _=>rfl,fun _ _ _=>rfl⟩
 nm:=rfl
 cl:=rfl
mutual
theorem Ex.wr_same:∀(x:Ex) (tg:Bool),Ex.wr idP [] tg x=x
 | .mk k o n m e t a,tg=>by
  rw[Ex.wr,Ex.wrl_same a false];unfold Pw.nmE;show (if Ex.named k=true then _ else _)=_;split <;> rfl
theorem Ex.wrl_same:∀(l:List Ex) (tg:Bool),Ex.wrl idP [] tg l=l
 | [],_=>rfl
 | x::l,tg=>by rw[Ex.wrl,Ex.wr_same x tg,Ex.wrl_same l tg]
end
def zeX:V:=.agg [.int .i64 0,.int .i64 0,.int .i64 0,.int .i64 0,.int .i64 0,.str ⟨⟨[]⟩⟩,.sl true []]
theorem qcR(x:Ex)(hx:(Pa.ex x).size≤4000)(S:St):qt prog 80 [x.v] S (fun r U=>r=x.v∧Kp (fun _=>False) S U):=by
 refine qt.ib func80 ok80 ?_;simp[c80,qM,ldS,stS,qY,qF,evX];obtain ⟨S1,hS1⟩:∃S1:St,S1=S++[.arr [x.v] 7 1,.arr [zeX] 7 1,.arr [.agg [.int .i64 0,.nilfn,.nilfn,.nilfn]] 4 1]:=⟨_,rfl⟩;have l1:S1.length=S.length+3:=by rw[hS1];simp
 have b1:S1[S.length+1]?=some (.arr [zeX] 7 1):=by rw[hS1,qpj (by omega)];simp
 have b2:S1[S.length+2]?=some (.arr [.agg [.int .i64 0,.nilfn,.nilfn,.nilfn]] 4 1):=by rw[hS1,qpj (by omega)];simp
 have kS:Kp (fun _=>False) S S1:=by rw[hS1];exact (Kp.refl _ _).push _
 have hw:Wk idC (S.length+2) 0 () (fun _=>False) (fun _=>False) S1:=⟨b2,fun _=>⟨id,id⟩,id,id,trivial⟩;rw[show zeX=V.agg [.int .i64 0,.int .i64 0,.int .i64 0,.int .i64 0,.int .i64 0,.str ⟨⟨[]⟩⟩,.sl true []] from rfl] at hS1;rw[←hS1];refine qj (qeh idC qmm (S.length+2) 4000 x hx (qpo _) 0 () _ _ S1 .nilp [] false hw rfl) ?_;rintro r U ⟨rfl,F2,D2,k2,s2⟩;have hx2:Ex.wr idP (Scx []) false x=x:=Ex.wr_same x false;rw[show Ex.wr idC.toPw (Scx []) false x=x from hx2];have c1:=s2.k.at b1 (by rintro (hh|hh) <;> omega);unfold zeX at c1;simp[stS,c1,qi];have hz:(U.set (S.length+1) (.arr [x.v] 7 1))[S.length+1]?=some (.arr [x.v] 7 1):=qpl (glt c1);refine qf (vs:=[x.v]) (by simp[rvs,ldS,hz]) ⟨rfl,?_⟩
 have kU:Kp (fun _=>False) S U:=⟨qpV kS.len s2.k.len,fun l hl hn=>by
  rw[s2.k.get l (by have:=kS.len;omega) (by rintro (hh|hh) <;> omega)];exact kS.get l hl hn⟩
 exact kU.set _ (.inr (by omega))
abbrev Oc:=Bz×Scs
mutual
def Ex.ev(sc:Scs):Ex→List Oc
 | .mk k _ _ _ _ t a=>Ex.evl sc a++(if Ex.named k then [(t,sc)] else [])
def Ex.evl(sc:Scs):List Ex→List Oc
 | []=>[]
 | x::l=>Ex.ev sc x++Ex.evl sc l
end
def El.evl(sc:Scs):List El→List Oc
 | []=>[]
 | x::l=>Ex.evl sc x.exps++El.evl sc l
mutual
def Sm.ev(sc:Scs)(n:Nat):Sm→List Oc
 | .mk _ k t g e h d b=>
  if k=7 then De.evl (qd (qe d b) n::sc) sc (n+(qd (qe d b) n).length) d++Sm.evl (qd (qe d b) n::sc) (n+(qd (qe d b) n).length+De.nbl d) b
  else if k=8 then Sm.evl (qd (qk b) n::sc) (n+(qd (qk b) n).length) b
  else Ex.evl sc g++Ex.evl sc e++El.evl sc h++Sm.ev1 sc n b++(if k=6 then [(t,sc)] else [])
def De.ev(own sc:Scs)(n:Nat):De→List Oc
 | .mk k _ _ _ e fo b=>
  if k=4 then Sm.ev1 (qd (fo.map Fo.name) n::own) (n+(qd (fo.map Fo.name) n).length) b
  else Ex.evl (if k=2 then sc else own) e
def De.evl(own sc:Scs)(n:Nat):List De→List Oc
 | []=>[]
 | x::l=>De.ev own sc n x++De.evl own sc (n+De.nb x) l
def Sm.evl(sc:Scs)(n:Nat):List Sm→List Oc
 | []=>[]
 | x::l=>Sm.ev sc n x++Sm.evl sc (n+Sm.nb x) l
def Sm.ev1(sc:Scs)(n:Nat):List Sm→List Oc
 | []=>[]
 | x::l=>Sm.ev (qd x.labels n::sc) (n+(qd x.labels n).length) x++Sm.ev1 sc (n+(qd x.labels n).length+Sm.nb x) l
end
structure Obs(p:Pw)(α:Type)(ob:p.H→α)(w:α→Oc→α):Prop where
 nm:p.nm≠none
 cl:p.cl≠none
 n:∀h x sc tg,ob (p.nmH h x sc tg)=w (ob h) (x.text,sc)
 c:∀h x sc,ob (p.clH h x sc)=w (ob h) (x,sc)
 e:∀h k x,ob (p.ent h k x)=ob h
section
variable {p:Pw} {α:Type} {ob:p.H→α} {w:α→Oc→α} (i:Obs p α ob w) {nm:Bz→Bool}
include i
theorem Obs.enters(s:Sco):∀h:p.H,ob (Go.Proofs.YtbifpocccfkhhaaGreatDoor.enters p h s)=ob h:=by
 induction s with
 | nil=>intro h;rfl
 | cons e s ih=>intro h;exact (ih _).trans (i.e _ _ _)
theorem Obs.nmS(sc:Scs)(tg:Bool)(h:p.H)(x:Ex):ob (p.nmS sc tg h x)=if Ex.named x.kind then w (ob h) (x.text,sc) else ob h:=by
 unfold Pw.nmS;split
 ·cases hn:p.nm with
  | none=>exact absurd hn i.nm
  | some g=>exact i.n _ _ _ _
 ·rfl
theorem Obs.clS(sc:Scs)(k:Int)(h:p.H)(t:Bz):ob (p.clS sc k h t)=if k=6 then w (ob h) (t,sc) else ob h:=by
 unfold Pw.clS;split
 ·cases hn:p.cl with
  | none=>exact absurd hn i.cl
  | some g=>exact i.c _ _ _
 ·rfl
mutual
theorem Obs.ex(sc:Scs)(tg:Bool):∀(x:Ex) (h:p.H),ob (Ex.hs p sc tg h x)=(Ex.ev sc x).foldl w (ob h)
 | .mk k o n m e t a,h=>by
  have h1:ob (p.nmS sc tg (Ex.hsl p sc false h a) (.mk k o n m e t (Ex.wrl p sc false a)))=if Ex.named k=true then w (ob (Ex.hsl p sc false h a)) (t,sc) else ob (Ex.hsl p sc false h a):=i.nmS sc tg _ _
  rw[Ex.hs,h1,Obs.exl sc false a h,Ex.ev,qpX];by_cases hk:Ex.named k=true
  ·rw[if_pos hk,if_pos hk];rfl
  ·rw[if_neg hk,if_neg hk];rfl
theorem Obs.exl(sc:Scs)(tg:Bool):∀(l:List Ex) (h:p.H),ob (Ex.hsl p sc tg h l)=(Ex.evl sc l).foldl w (ob h)
 | [],h=>by rw[Ex.hsl,Ex.evl];rfl
 | x::l,h=>by rw[Ex.hsl,Ex.evl,qpX,Obs.exl sc tg l,Obs.ex sc tg x]
end
theorem Obs.ell(sc:Scs):∀(l:List El) (h:p.H),ob (El.hsl p sc h l)=(El.evl sc l).foldl w (ob h)
 | [],h=>rfl
 | x::l,h=>by
  show ob (El.hsl p sc (Ex.hsl p sc false h x.exps) l)=_;rw[Obs.ell sc l,i.exl,El.evl,qpX]
mutual
theorem Obs.sm:∀(s:Sm) (sc:Scs) (n:Nat) (h:p.H),(Pa.st s).valid nm=true→ob (Sm.hs p sc n h s)=(Sm.ev sc n s).foldl w (ob h)
 | .mk l k t g e el d b,sc,n,h,v=>by
  obtain ⟨v7,v8,v9⟩:=Sm.valid_block v;have vd:=Sm.valid_decls v;have vb:=Sm.valid_body v;simp only[Sm.decls,Sm.body] at vd vb;rw[Sm.hs,Sm.ev];by_cases h7:k=7
  ·obtain ⟨rfl,rfl,rfl⟩:=v7 h7;rw[if_pos h7,if_pos h7,qpX,Obs.sml b _ _ _ vb,Obs.del d _ _ _ _ vd,i.enters,i.exl,Ex.evl];rfl
  ·rw[if_neg h7,if_neg h7];by_cases h8:k=8
   ·obtain ⟨rfl,rfl,rfl,rfl⟩:=v8 h8;rw[if_pos h8,if_pos h8,Obs.sml b _ _ _ vb,i.enters,i.exl,Ex.evl];rfl
   ·rw[if_neg h8,if_neg h8,i.clS,Obs.sm1 b _ _ _ vb,i.ell,i.exl,i.exl];simp only[qpX];split <;> rfl
theorem Obs.de:∀(s:De) (own sc:Scs) (n:Nat) (h:p.H),(Pa.de s).valid nm=true→ob (De.hs p own sc n h s)=(De.ev own sc n s).foldl w (ob h)
 | .mk k o t ns e fo b,own,sc,n,h,v=>by
  obtain ⟨v4,v5⟩:=De.valid_proc v;have vb:=De.valid_body v;simp only[De.body] at vb;rw[De.hs,De.ev];by_cases h4:k=4
  ·obtain rfl:=v4 h4;rw[if_pos h4,if_pos h4,Obs.sm1 b _ _ _ vb,i.enters,i.exl,Ex.evl];rfl
  ·rw[if_neg h4,if_neg h4,i.exl]
theorem Obs.del:∀(l:List De) (own sc:Scs) (n:Nat) (h:p.H),(∀x,x∈l→(Pa.de x).valid nm=true)→ob (De.hsl p own sc n h l)=(De.evl own sc n l).foldl w (ob h)
 | [],_,_,_,h,_=>by rw[De.hsl,De.evl];rfl
 | x::l,own,sc,n,h,v=>by
  rw[De.hsl,De.evl,qpX,Obs.del l own sc _ _ fun y hy=>v y (by simp[hy]),Obs.de x own sc n h (v x (by simp))]
theorem Obs.sml:∀(l:List Sm) (sc:Scs) (n:Nat) (h:p.H),(∀x,x∈l→(Pa.st x).valid nm=true)→ob (Sm.hsl p sc n h l)=(Sm.evl sc n l).foldl w (ob h)
 | [],_,_,h,_=>by rw[Sm.hsl,Sm.evl];rfl
 | x::l,sc,n,h,v=>by
  rw[Sm.hsl,Sm.evl,qpX,Obs.sml l sc _ _ fun y hy=>v y (by simp[hy]),Obs.sm x sc n h (v x (by simp))]
theorem Obs.sm1:∀(l:List Sm) (sc:Scs) (n:Nat) (h:p.H),(∀x,x∈l→(Pa.st x).valid nm=true)→ob (Sm.hs1 p sc n h l)=(Sm.ev1 sc n l).foldl w (ob h)
 | [],_,_,h,_=>by rw[Sm.hs1,Sm.ev1];rfl
 | x::l,sc,n,h,v=>by
  rw[Sm.hs1,Sm.ev1,qpX,Obs.sm1 l sc _ _ fun y hy=>v y (by simp[hy]),Obs.sm x _ _ _ (v x (by simp)),i.enters]
end
end
structure Robs(r:Rp)(ob:Rst→Prop)(q:Oc→Prop):Prop where
 u:∀sc x st,ob (qo9 r sc x st)↔ob st∨q (x,sc)
 b:∀st c,ob { st with bad:=c }↔ob st
section
variable {r:Rp} {ob:Rst→Prop} {q:Oc→Prop} (i:Robs r ob q) {nm:Bz→Bool}
include i
end
def Agr(bs:Nat→Bz)(n:Nat)(l:List Bz):Prop:=∀i x,l[i]?=some x→bs (n+i)=x
theorem Agr.fst{bs:Nat→Bz}{n:Nat}{l m:List Bz}(h:Agr bs n (l++m)):Agr bs n l:=fun i x hx=>h i x (by rw[qpk (qpi.1 hx).1];exact hx)
theorem Agr.snd{bs:Nat→Bz}{n:Nat}{l m:List Bz}(h:Agr bs n (l++m)):Agr bs (n+l.length) m:=fun i x hx=>by
 have:=h (l.length+i) x (by rw[qpj (by omega),qqC];exact hx);rwa [←qp3] at this
def ScB(bs:Nat→Bz)(sc:Scs):Prop:=∀s,s∈sc→∀e,e∈s→bs e.2=e.1
def mpE(f:Nat→Bz)(s:Sco):Sco:=s.map fun e=>(f e.2,e.2)
def mpS(f:Nat→Bz)(sc:Scs):Scs:=sc.map (mpE f)
section
variable {f bs:Nat→Bz} (h1:∀j k,f j=f k→bs j=bs k)
theorem qc6{s:Sco}{x:Bz}{k:Nat}(h:s.at x=some k):(x,k)∈s:=by
 unfold Sco.at at h;obtain ⟨e,he,hk⟩:=qpq.1 h;have h2:=List.find?_some he;simp only[decide_eq_true_eq] at h2;subst h2 hk;exact qq9 he
theorem qir{s:Sco}{x:Bz}(h:s.at x=none):∀e,e∈s→e.1≠x:=by
 unfold Sco.at at h;rw[Option.map_eq_none_iff,List.find?_eq_none] at h;intro e he hx;exact h e he (by simp[hx])
include h1
theorem qmo{s:Sco}(hb:∀e,e∈s→bs e.2=e.1){x:Bz}{k:Nat}(hx:bs k=x):Sco.at (mpE f s) (f k)=(if s.at x=none then none else s.at x)∨∃j,s.at x=some j:=by
 cases h:s.at x with
 | some j=>exact .inr ⟨j,rfl⟩
 | none=>
  refine .inl ?_;rw[if_pos rfl];unfold Sco.at mpE;rw[Option.map_eq_none_iff,List.find?_eq_none];intro e he hh;obtain ⟨e',he',rfl⟩:=qpE.1 he;simp only[decide_eq_true_eq] at hh;exact qir h e' he' (by rw[←hb e' he',h1 _ _ hh,hx])
theorem kA{x:Bz}{k:Nat}:∀{s:Sco},(∀e,e∈s→bs e.2=e.1)→s.at x=some k→Sco.at (mpE f s) (f k)=some k
 | [],_,h=>by cases h
 | e::s,hb,h=>by
  unfold Sco.at at h ⊢;unfold mpE;rw[qpv,List.find?_cons];rw[List.find?_cons] at h;by_cases hx:e.1=x
  ·rw[decide_eq_true hx] at h;cases h;simp
  ·rw[decide_eq_false hx] at h;have hm:(x,k)∈s:=qc6 (s:=s) h;have hk:=hb _ (qqc _ hm);have hf:¬ f e.2=f k:=fun hh=>hx (by rw[←hb e (qq7 ..),h1 _ _ hh,hk])
   rw[decide_eq_false hf];exact kA (fun e he=>hb e (qqc _ he)) h
theorem qcE{x:Bz}{k:Nat}{s:Sco}(hb:∀e,e∈s→bs e.2=e.1)(h:s.at x=none)(hk:bs k=x):Sco.at (mpE f s) (f k)=none:=by
 rcases qmo h1 hb hk with h2|⟨j,h2⟩
 ·rw[h2,if_pos h]
 ·rw[h] at h2;cases h2
theorem qcG{x:Bz}{k:Nat}(hx:bs k=x):∀{sc:Scs},ScB bs sc→sc.at x=some k→(mpS f sc).at (f k)=some k
 | [],_,h=>by cases h
 | s::sc,hb,h=>by
  have hs:=hb s (qq7 ..);have hr:ScB bs sc:=fun t ht=>hb t (qqc _ ht)
  unfold Scs.at at h;unfold mpS;rw[qpv];unfold Scs.at
  cases ha:Sco.at s x with
  | some j=>
   rw[ha] at h;cases h;rw[kA h1 hs ha]
  | none=>
   rw[ha] at h;rw[qcE h1 hs ha hx];exact qcG hx hr h
omit h1 in
theorem qb3{x:Bz}(hp:∀j,f j=x→bs j=x):∀{sc:Scs},ScB bs sc→sc.at x=none→(mpS f sc).at x=none
 | [],_,_=>rfl
 | s::sc,hb,h=>by
  have hs:=hb s (qq7 ..);have hr:ScB bs sc:=fun t ht=>hb t (qqc _ ht)
  unfold Scs.at at h;unfold mpS;rw[qpv];unfold Scs.at
  cases ha:Sco.at s x with
  | some j=>rw[ha] at h;cases h
  | none=>
   rw[ha] at h
   have:Sco.at (mpE f s) x=none:=by
    unfold Sco.at mpE;rw[Option.map_eq_none_iff,List.find?_eq_none];intro e he hh;obtain ⟨e',he',rfl⟩:=qpE.1 he;simp only[decide_eq_true_eq] at hh;exact qir ha e' he' (by rw[←hs e' he',hp _ hh])
   rw[this];exact qb3 hp hr h
omit h1 in
theorem qmt{x:Bz}{k:Nat}:∀{sc:Scs},ScB bs sc→sc.at x=some k→bs k=x
 | [],_,h=>by cases h
 | s::sc,hb,h=>by
  unfold Scs.at at h
  cases ha:Sco.at s x with
  | some j=>
   rw[ha] at h;cases h;exact hb s (qq7 ..) _ (qc6 ha)
  | none=>
   rw[ha] at h;exact qmt (fun t ht=>hb t (qqc _ ht)) h
theorem Jq(g:Nat→Bz){sc:Scs}(hb:ScB bs sc){x:Bz}(hp:sc.at x=none→∀j,f j=x→bs j=x):zK g (mpS f sc) (zK f sc x)=zK g sc x:=by
 unfold zK
 cases h:sc.at x with
 | some k=>simp only[qcG h1 (qmt hb h) hb h]
 | none=>simp only[qb3 (hp h) hb h]
omit h1 in
theorem Jp{x:Bz}{k:Nat}:∀(l:List Bz) (s:Sco) (n:Nat),s.at x=some k→(binds l s n).at x=some k
 | [],s,n,h=>h
 | y::l,s,n,h=>by
  simp only[binds];split
  ·exact Jp l s n h
  ·refine Jp l _ _ ?_;unfold Sco.at at h ⊢;rw[qrc]
   cases hf:s.find? (fun p=>decide (p.1=x)) with
   | some p=>rw[hf] at h;exact h
   | none=>rw[hf] at h;cases h
omit h1 in
theorem qkw{s:Sco}{x:Bz}{n:Nat}(h:s.at x=none):Sco.at (s++[(x,n)]) x=some n:=by
 unfold Sco.at at h ⊢;rw[Option.map_eq_none_iff] at h;rw[qrc,h];simp
def rho(f:Nat→Bz)(S:Sco)(x:Bz):Bz:=match S.at x with
 | some k=>f k
 | none=>x
theorem JX{S:Sco}(hS:∀e,e∈S→bs e.2=e.1):∀(l:List Bz) (s:Sco) (n:Nat),binds l s n=S→(∀e,e∈s→bs e.2=e.1)→binds (l.map (rho f S)) (mpE f s) n=mpE f S
 | [],s,n,h,_=>by rw[←h];rfl
 | x::l,s,n,h,hs=>by
  rw[qpv];simp only[binds] at h ⊢
  cases hx:s.at x with
  | some k=>
   rw[hx] at h;simp only[Option.isSome_some,if_true] at h;have hk:S.at x=some k:=by rw[←h];exact Jp l s n hx
   have hr:rho f S x=f k:=by unfold rho;rw[hk]
   rw[hr,kA h1 hs hx];simp only[Option.isSome_some,if_true];exact JX hS l s n h hs
  | none=>
   rw[hx] at h;simp only[Option.isSome_none,qpM,if_false] at h;have hk:S.at x=some n:=by rw[←h];exact Jp l _ _ (qkw hx)
   have hb:bs n=x:=hS _ (qc6 hk);have hr:rho f S x=f n:=by unfold rho;rw[hk]
   rw[hr,qcE h1 hs hx hb];simp only[Option.isSome_none,qpM,if_false]
   have:=JX hS l (s++[(x,n)]) (n+1) h fun e he=>by
    rcases qpr.1 he with he|he
    ·exact hs e he
    ·simp at he;subst he;exact hb
   rw[←this];unfold mpE;rw[qpH];rfl
omit h1 in
theorem QS(b:Nat):∀(l:List Bz) (s:Sco) (n:Nat),n=b+s.length→(∀i e,s[i]?=some e→e.2=b+i)→∀i e,(binds l s n)[i]?=some e→e.2=b+i
 | [],s,n,_,h=>h
 | x::l,s,n,hn,h=>by
  simp only[binds];split
  ·exact QS b l s n hn h
  ·refine QS b l _ _ (by simp;omega) fun i e he=>?_
   by_cases hi:i<s.length
   ·rw[qpk hi] at he;exact h i e he
   ·rw[qpj (by omega)] at he;have:i - s.length=0:=by have:=(qpi.1 he).1;simp at this;omega
    rw[this] at he;simp at he;subst he;show n=b+i;omega
omit h1 in
theorem qcq{l:List Bz}{n:Nat}(h:Agr bs n (nms l)):∀e,e∈qd l n→bs e.2=e.1:=fun e he=>by
 obtain ⟨i,hi⟩:=qqz.1 he;have hp:=QS n l [] n (by simp) (by simp) i e hi;have hm:(qd l n).map (·.1)=nms l:=yY 0 l [] [] n 0 rfl;have h2:(nms l)[i]?=some e.1:=by rw[←hm,qpt,hi];rfl
 rw[hp];exact h i _ h2
theorem Qz{l:List Bz}{n:Nat}{sc:Scs}(h:Agr bs n (nms l)):qd (l.map (zK f (qd l n::sc))) n=mpE f (qd l n):=by
 have hb:=qcq h
 have hm:l.map (zK f (qd l n::sc))=l.map (rho f (qd l n)):=qqf fun x hx=>by
  have hi:=Jr x l [] n hx;unfold zK rho Scs.at
  cases ha:Sco.at (qd l n) x with
  | some k=>rfl
  | none=>unfold qd at ha;rw[ha] at hi;cases hi
 rw[hm];exact JX h1 hb l [] n rfl (fun e he=>by cases he)
omit h1 in
theorem QB(s:Sco):(mpE f s).length=s.length:=qps _
omit h1 in
theorem ScB.cons{sc:Scs}{l:List Bz}{n:Nat}(h:ScB bs sc)(g:Agr bs n (nms l)):ScB bs (qd l n::sc):=fun s hs=>by
 rcases qpJ.1 hs with rfl|hs
 ·exact qcq g
 ·exact h s hs
end
theorem De.wl_names(f:Nat→Bz)(own sc:Scs):∀(l:List De) (n:Nat),(De.wl f own sc n l).flatMap De.names=(l.flatMap De.names).map (zK f own)
 | [],_=>rfl
 | x::l,n=>by
  rw[De.wl,qpR,qpR,qpH,De.wl_names f own sc l];congr 1;cases x;rw[De.w];split <;> rfl
theorem Sm.w_labels(f:Nat→Bz)(sc:Scs)(n:Nat)(x:Sm):(x.w f sc n).labels=x.labels.map (zK f sc):=by
 cases x;rw[Sm.w];split
 ·rfl
 ·split <;> rfl
theorem Sm.wl_labels(f:Nat→Bz)(sc:Scs):∀(l:List Sm) (n:Nat),qk (Sm.wl f sc n l)=(qk l).map (zK f sc)
 | [],_=>rfl
 | x::l,n=>by
  have:=Sm.wl_labels f sc l (n+Sm.nb x);unfold qk at this ⊢;rw[Sm.wl,qpR,qpR,qpH,this,Sm.w_labels]
theorem Jg(f:Nat→Bz)(own sc:Scs)(d:List De)(b:List Sm)(n m:Nat):qe (De.wl f own sc n d) (Sm.wl f own m b)=(qe d b).map (zK f own):=by
 unfold qe;rw[De.wl_names,Sm.wl_labels,qpH]
theorem Fos.w_names(f:Nat→Bz)(sc:Scs)(l:List Fo):(l.map (Fo.w f sc)).map Fo.name=(l.map Fo.name).map (zK f sc):=by
 rw[qqI,qqI];rfl
theorem qa5(l:List Bz)(n:Nat):(qd l n).map (·.2)=List.range' n (qd l n).length:=by
 refine qqn fun i=>?_
 rw[qpt]
 cases h:(qd l n)[i]? with
 | none=>
  have:=qqS.1 h;rw[qp5 (by simpa using this)];rfl
 | some e=>
  have:=(qpi.1 h).1;rw[List.getElem?_range' this,qpD,QS n l [] n (by simp) (by simp) i e h,Nat.one_mul]
theorem qeZ{l:List Bz}(n:Nat):nms l=(qd l n).map (·.1):=yY 0 l [] [] 0 n rfl
set_option linter.unusedSectionVars false
section
variable {f bs:Nat→Bz} (h1:∀j k,f j=f k→bs j=bs k)
include h1
theorem qgP{l:List Bz}{n:Nat}{sc:Scs}(h:Agr bs n (nms l)):nms (l.map (zK f (qd l n::sc)))=(List.range' n (qd l 0).length).map f:=by
 rw[qeZ n,Qz h1 h,←qx l n 0,←qa5];unfold mpE;rw[qqI,qqI];rfl
mutual
theorem Sm.bn_w:∀(s:Sm) (sc:Scs) (n:Nat),Agr bs n s.bn→(s.w f sc n).bn=(List.range' n s.nb).map f
 | .mk l k t g e hh d b,sc,n,ha=>by
  rw[Sm.bn] at ha;rw[Sm.w,Sm.nb];by_cases h7:k=7
  ·rw[if_pos h7] at ha ⊢;rw[if_pos h7,Sm.bn,if_pos h7,Jg,qgP h1 ha.fst.fst];have hd:=ha.fst.snd;have hb:=ha.snd;rw[qpw,De.bnl_length,qA,←qp3] at hb;rw[qA] at hd;rw[qx _ n 0,De.bnl_w d _ _ _ hd,Sm.bnl_w b _ _ hb,←qpH,qqx,←qpH,qp3,qqx]
  ·rw[if_neg h7] at ha ⊢;by_cases h8:k=8
   ·rw[if_pos h8] at ha ⊢;rw[if_neg h7,if_pos h8,Sm.bn,if_neg h7,if_pos h8,Sm.wl_labels,qgP h1 ha.fst];have hb:=ha.snd;rw[qA] at hb;rw[qx _ n 0,Sm.bnl_w b _ _ hb,←qpH,qqx]
   ·rw[if_neg h8] at ha ⊢;rw[if_neg h7,if_neg h8,Sm.bn,if_neg h7,if_neg h8,Sm.bn1_w b _ _ ha]
theorem De.bn_w:∀(s:De) (own sc:Scs) (n:Nat),Agr bs n s.bn→(s.w f own sc n).bn=(List.range' n s.nb).map f
 | .mk k o t ns e fo b,own,sc,n,ha=>by
  rw[De.bn] at ha;rw[De.w,De.nb];by_cases h4:k=4
  ·rw[if_pos h4] at ha ⊢;have hb:=ha.snd;rw[qA] at hb;rw[if_pos h4,De.bn,if_pos h4,Fos.w_names,qgP h1 ha.fst,qx _ n 0,Sm.bn1_w b _ _ hb,←qpH,qqx]
  ·rw[if_neg h4,if_neg h4,De.bn,if_neg h4];rfl
theorem De.bnl_w:∀(l:List De) (own sc:Scs) (n:Nat),Agr bs n (De.bnl l)→De.bnl (De.wl f own sc n l)=(List.range' n (De.nbl l)).map f
 | [],_,_,_,_=>rfl
 | x::l,own,sc,n,ha=>by
  rw[De.bnl] at ha;have h2:=ha.snd;rw[De.bn_length] at h2;rw[De.wl,De.bnl,De.nbl,De.bn_w x own sc n ha.fst,De.bnl_w l own sc _ h2,←qpH,qqx]
theorem Sm.bnl_w:∀(l:List Sm) (sc:Scs) (n:Nat),Agr bs n (Sm.bnl l)→Sm.bnl (Sm.wl f sc n l)=(List.range' n (Sm.nbl l)).map f
 | [],_,_,_=>rfl
 | x::l,sc,n,ha=>by
  rw[Sm.bnl] at ha;have h2:=ha.snd;rw[Sm.bn_length] at h2;rw[Sm.wl,Sm.bnl,Sm.nbl,Sm.bn_w x sc n ha.fst,Sm.bnl_w l sc _ h2,←qpH,qqx]
theorem Sm.bn1_w:∀(l:List Sm) (sc:Scs) (n:Nat),Agr bs n (Sm.bn1 l)→Sm.bn1 (Sm.w1 f sc n l)=(List.range' n (Sm.nb1 l)).map f
 | [],_,_,_=>rfl
 | x::l,sc,n,ha=>by
  rw[Sm.bn1] at ha;have h2:=ha.snd;have h3:=ha.fst.snd;rw[qpw,Sm.bn_length,qA,←qp3] at h2;rw[qA] at h3;rw[Sm.w1,Sm.bn1,Sm.nb1,Sm.w_labels,qgP h1 ha.fst.fst,qx _ n 0,Sm.bn_w x _ _ h3,Sm.bn1_w l sc _ h2,←qpH,qqx,←qpH,qp3,qqx]
end
theorem Sm.nb_w(s:Sm)(sc:Scs)(n:Nat)(h:Agr bs n s.bn):(s.w f sc n).nb=s.nb:=by rw[←Sm.bn_length,Sm.bn_w h1 s sc n h];simp
theorem De.nb_w(s:De)(own sc:Scs)(n:Nat)(h:Agr bs n s.bn):(s.w f own sc n).nb=s.nb:=by rw[←De.bn_length,De.bn_w h1 s own sc n h];simp
theorem De.nbl_w(l:List De)(own sc:Scs)(n:Nat)(h:Agr bs n (De.bnl l)):De.nbl (De.wl f own sc n l)=De.nbl l:=by rw[←De.bnl_length,De.bnl_w h1 l own sc n h];simp
omit h1 in
theorem qcd(g:Nat→Bz){sc:Scs}{l:List Bz}(h1:∀j k,f j=f k→bs j=bs k)(hb:ScB bs sc)(hl:qd3 sc l):(l.map (zK f sc)).map (zK g (mpS f sc))=l.map (zK g sc):=by
 rw[qqI];refine qqf fun x hx=>Jq h1 g hb fun hn=>?_
 have:=hl x hx;rw[hn] at this;cases this
def Fre(f bs:Nat→Bz)(e:Oc):Prop:=e.2.at e.1=none→∀j,f j=e.1→bs j=e.1
mutual
theorem Ex.ww(g:Nat→Bz){sc:Scs}(hb:ScB bs sc):∀x:Ex,(∀e,e∈x.ev sc→Fre f bs e)→(x.w f sc).w g (mpS f sc)=x.w g sc
 | .mk k o n m e t a,h=>by
  rw[Ex.ev] at h;simp only[Ex.w];rw[Ex.wwl g hb a fun e he=>h e (qpx _ he)];by_cases hk:Ex.named k=true
  ·rw[if_pos hk] at h;rw[if_pos hk,if_pos hk,if_pos hk,Jq h1 g hb (h (t,sc) (by simp))]
  ·rw[if_neg hk,if_neg hk,if_neg hk]
theorem Ex.wwl(g:Nat→Bz){sc:Scs}(hb:ScB bs sc):∀l:List Ex,(∀e,e∈Ex.evl sc l→Fre f bs e)→Ex.wl g (mpS f sc) (Ex.wl f sc l)=Ex.wl g sc l
 | [],_=>rfl
 | x::l,h=>by
  rw[Ex.evl] at h;simp only[Ex.wl];rw[Ex.ww g hb x fun e he=>h e (qpx _ he),Ex.wwl g hb l fun e he=>h e (qpA _ he)]
end
theorem El.wwl(g:Nat→Bz){sc:Scs}(hb:ScB bs sc):∀l:List El,(∀e,e∈El.evl sc l→Fre f bs e)→(l.map (El.w f sc)).map (El.w g (mpS f sc))=l.map (El.w g sc)
 | [],_=>rfl
 | x::l,h=>by
  rw[El.evl] at h;have h2:=Ex.wwl h1 g hb x.exps fun e he=>h e (qpx _ he)
  simp only[Ex.wl_map] at h2;rw[qpv,qpv,qpv,El.wwl g hb l fun e he=>h e (qpA _ he)];unfold El.w;rw[h2]
omit h1 in
theorem qoH(l:List Fo)(n:Nat)(sc:Scs):qd3 (qd (l.map Fo.name) n::sc) (l.map Fo.name):=zz _ _ _
omit h1 in
theorem qm9{l:List Bz}{k:Int}{t:Bz}{g e:List Ex}{h:List El}{d d':List De}{b b':List Sm}(h1:d=d')(h2:b=b'):Sm.mk l k t g e h d b=Sm.mk l k t g e h d' b':=by rw[h1,h2]
mutual
theorem Sm.ww(g:Nat→Bz):∀(s:Sm) (sc:Scs) (n:Nat),ScB bs sc→Agr bs n s.bn→qd3 sc s.labels→(∀e,e∈s.ev sc n→Fre f bs e)→(s.w f sc n).w g (mpS f sc) n=s.w g sc n
 | .mk l k t gs e hh d b,sc,n,hb,ha,hl,he=>by
  rw[Sm.bn] at ha;rw[Sm.ev] at he;have hlab:=qcd g h1 hb hl;simp only[Sm.labels] at hlab;by_cases h7:k=7
  ·rw[if_pos h7] at ha he;have hd:=ha.fst.snd;have hbb:=ha.snd;rw[qpw,De.bnl_length,qA,←qp3,←qx _ n 0] at hbb;rw[qA,←qx _ n 0] at hd;simp only[Sm.w,if_pos h7];rw[Jg,Qz h1 ha.fst.fst,QB,De.nbl_w h1 d _ _ _ hd,hlab];have hs:=hb.cons ha.fst.fst;have e1:=De.wwl g d _ sc _ hs hb hd (zz _ n sc) (fun x hx=>qpx _ hx) fun e h=>he e (qpx _ h)
   have e2:=Sm.wwl g b _ _ hs hbb (fun x hx=>zz (qe d b) n sc x (qpA _ hx)) fun e h=>he e (qpA _ h)
   exact qm9 e1 e2
  ·rw[if_neg h7] at ha he;by_cases h8:k=8
   ·rw[if_pos h8] at ha he;have hbb:=ha.snd;rw[qA,←qx _ n 0] at hbb;simp only[Sm.w,if_neg h7,if_pos h8];rw[Sm.wl_labels,Qz h1 ha.fst,QB,hlab];have e2:=Sm.wwl g b _ _ (hb.cons ha.fst) hbb (zz _ n sc) he;exact congrArg (Sm.mk _ _ _ _ _ _ _) e2
   ·rw[if_neg h8] at ha he;simp only[Sm.w,if_neg h7,if_neg h8];have e1:=Ex.wwl h1 g hb gs fun x hx=>he x (by simp[hx])
    have e2:=Ex.wwl h1 g hb e fun x hx=>he x (by simp[hx])
    have e3:=El.wwl h1 g hb hh fun x hx=>he x (by simp[hx])
    have e4:=Sm.ww1 g b sc n hb ha fun x hx=>he x (by simp[hx])
    rw[hlab,e1,e2,e3,e4];by_cases h6:k=6
    ·rw[if_pos h6,if_pos h6,if_pos h6,Jq h1 g hb (he (t,sc) (by simp[h6]))]
    ·rw[if_neg h6,if_neg h6,if_neg h6]
theorem De.ww(g:Nat→Bz):∀(s:De) (own sc:Scs) (n:Nat),ScB bs own→ScB bs sc→Agr bs n s.bn→qd3 own s.names→(∀e,e∈s.ev own sc n→Fre f bs e)→(s.w f own sc n).w g (mpS f own) (mpS f sc) n=s.w g own sc n
 | .mk k o t ns e fo b,own,sc,n,ho,hb,ha,hl,he=>by
  rw[De.bn] at ha;rw[De.ev] at he;have hlab:=qcd g h1 ho hl;simp only[De.names] at hlab;by_cases h4:k=4
  ·rw[if_pos h4] at ha he;have hbb:=ha.snd;rw[qA,←qx _ n 0] at hbb;have hs:=ho.cons ha.fst;simp only[De.w,if_pos h4];rw[Fos.w_names,Qz h1 ha.fst,QB,hlab];have e1:=Sm.ww1 g b _ _ hs hbb he
   have e2:(fo.map (Fo.w f (qd (fo.map Fo.name) n::own))).map (Fo.w g (mpE f (qd (fo.map Fo.name) n)::mpS f own))=fo.map (Fo.w g (qd (fo.map Fo.name) n::own)):=by
    rw[qqI];refine qqf fun x hx=>?_
    have h3:=Jq h1 g hs (x:=x.name) fun hn=>by
     have:=zz (fo.map Fo.name) n own x.name (qp2 hx);rw[hn] at this;cases this
    show Fo.mk _ _ _ _=Fo.mk _ _ _ _;rw[show zK g (mpE f (qd (fo.map Fo.name) n)::mpS f own) (Fo.w f (qd (fo.map Fo.name) n::own) x).name=_ from h3];rfl
   rw[e2];exact congrArg (De.mk _ _ _ _ _ _) e1
  ·rw[if_neg h4] at he;simp only[De.w,if_neg h4];rw[hlab];by_cases h2:k=2
   ·rw[if_pos h2] at he;rw[if_pos h2,if_pos h2,Ex.wwl h1 g hb e he]
   ·rw[if_neg h2] at he;rw[if_neg h2,if_neg h2,Ex.wwl h1 g ho e he]
theorem De.wwl(g:Nat→Bz):∀(l:List De) (own sc:Scs) (n:Nat),ScB bs own→ScB bs sc→Agr bs n (De.bnl l)→∀{m:List Bz},qd3 own m→(∀x,x∈l.flatMap De.names→x∈m)→(∀e,e∈De.evl own sc n l→Fre f bs e)→De.wl g (mpS f own) (mpS f sc) n (De.wl f own sc n l)=De.wl g own sc n l
 | [],_,_,_,_,_,_,_,_,_,_=>rfl
 | x::l,own,sc,n,ho,hb,ha,m,hm,hl,he=>by
  rw[De.bnl] at ha;rw[De.evl] at he;have h2:=ha.snd;rw[De.bn_length] at h2;simp only[De.wl];rw[De.nb_w h1 x own sc n ha.fst,De.ww g x own sc n ho hb ha.fst (fun y hy=>hm y (hl y (by rw[qpR];exact qpx _ hy))) fun e h=>he e (qpx _ h),
   De.wwl g l own sc _ ho hb h2 hm (fun y hy=>hl y (by rw[qpR];exact qpA _ hy)) fun e h=>he e (qpA _ h)]
theorem Sm.wwl(g:Nat→Bz):∀(l:List Sm) (sc:Scs) (n:Nat),ScB bs sc→Agr bs n (Sm.bnl l)→qd3 sc (qk l)→(∀e,e∈Sm.evl sc n l→Fre f bs e)→Sm.wl g (mpS f sc) n (Sm.wl f sc n l)=Sm.wl g sc n l
 | [],_,_,_,_,_,_=>rfl
 | x::l,sc,n,hb,ha,hl,he=>by
  rw[Sm.bnl] at ha;rw[Sm.evl] at he;have h2:=ha.snd;rw[Sm.bn_length] at h2;simp only[Sm.wl];have hx:∀y,y∈qk l→y∈qk (x::l):=fun y hy=>by unfold qk;rw[qpR];exact qpA _ hy
  rw[Sm.nb_w h1 x sc n ha.fst,Sm.ww g x sc n hb ha.fst (fun y hy=>hl y (by unfold qk;rw[qpR];exact qpx _ hy)) fun e h=>he e (qpx _ h),
   Sm.wwl g l sc _ hb h2 (fun y hy=>hl y (hx y hy)) fun e h=>he e (qpA _ h)]
theorem Sm.ww1(g:Nat→Bz):∀(l:List Sm) (sc:Scs) (n:Nat),ScB bs sc→Agr bs n (Sm.bn1 l)→(∀e,e∈Sm.ev1 sc n l→Fre f bs e)→Sm.w1 g (mpS f sc) n (Sm.w1 f sc n l)=Sm.w1 g sc n l
 | [],_,_,_,_,_=>rfl
 | x::l,sc,n,hb,ha,he=>by
  rw[Sm.bn1] at ha;rw[Sm.ev1] at he;have h2:=ha.snd;have h3:=ha.fst.snd;rw[qpw,Sm.bn_length,qA,←qp3,←qx _ n 0] at h2;rw[qA,←qx _ n 0] at h3;have hs:=hb.cons (sc:=sc) ha.fst.fst;simp only[Sm.w1];have e1:=Sm.ww g x _ _ hs h3 (zz _ n sc) fun e h=>he e (qpx _ h)
  have e2:=Sm.ww1 g l sc _ hb h2 fun e h=>he e (qpA _ h)
  rw[Sm.w_labels,Qz h1 ha.fst.fst,QB,Sm.nb_w h1 x _ _ h3,e2];exact congrArg (·::_) e1
end
end
abbrev Lk:=Bz→Option Ex
def sbn(lk:Lk)(t:Bz):Bz:=match lk t with
 | some y=>y.text
 | none=>t
def qgD(lk:Lk)(t:Bz):Bool:=match lk t with
 | some y=>decide (y.kind≠6)
 | none=>false
def qlO(lk:Lk)(tg:Bool)(t:Bz):Bool:=match lk t with
 | some y=>tg && decide (y.kind≠6) && decide (y.kind≠7)
 | none=>false
mutual
def Ex.sb(lk:Lk):Ex→Ex
 | .mk k o n m e t a=>if k=6 then (match lk t with
   | some y=>y
   | none=>.mk k o n m e t (Ex.sbl lk a))
  else .mk k o n m e (if Ex.named k then sbn lk t else t) (Ex.sbl lk a)
def Ex.sbl(lk:Lk):List Ex→List Ex
 | []=>[]
 | x::l=>Ex.sb lk x::Ex.sbl lk l
end
mutual
def Ex.sbad(lk:Lk)(tg:Bool):Ex→Bool
 | .mk k _ _ _ _ t a=>Ex.sbadl lk false a || (if k=6 then qlO lk tg t else Ex.named k && qgD lk t)
def Ex.sbadl(lk:Lk)(tg:Bool):List Ex→Bool
 | []=>false
 | x::l=>Ex.sbad lk tg x || Ex.sbadl lk tg l
end
def El.sb(lk:Lk)(e:El):El:=⟨e.kind,Ex.sbl lk e.exps⟩
def El.sbadl(lk:Lk):List El→Bool
 | []=>false
 | x::l=>Ex.sbadl lk false x.exps || El.sbadl lk l
mutual
def Sm.sb(lk:Lk):Sm→Sm
 | .mk l k t g e h d b=>.mk l k (if k=6 then sbn lk t else t) (Ex.sbl lk g) (Ex.sbl lk e) (h.map (El.sb lk)) (De.sbl lk d) (Sm.sbl lk b)
def De.sb(lk:Lk):De→De
 | .mk k o t n e f b=>.mk k o t n (Ex.sbl lk e) f (Sm.sbl lk b)
def De.sbl(lk:Lk):List De→List De
 | []=>[]
 | x::l=>De.sb lk x::De.sbl lk l
def Sm.sbl(lk:Lk):List Sm→List Sm
 | []=>[]
 | x::l=>Sm.sb lk x::Sm.sbl lk l
end
mutual
def Sm.sbad(lk:Lk):Sm→Bool
 | .mk _ k t g e h d b=>Ex.sbadl lk true g || Ex.sbadl lk false e || El.sbadl lk h || De.sbadl lk d || Sm.sbadl lk b || (decide (k=6) && qgD lk t)
def De.sbad(lk:Lk):De→Bool
 | .mk _ _ _ _ e _ b=>Ex.sbadl lk false e || Sm.sbadl lk b
def De.sbadl(lk:Lk):List De→Bool
 | []=>false
 | x::l=>De.sbad lk x || De.sbadl lk l
def Sm.sbadl(lk:Lk):List Sm→Bool
 | []=>false
 | x::l=>Sm.sbad lk x || Sm.sbadl lk l
end
def sbT(lk:Lk)(sc:Scs)(t:Bz):Bz:=match sc.at t with
 | some _=>t
 | none=>sbn lk t
def qbd(lk:Lk)(sc:Scs)(t:Bz):Bool:=match sc.at t with
 | some _=>false
 | none=>qgD lk t
def sbX(lk:Lk)(sc:Scs)(x:Ex):Ex:=match sc.at x.text with
 | some _=>x
 | none=>(lk x.text).getD x
def qe5(lk:Lk)(sc:Scs)(tg:Bool)(t:Bz):Bool:=match sc.at t with
 | some _=>false
 | none=>qlO lk tg t
def sbP(lk:Lk):Pw where
 H:=Bool
 f _ x:=x
 nm:=some fun x sc _=>if x.kind=6 then sbX lk sc x else .mk x.kind x.op x.n x.man x.exp (sbT lk sc x.text) x.args
 cl:=some fun x sc=>sbT lk sc x
 ent h _ _:=h
 nmH h x sc tg:=h || (if x.kind=6 then qe5 lk sc tg x.text else qbd lk sc x.text)
 clH h x sc:=h || qbd lk sc x
section
variable {p:Pw} (hp:∀k x,p.f k x=x)
include hp
theorem qgC(sc:Scs)(x:Bz):ZO p sc x=x:=by
 unfold ZO;cases sc.at x <;> simp[hp]
theorem Qn(sc:Scs)(l:List Bz):l.map (ZO p sc)=l:=by
 rw[qqf fun x _=>qgC hp sc x];simp
theorem Sm.wr_labels(sc:Scs)(n:Nat)(x:Sm):(x.wr p sc n).labels=x.labels:=by
 cases x;rw[Sm.wr];split
 ·exact Qn hp _ _
 ·split <;> exact Qn hp _ _
theorem Sm.wrl_labels(sc:Scs):∀(l:List Sm) (n:Nat),qk (Sm.wrl p sc n l)=qk l
 | [],_=>rfl
 | x::l,n=>by
  have:=Sm.wrl_labels sc l (n+Sm.nb x);unfold qk at this ⊢;rw[Sm.wrl,qpR,qpR,this,Sm.wr_labels hp]
theorem De.wrl_names(own sc:Scs):∀(l:List De) (n:Nat),(De.wrl p own sc n l).flatMap De.names=l.flatMap De.names
 | [],_=>rfl
 | x::l,n=>by
  rw[De.wrl,qpR,qpR,De.wrl_names own sc l];congr 1;cases x;rw[De.wr];split <;> exact Qn hp _ _
theorem Z8(own sc:Scs)(d:List De)(b:List Sm)(n m:Nat):qe (De.wrl p own sc n d) (Sm.wrl p own m b)=qe d b:=by
 unfold qe;rw[De.wrl_names hp,Sm.wrl_labels hp]
theorem Fo.wr_id(sc:Scs)(l:List Fo):l.map (Fo.wr p sc)=l:=by
 rw[qqf fun x _=>(show Fo.wr p sc x=x by unfold Fo.wr;rw[qgC hp])];simp
variable {nm:Bz→Bool}
mutual
theorem Sm.bn_wr:∀(s:Sm) (sc:Scs) (n:Nat),(Pa.st s).valid nm=true→(s.wr p sc n).bn=s.bn
 | .mk l k t g e hh d b,sc,n,v=>by
  have vd:=Sm.valid_decls v;have vb:=Sm.valid_body v;simp only[Sm.decls,Sm.body] at vd vb;rw[Sm.wr];by_cases h7:k=7
  ·rw[if_pos h7,Sm.bn,if_pos h7,Sm.bn,if_pos h7,Z8 hp,De.bnl_wr d _ _ _ vd,Sm.bnl_wr b _ _ vb]
  ·by_cases h8:k=8
   ·rw[if_neg h7,if_pos h8,Sm.bn,if_neg h7,if_pos h8,Sm.bn,if_neg h7,if_pos h8,Sm.wrl_labels hp,Sm.bnl_wr b _ _ vb]
   ·rw[if_neg h7,if_neg h8,Sm.bn,if_neg h7,if_neg h8,Sm.bn,if_neg h7,if_neg h8,Sm.bn1_wr b _ _ vb]
theorem De.bn_wr:∀(s:De) (own sc:Scs) (n:Nat),(Pa.de s).valid nm=true→(s.wr p own sc n).bn=s.bn
 | .mk k o t ns e fo b,own,sc,n,v=>by
  have vb:=De.valid_body v;simp only[De.body] at vb;rw[De.wr];by_cases h4:k=4
  ·rw[if_pos h4,De.bn,if_pos h4,De.bn,if_pos h4,Fo.wr_id hp,Sm.bn1_wr b _ _ vb]
  ·rw[if_neg h4,De.bn,if_neg h4,De.bn,if_neg h4]
theorem De.bnl_wr:∀(l:List De) (own sc:Scs) (n:Nat),(∀x,x∈l→(Pa.de x).valid nm=true)→De.bnl (De.wrl p own sc n l)=De.bnl l
 | [],_,_,_,_=>rfl
 | x::l,own,sc,n,v=>by rw[De.wrl,De.bnl,De.bnl,De.bn_wr x own sc n (v x (by simp)),De.bnl_wr l own sc _ fun y hy=>v y (by simp[hy])]
theorem Sm.bnl_wr:∀(l:List Sm) (sc:Scs) (n:Nat),(∀x,x∈l→(Pa.st x).valid nm=true)→Sm.bnl (Sm.wrl p sc n l)=Sm.bnl l
 | [],_,_,_=>rfl
 | x::l,sc,n,v=>by rw[Sm.wrl,Sm.bnl,Sm.bnl,Sm.bn_wr x sc n (v x (by simp)),Sm.bnl_wr l sc _ fun y hy=>v y (by simp[hy])]
theorem Sm.bn1_wr:∀(l:List Sm) (sc:Scs) (n:Nat),(∀x,x∈l→(Pa.st x).valid nm=true)→Sm.bn1 (Sm.wr1 p sc n l)=Sm.bn1 l
 | [],_,_,_=>rfl
 | x::l,sc,n,v=>by rw[Sm.wr1,Sm.bn1,Sm.bn1,Sm.wr_labels hp,Sm.bn_wr x _ _ (v x (by simp)),Sm.bn1_wr l sc _ fun y hy=>v y (by simp[hy])]
end
theorem Sm.nb_wr(s:Sm)(sc:Scs)(n:Nat)(v:(Pa.st s).valid nm=true):(s.wr p sc n).nb=s.nb:=by rw[←Sm.bn_length,Sm.bn_wr hp s sc n v,Sm.bn_length]
theorem De.nb_wr(s:De)(own sc:Scs)(n:Nat)(v:(Pa.de s).valid nm=true):(s.wr p own sc n).nb=s.nb:=by rw[←De.bn_length,De.bn_wr hp s own sc n v,De.bn_length]
theorem De.nbl_wr(l:List De)(own sc:Scs)(n:Nat)(v:∀x,x∈l→(Pa.de x).valid nm=true):De.nbl (De.wrl p own sc n l)=De.nbl l:=by rw[←De.bnl_length,De.bnl_wr hp l own sc n v,De.bnl_length]
end
set_option maxRecDepth 20000
noncomputable def c110:F':=⟨11,[.t 5],.k [.a 5 (.str ⟨⟨[]⟩⟩)] (.k [.l 6 2,.m 7 0,.m 8 1,.o 9 (.call (.t 6) [(.t 7),(.t 8)])] (.k [.m 10 0,.m 5 10] .ret))⟩
theorem ok110:okF f110 c110:=okI
abbrev ptV(p:Nat):V:=.ptr p 0 0 1
def coU(h:List Bz×List Bz)(x:Bz)(sc:Scs):List Bz×List Bz:=match sc.at x with
 | some _=>h
 | none=>(h.1++[x],h.2)
def coP:Pw where
 H:=List Bz×List Bz
 f _ x:=x
 nm:=some fun x _ _=>x
 cl:=some fun x _=>x
 ent h _ x:=(h.1,h.2++[x])
 nmH h x sc _:=coU h x.text sc
 clH h x sc:=coU h x sc
structure Co(m c4 c5 c6:Nat)(h:List Bz×List Bz)(v:V)(ps:List Nat)(F D:Np)(U:St):Prop where
 f4:U[c4]?=some (.arr [.map m] 1 1)
 fm:∃bs ck,ZB bs ck∧U[m]?=some (.map ((h.1.foldl Qr []).map kv) bs ck)
 f5:U[c5]?=some (.arr [v] 1 1)
 f6:U[c6]?=some (.arr [.fn (.func 107) [] [.ptr c4 0 0 1]] 1 1)
 gr:(ps=[]∧v=.sl true [])∨∃a wr,v=.arr a 0 ps.length ps.length∧U[a]?=some (.arr (ps.map ptV) 1 wr)∧wr≤ps.length∧F a∧a≠c5
 pn:ps.length=h.2.length
 pl:∀i p x,ps[i]?=some p→h.2[i]?=some x→D p∧U[p]?=some (plc x i x)
 dF:∀l,F l→l=m∨l=c5∨∃n,v=.arr l 0 n n
 dD:∀l,D l→l=c4∨l=c6∨l∈ps
 hm:F m
 h5:F c5
 h4:D c4
 h6:D c6
def coC(m c4 c5 c6:Nat):Cb where
 toPw:=coP
 fe:=.fn (.func 108) [] [.ptr c5 0 0 1]
 fn:=.fn (.func 109) [] [.ptr c6 0 0 1]
 fc:=.fn (.func 110) [] [.ptr c6 0 0 1]
 I h F D U:=∃v ps,Co m c4 c5 c6 h v ps F D U
 cn h n:=h.2.length=n
 lim:=100001
theorem jq{U:St}{i j:Nat}{a b:Ob}(h:U[i]?=some a)(g:U[j]?=some b)(n:a≠b):i≠j:=by
 rintro rfl;rw[h] at g;cases g;exact n rfl
section
variable {m c4 c5 c6:Nat} {h:List Bz×List Bz} {v:V} {ps:List Nat} {F D:Np} {U:St}
theorem Co.place(k:Co m c4 c5 c6 h v ps F D U){p:Nat}(hp:p∈ps):∃x i,D p∧U[p]?=some (plc x i x):=by
 obtain ⟨i,hi⟩:=qqz.1 hp;have h1:=(qpi.1 hi).1;rw[k.pn] at h1;exact ⟨_,i,k.pl i p _ hi (qpn h1)⟩
theorem Co.gF(k:Co m c4 c5 c6 h v ps F D U){l:Nat}(hl:F l):∃o,U[l]?=some o∧(∀i,o≠.loop i)∧¬ D l:=by
 have nD:∀o,U[l]?=some o→o≠.arr [.map m] 1 1→o≠.arr [.fn (.func 107) [] [.ptr c4 0 0 1]] 1 1→(∀x i,o≠plc x i x)→¬ D l:=fun o ho n1 n2 n3 hD=>by
  rcases k.dD l hD with rfl|rfl|hp
  ·rw[k.f4] at ho;cases ho;exact n1 rfl
  ·rw[k.f6] at ho;cases ho;exact n2 rfl
  ·obtain ⟨x,i,_,h2⟩:=k.place hp;rw[h2] at ho;cases ho;exact n3 x i rfl
 rcases k.dF l hl with rfl|rfl|⟨n,hv⟩
 ·obtain ⟨bs,ck,hst,hm⟩:=k.fm;exact ⟨_,hm,by simp,nD _ hm (by simp) (by simp) (by simp[plc])⟩
 ·refine ⟨_,k.f5,by simp,nD _ k.f5 ?_ ?_ (by simp[plc])⟩
  ·rcases k.gr with ⟨_,rfl⟩|⟨a,wr,rfl,_⟩ <;> simp
  ·rcases k.gr with ⟨_,rfl⟩|⟨a,wr,rfl,_⟩ <;> simp
 ·rcases k.gr with ⟨_,rfl⟩|⟨a,wr,rfl,ha,_,_⟩
  ·cases hv
  ·cases hv;refine ⟨_,ha,by simp,nD _ ha ?_ ?_ (by simp[plc])⟩
   ·intro hh;injection hh with hh;cases ps <;> simp at hh
   ·intro hh;injection hh with hh;cases ps <;> simp at hh
theorem Co.gD(k:Co m c4 c5 c6 h v ps F D U){l:Nat}(hl:D l):∃o,U[l]?=some o∧∀i,o≠.loop i:=by
 rcases k.dD l hl with rfl|rfl|hp
 ·exact ⟨_,k.f4,by simp⟩
 ·exact ⟨_,k.f6,by simp⟩
 ·obtain ⟨x,i,_,h2⟩:=k.place hp;exact ⟨_,h2,by simp[plc]⟩
theorem Co.fr{U':St}{M:Np}(k:Co m c4 c5 c6 h v ps F D U)(hk:Kp M U U')(hM:∀l,M l→l<U.length→¬ F l∧¬ D l):Co m c4 c5 c6 h v ps F D U':=by
 have nF:∀{l o},U[l]?=some o→F l→U'[l]?=some o:=fun ho hf=>hk.at ho fun hm=>(hM _ hm (glt ho)).1 hf
 have nD:∀{l o},U[l]?=some o→D l→U'[l]?=some o:=fun ho hf=>hk.at ho fun hm=>(hM _ hm (glt ho)).2 hf
 obtain ⟨bs,ck,hst,hm⟩:=k.fm;exact ⟨nD k.f4 k.h4,⟨bs,ck,hst,nF hm k.hm⟩,nF k.f5 k.h5,nD k.f6 k.h6,k.gr.imp id fun ⟨a,wr,h1,h2,h3,h4,h5⟩=>⟨a,wr,h1,nF h2 h4,h3,h4,h5⟩,k.pn,fun i p x h1 h2=>⟨(k.pl i p x h1 h2).1,nD (k.pl i p x h1 h2).2 (k.pl i p x h1 h2).1⟩,k.dF,k.dD,k.hm,k.h5,k.h4,k.h6⟩
theorem Co.use(k:Co m c4 c5 c6 h v ps F D U)(x:Bz){bs:List Nat}{ck:Nat}(hst:ZB bs ck):Co m c4 c5 c6 (h.1++[x],h.2) v ps F D (U.set m (.map (((h.1++[x]).foldl Qr []).map kv) bs ck)):=by
 obtain ⟨bs0,ck0,_,hm⟩:=k.fm
 have g:∀{l o},U[l]?=some o→(∀a b c,o≠Ob.map a b c)→(U.set m (.map (((h.1++[x]).foldl Qr []).map kv) bs ck))[l]?=some o:=fun {l o} ho n=>by
  rw[qpm]
  ·exact ho
  ·exact jq hm ho (Ne.symm (n _ _ _))
 exact ⟨g k.f4 (by simp),⟨bs,ck,hst,qpl (glt hm)⟩,g k.f5 (by simp),g k.f6 (by simp),k.gr.imp id fun ⟨a,wr,h1,h2,h3,h4,h5⟩=>⟨a,wr,h1,g h2 (by simp),h3,h4,h5⟩,k.pn,fun i p x h1 h2=>⟨(k.pl i p x h1 h2).1,g (k.pl i p x h1 h2).2 (by simp[plc])⟩,k.dF,k.dD,k.hm,k.h5,k.h4,k.h6⟩
end
theorem qky{S:St}{sz bytes:Nat}{y:V}{b:Bool}(hy:fits sz [y]=true)(hr:bytes≤2 ^ 47):Z7 S sz bytes (.sl true []) (.sl b [y])=some (.arr S.length 0 1 1,S++[.arr [y] sz 1]):=by
 unfold Z7;rw[ZE];have hc:true=true∧fits sz [y]=true∧(([]:List V).all fun v=>v.size==sz)=true∧(([]:List V).length+[y].length) * bytes≤2 ^ 47:=⟨rfl,hy,rfl,by simpa using hr⟩;show (if ([y]:List V).isEmpty=true then _ else _)=_;rw[if_neg (by simp),if_pos hc];simp
theorem qkC{S:St}{sz bytes l wr:Nat}{xs:List V}{y:V}{b:Bool}(h3:S[l]?=some (.arr xs sz wr))(hy:fits sz [y]=true)(hr:(xs.length+1) * bytes≤2 ^ 47):Z7 S sz bytes (.arr l 0 xs.length xs.length) (.sl b [y])=some (.arr l 0 (xs.length+1) (xs.length+1),S.set l (.arr (xs++[y]) sz wr)):=by
 have hc:0=0∧xs.length=xs.length∧xs.length=xs.length∧sz=sz∧fits sz [y]=true∧(xs.length+[y].length) * bytes≤2 ^ 47:=⟨rfl,rfl,rfl,rfl,hy,hr⟩;unfold Z7;rw[ZE];show (match S[l]? with|_=>_)=_;rw[h3];show (if _ then _ else _)=_;rw[if_pos hc];rfl
theorem qjY{m c4 c5 c6:Nat}{h:List Bz×List Bz}{v:V}{ps:List Nat}{F D:Np}{U:St}(k:Co m c4 c5 c6 h v ps F D U)(p:Nat)(x:Bz)(hp:U[p]?=some (plc x h.2.length x))(nF:¬ F p)(hn:h.2.length≤100000):
  qt prog 108 [.ptr p 0 0 1,.ptr c5 0 0 1] U (fun _ U'=>∃v' F',Co m c4 c5 c6 (h.1,h.2++[x]) v' (ps++[p]) F' (fun l=>D l∨l=p) U'∧U'[p]?=some (plc x h.2.length x)∧Kp (fun l=>l=p∨F l) U U'∧grow U F F'):=by
 refine qt.ib func108 ok108 ?_;have hpn:=k.pn;obtain ⟨bs,ck,hst,hm⟩:=k.fm;have fin:∀(U1:St) (a wr:Nat),U1[a]?=some (.arr ((ps++[p]).map ptV) 1 wr)→wr≤ps.length+1→(F a∨U.length≤a)→a≠c5→a≠m→U.length≤U1.length→(∀l o,U[l]?=some o→l≠a→U1[l]?=some o)→
   ∃v' F',Co m c4 c5 c6 (h.1,h.2++[x]) v' (ps++[p]) F' (fun l=>D l∨l=p) (U1.set c5 (.arr [.arr a 0 (ps.length+1) (ps.length+1)] 1 1))∧(U1.set c5 (.arr [.arr a 0 (ps.length+1) (ps.length+1)] 1 1))[p]?=some (plc x h.2.length x)∧Kp (fun l=>l=p∨F l) U (U1.set c5 (.arr [.arr a 0 (ps.length+1) (ps.length+1)] 1 1))∧grow U F F':=by
  intro U1 a wr h2 h3 h4 h5 h5' h6' h6
  have q:∀{l o},U[l]?=some o→l≠c5→l≠a→(U1.set c5 (.arr [.arr a 0 (ps.length+1) (ps.length+1)] 1 1))[l]?=some o:=fun {l o} ho n1 n2=>by
   rw[qpm (Ne.symm n1)];exact h6 l o ho n2
  have nq:∀{l o},U[l]?=some o→¬ F l→(U1.set c5 (.arr [.arr a 0 (ps.length+1) (ps.length+1)] 1 1))[l]?=some o:=fun {l o} ho hF=>
   q ho (by rintro rfl;exact hF k.h5) (by rintro rfl;exact h4.elim hF fun hh=>by have:=glt ho;omega)
  have nDF:∀{l},D l→¬ F l:=fun hD hF=>by obtain ⟨_,_,_,h⟩:=k.gF hF;exact h hD
  refine ⟨.arr a 0 (ps.length+1) (ps.length+1),fun l=>l=m∨l=c5∨l=a,⟨nq k.f4 (nDF k.h4),⟨bs,ck,hst,q hm ?_ (Ne.symm h5')⟩,qpl ?_,nq k.f6 (nDF k.h6),.inr ⟨a,wr,by simp,?_,by simpa using h3,.inr (.inr rfl),h5⟩,by simp[hpn],fun i p' x' g1 g2=>?_,fun l hl=>?_,fun l hl=>?_,.inl rfl,.inr (.inl rfl),.inl k.h4,.inl k.h6⟩,nq hp nF,⟨by simpa using h6',fun l hl hn=>?_⟩,fun l hl=>?_⟩
  ·refine jq hm k.f5 (by simp)
  ·have:=glt k.f5;omega
  ·rw[qpm (Ne.symm h5)];exact h2
  ·by_cases hi:i<ps.length
   ·rw[qpk hi] at g1;rw[qpk (by omega)] at g2;obtain ⟨e1,e2⟩:=k.pl i p' x' g1 g2;exact ⟨.inl e1,nq e2 (nDF e1)⟩
   ·have h1:=(qpi.1 g1).1;rw[qpw,List.length_singleton] at h1;have:i=ps.length:=by omega
    subst this;simp at g1;rw[hpn] at g2;simp at g2;subst g1 g2;have e:=nq hp nF;rw[←hpn] at e;exact ⟨.inr rfl,e⟩
  ·exact hl.imp id fun hl=>hl.imp id fun hl=>⟨ps.length+1,by rw[hl]⟩
  ·rcases hl with hl|rfl
   ·exact (k.dD l hl).imp id fun hl=>hl.imp id fun hl=>by simp[hl]
   ·exact .inr (.inr (by simp))
  ·have:∃o,U[l]?=some o:=⟨_,qpn hl⟩;obtain ⟨o,ho⟩:=this;rw[ho];exact nq ho fun hf=>hn (.inr hf)
  ·rcases hl with rfl|rfl|rfl
   ·exact .inl k.hm
   ·exact .inl k.h5
   ·exact h4
 have hf:=k.f5;have hft:fits 1 [V.ptr p 0 0 1]=true:=rfl;rcases k.gr with ⟨rfl,rfl⟩|⟨a,wr,rfl,ha,hw,hF,hne⟩
 ·have happ:=qky (S:=U) (sz:=1) (bytes:=8) (y:=.ptr p 0 0 1) (b:=true) rfl (by omega);have hs:(U++[Ob.arr [.ptr p 0 0 1] 1 1])[c5]?=some (.arr [.sl true []] 1 1):=gp hf;simp[c108,ldS,hf,hft,evX,happ,stS,hs];refine qv rfl ?_;exact (fin (U++[Ob.arr [ptV p] 1 1]) U.length 1 (by simp) (by simp) (.inr (qpo _)) (by have:=glt hf;omega) (by have:=glt hm;omega) (by simp) fun l o ho _=>gp ho)
 ·have happ:=qkC (S:=U) (sz:=1) (bytes:=8) (y:=.ptr p 0 0 1) (b:=true) ha rfl (by rw[qps];omega);simp at happ;have hs:(U.set a (Ob.arr (ps.map ptV++[.ptr p 0 0 1]) 1 wr))[c5]?=some (.arr [.arr a 0 ps.length ps.length] 1 1):=by rw[qpm hne];exact hf
  simp[c108,ldS,hf,hft,evX,happ,stS,hs];refine qv rfl ?_;exact (fin (U.set a (Ob.arr (ps.map ptV++[.ptr p 0 0 1]) 1 wr)) a wr (by rw[qpl (glt ha),qpH];rfl) (by omega) (.inl hF) hne (jq ha hm (by simp)) (by simp) fun l o ho hl=>by rw[qpm (Ne.symm hl)];exact ho)
section
variable {m c4 c5 c6:Nat} {h:List Bz×List Bz} {v:V} {ps:List Nat} {F D:Np} {U:St}
theorem Co.lt(k:Co m c4 c5 c6 h v ps F D U){l:Nat}(hl:F l∨D l):l<U.length:=by
 rcases hl with hl|hl
 ·obtain ⟨_,h,_⟩:=k.gF hl;exact glt h
 ·obtain ⟨_,h,_⟩:=k.gD hl;exact glt h
theorem Co.push(k:Co m c4 c5 c6 h v ps F D U)(os:List Ob):Co m c4 c5 c6 h v ps F D (U++os):=k.fr (M:=fun _=>False) ((Kp.refl _ _).push _) fun _ h=>h.elim
theorem Co.set(k:Co m c4 c5 c6 h v ps F D U){l:Nat}(o:Ob)(hF:¬ F l)(hD:¬ D l):Co m c4 c5 c6 h v ps F D (U.set l o):=k.fr (M:=fun x=>x=l) ((Kp.refl _ _).set _ (.inl rfl)) fun x hx _=>by rw[hx];exact ⟨hF,hD⟩
end
theorem qe8{m c4 c5 c6:Nat}{h:List Bz×List Bz}{v:V}{ps:List Nat}{F D:Np}{U:St}(k:Co m c4 c5 c6 h v ps F D U){X:Np}{w:V}{ts:List Sct}(hsc:ScR coP X U w ts)(x:Bz):
  qt prog 107 [.str x,w,.ptr c4 0 0 1] U (fun _ U'=>Co m c4 c5 c6 (coU h x (Scx ts)) v ps F D U'∧Kp F U U'):=by
 refine qt.ib func107 ok107 ?_;simp[c107];refine qg (JU hsc x) ?_;have hat:=Jf ts x;unfold coU;rw[hat];have h4:=k.f4;obtain ⟨bs,ck,hst,hm⟩:=k.fm
 cases hf:fnd ts x with
 | some q=>
  simp[YD,hf,yl,eqV];exact qv rfl ⟨k,Kp.refl _ _⟩
 | none=>
  simp[YD,hf,yl,eqV,ldS,h4];have hft:fits 1 [V.str x]=true:=rfl;simp[hft];refine qj (qik true [x] _ bs ck m U (by simp) hm) ?_;rintro r U' ⟨bs',ck',hst',rfl⟩;simp;have:=k.use x (hst' hst);rw[qpX] at this;exact qv rfl ⟨this,(Kp.refl _ _).set _ (.inl k.hm)⟩
theorem qjv{m c4 c5 c6:Nat}{h:List Bz×List Bz}{v:V}{ps:List Nat}{F D:Np}{U:St}(k:Co m c4 c5 c6 h v ps F D U){X:Np}{w:V}{ts:List Sct}(hsc:ScR coP X U w ts)(x:Ex)(tg:Bool):
  qt prog 109 [x.v,w,.bool tg,.ptr c6 0 0 1] U (fun r U'=>r=x.v∧Co m c4 c5 c6 (coU h x.text (Scx ts)) v ps F D U'∧Kp F U U'):=by
 refine qt.ib func109 ok109 ?_;simp[c109,qM];obtain ⟨U1,hU1⟩:∃U1:St,U1=U++[.arr [x.v] 7 1,.arr [.agg [.int .i64 0,.int .i64 0,.int .i64 0,.int .i64 0,.int .i64 0,.str ⟨⟨[]⟩⟩,.sl true []]] 7 1]:=⟨_,rfl⟩;rw[←hU1];have l1:U1.length=U.length+2:=by rw[hU1];simp
 have b0:U1[U.length]?=some (.arr [x.v] 7 1):=by rw[hU1];simp
 have b1:U1[U.length+1]?=some (.arr [.agg [.int .i64 0,.int .i64 0,.int .i64 0,.int .i64 0,.int .i64 0,.str ⟨⟨[]⟩⟩,.sl true []]] 7 1):=by rw[hU1,qpj (by omega)];simp
 have k1:Co m c4 c5 c6 h v ps F D U1:=by rw[hU1];exact k.push _
 have s1:ScR coP X U1 w ts:=by rw[hU1];exact hsc.push _
 have kp1:Kp F U U1:=by rw[hU1];exact (Kp.refl _ _).push _
 clear hU1;have h6:=k1.f6;have nF:∀j,¬ F (U.length+j):=fun j hf=>by have:=k.lt (.inl hf);omega
 have nD:∀j,¬ D (U.length+j):=fun j hf=>by have:=k.lt (.inr hf);omega
 simp[ldS,h6,b0];refine qj (qe8 k1 s1 x.text) ?_;rintro r U2 ⟨k2,kp2⟩;have c0:=kp2.at b0 (nF 0);have c1:=kp2.at b1 (nF 1);simp[ldS,c0,stS,c1,qi];have hz:(U2.set (U.length+1) (.arr [x.v] 7 1))[U.length+1]?=some (.arr [x.v] 7 1):=qpl (glt c1);exact qf (vs:=[x.v]) (by simp[rvs,ldS,hz]) ⟨rfl,k2.set _ (nF 1) (nD 1),(kp1.trans kp2).set _ (.inr (by omega))⟩
theorem qkS{m c4 c5 c6:Nat}{h:List Bz×List Bz}{v:V}{ps:List Nat}{F D:Np}{U:St}(k:Co m c4 c5 c6 h v ps F D U){X:Np}{w:V}{ts:List Sct}(hsc:ScR coP X U w ts)(x:Bz):
  qt prog 110 [.str x,w,.ptr c6 0 0 1] U (fun r U'=>r=.str x∧Co m c4 c5 c6 (coU h x (Scx ts)) v ps F D U'∧Kp F U U'):=by
 refine qt.ib func110 ok110 ?_;have h6:=k.f6;simp[c110,ldS,h6];refine qj (qe8 k hsc x) ?_;rintro r U2 ⟨k2,kp2⟩;simp;exact qf rfl ⟨rfl,k2,kp2⟩
theorem Co.real{m c4 c5 c6:Nat}{h:List Bz×List Bz}{v:V}{ps:List Nat}{F D:Np}{S:St}(k:Co m c4 c5 c6 h v ps F D S)(h':List Bz×List Bz):∃F' D' U v' ps',Co m c4 c5 c6 h' v' ps' F' D' U∧Kp F S U∧grow S F F'∧grow S D D':=by
 obtain ⟨bs,ck,hst,hm⟩:=k.fm;obtain ⟨n,hn⟩:∃n,n=h'.2.length:=⟨_,rfl⟩;obtain ⟨ps',hps⟩:∃ps':List Nat,ps'=(List.range n).map (S.length+·):=⟨_,rfl⟩;have lps:ps'.length=n:=by rw[hps];simp
 obtain ⟨os,hos⟩:∃os:List Ob,os=(h'.2.zipIdx.map fun e=>plc e.1 e.2 e.1)++[.arr (ps'.map ptV) 1 0]:=⟨_,rfl⟩;have los:os.length=n+1:=by rw[hos,hn];simp
 obtain ⟨U,hU⟩:∃U:St,U=((S++os).set m (.map ((h'.1.foldl Qr []).map kv) [] 0)).set c5 (.arr [.arr (S.length+n) 0 n n] 1 1):=⟨_,rfl⟩;have lm:=glt hm;have l5:=glt k.f5;have nDF:∀{l},D l→¬ F l:=fun hD hF=>by obtain ⟨_,_,_,h⟩:=k.gF hF;exact h hD
 have q:∀{l o},S[l]?=some o→¬ F l→U[l]?=some o:=fun {l o} ho hf=>by
  rw[hU,qpm (by rintro rfl;exact hf k.h5),qpm (by rintro rfl;exact hf k.hm)];rw[qpk (glt ho)];exact ho
 have new:∀j o,os[j]?=some o→U[S.length+j]?=some o:=fun j o ho=>by
  rw[hU,qpm (by omega),qpm (by omega),qpj (by omega),qqC];exact ho
 refine ⟨fun l=>l=m∨l=c5∨l=S.length+n,fun l=>l=c4∨l=c6∨l∈ps',U,.arr (S.length+n) 0 n n,ps',⟨q k.f4 (nDF k.h4),⟨[],0,ZB.nil,?_⟩,?_,q k.f6 (nDF k.h6),.inr ⟨S.length+n,0,by rw[lps],new n _ ?_,qp0 _,.inr (.inr rfl),by omega⟩,by rw[lps,hn],fun i p x h1 h2=>⟨.inr (.inr (qpp h1)),?_⟩,fun l hl=>hl.imp id fun hl=>hl.imp id fun hl=>⟨n,by rw[hl]⟩,fun l hl=>hl,.inl rfl,.inr (.inl rfl),.inl rfl,.inr (.inl rfl)⟩,⟨?_,fun l hl hf=>?_⟩,fun l hl=>?_,fun l hl=>?_⟩
 ·rw[hU,qpm (jq k.f5 hm (by simp)),qpl (by simp;omega)]
 ·rw[hU,qpl (by simp;omega)]
 ·rw[hos,qpj (by simp[hn])];simp[hn]
 ·rw[hps] at h1;simp at h1;obtain ⟨j,hj,rfl⟩:=h1;obtain ⟨h3,h4⟩:=qpi.1 hj;rw[List.getElem_range] at h4;rw[List.length_range] at h3;subst h4;refine new i _ ?_;rw[hos,qpk (by simp;omega)];simp[h2]
 ·rw[hU];simp
 ·obtain ⟨o,ho⟩:∃o,S[l]?=some o:=⟨_,qpn hl⟩;rw[ho];exact q ho hf
 ·rcases hl with rfl|rfl|rfl
  ·exact .inl k.hm
  ·exact .inl k.h5
  ·exact .inr (by omega)
 ·rcases hl with rfl|rfl|hl
  ·exact .inl k.h4
  ·exact .inl k.h6
  ·rw[hps] at hl;simp at hl;omega
theorem qmH(m c4 c5 c6:Nat):(coC m c4 c5 c6).Ok where
 lim:=qpo _
 lt:=fun ⟨v,ps,k⟩ l hl=>k.lt hl
 fr:=fun ⟨v,ps,k⟩ hk hM=>⟨v,ps,k.fr hk hM⟩
 lp:=fun ⟨v,ps,k⟩ l o ho=>⟨fun hf=>by obtain ⟨_,h1,h2,_⟩:=k.gF hf;rw[ho] at h1;cases h1;exact h2 _ rfl,fun hf=>by obtain ⟨_,h1,h2⟩:=k.gD hf;rw[ho] at h1;cases h1;exact h2 _ rfl⟩
 ce x hc:=by
  show (_++[x]).length=_+1;rw[qpw];exact congrArg (·+1) hc
 cm x sc tg hc:=by
  show (coU _ x.text sc).2.length=_;unfold coU;split <;> exact hc
 cc x sc hc:=by
  show (coU _ x sc).2.length=_;unfold coU;split <;> exact hc
 real:=fun {h F D S} ⟨v,ps,k⟩ h'=>by
  obtain ⟨F',D',U,v',ps',a,b,c,d⟩:=k.real h';exact ⟨F',D',U,⟨v',ps',a⟩,b,c,d⟩
 en:=.inr ⟨108,[.ptr c5 0 0 1],rfl,fun U p k x h F D hp hF hD hk hc ⟨v,ps,kk⟩=>by
  have hc:h.2.length=k:=hc;subst hc;refine qt.mono (qjY kk p x hp hF (Nat.le_of_lt_succ hk)) fun r U' ⟨v',F',a,b,c,d⟩=>?_
  exact ⟨F',fun l=>D l∨l=p,⟨v',ps++[p],a⟩,b,c,d,fun l hl=>hl.imp id .inl⟩⟩
 nm:=⟨109,[.ptr c6 0 0 1],rfl,fun U x w ts tg w' h F D hsc ⟨v,ps,k⟩=>qt.mono (qjv k hsc x tg) fun r U' ⟨a,b,c⟩=>⟨a,F,D,⟨v,ps,b⟩,c,grow.refl _ _,grow.refl _ _⟩⟩
 cl:=⟨110,[.ptr c6 0 0 1],rfl,fun U x w ts w' h F D hsc ⟨v,ps,k⟩=>qt.mono (qkS k hsc x) fun r U' ⟨a,b,c⟩=>⟨a,F,D,⟨v,ps,b⟩,c,grow.refl _ _,grow.refl _ _⟩⟩
def qo8(s:Sm)(S:St)(r:V)(U:St):Prop:=∃(m c4 c5 c6:Nat) (v:V) (ps:List Nat) (F D:Np),r=.tup [.map m,v]∧Co m c4 c5 c6 (s.wholeH coP ([],[])) v ps F D U∧Kp (fun _=>False) S U∧(∀l,F l∨D l→S.length≤l)
theorem Yn(y:V):V.upd .nilmap 0 1 y=if y.size=1∧y.cells.all V.flat=true then some y else none:=rfl
theorem qii(s:Sm)(hs:s.ok)(hsz:(Pa.st s).size≤4000)(hn:Sm.nb1 [s]≤100000)(S:St):qt prog 58 [s.v] S (fun r U=>qo8 s S r U):=by
 refine qt.ib func58 ok58 ?_;simp[c58,qM,ldS,stS,qi,qY,qF,evX,Yn,Yf];obtain ⟨B,hB⟩:∃B,B=S.length:=⟨_,rfl⟩;obtain ⟨S1,hS1⟩:∃S1:St,S1=S++[.arr [s.v] 8 1,.map [] [] 0,.arr [.map (B+1)] 1 1,.arr [.sl true []] 1 1,.arr [.fn (.func 107) [] [.ptr (B+2) 0 0 1]] 1 1,.arr [.agg [.int .i64 0,.fn (.func 108) [] [.ptr (B+3) 0 0 1],.fn (.func 109) [] [.ptr (B+4) 0 0 1],.fn (.func 110) [] [.ptr (B+4) 0 0 1]]] 4 1]:=⟨_,rfl⟩;rw[←hB,←hS1];have l1:S1.length=B+6:=by rw[hS1,hB];simp
 have g:∀j o,[Ob.arr [s.v] 8 1,.map [] [] 0,.arr [.map (B+1)] 1 1,.arr [.sl true []] 1 1,.arr [.fn (.func 107) [] [.ptr (B+2) 0 0 1]] 1 1,.arr [.agg [.int .i64 0,.fn (.func 108) [] [.ptr (B+3) 0 0 1],.fn (.func 109) [] [.ptr (B+4) 0 0 1],.fn (.func 110) [] [.ptr (B+4) 0 0 1]]] 4 1][j]?=some o→S1[B+j]?=some o:=fun j o ho=>by
  rw[hS1,qpj (by omega),hB,qqC,←hB];exact ho
 have kS:Kp (fun _=>False) S S1:=by rw[hS1];exact (Kp.refl _ _).push _
 have k1:Co (B+1) (B+2) (B+3) (B+4) ([],[]) (.sl true []) [] (fun l=>l=B+1∨l=B+3) (fun l=>l=B+2∨l=B+4) S1:=
  ⟨g 2 _ rfl,⟨[],0,ZB.nil,g 1 _ rfl⟩,g 3 _ rfl,g 4 _ rfl,.inl ⟨rfl,rfl⟩,rfl,fun i p x h=>by simp at h,fun l hl=>hl.imp id .inl,fun l hl=>hl.imp id .inl,.inl rfl,.inr rfl,.inl rfl,.inr rfl⟩
 have hw:Wk (coC (B+1) (B+2) (B+3) (B+4)) (B+5) 0 ([],[]) (fun l=>l=B+1∨l=B+3) (fun l=>l=B+2∨l=B+4) S1:=⟨g 5 _ rfl,⟨_,_,k1⟩,by omega,by omega,rfl⟩;clear g hS1 k1;refine qj (qco (coC (B+1) (B+2) (B+3) (B+4)) (qmH _ _ _ _) (B+5) s hs hsz ([],[]) _ _ S1 hw (Nat.le_succ_of_le hn)) ?_;rintro r U ⟨rfl,F2,D2,k2,s2⟩;obtain ⟨v,ps,kk⟩:=k2.st;have h4:=kk.f4;have h5:=kk.f5;have hvc:v.cells=[v]:=by rcases kk.gr with ⟨_,rfl⟩|⟨a,wr,rfl,_⟩ <;> rfl
 simp[ldS,h4,h5,hvc,Yc,Qe,QN];refine qf rfl ⟨_,_,_,_,_,_,_,_,rfl,kk,⟨qpV kS.len s2.k.len,fun l hl hn=>?_⟩,fun l hl=>?_⟩
 ·rw[s2.k.get l (by omega) (by rintro (hh|hh|hh) <;> omega)];exact kS.get l hl hn
 ·rcases hl with hl|hl
  ·rcases s2.gF l hl with (h|h)|h <;> omega
  ·rcases s2.gD l hl with (h|h)|h <;> omega
mutual
def Ex.occ:Ex→List Bz
 | .mk k _ _ _ _ t a=>Ex.occl a++(if Ex.named k then [t] else [])
def Ex.occl:List Ex→List Bz
 | []=>[]
 | x::l=>Ex.occ x++Ex.occl l
end
def El.occl:List El→List Bz
 | []=>[]
 | x::l=>Ex.occl x.exps++El.occl l
mutual
def Sm.occ:Sm→List Bz
 | .mk _ k t g e h d b=>if k=7 then De.occl d++Sm.occl b else if k=8 then Sm.occl b else Ex.occl g++Ex.occl e++El.occl h++Sm.occl b++(if k=6 then [t] else [])
def De.occ:De→List Bz
 | .mk k _ _ _ e _ b=>if k=4 then Sm.occl b else Ex.occl e
def De.occl:List De→List Bz
 | []=>[]
 | x::l=>De.occ x++De.occl l
def Sm.occl:List Sm→List Bz
 | []=>[]
 | x::l=>Sm.occ x++Sm.occl l
end
section
variable {f:Nat→Bz} {nm:Bz→Bool} (hf:∀k,nm (f k)=false)
def yd(h:coP.H):List Bz:=Prod.fst (α:=List Bz) (β:=List Bz) h
theorem zo(s:Sco):∀h:coP.H,yd (enters coP h s)=yd h:=by
 induction s with
 | nil=>intro h;rfl
 | cons e s ih=>intro h;exact ih _
include hf
theorem qgv(h:coP.H)(sc:Scs)(t:Bz)(ht:nm t=true):yd (coP.clH h t sc)=yd h++[zK f sc t].filter nm:=by
 show Prod.fst (coU h t sc)=_;unfold coU zK yd
 cases sc.at t with
 | none=>simp[ht]
 | some k=>simp[hf]
omit hf in
theorem qiu(sc:Scs)(tg:Bool)(h:coP.H)(k o n m e:Int)(t:Bz)(a:List Ex):coP.nmS sc tg h (.mk k o n m e t a)=if Ex.named k=true then coP.clH h t sc else h:=rfl
omit hf in
theorem qin(sc:Scs)(k:Int)(h:coP.H)(t:Bz):coP.clS sc k h t=if k=6 then coP.clH h t sc else h:=rfl
def coZ:coP.H:=(([],[]):List Bz×List Bz)
mutual
theorem Ex.fr(sc:Scs)(tg:Bool):∀(x:Ex) (h:coP.H),(Pa.ex x).valid nm=true→yd (Ex.hs coP sc tg h x)=yd h++(Ex.occ (x.w f sc)).filter nm
 | .mk k o n m e t a,h,v=>by
  have ha:=Ex.frl sc false a h (Ex.valid_args v);rw[Ex.hs,Ex.w,Ex.occ,qqD,←qpB,←ha];rw[qiu];by_cases hk:Ex.named k=true
  ·rw[if_pos hk,if_pos hk,if_pos hk];exact qgv hf _ sc t (Ex.valid_text v hk)
  ·rw[if_neg hk,if_neg hk,List.filter_nil,qqu]
theorem Ex.frl(sc:Scs)(tg:Bool):∀(l:List Ex) (h:coP.H),(∀x,x∈l→(Pa.ex x).valid nm=true)→yd (Ex.hsl coP sc tg h l)=yd h++(Ex.occl (Ex.wl f sc l)).filter nm
 | [],h,_=>by simp[Ex.hsl,Ex.wl,Ex.occl]
 | x::l,h,v=>by
  rw[Ex.hsl,Ex.wl,Ex.occl,Ex.frl sc tg l _ fun y hy=>v y (by simp[hy])];have:=Ex.fr sc tg x h (v x (by simp));rw[qqD,←qpB,←this]
end
theorem El.frl(sc:Scs):∀(l:List El) (h:coP.H),(∀x,x∈l→(Pa.el x).valid nm=true)→yd (El.hsl coP sc h l)=yd h++(El.occl (l.map (El.w f sc))).filter nm
 | [],h,_=>by simp[El.hsl,El.occl]
 | x::l,h,v=>by
  have h1:=Ex.frl hf sc false x.exps h (fun y hy=>(Pa.valid_iff.1 (v x (by simp))).2 _ (by simp only[Pa.kids];exact qp2 hy));have h2:=El.frl sc l (Ex.hsl coP sc false h x.exps) fun y hy=>v y (by simp[hy])
  show yd (El.hsl coP sc (Ex.hsl coP sc false h x.exps) l)=_;rw[h2,h1,qpv,El.occl,qqD,←qpB];unfold El.w;rw[←Ex.wl_map]
mutual
theorem Sm.fr:∀(s:Sm) (sc:Scs) (n:Nat) (h:coP.H),(Pa.st s).valid nm=true→yd (Sm.hs coP sc n h s)=yd h++(s.w f sc n).occ.filter nm
 | .mk l k t g e el d b,sc,n,h,v=>by
  obtain ⟨v7,v8,v9⟩:=Sm.valid_block v;have vd:=Sm.valid_decls v;have vb:=Sm.valid_body v;have vg:=Sm.valid_targets v;have ve:=Sm.valid_exps v;have vl:=Sm.valid_elems v;have vt:=Sm.valid_text v;simp only[Sm.decls,Sm.body,Sm.targets,Sm.exps,Sm.elems,Sm.kind,Sm.text] at vd vb vg ve vl vt;rw[Sm.hs,Sm.w];by_cases h7:k=7
  ·obtain ⟨rfl,rfl,rfl⟩:=v7 h7;rw[if_pos h7,if_pos h7,Sm.occ,if_pos h7,qqD,←qpB];rw[Sm.frl b _ _ _ vb,De.frl d _ _ _ _ vd,zo];rfl
  ·rw[if_neg h7,if_neg h7];by_cases h8:k=8
   ·obtain ⟨rfl,rfl,rfl,rfl⟩:=v8 h8;rw[if_pos h8,if_pos h8,Sm.occ,if_neg h7,if_pos h8];rw[Sm.frl b _ _ _ vb,zo];rfl
   ·obtain rfl:=v9 h7 h8;rw[if_neg h8,if_neg h8,Sm.occ,if_neg h7,if_neg h8];have e1:=Ex.frl hf sc true g h vg;have e2:=Ex.frl hf sc false e (Ex.hsl coP sc true h g) ve;have e3:=El.frl hf sc el (Ex.hsl coP sc false (Ex.hsl coP sc true h g) e) vl;have e4:=Sm.fr1 b sc n (El.hsl coP sc (Ex.hsl coP sc false (Ex.hsl coP sc true h g) e) el) vb;rw[e3,e2,e1] at e4;simp only[qqD];rw[qin];by_cases h6:k=6
    ·rw[if_pos h6,if_pos h6,if_pos h6];have e5:=qgv hf (Sm.hs1 coP sc n (El.hsl coP sc (Ex.hsl coP sc false (Ex.hsl coP sc true h g) e) el) b) sc t (vt h6);refine Eq.trans e5 ?_;rw[e4];simp only[qpB]
    ·rw[if_neg h6,if_neg h6];refine Eq.trans e4 ?_;simp only[qpB,List.filter_nil,qqu]
theorem De.fr:∀(s:De) (own sc:Scs) (n:Nat) (h:coP.H),(Pa.de s).valid nm=true→yd (De.hs coP own sc n h s)=yd h++(s.w f own sc n).occ.filter nm
 | .mk k o t ns e fo b,own,sc,n,h,v=>by
  obtain ⟨v4,v5⟩:=De.valid_proc v;have vb:=De.valid_body v;have ve:=De.valid_exps v;simp only[De.body,De.exps] at vb ve;rw[De.hs,De.w];by_cases h4:k=4
  ·obtain rfl:=v4 h4;rw[if_pos h4,if_pos h4,De.occ,if_pos h4,Sm.fr1 b _ _ _ vb,zo];rfl
  ·obtain ⟨rfl,rfl⟩:=v5 h4;rw[if_neg h4,if_neg h4,De.occ,if_neg h4];exact Ex.frl hf _ _ e h ve
theorem De.frl:∀(l:List De) (own sc:Scs) (n:Nat) (h:coP.H),(∀x,x∈l→(Pa.de x).valid nm=true)→yd (De.hsl coP own sc n h l)=yd h++(De.occl (De.wl f own sc n l)).filter nm
 | [],_,_,_,h,_=>by simp[De.hsl,De.wl,De.occl]
 | x::l,own,sc,n,h,v=>by
  rw[De.hsl,De.wl,De.occl,De.frl l own sc _ _ fun y hy=>v y (by simp[hy]),De.fr x own sc n h (v x (by simp)),qqD,qpB]
theorem Sm.frl:∀(l:List Sm) (sc:Scs) (n:Nat) (h:coP.H),(∀x,x∈l→(Pa.st x).valid nm=true)→yd (Sm.hsl coP sc n h l)=yd h++(Sm.occl (Sm.wl f sc n l)).filter nm
 | [],_,_,h,_=>by simp[Sm.hsl,Sm.wl,Sm.occl]
 | x::l,sc,n,h,v=>by
  rw[Sm.hsl,Sm.wl,Sm.occl,Sm.frl l sc _ _ fun y hy=>v y (by simp[hy]),Sm.fr x sc n h (v x (by simp)),qqD,qpB]
theorem Sm.fr1:∀(l:List Sm) (sc:Scs) (n:Nat) (h:coP.H),(∀x,x∈l→(Pa.st x).valid nm=true)→yd (Sm.hs1 coP sc n h l)=yd h++(Sm.occl (Sm.w1 f sc n l)).filter nm
 | [],_,_,h,_=>by simp[Sm.hs1,Sm.w1,Sm.occl]
 | x::l,sc,n,h,v=>by
  rw[Sm.hs1,Sm.w1,Sm.occl,Sm.fr1 l sc _ _ fun y hy=>v y (by simp[hy]),Sm.fr x _ _ _ (v x (by simp)),zo,qqD,qpB]
end
theorem Sm.free_occ(s:Sm)(v:(Pa.st s).valid nm=true):yd (s.wholeH coP coZ)=(s.whole f).occ.filter nm:=by
 have:=Sm.fr hf s [qd s.labels 0] (qd s.labels 0).length (enters coP coZ (qd s.labels 0)) v;refine this.trans ?_;show yd (enters coP coZ (qd s.labels 0))++_=_;rw[zo];rfl
end
section
variable {lk:Lk} {g:Nat→Bz} (hg:∀k,lk (g k)=none)
include hg
theorem qgL(sc:Scs)(t:Bz):sbn lk (zK g sc t)=match sc.at t with
 | some k=>g k
 | none=>sbn lk t:=by
 unfold zK
 cases sc.at t with
 | some k=>unfold sbn;simp only[hg]
 | none=>rfl
theorem Yd(sc:Scs)(t:Bz):qgD lk (zK g sc t)=qbd lk sc t:=by
 unfold zK qbd
 cases sc.at t with
 | some k=>unfold qgD;simp only[hg]
 | none=>rfl
theorem qf4(sc:Scs)(tg:Bool)(t:Bz):qlO lk tg (zK g sc t)=qe5 lk sc tg t:=by
 unfold zK qe5
 cases sc.at t with
 | some k=>unfold qlO;simp only[hg]
 | none=>rfl
def sbb(h:(sbP lk).H):Bool:=h
variable {nm:Bz→Bool}
omit hg in
theorem Q4(s:Sco):∀h:(sbP lk).H,enters (sbP lk) h s=h:=by
 induction s with
 | nil=>intro h;rfl
 | cons e s ih=>intro h;exact ih _
mutual
theorem Ex.sb_flag(sc:Scs)(tg:Bool):∀(x:Ex) (h:(sbP lk).H),sbb (Ex.hs (sbP lk) sc tg h x)=(sbb h || (x.w g sc).sbad lk tg)
 | .mk k o n m e t a,h=>by
  have h1:=Ex.sb_flagl sc false a h
  have h2:sbb (Ex.hs (sbP lk) sc tg h (.mk k o n m e t a))=if Ex.named k=true then sbb (Ex.hsl (sbP lk) sc false h a) || (if k=6 then qe5 lk sc tg t else qbd lk sc t) else sbb (Ex.hsl (sbP lk) sc false h a):=by
   rw[Ex.hs];unfold Pw.nmS;show sbb (if Ex.named k=true then _ else _)=_;split <;> rfl
  rw[h2,h1,Ex.w,Ex.sbad];by_cases h6:k=6
  ·have hn:Ex.named k=true:=by rw[h6];rfl
   rw[if_pos hn,if_pos h6,if_pos h6,if_pos hn,qf4 hg,qq0]
  ·rw[if_neg h6,if_neg h6];by_cases hn:Ex.named k=true
   ·rw[if_pos hn,if_pos hn,Yd hg,hn,qq8,qq0]
   ·rw[if_neg hn];have:Ex.named k=false:=by simpa using hn
    rw[this,Bool.false_and,qqT]
theorem Ex.sb_flagl(sc:Scs)(tg:Bool):∀(l:List Ex) (h:(sbP lk).H),sbb (Ex.hsl (sbP lk) sc tg h l)=(sbb h || Ex.sbadl lk tg (Ex.wl g sc l))
 | [],h=>by rw[Ex.hsl,Ex.wl,Ex.sbadl,qqT]
 | x::l,h=>by rw[Ex.hsl,Ex.sb_flagl sc tg l,Ex.sb_flag sc tg x,Ex.wl,Ex.sbadl,qq0]
end
theorem El.sb_flagl(sc:Scs):∀(l:List El) (h:(sbP lk).H),sbb (El.hsl (sbP lk) sc h l)=(sbb h || El.sbadl lk (l.map (El.w g sc)))
 | [],h=>by rw[qqw,El.sbadl,qqT];rfl
 | x::l,h=>by
  have h1:=El.sb_flagl sc l (Ex.hsl (sbP lk) sc false h x.exps);show sbb (El.hsl (sbP lk) sc (Ex.hsl (sbP lk) sc false h x.exps) l)=_;rw[h1,Ex.sb_flagl hg,qpv,El.sbadl,qq0];unfold El.w;rw[Ex.wl_map]
omit hg in
theorem qmx(sc:Scs)(k:Int)(h:(sbP lk).H)(t:Bz):sbb ((sbP lk).clS sc k h t)=(sbb h || (decide (k=6) && qbd lk sc t)):=by
 unfold Pw.clS;by_cases h6:k=6
 ·rw[if_pos h6,decide_eq_true h6,qq8];rfl
 ·rw[if_neg h6,decide_eq_false h6,Bool.false_and,qqT]
mutual
theorem Sm.sb_flag:∀(s:Sm) (sc:Scs) (n:Nat) (h:(sbP lk).H),(Pa.st s).valid nm=true→sbb (s.hs (sbP lk) sc n h)=(sbb h || (s.w g sc n).sbad lk)
 | .mk l k t gs e hh d b,sc,n,h,v=>by
  obtain ⟨v7,v8,v9⟩:=Sm.valid_block v;have vd:=Sm.valid_decls v;have vb:=Sm.valid_body v;simp only[Sm.decls,Sm.body] at vd vb;rw[Sm.hs,Sm.w];by_cases h7:k=7
  ·obtain ⟨rfl,rfl,rfl⟩:=v7 h7;have h6:¬ k=6:=by omega
   rw[if_pos h7,if_pos h7,Sm.sbad,Sm.sb_flagl b _ _ _ vb,De.sb_flagl d _ _ _ _ vd,Q4,Ex.hsl,decide_eq_false h6];simp[Ex.sbadl,El.sbadl,qq0]
  ·rw[if_neg h7,if_neg h7];by_cases h8:k=8
   ·obtain ⟨rfl,rfl,rfl,rfl⟩:=v8 h8;have h6:¬ k=6:=by omega
    rw[if_pos h8,if_pos h8,Sm.sbad,Sm.sb_flagl b _ _ _ vb,Q4,Ex.hsl,decide_eq_false h6];simp[Ex.sbadl,El.sbadl,De.sbadl]
   ·rw[if_neg h8,if_neg h8,Sm.sbad,qmx,Sm.sb_flag1 b _ _ _ vb,El.sb_flagl hg,Ex.sb_flagl hg,Ex.sb_flagl hg];by_cases h6:k=6
    ·rw[if_pos h6,decide_eq_true h6,Yd hg];simp[De.sbadl,qq0]
    ·rw[if_neg h6,decide_eq_false h6];simp[De.sbadl,qq0]
theorem De.sb_flag:∀(s:De) (own sc:Scs) (n:Nat) (h:(sbP lk).H),(Pa.de s).valid nm=true→sbb (s.hs (sbP lk) own sc n h)=(sbb h || (s.w g own sc n).sbad lk)
 | .mk k o t ns e fo b,own,sc,n,h,v=>by
  obtain ⟨v4,v5⟩:=De.valid_proc v;have vb:=De.valid_body v;simp only[De.body] at vb;rw[De.hs,De.w];by_cases h4:k=4
  ·obtain rfl:=v4 h4;rw[if_pos h4,if_pos h4,De.sbad,Sm.sb_flag1 b _ _ _ vb,Q4,Ex.hsl];simp[Ex.sbadl]
  ·rw[if_neg h4,if_neg h4,De.sbad,Ex.sb_flagl hg];simp[Sm.sbadl]
theorem De.sb_flagl:∀(l:List De) (own sc:Scs) (n:Nat) (h:(sbP lk).H),(∀x,x∈l→(Pa.de x).valid nm=true)→sbb (De.hsl (sbP lk) own sc n h l)=(sbb h || De.sbadl lk (De.wl g own sc n l))
 | [],_,_,_,h,_=>by rw[De.hsl,De.wl,De.sbadl,qqT]
 | x::l,own,sc,n,h,v=>by
  rw[De.hsl,De.sb_flagl l own sc _ _ fun y hy=>v y (by simp[hy]),De.sb_flag x own sc n h (v x (by simp)),De.wl,De.sbadl,qq0]
theorem Sm.sb_flagl:∀(l:List Sm) (sc:Scs) (n:Nat) (h:(sbP lk).H),(∀x,x∈l→(Pa.st x).valid nm=true)→sbb (Sm.hsl (sbP lk) sc n h l)=(sbb h || Sm.sbadl lk (Sm.wl g sc n l))
 | [],_,_,h,_=>by rw[Sm.hsl,Sm.wl,Sm.sbadl,qqT]
 | x::l,sc,n,h,v=>by
  rw[Sm.hsl,Sm.sb_flagl l sc _ _ fun y hy=>v y (by simp[hy]),Sm.sb_flag x sc n h (v x (by simp)),Sm.wl,Sm.sbadl,qq0]
theorem Sm.sb_flag1:∀(l:List Sm) (sc:Scs) (n:Nat) (h:(sbP lk).H),(∀x,x∈l→(Pa.st x).valid nm=true)→sbb (Sm.hs1 (sbP lk) sc n h l)=(sbb h || Sm.sbadl lk (Sm.w1 g sc n l))
 | [],_,_,h,_=>by rw[Sm.hs1,Sm.w1,Sm.sbadl,qqT]
 | x::l,sc,n,h,v=>by
  rw[Sm.hs1,Sm.sb_flag1 l sc _ _ fun y hy=>v y (by simp[hy]),Sm.sb_flag x _ _ _ (v x (by simp)),Q4,Sm.w1,Sm.sbadl,qq0]
end
omit hg in
theorem Ex.wl_id{sc:Scs}:∀(l:List Ex),(∀x,x∈l→x.w g sc=x)→Ex.wl g sc l=l
 | [],_=>rfl
 | x::l,h=>by rw[Ex.wl,h x (by simp),Ex.wl_id l fun y hy=>h y (by simp[hy])]
omit hg in
mutual
theorem Ex.w_free{sc:Scs}:∀x:Ex,(∀u,u∈x.occ→sc.at u=none)→x.w g sc=x
 | .mk k o n m e t a,h=>by
  rw[Ex.occ] at h;rw[Ex.w,Ex.wl_free a fun u hu=>h u (qpx _ hu)];by_cases hn:Ex.named k=true
  ·rw[if_pos hn] at h ⊢;have:=h t (by simp);unfold zK;rw[this]
  ·rw[if_neg hn]
theorem Ex.wl_free{sc:Scs}:∀l:List Ex,(∀u,u∈Ex.occl l→sc.at u=none)→Ex.wl g sc l=l
 | [],_=>rfl
 | x::l,h=>by
  rw[Ex.occl] at h;rw[Ex.wl,Ex.w_free x fun u hu=>h u (qpx _ hu),Ex.wl_free l fun u hu=>h u (qpA _ hu)]
end
def Cl(lk:Lk)(e:Oc):Prop:=e.2.at e.1=none→∀y,lk e.1=some y→∀u,u∈y.occ→e.2.at u=none
theorem qlZ{sc:Scs}{t:Bz}(hb:qbd lk sc t=false)(hc:Cl lk (t,sc)):zK g sc (sbT lk sc t)=sbn lk (zK g sc t):=by
 rw[qgL hg];unfold sbT qbd at *
 cases hs:sc.at t with
 | some k=>simp only[hs];unfold zK;rw[hs]
 | none=>
  rw[hs] at hb;simp only;unfold qgD at hb;unfold sbn
  cases hy:lk t with
  | none=>simp only;unfold zK;rw[hs]
  | some y=>
   rw[hy] at hb;simp only[decide_not,Bool.not_eq_false',decide_eq_true_eq] at hb
   have hu:y.text∈y.occ:=by
    cases y;simp only[Ex.kind] at hb;subst hb;rw[Ex.occ,if_pos (by rfl)];simp[Ex.text]
   have:=hc hs y hy y.text hu;simp only at this;show zK g sc y.text=y.text;unfold zK;rw[this]
mutual
theorem Ex.sb_w(sc:Scs)(tg:Bool):∀(x:Ex),(x.w g sc).sbad lk tg=false→(∀e,e∈x.ev sc→Cl lk e)→(x.wr (sbP lk) sc tg).w g sc=(x.w g sc).sb lk
 | .mk k o n m e t a,hb,he=>by
  rw[Ex.w,Ex.sbad,qpK] at hb;rw[Ex.ev] at he;have h1:=Ex.sb_wl sc false a hb.1 fun x hx=>he x (qpx _ hx)
  have hb:=hb.2
  have h2:Ex.wr (sbP lk) sc tg (.mk k o n m e t a)=if Ex.named k=true then (if k=6 then sbX lk sc (.mk k o n m e t (Ex.wrl (sbP lk) sc false a)) else .mk k o n m e (sbT lk sc t) (Ex.wrl (sbP lk) sc false a)) else .mk k o n m e t (Ex.wrl (sbP lk) sc false a):=by
   rw[Ex.wr];rfl
  rw[h2,Ex.w];by_cases h6:k=6
  ·have hn:Ex.named k=true:=by rw[h6];rfl
   rw[if_pos hn] at he;have hc:=he (t,sc) (by simp);rw[if_pos hn,if_pos h6,if_pos hn,Ex.sb,if_pos h6];unfold sbX;simp only[Ex.text]
   cases hs:sc.at t with
   | some j=>
    have hr:zK g sc t=g j:=by unfold zK;rw[hs]
    simp only;rw[Ex.w,if_pos hn,hr,hg,h1]
   | none=>
    have hr:zK g sc t=t:=by unfold zK;rw[hs]
    rw[hr]
    cases hy:lk t with
    | none=>
     simp only[Option.getD_none];rw[Ex.w,if_pos hn,hr,h1]
    | some y=>
     simp only[qrf];exact Ex.w_free y (hc hs y hy)
  ·rw[if_neg h6] at hb;rw[Ex.sb,if_neg h6];by_cases hn:Ex.named k=true
   ·rw[if_pos hn] at he hb;rw[hn,qq8,Yd hg] at hb;rw[if_pos hn,if_neg h6,if_pos hn,if_pos hn,Ex.w,if_pos hn,h1,qlZ hg hb (he (t,sc) (by simp))]
   ·rw[if_neg hn,if_neg hn,if_neg hn,Ex.w,if_neg hn,h1,if_neg h6]
theorem Ex.sb_wl(sc:Scs)(tg:Bool):∀(l:List Ex),Ex.sbadl lk tg (Ex.wl g sc l)=false→(∀e,e∈Ex.evl sc l→Cl lk e)→Ex.wl g sc (Ex.wrl (sbP lk) sc tg l)=Ex.sbl lk (Ex.wl g sc l)
 | [],_,_=>rfl
 | x::l,hb,he=>by
  rw[Ex.wl,Ex.sbadl,qpK] at hb;rw[Ex.evl] at he;rw[Ex.wrl,Ex.wl,Ex.wl,Ex.sbl,Ex.sb_w sc tg x hb.1 fun e h=>he e (qpx _ h),Ex.sb_wl sc tg l hb.2 fun e h=>he e (qpA _ h)]
end
theorem El.sb_wl(sc:Scs):∀(l:List El),El.sbadl lk (l.map (El.w g sc))=false→(∀e,e∈El.evl sc l→Cl lk e)→(l.map (El.wr (sbP lk) sc)).map (El.w g sc)=(l.map (El.w g sc)).map (El.sb lk)
 | [],_,_=>rfl
 | x::l,hb,he=>by
  rw[qpv,El.sbadl,qpK] at hb;rw[El.evl] at he;have hx:(El.w g sc x).exps=Ex.wl g sc x.exps:=by unfold El.w;rw[Ex.wl_map]
  rw[hx] at hb;have h1:=Ex.sb_wl hg sc false x.exps hb.1 fun e h=>he e (qpx _ h)
  rw[qpv,qpv,qpv,qpv,El.sb_wl sc l hb.2 fun e h=>he e (qpA _ h)];congr 1;unfold El.wr El.w El.sb;simp only;rw[←Ex.wl_map,h1,Ex.wl_map]
omit hg in
theorem qb6:∀(k:Nat) (x:Bz),(sbP lk).f k x=x:=fun _ _=>rfl
omit hg in
theorem qmb(sc:Scs)(k:Int)(t:Bz):(sbP lk).clE sc k t=if k=6 then sbT lk sc t else t:=rfl
mutual
theorem Sm.sb_w:∀(s:Sm) (sc:Scs) (n:Nat),(Pa.st s).valid nm=true→(s.w g sc n).sbad lk=false→(∀e,e∈s.ev sc n→Cl lk e)→(s.wr (sbP lk) sc n).w g sc n=(s.w g sc n).sb lk
 | .mk l k t gs e hh d b,sc,n,v,hb,he=>by
  obtain ⟨v7,v8,v9⟩:=Sm.valid_block v;have vd:=Sm.valid_decls v;have vb:=Sm.valid_body v;simp only[Sm.decls,Sm.body] at vd vb;rw[Sm.w] at hb;rw[Sm.ev] at he;by_cases h7:k=7
  ·obtain ⟨rfl,rfl,rfl⟩:=v7 h7;have h6:¬ k=6:=by omega
   rw[if_pos h7,Sm.sbad] at hb;rw[if_pos h7] at he;simp only[qpK] at hb;simp only[Sm.wr,Sm.w,if_pos h7];rw[Qn qb6,Z8 qb6,De.nbl_wr qb6 d _ _ _ vd,De.sb_wl d _ _ _ vd hb.1.1.2 fun e h=>he e (qpx _ h),Sm.sb_wl b _ _ vb hb.1.2 fun e h=>he e (qpA _ h),Sm.sb,if_neg h6];rfl
  ·by_cases h8:k=8
   ·obtain ⟨rfl,rfl,rfl,rfl⟩:=v8 h8;have h6:¬ k=6:=by omega
    rw[if_neg h7,if_pos h8,Sm.sbad] at hb;rw[if_neg h7,if_pos h8] at he;simp only[qpK] at hb;simp only[Sm.wr,Sm.w,if_neg h7,if_pos h8];rw[Qn qb6,Sm.wrl_labels qb6,Sm.sb_wl b _ _ vb hb.1.2 he,Sm.sb,if_neg h6];rfl
   ·obtain rfl:=v9 h7 h8;rw[if_neg h7,if_neg h8,Sm.sbad] at hb;rw[if_neg h7,if_neg h8] at he;simp only[qpK] at hb;obtain ⟨⟨⟨⟨⟨b1,b2⟩,b3⟩,_⟩,b5⟩,b6⟩:=hb;simp only[Sm.wr,Sm.w,if_neg h7,if_neg h8];rw[Qn qb6,Ex.sb_wl hg sc true gs b1 fun x hx=>he x (by simp[hx]),Ex.sb_wl hg sc false e b2 fun x hx=>he x (by simp[hx]),El.sb_wl hg sc hh b3 fun x hx=>he x (by simp[hx]),Sm.sb_w1 b sc n vb b5 fun x hx=>he x (by simp[hx]),Sm.sb];rw[qmb];by_cases h6:k=6
    ·rw[if_pos h6] at he;rw[if_pos h6,decide_eq_true h6,qq8,Yd hg] at b6;rw[if_pos h6,if_pos h6,if_pos h6,if_pos h6,qlZ hg b6 (he (t,sc) (by simp))];rfl
    ·simp only[if_neg h6];rfl
theorem De.sb_w:∀(s:De) (own sc:Scs) (n:Nat),(Pa.de s).valid nm=true→(s.w g own sc n).sbad lk=false→(∀e,e∈s.ev own sc n→Cl lk e)→(s.wr (sbP lk) own sc n).w g own sc n=(s.w g own sc n).sb lk
 | .mk k o t ns e fo b,own,sc,n,v,hb,he=>by
  obtain ⟨v4,v5⟩:=De.valid_proc v;have vb:=De.valid_body v;simp only[De.body] at vb;rw[De.w] at hb;rw[De.ev] at he;by_cases h4:k=4
  ·obtain rfl:=v4 h4;rw[if_pos h4,De.sbad,qpK] at hb;rw[if_pos h4] at he;simp only[De.wr,De.w,if_pos h4];rw[Qn qb6,Fo.wr_id qb6,Sm.sb_w1 b _ _ vb hb.2 he,De.sb];rfl
  ·obtain ⟨rfl,rfl⟩:=v5 h4;rw[if_neg h4,De.sbad,qpK] at hb;rw[if_neg h4] at he;simp only[De.wr,De.w,if_neg h4];rw[Qn qb6,Ex.sb_wl hg _ false e hb.1 he,De.sb];rfl
theorem De.sb_wl:∀(l:List De) (own sc:Scs) (n:Nat),(∀x,x∈l→(Pa.de x).valid nm=true)→De.sbadl lk (De.wl g own sc n l)=false→(∀e,e∈De.evl own sc n l→Cl lk e)→De.wl g own sc n (De.wrl (sbP lk) own sc n l)=De.sbl lk (De.wl g own sc n l)
 | [],_,_,_,_,_,_=>rfl
 | x::l,own,sc,n,v,hb,he=>by
  rw[De.wl,De.sbadl,qpK] at hb;rw[De.evl] at he;rw[De.wrl,De.wl,De.wl,De.sbl,De.nb_wr qb6 x own sc n (v x (by simp)),De.sb_w x own sc n (v x (by simp)) hb.1 fun e h=>he e (qpx _ h),De.sb_wl l own sc _ (fun y hy=>v y (by simp[hy])) hb.2 fun e h=>he e (qpA _ h)]
theorem Sm.sb_wl:∀(l:List Sm) (sc:Scs) (n:Nat),(∀x,x∈l→(Pa.st x).valid nm=true)→Sm.sbadl lk (Sm.wl g sc n l)=false→(∀e,e∈Sm.evl sc n l→Cl lk e)→Sm.wl g sc n (Sm.wrl (sbP lk) sc n l)=Sm.sbl lk (Sm.wl g sc n l)
 | [],_,_,_,_,_=>rfl
 | x::l,sc,n,v,hb,he=>by
  rw[Sm.wl,Sm.sbadl,qpK] at hb;rw[Sm.evl] at he;rw[Sm.wrl,Sm.wl,Sm.wl,Sm.sbl,Sm.nb_wr qb6 x sc n (v x (by simp)),Sm.sb_w x sc n (v x (by simp)) hb.1 fun e h=>he e (qpx _ h),Sm.sb_wl l sc _ (fun y hy=>v y (by simp[hy])) hb.2 fun e h=>he e (qpA _ h)]
theorem Sm.sb_w1:∀(l:List Sm) (sc:Scs) (n:Nat),(∀x,x∈l→(Pa.st x).valid nm=true)→Sm.sbadl lk (Sm.w1 g sc n l)=false→(∀e,e∈Sm.ev1 sc n l→Cl lk e)→Sm.w1 g sc n (Sm.wr1 (sbP lk) sc n l)=Sm.sbl lk (Sm.w1 g sc n l)
 | [],_,_,_,_,_=>rfl
 | x::l,sc,n,v,hb,he=>by
  rw[Sm.w1,Sm.sbadl,qpK] at hb;rw[Sm.ev1] at he;rw[Sm.wr1,Sm.w1,Sm.w1,Sm.sbl,Sm.wr_labels qb6,Sm.nb_wr qb6 x _ _ (v x (by simp)),Sm.sb_w x _ _ (v x (by simp)) hb.1 fun e h=>he e (qpx _ h),Sm.sb_w1 l sc _ (fun y hy=>v y (by simp[hy])) hb.2 fun e h=>he e (qpA _ h)]
end
end
end Go.Proofs.YtbifpocccfkhhaaGreatDoor
end
